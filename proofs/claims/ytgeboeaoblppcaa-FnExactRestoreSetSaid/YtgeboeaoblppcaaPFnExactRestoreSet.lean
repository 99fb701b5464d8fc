/- Plain lemmas on the typed functions of the program, and the plain law of FnExactRestoreSet; no conditions. -/
import Derived.Test.YtgeboeaoblppcaaV1
import Derived.Test.YtgeboeaoblppcaaV5
import Derived.KernelRfl
set_option linter.all false
namespace Go.Va
theorem Db (x:Int):w64 x=(x+9223372036854775808)%18446744073709551616-9223372036854775808:=by
 simp[w64,IntKind.wrap,IntKind.bits,IntKind.signed]
 split<;>omega
theorem AA {x:Int} (h1: -9223372036854775808<=x) (h2:x<=9223372036854775807):w64 x=x:=by
 rw[Db];omega
theorem Ab {k:Nat} (h:k<4611686018427387904):w64 ((k:Int)+1)=((k+1:Nat):Int):=by
 rw[AA (by omega) (by omega)];rfl
theorem Ac {α:Type} {k:Nat} {xs:List α}:inb (k:Int) xs↔k<xs.length:=by
 unfold inb;omega
theorem Ak {α:Type} {k:Nat} {xs:List α} {d:α} (h:k<xs.length):gd xs (k:Int) d=xs[k]:=by
 unfold gd;simp[h]
theorem Cy {α:Type} {k:Nat} {xs:List α} {x:α}:stt xs (k:Int) x=xs.set k x:=by
 unfold stt;simp
def DM {α σ β:Type} (step:σ->α->Option (σ⊕β)) (fin:σ->Option β):List α->σ->Option β
 | [],s=>fin s
 |a::l,s=>match step s a with|some (.inl s')=>DM step fin l s'|some (.inr r)=>some r|none=>none
theorem FY {α σ β:Type} (xs:List α) (L:Nat->σ->Int->Option β) (step:σ->α->Option (σ⊕β)) (fin:σ->Option β)
  (hs: ∀n s (k:Nat) (hk:k<xs.length),L (n+1) s k=match step s xs[k]with|some (.inl s')=>L n s' ((k+1:Nat):Int)|some (.inr r)=>some r|none=>none)
  (he: ∀n s,L (n+1) s (xs.length:Nat)=fin s): ∀(n k:Nat) (s:σ),k<=xs.length->xs.length-k<n->L n s k=DM step fin (xs.drop k) s:=by
 intro n
 induction n with
 |zero=>intro k s _ h;omega
 |succ n ih=>
  intro k s hk hn
  rcases Nat.lt_or_ge k xs.length with hlt|hge
  ·rw[hs n s k hlt,List.drop_eq_getElem_cons hlt]
   simp only[DM]
   cases step s xs[k]with
   |none=>rfl
   |some q=>
    cases q with
    |inl s'=>exact ih (k+1) s' hlt (by omega)
    |inr r=>rfl
  ·have:k=xs.length:=by omega
   subst this
   rw[he,List.drop_length];rfl
theorem EO {α σ β:Type} (xs:List α) (L:Nat->σ->Int->Option β) (step:σ->α->Option (σ⊕β)) (fin:σ->Option β)
  (hs: ∀n s (k:Nat) (hk:k<xs.length),L (n+1) s k=match step s xs[k]with|some (.inl s')=>L n s' ((k+1:Nat):Int)|some (.inr r)=>some r|none=>none)
  (he: ∀n s,L (n+1) s (xs.length:Nat)=fin s) {n:Nat} (hn:xs.length<n) (s:σ):L n s 0=DM step fin xs s:=by
 have:=FY xs L step fin hs he n 0 s (Nat.zero_le _) (by omega)
 simpa using this
theorem D0 {α β:Type} {p:α->Bool} {step:Unit->α->Option (Unit⊕β)} {fin:Unit->Option β} {r:β}: ∀ {l:List α},(∀a∈l,step () a=if p a then some (.inl ())else some (.inr r))->DM step fin l ()=if l.all p then fin ()else some r
 | [],_=>rfl
 |a::l,h=>by
  simp only[DM]
  rw[h a (by simp)]
  cases hp:p a with
  |true=>simp only[if_true,List.all_cons,hp,Bool.true_and];exact D0 λb hb=>h b (List.mem_cons_of_mem _ hb)
  |false=>simp[List.all_cons,hp]
theorem FV {α β γ:Type} (xs:List α) (L:Nat->List β->Int->Option γ) (g:α->β) (fin:List β->Option γ)
  (hs: ∀n (out:List β) (k:Nat) (hk:k<xs.length),out.length=xs.length->L (n+1) out k=L n (out.set k (g xs[k])) ((k+1:Nat):Int))
  (he: ∀n out,out.length=xs.length->L (n+1) out (xs.length:Nat)=fin out): ∀(n k:Nat) (out:List β),out.length=xs.length->k<=xs.length->xs.length-k<n->L n out k=fin (out.take k++(xs.drop k).map g):=by
 intro n
 induction n with
 |zero=>intro k out _ _ h;omega
 |succ n ih=>
  intro k out hl hk hn
  rcases Nat.lt_or_ge k xs.length with hlt|hge
  ·have:(out.set k (g xs[k])).take (k+1)=out.take k++ [g xs[k]]:=by
    rw[List.take_succ_eq_append_getElem (by simp;omega),List.take_set_of_le (Nat.le_refl _),List.getElem_set_self]
   rw[hs n out k hlt hl,ih (k+1) _ (by simpa using hl) hlt (by omega),List.drop_eq_getElem_cons hlt,this,List.map_cons,List.append_assoc,List.singleton_append]
  ·have:k=xs.length:=by omega
   subst this
   rw[he _ _ hl,List.drop_length,List.take_of_length_le (by omega)];simp
theorem EE {α β γ:Type} (xs:List α) (L:Nat->List β->Int->Option γ) (g:α->β) (fin:List β->Option γ)
  (hs: ∀n (out:List β) (k:Nat) (hk:k<xs.length),out.length=xs.length->L (n+1) out k=L n (out.set k (g xs[k])) ((k+1:Nat):Int))
  (he: ∀n out,out.length=xs.length->L (n+1) out (xs.length:Nat)=fin out) {n:Nat} {out:List β} (hl:out.length=xs.length) (hn:xs.length<n):L n out 0=fin (xs.map g):=by
 have:=FV xs L g fin hs he n 0 out hl (Nat.zero_le _) (by omega)
 simpa using this
theorem eqX {α:Type} [DecidableEq α] (a b:List α) (hl:a.length=b.length) (L:Nat->Int->Option (Unit⊕Bool))
  (hs: ∀n (k:Nat) (h1:k<a.length) (h2:k<b.length),L (n+1) k=if a[k]=b[k]then L n ((k+1:Nat):Int)else some (.inr false)) (he: ∀n,L (n+1) (a.length:Nat)=some (.inl ())) {n:Nat} (hn:a.length<n):
  L n 0=some (if a=b then .inl ()else .inr false):=by
 have key: ∀(n k:Nat),k<=a.length->a.length-k<n->L n k=some (if a.drop k=b.drop k then .inl ()else .inr false):=by
  intro n
  induction n with
  |zero=>intro k _ h;omega
  |succ n ih=>
   intro k hk hn
   rcases Nat.lt_or_ge k a.length with hlt|hge
   ·have h2:k<b.length:=by omega
    have e:(a.drop k=b.drop k)↔(a[k]=b[k]/\a.drop (k+1)=b.drop (k+1)):=by
     rw[List.drop_eq_getElem_cons hlt,List.drop_eq_getElem_cons h2];exact List.cons_eq_cons
    rw[hs n k hlt h2]
    by_cases h:a[k]=b[k]
    ·rw[if_pos h,ih (k+1) hlt (by omega)]
     by_cases h3:a.drop (k+1)=b.drop (k+1)
     ·rw[if_pos h3,if_pos (e.2 ⟨h,h3⟩)]
     ·rw[if_neg h3,if_neg λh'=>h3 (e.1 h').2]
    ·rw[if_neg h,if_neg λh'=>h (e.1 h').1]
   ·have:k=a.length:=by omega
    subst this
    rw[he,List.drop_length,hl,List.drop_length];rfl
 have:=key n 0 (Nat.zero_le _) (by omega)
 simpa using this
theorem E4 {α β:Type} (xs:List α) (L:Nat->Int->Option β) (p:α->Bool) (r e:β)
  (hs: ∀n (k:Nat) (hk:k<xs.length),L (n+1) k=if p xs[k]then L n ((k+1:Nat):Int)else some r) (he: ∀n,L (n+1) (xs.length:Nat)=some e) {n:Nat} (hn:xs.length<n):
  L n 0=some (if xs.all p then e else r):=by
 have:=EO xs (λn (_:Unit) i=>L n i) (λ_ a=>if p a then some (.inl ())else some (.inr r)) (λ_=>some e) (λn s k hk=>by rw[hs n k hk];cases p xs[k]<;>simp) (λn s=>he n) hn ()
 rw[this,D0 (p:=p) (r:=r) λa _=>by cases p a<;>simp]
 cases xs.all p<;>simp
theorem Du {σ β:Type} (N:Nat) (L:Nat->σ->Int->Option β) (S:Nat->σ) {r:Option β}
  (hs: ∀n (k:Nat),k<N->L (n+1) (S k) k=L n (S (k+1)) ((k+1:Nat):Int)) (he: ∀n,L (n+1) (S N) (N:Nat)=r) {n:Nat} (hn:N<n):L n (S 0) 0=r:=by
 have key: ∀(n k:Nat),k<=N->N-k<n->L n (S k) k=r:=by
  intro n
  induction n with
  |zero=>intro k _ h;omega
  |succ n ih=>
   intro k hk hn
   rcases Nat.lt_or_ge k N with hlt|hge
   ·rw[hs n k hlt];exact ih (k+1) hlt (by omega)
   ·have:k=N:=by omega
    subst this;exact he n
 exact key n 0 (Nat.zero_le _) (by omega)
theorem Ge {σ β:Type} (N:Nat) (L:Nat->σ->Int->Option β) (S:Nat->σ) (p:Nat->Bool) {r e:Option β}
  (hs: ∀n (k:Nat),k<N->L (n+1) (S k) k=if p k then L n (S (k+1)) ((k+1:Nat):Int)else r) (he: ∀n,L (n+1) (S N) (N:Nat)=e) {n:Nat} (hn:N<n):
  L n (S 0) 0=if(List.range N).all p then e else r:=by
 have key: ∀(n k:Nat),k<=N->N-k<n->L n (S k) k=if(List.range' k (N-k)).all p then e else r:=by
  intro n
  induction n with
  |zero=>intro k _ h;omega
  |succ n ih=>
   intro k hk hn
   rcases Nat.lt_or_ge k N with hlt|hge
   ·rw[hs n k hlt,show N-k=(N-(k+1))+1 by omega,List.range'_succ,List.all_cons]
    cases hp:p k with
    |false=>simp
    |true=>simp only[if_true,Bool.true_and];exact ih (k+1) hlt (by omega)
   ·have:k=N:=by omega
    subst this;rw[he];simp
 have:=key n 0 (Nat.zero_le _) (by omega)
 rw[List.range_eq_range']
 simpa using this
theorem Gf {σ β:Type} (N:Nat) (L:Nat->σ->Int->Option β) (S:Nat->σ) (q:Nat->Option (Option β)) {e:Option β}
  (hs: ∀n (k:Nat),k<N->(∀j,j<k->q j=none)->L (n+1) (S k) k=match q k with|none=>L n (S (k+1)) ((k+1:Nat):Int)|some r=>r) (he: ∀n,L (n+1) (S N) (N:Nat)=e) {n:Nat} (hn:N<n):
  L n (S 0) 0=((List.range N).findSome? q).getD e:=by
 have key: ∀(n k:Nat),k<=N->N-k<n->(∀j,j<k->q j=none)->L n (S k) k=((List.range' k (N-k)).findSome? q).getD e:=by
  intro n
  induction n with
  |zero=>intro k _ h;omega
  |succ n ih=>
   intro k hk hn hq
   rcases Nat.lt_or_ge k N with hlt|hge
   ·rw[hs n k hlt hq,show N-k=(N-(k+1))+1 by omega,List.range'_succ,List.findSome?_cons]
    cases hp:q k with
    |some r=>simp
    |none=>
     refine ih (k+1) hlt (by omega) λj hj=>?_
     rcases Nat.lt_or_ge j k with h|h
     ·exact hq j h
     ·have:j=k:=by omega
      rw[this];exact hp
   ·have:k=N:=by omega
    subst this;rw[he];simp
 have:=key n 0 (Nat.zero_le _) (by omega) (λj h=>by omega)
 rw[List.range_eq_range']
 simpa using this
def szR (t:Nat) (left:Int):Int:=if(t:Int)<=left then left-t else-1
end Go.Va
set_option linter.unusedVariables false
open Go Go.Va
namespace T
def Aa:Nat:=1099511627776
def AW (a:List Int) (left:Int):Option (Int):=
 if decide ((w64 (left-(a.length:Int)))<0)then
 some (-1)
 else
 some (w64 (left-(a.length:Int)))
def AN:Nat->((List (List Int))×Int×Int)->Option ((Int)⊕(Int))
 |0,_=>none
 |n+1,(a,left,i)=>
 if decide (i<(a.length:Int))then
 if inb i a then
 (AW (gd a i []) left).bind λr1=>
 if decide (r1<0)then
 some (.inr (-1))
 else
 AN n (a,r1,w64 (i+1))
 else none
 else
 some (.inl left)
def Cd (a:List (List Int)) (left:Int):Option (Int):=
 if decide ((w64 (left-(a.length:Int)))<0)then
  some (-1)
 else
  (AN Aa (a,w64 (left-(a.length:Int)),0)).bind λs1=>
   match s1 with
   | .inl s2=>
    some s2
   | .inr s3=>
    some s3
def AX:Nat->((List Int)×(List Int)×Int)->Option ((List Int))
 |0,_=>none
 |n+1,(a,out,i)=>
 if decide (i<(a.length:Int))then
 if inb i a then
 if inb i out then
 AX n (a,stt out i (gd a i 0),w64 (i+1))
 else none
 else none
 else
 some out
def B2 (a:List Int):Option ((List Int)):=
 if 0<=(a.length:Int)/\(a.length:Int)<=(a.length:Int)/\(a.length:Int)<=lim then
 (AX Aa (a,List.replicate (Int.toNat (a.length:Int)) (0:Int),0)).bind λs1=>
 some s1
 else none
def AO:Nat->((List (List Int))×(List (List Int))×Int)->Option ((List (List Int)))
 |0,_=>none
 |n+1,(a,out,i)=>
 if decide (i<(a.length:Int))then
 if inb i a then
 (B2 (gd a i [])).bind λr1=>
 if inb i out then
 AO n (a,stt out i r1,w64 (i+1))
 else none
 else none
 else
 some out
def Bb (a:List (List Int)):Option ((List (List Int))):=
 if 0<=(a.length:Int)/\(a.length:Int)<=(a.length:Int)/\(a.length:Int)<=lim then
 (AO Aa (a,List.replicate (Int.toNat (a.length:Int)) ([]:List Int),0)).bind λs1=>
 some s1
 else none
def Bx (x:Int) (a:Int) (b:Int):Option (Bool):=
 if decide (x≥a)then
 some (decide (x<=b))
 else
 some false
def Ay:Nat->(Int×(List Int)×Int)->Option ((Unit)⊕(Bool))
 |0,_=>none
 |n+1,(n_,list,i)=>
 if decide (i<(list.length:Int))then
 if inb i list then
 (Bx (gd list i 0) 0 (w64 (n_-1))).bind λr1=>
 if !r1 then
 some (.inr false)
 else
 Ay n (n_,list,w64 (i+1))
 else none
 else
 some (.inl ())
def BI (n_:Int) (list:List Int):Option (Bool):=
 (Ay Aa (n_,list,0)).bind λs1=>
  match s1 with
  | .inl s2=>
   some true
  | .inr s3=>
   some s3
def Ch (n_:Int) (k:Int) (t:List Int):Option (Bool):=
 if(t.length:Int)==k then
 (BI n_ t).bind λr1=>
 some r1
 else
 some false
def AT:Nat->(Int×(List Int)×Int×Int)->Option ((Unit)⊕(Bool))
 |0,_=>none
 |n+1,(n_,t7,t8,t9)=>
 if decide (t9<t8)then
 if inb t9 t7 then
 if decide ((gd t7 t9 0)<0)then
 some (.inr false)
 else
 if decide ((gd t7 t9 0)≥n_)then
 some (.inr false)
 else
 AT n (n_,t7,t8,w64 (t9+1))
 else none
 else
 some (.inl ())
def BC (list:List Int) (n_:Int):Option (Bool):=
 (AT Aa (n_,list,(list.length:Int),0)).bind λs1=>
  match s1 with
  | .inl s2=>
   some true
  | .inr s3=>
   some s3
def AU:Nat->((List Int)×(List Int)×Int)->Option ((Unit)⊕(Bool))
 |0,_=>none
 |n+1,(a,b,i)=>
 if decide (i<(a.length:Int))then
 if inb i a then
 if inb i b then
 if(gd a i 0) !=(gd b i 0)then
 some (.inr false)
 else
 AU n (a,b,w64 (i+1))
 else none
 else none
 else
 some (.inl ())
def B0 (a:List Int) (b:List Int):Option (Bool):=
 if(a.length:Int) !=(b.length:Int)then
  some false
 else
  (AU Aa (a,b,0)).bind λs1=>
   match s1 with
   | .inl s2=>
    some true
   | .inr s3=>
    some s3
def AM:Nat->((List (List Int))×(List (List Int))×Int)->Option ((Unit)⊕(Bool))
 |0,_=>none
 |n+1,(a,b,i)=>
 if decide (i<(a.length:Int))then
 if inb i a then
 if inb i b then
 (B0 (gd a i []) (gd b i [])).bind λr1=>
 if !r1 then
 some (.inr false)
 else
 AM n (a,b,w64 (i+1))
 else none
 else none
 else
 some (.inl ())
def Ba (a:List (List Int)) (b:List (List Int)):Option (Bool):=
 if(a.length:Int) !=(b.length:Int)then
  some false
 else
  (AM Aa (a,b,0)).bind λs1=>
   match s1 with
   | .inl s2=>
    some true
   | .inr s3=>
    some s3
def Cs (n_:Int):Option (Bool):=
 (Bx n_ 1 8).bind λr1=>
 some r1
def BB:Nat->(Int×Int×Int)->Option (Int)
 |0,_=>none
 |n+1,(n_,k,out)=>
 if decide (k>0)then
 BB n (n_,w64 (k-1),w64 (out*n_))
 else
 some out
def BV (n_:Int) (k:Int):Option (Int):=
 (BB Aa (n_,k,1)).bind λs1=>
 some s1
def AZ:Nat->((List Int)×(List Int)×Int)->Option ((Unit)⊕(Bool))
 |0,_=>none
 |n+1,(a,b,i)=>
 if decide (i<(a.length:Int))then
 if inb i a then
 if inb i b then
 if(gd a i 0) !=(gd b i 0)then
 if inb i a then
 if inb i b then
 some (.inr (decide ((gd a i 0)<(gd b i 0))))
 else none
 else none
 else
 AZ n (a,b,w64 (i+1))
 else none
 else none
 else
 some (.inl ())
def Cq (a:List Int) (b:List Int):Option (Bool):=
 (AZ Aa (a,b,0)).bind λs1=>
  match s1 with
  | .inl s2=>
   some false
  | .inr s3=>
   some s3
def AK:Nat->(Int×Int×(List (List Int))×Int)->Option ((Unit)⊕(Bool))
 |0,_=>none
 |n+1,(n_,k,tuples,i)=>
 if decide (i<(tuples.length:Int))then
 if inb i tuples then
 (Ch n_ k (gd tuples i [])).bind λr4=>
 if !r4 then
 some (.inr false)
 else
 if decide (i>0)then
 if inb (w64 (i-1)) tuples then
 if inb i tuples then
 (Cq (gd tuples (w64 (i-1)) []) (gd tuples i [])).bind λr5=>
 if !r5 then
 some (.inr false)
 else
 AK n (n_,k,tuples,w64 (i+1))
 else none
 else none
 else
 AK n (n_,k,tuples,w64 (i+1))
 else none
 else
 some (.inl ())
def Cp (n_:Int) (k:Int) (tuples:List (List Int)):Option (Bool):=
 (Cs n_).bind λr1=>
  if !r1 then
   some false
  else
   (Bx k 1 4).bind λr2=>
    if !r2 then
     some false
    else
     (BV n_ k).bind λr3=>
      if decide ((tuples.length:Int)>r3)then
       some false
      else
       (AK Aa (n_,k,tuples,0)).bind λs4=>
        match s4 with
        | .inl s5=>
         some true
        | .inr s6=>
         some s6
def AY:Nat->((List Int)×(List Int)×Int)->Option ((Unit)⊕(Bool))
 |0,_=>none
 |n+1,(a,b,i)=>
 if decide (i<(a.length:Int))then
 if inb i a then
 if inb i b then
 if(gd a i 0) !=(gd b i 0)then
 some (.inr false)
 else
 AY n (a,b,w64 (i+1))
 else none
 else none
 else
 some (.inl ())
def Co (a:List Int) (b:List Int):Option (Bool):=
 if(a.length:Int) !=(b.length:Int)then
  some false
 else
  (AY Aa (a,b,0)).bind λs1=>
   match s1 with
   | .inl s2=>
    some true
   | .inr s3=>
    some s3
def AL:Nat->((List (List Int))×(List Int)×Int×Int)->Option ((List (List Int))×(List Int)×Int)
 |0,_=>none
 |n+1,(list,t,from_,to)=>
 if decide (from_<to)then
 if(2:Int)≠0 then
 if inb (w64 (Int.tdiv (w64 (from_+to)) 2)) list then
 (Cq (gd list (w64 (Int.tdiv (w64 (from_+to)) 2)) []) t).bind λr1=>
 if r1 then
 AL n (list,t,w64 ((w64 (Int.tdiv (w64 (from_+to)) 2))+1),to)
 else
 AL n (list,t,from_,w64 (Int.tdiv (w64 (from_+to)) 2))
 else none
 else none
 else
 some (list,t,from_)
def A7 (list:List (List Int)) (t:List Int):Option (Int×Bool):=
 (AL Aa (list,t,0,(list.length:Int))).bind λs1=>
 if decide (s1.2.2<(s1.1.length:Int))then
 if inb s1.2.2 s1.1 then
 (Co (gd s1.1 s1.2.2 []) s1.2.1).bind λr2=>
 some (s1.2.2,r2)
 else none
 else
 some (s1.2.2,false)
def Cm (n_:Int):Option (Bool):=
 if decide (n_≥1)then
 some (decide (n_<=8))
 else
 some false
def Al:Nat->((List Int)×(List Int)×Int)->Option (((List Int)×(List Int))⊕(Int))
 |0,_=>none
 |n+1,(s,t,i)=>
 if decide (i<(s.length:Int))then
 if decide (i<(t.length:Int))then
 if inb i s then
 if inb i t then
 if(gd s i 0) !=(gd t i 0)then
 if inb i s then
 if inb i t then
 if decide ((gd s i 0)<(gd t i 0))then
 some (.inr (-1))
 else
 some (.inr 1)
 else none
 else none
 else
 Al n (s,t,w64 (i+1))
 else none
 else none
 else
 some (.inl (s,t))
 else
 some (.inl (s,t))
def BX (s:List Int) (t:List Int):Option (Int):=
 (Al Aa (s,t,0)).bind λs1=>
  match s1 with
  | .inl s2=>
   if decide ((s2.1.length:Int)<(s2.2.length:Int))then
    some (-1)
   else
    if decide ((s2.1.length:Int)>(s2.2.length:Int))then
     some 1
    else
     some 0
  | .inr s3=>
   some s3
def Aq:Nat->(Int×Int×(List (List Int))×(List (List Int))×Int×Int)->Option ((Unit)⊕(Bool))
 |0,_=>none
 |n+1,(n_,k,tuples,t20,t21,t22)=>
 if decide (t22<t21)then
 if inb t22 t20 then
 if((gd t20 t22 []).length:Int) !=k then
 some (.inr false)
 else
 (BC (gd t20 t22 []) n_).bind λr2=>
 if !r2 then
 some (.inr false)
 else
 if decide (t22>0)then
 if inb (w64 (t22-1)) tuples then
 (BX (gd tuples (w64 (t22-1)) []) (gd t20 t22 [])).bind λr3=>
 if decide (r3≥0)then
 some (.inr false)
 else
 Aq n (n_,k,tuples,t20,t21,w64 (t22+1))
 else none
 else
 Aq n (n_,k,tuples,t20,t21,w64 (t22+1))
 else none
 else
 some (.inl ())
def BG (n_:Int) (k:Int) (tuples:List (List Int)):Option (Bool):=
 (Cm n_).bind λr1=>
  if !r1 then
   some false
  else
   if decide (k<1)then
    some false
   else
    if decide (k>4)then
     some false
    else
     (Aq Aa (n_,k,tuples,tuples,(tuples.length:Int),0)).bind λs2=>
      match s2 with
      | .inl s3=>
       some true
      | .inr s4=>
       some s4
def By:Nat->(Int×Int×Int)->Option (Int)
 |0,_=>none
 |n+1,(n_,k,p)=>
 if decide (k>0)then
 By n (n_,w64 (k-1),w64 (p*n_))
 else
 some p
def Cb (n_:Int) (k:Int):Option (Int):=
 (By Aa (n_,k,1)).bind λs1=>
 some s1
end T
open Go Go.Va
namespace T
theorem DE {a:List Int} {left:Int} (h0:0<=left) (h1:left<=4611686018427387904) (ha:a.length<=9223372036854775807):AW a left=some (szR a.length left):=by
 unfold AW szR
 rw[AA (by omega) (by omega)]
 by_cases h:(a.length:Int)<=left
 ·rw[if_neg (by simp;omega),if_pos h]
 ·rw[if_pos (by simp;omega),if_neg h]
def CQ (a:List (List Int)):Nat:=a.length+(a.map List.length).sum
theorem D9 {a:List (List Int)} {left:Int} (h0:0<=left) (h1:left<=1099511627775) (ha:a.length<=9223372036854775807) (hr: ∀r∈a,r.length<=9223372036854775807):Cd a left=some (szR (CQ a) left):=by
 unfold Cd
 rw[AA (by omega) (by omega)]
 by_cases h:(a.length:Int)<=left
 ·rw[if_neg (by simp;omega)]
  have key:=EO a (λn s i=>AN n (a,s,i)) (λs r=>(AW r s).bind λq=>if q<0 then some (.inr (.inr (-1)))else some (.inl q)) (λs=>some (.inl s)) ?_ ?_ (n:=Aa) (by unfold Aa;omega) (left-a.length)
  ·rw[key]
   have run: ∀(l:List (List Int)) (s:Int),0<=s->s<=1099511627775->(∀r∈l,r.length<=9223372036854775807)->
     DM (λs r=>(AW r s).bind λq=>if q<0 then some (.inr (.inr (-1)))else some (.inl q)) (λs=>some (.inl s)) l s=some (if((l.map List.length).sum:Int)<=s then(.inl (s-(l.map List.length).sum):Int⊕Int)else .inr (-1)):=by
    intro l
    induction l with
    |nil=>intro s h0 _ _;simp[DM,h0]
    |cons r l ih=>
     intro s h0 h1 hr
     simp only[DM]
     rw[DE h0 (by omega) (hr r (by simp))]
     unfold szR
     by_cases h:(r.length:Int)<=s
     ·rw[if_pos h]
      simp only[Option.bind_some]
      rw[if_neg (by omega)]
      dsimp only
      rw[ih (s-r.length) (by omega) (by omega) λr hr'=>hr r (List.mem_cons_of_mem _ hr')]
      simp only[List.map_cons,List.sum_cons]
      congr 1
      by_cases h2:(((l.map List.length).sum:Nat):Int)<=s-r.length
      ·rw[if_pos h2,if_pos (by omega)];congr 1;omega
      ·rw[if_neg h2,if_neg (by omega)]
     ·rw[if_neg h]
      simp only[List.map_cons,List.sum_cons]
      rw[if_neg (by omega)]
      rfl
   rw[run a _ (by omega) (by omega) hr]
   unfold szR CQ
   by_cases h2:(((a.map List.length).sum:Nat):Int)<=left-a.length
   ·rw[if_pos h2,if_pos (by omega)]
    simp only[Option.bind_some,Option.some.injEq];omega
   ·rw[if_neg h2,if_neg (by omega)];rfl
  ·intro n s k hk
   simp only[AN,Ac,Ak hk,Ab (show k<4611686018427387904 by omega)]
   simp[hk]
   cases AW a[k] s with
   |none=>rfl
   |some q=>by_cases hq:q<0<;>simp[hq]
  ·intro n s
   simp[AN]
 ·rw[if_pos (by simp;omega)]
  unfold szR CQ
  rw[if_neg (by omega)]
theorem DG {a:List Int} (ha:a.length<=1099511627775):B2 a=some a:=by
 unfold B2
 rw[if_pos (by unfold lim;omega)]
 have key:=EE a (λn out i=>AX n (a,out,i)) id some ?_ ?_ (n:=Aa) (out:=List.replicate (Int.toNat (a.length:Int)) (0:Int)) (by simp) (by unfold Aa;omega)
 ·rw[key];simp
 ·intro n out k hk hl
  simp only[AX,Ac,Ak hk,Cy,Ab (show k<4611686018427387904 by omega)]
  simp[hk,hl]
 ·intro n out hl
  simp[AX]
theorem Ea {a:List (List Int)} (ha:a.length<=1099511627775) (hr: ∀r∈a,r.length<=1099511627775):Bb a=some a:=by
 unfold Bb
 rw[if_pos (by unfold lim;omega)]
 have key:=EE a (λn out i=>AO n (a,out,i)) id some ?_ ?_ (n:=Aa) (out:=List.replicate (Int.toNat (a.length:Int)) ([]:List Int)) (by simp) (by unfold Aa;omega)
 ·rw[key];simp
 ·intro n out k hk hl
  simp only[AO,Ac,Ak hk,Cy,Ab (show k<4611686018427387904 by omega)]
  simp[hk,hl,DG (hr _ (List.getElem_mem hk))]
 ·intro n out hl
  simp[AO]
theorem DB {a b:List Int} (ha:a.length<=1099511627775):B0 a b=some (decide (a=b)):=by
 unfold B0
 by_cases hl:a.length=b.length
 ·rw[if_neg (by simp[hl]),eqX a b hl (λn i=>AU n (a,b,i)) ?_ ?_ (by unfold Aa;omega)]
  ·by_cases h:a=b<;>simp[h]
  ·intro n k h1 h2
   simp only[AU,Ac,Ak h1,Ak h2,Ab (show k<4611686018427387904 by omega)]
   by_cases h:a[k]=b[k]<;>simp[h1,h2,h]
  ·intro n
   simp[AU]
 ·rw[if_pos (by simp;omega),decide_eq_false (λe=>hl (by rw[e]))]
theorem Df {a b:List (List Int)} (ha:a.length<=1099511627775) (hr: ∀r∈a,r.length<=1099511627775):Ba a b=some (decide (a=b)):=by
 unfold Ba
 by_cases hl:a.length=b.length
 ·rw[if_neg (by simp[hl]),eqX a b hl (λn i=>AM n (a,b,i)) ?_ ?_ (by unfold Aa;omega)]
  ·by_cases h:a=b<;>simp[h]
  ·intro n k h1 h2
   simp only[AM,Ac,Ak h1,Ak h2,Ab (show k<4611686018427387904 by omega),DB (hr _ (List.getElem_mem h1))]
   by_cases h:a[k]=b[k]<;>simp[h1,h2,h]
  ·intro n
   simp[AM]
 ·rw[if_pos (by simp;omega),decide_eq_false (λe=>hl (by rw[e]))]
abbrev Lin:=Int×Int×List (List Int)
def Gi (a:Lin):Prop:=a.2.2.length<=1048576/\ ∀r∈a.2.2,r.length<=1048576
theorem Fl {l:List (List Int)}: ∀ {r:List Int},r∈l->r.length<=(l.map List.length).sum:=by
 induction l with
 |nil=>intro r h;cases h
 |cons x l ih=>
  intro r h
  rw[List.map_cons,List.sum_cons]
  rcases List.mem_cons.1 h with rfl|h
  ·omega
  ·have:=ih h;omega
theorem Dq {a:Lin} (h: ¬szR (CQ a.2.2) 1048576<0):Gi a:=by
 unfold szR CQ at h
 split at h
 ·exact⟨by omega,λr hr=>by have:=Fl hr;omega⟩
 ·omega
theorem Bq (x a b:Int):Bx x a b=some (decide (a<=x/\x<=b)):=by
 unfold Bx
 by_cases h:a<=x<;>simp[h]
def Ap (n:Int) (l:List Int):Bool:=l.all λx=>decide (0<=x/\x<n)
theorem BR {l:List Int} (n:Int) (hl:l.length<=1099511627775):BC l n=some (Ap n l):=by
 unfold BC
 rw[E4 l (λm i=>AT m (n,l,(l.length:Int),i)) (λx=>decide (0<=x/\x<n)) (.inr false) (.inl ()) ?_ ?_ (by unfold Aa;omega)]
 ·unfold Ap;cases l.all (λx=>decide (0<=x/\x<n))<;>simp
 ·intro m k hk
  simp only[AT,Ac,Ak hk,Ab (show k<4611686018427387904 by omega)]
  by_cases h1:l[k]<0
  ·simp[hk,h1,show¬0<=l[k] by omega]
  ·by_cases h2:n<=l[k]
   ·simp[hk,h1,h2,show¬l[k]<n by omega]
   ·simp[hk,h1,h2,show 0<=l[k]/\l[k]<n by omega]
 ·intro m
  simp[AT]
theorem CK {l:List Int} {n:Int} (hn: -9223372036854775808<n) (hn':n<=9223372036854775807) (hl:l.length<=1099511627775):BI n l=some (Ap n l):=by
 unfold BI
 rw[E4 l (λm i=>Ay m (n,l,i)) (λx=>decide (0<=x/\x<n)) (.inr false) (.inl ()) ?_ ?_ (by unfold Aa;omega)]
 ·unfold Ap;cases l.all (λx=>decide (0<=x/\x<n))<;>simp
 ·intro m k hk
  simp only[Ay,Ac,Ak hk,Ab (show k<4611686018427387904 by omega),Bq,AA (show-9223372036854775808<=n-1 by omega) (show n-1<=9223372036854775807 by omega)]
  by_cases h1:0<=l[k]/\l[k]<n
  ·simp[hk,h1,show l[k]<=n-1 by omega]
  ·have: ¬(0<=l[k]/\l[k]<=n-1):=by omega
   simp[hk,h1,this]
 ·intro m
  simp[Ay]
theorem C4 {l:List Int} {n:Int} (k:Int) (hn: -9223372036854775808<n) (hn':n<=9223372036854775807) (hl:l.length<=1099511627775):Ch n k l=some (decide ((l.length:Int)=k)&&Ap n l):=by
 unfold Ch
 rw[CK hn hn' hl]
 by_cases h:(l.length:Int)=k<;>simp[h]
end T
open Go Go.Va
namespace T
theorem Dc {n:Int} {l:List Int} (h:Ap n l=true) (k:Nat) (hk:k<l.length):0<=l[k]/\l[k]<n:=by
 have:=(List.all_eq_true.1 h) l[k] (List.getElem_mem hk)
 simpa using this
section
variable {p v:Int} {rows:List (List Int)} {y:List Int}
end
end T
open Go Go.Va
namespace T
def cmpL:List Int->List Int->Int
 | [],[]=>0
 | [],_::_=> -1
 |_::_,[]=>1
 |a::s,b::t=>if a=b then cmpL s t else if a<b then-1 else 1
theorem D5 {s t:List Int} (hs:s.length<=1099511627775): ∀(n k:Nat),k<=s.length->k<=t.length->s.length-k<n->
  (Al n (s,t,(k:Int))).bind (λs1=>match s1 with
   | .inl s2=>if decide ((s2.1.length:Int)<(s2.2.length:Int))then some (-1)else if decide ((s2.1.length:Int)>(s2.2.length:Int))then some 1 else some 0
   | .inr s3=>some s3)=some (cmpL (s.drop k) (t.drop k)):=by
 intro n
 induction n with
 |zero=>intro k _ _ h;omega
 |succ n ih=>
  intro k h1 h2 hn
  by_cases k1:k<s.length
  ·by_cases k2:k<t.length
   ·rw[List.drop_eq_getElem_cons k1,List.drop_eq_getElem_cons k2]
    simp only[Al,Ac,Ak k1,Ak k2,Ab (show k<4611686018427387904 by omega),cmpL]
    by_cases he:s[k]=t[k]
    ·have:=ih (k+1) k1 k2 (by omega)
     simp[k1,k2,he]
     simpa using this
    ·by_cases hl:s[k]<t[k]<;>simp[k1,k2,he,hl]
   ·rw[List.drop_eq_getElem_cons k1,List.drop_of_length_le (show t.length<=k by omega)]
    have e:k=t.length:=by omega
    simp only[Al,cmpL]
    simp[k1,k2,show¬s.length<t.length by omega,show t.length<s.length by omega]
  ·rw[List.drop_of_length_le (show s.length<=k by omega)]
   simp only[Al]
   by_cases k2:k<t.length
   ·rw[List.drop_eq_getElem_cons k2]
    simp[k1,cmpL,show s.length<t.length by omega]
   ·rw[List.drop_of_length_le (show t.length<=k by omega)]
    simp[k1,cmpL,show¬s.length<t.length by omega,show¬t.length<s.length by omega]
theorem Cl {s t:List Int} (hs:s.length<=1099511627775):BX s t=some (cmpL s t):=by
 have:=D5 (t:=t) hs Aa 0 (Nat.zero_le _) (Nat.zero_le _) (by unfold Aa;omega)
 rw[List.drop_zero,List.drop_zero]at this
 exact this
theorem Cr {s t:List Int} (hs:s.length<=1099511627775) (hl:s.length=t.length):Cq s t=some (decide (cmpL s t<0)):=by
 have key: ∀(n k:Nat),k<=s.length->s.length-k<n->(AZ n (s,t,(k:Int))).bind (λs1=>match s1 with| .inl _=>some false| .inr s3=>some s3)=some (decide (cmpL (s.drop k) (t.drop k)<0)):=by
  intro n
  induction n with
  |zero=>intro k _ h;omega
  |succ n ih=>
   intro k h1 hn
   by_cases k1:k<s.length
   ·have k2:k<t.length:=by omega
    rw[List.drop_eq_getElem_cons k1,List.drop_eq_getElem_cons k2]
    simp only[AZ,Ac,Ak k1,Ak k2,Ab (show k<4611686018427387904 by omega),cmpL]
    by_cases he:s[k]=t[k]
    ·have:=ih (k+1) k1 (by omega)
     simp[k1,k2,he]
     simpa using this
    ·by_cases hl:s[k]<t[k]<;>simp[k1,k2,he,hl]
   ·rw[List.drop_of_length_le (show s.length<=k by omega),List.drop_of_length_le (show t.length<=k by omega)]
    simp[AZ,k1,cmpL]
 have:=key Aa 0 (Nat.zero_le _) (by unfold Aa;omega)
 rw[List.drop_zero,List.drop_zero]at this
 exact this
theorem Dn {a b:List Int} (ha:a.length<=1099511627775):Co a b=some (decide (a=b)):=by
 unfold Co
 by_cases hl:a.length=b.length
 ·rw[if_neg (by simp[hl]),eqX a b hl (λn i=>AY n (a,b,i)) ?_ ?_ (by unfold Aa;omega)]
  ·by_cases h:a=b<;>simp[h]
  ·intro n k h1 h2
   simp only[AY,Ac,Ak h1,Ak h2,Ab (show k<4611686018427387904 by omega)]
   by_cases h:a[k]=b[k]<;>simp[h1,h2,h]
  ·intro n
   simp[AY]
 ·rw[if_pos (by simp;omega),decide_eq_false (λe=>hl (by rw[e]))]
theorem cmpL_refl: ∀s,cmpL s s=0
 | []=>rfl
 |a::s=>by simp[cmpL,cmpL_refl s]
theorem cmpL_eq: ∀ {s t},cmpL s t=0↔s=t
 | [],[]=>by simp[cmpL]
 | [],_::_=>by simp[cmpL]
 |_::_,[]=>by simp[cmpL]
 |a::s,b::t=>by
  simp only[cmpL]
  by_cases h:a=b
  ·rw[if_pos h,cmpL_eq];simp[h]
  ·rw[if_neg h];split<;>simp[h]
theorem cmpL_symm: ∀s t,cmpL t s= -cmpL s t
 | [],[]=>by simp[cmpL]
 | [],_::_=>by simp[cmpL]
 |_::_,[]=>by simp[cmpL]
 |a::s,b::t=>by
  simp only[cmpL]
  by_cases h:a=b
  ·rw[if_pos h,if_pos h.symm,cmpL_symm s t]
  ·rw[if_neg h,if_neg (Ne.symm h)]
   by_cases h2:a<b
   ·rw[if_pos h2,if_neg (by omega)];rfl
   ·rw[if_neg h2,if_pos (by omega)]
theorem cmpL_trans: ∀ {s t u},cmpL s t<0->cmpL t u<0->cmpL s u<0
 | [],[],_,h,_=>by simp[cmpL]at h
 | [],_::_,[],_,h=>by simp[cmpL]at h
 | [],_::_,_::_,_,_=>by simp[cmpL]
 |_::_,[],_,h,_=>by simp[cmpL]at h
 |_::_,_::_,[],_,h=>by simp[cmpL]at h
 |a::s,b::t,c::u,h1,h2=>by
  simp only[cmpL]at*
  by_cases e1:a=b
  ·rw[if_pos e1]at h1
   by_cases e2:b=c
   ·rw[if_pos e2]at h2;rw[if_pos (e1.trans e2)];exact cmpL_trans h1 h2
   ·rw[if_neg e2]at h2;rw[e1,if_neg e2];exact h2
  ·rw[if_neg e1]at h1
   have l1:a<b:=by
    by_cases h:a<b
    ·exact h
    ·rw[if_neg h]at h1;omega
   by_cases e2:b=c
   ·rw[←e2,if_neg e1,if_pos l1];omega
   ·rw[if_neg e2]at h2
    have l2:b<c:=by
     by_cases h:b<c
     ·exact h
     ·rw[if_neg h]at h2;omega
    rw[if_neg (by omega),if_pos (by omega)];omega
def Bw:List (List Int)->Bool
 |a::b::l=>decide (cmpL a b<0)&&Bw (b::l)
 |_=>true
theorem Em {a:List Int} {l:List (List Int)} (h:Bw (a::l)=true):Bw l=true:=by
 cases l with
 |nil=>rfl
 |cons b l=>simp only[Bw,Bool.and_eq_true]at h;exact h.2
theorem DC: ∀ {a:List Int} {l:List (List Int)},Bw (a::l)=true-> ∀b∈l,cmpL a b<0
 |a,[],_,b,hb=>by cases hb
 |a,c::l,h,b,hb=>by
  simp only[Bw,Bool.and_eq_true,decide_eq_true_eq]at h
  rcases List.mem_cons.1 hb with rfl|hb
  ·exact h.1
  ·exact cmpL_trans h.1 (DC h.2 b hb)
theorem BZ: ∀ {l:List (List Int)},Bw l=true-> ∀(i j:Nat) (hi:i<j) (hj:j<l.length),cmpL (l[i]'(by omega)) l[j]<0
 | [],_,i,j,_,hj=>by simp at hj
 |a::l,h,0,j+1,_,hj=>by
  simp only[List.getElem_cons_zero,List.getElem_cons_succ]
  exact DC h _ (List.getElem_mem _)
 |a::l,h,i+1,j+1,hi,hj=>by
  simp only[List.getElem_cons_succ]
  exact BZ (Em h) i j (by omega) (by simpa using hj)
theorem DW {l:List (List Int)}:Bw l=true↔ ∀(i:Nat) (hi:i+1<l.length),cmpL (l[i]'(by omega)) l[i+1]<0:=by
 constructor
 ·exact λh i hi=>BZ h i (i+1) (by omega) hi
 ·induction l with
  |nil=>intro _;rfl
  |cons a l ih=>
   intro h
   cases l with
   |nil=>rfl
   |cons b l=>
    simp only[Bw,Bool.and_eq_true,decide_eq_true_eq]
    exact⟨h 0 (by simp),ih λi hi=>by have:=h (i+1) (by simpa using hi);simpa using this⟩
end T
open Go Go.Va
namespace T
theorem CV {n:Int} (h0:0<=n) (h8:n<=8): ∀k:Nat,0<=n^k/\n^k<=8^k
 |0=>by simp
 |k+1=>by
  obtain⟨h1,h2⟩:=CV h0 h8 k
  rw[Int.pow_succ,Int.pow_succ]
  exact⟨Int.mul_nonneg h1 h0,Int.mul_le_mul h2 h8 h0 (by have:(0:Int)<=8^k:=Int.le_trans h1 h2;exact this)⟩
theorem Fm: ∀k:Nat,k<=20->(8:Int)^k<=8^20:=by
 intro k hk
 have:((8^k:Nat):Int)<=((8^20:Nat):Int):=Int.ofNat_le.2 (Nat.pow_le_pow_right (by omega) hk)
 simpa using this
theorem ET {n:Int} (h0:0<=n) (h8:n<=8) {k:Nat} (hk:k<=20):0<=n^k/\n^k<=1152921504606846976:=by
  obtain⟨h1,h2⟩:=CV h0 h8 k
  have:=Fm k hk
  exact ⟨h1, by have e : (8 : Int) ^ 20 = 1152921504606846976 := by decide
                omega⟩
theorem EU {n:Int} (h0:0<=n) (h8:n<=8): ∀(m k j:Nat),j+k<=20->k<m->By m (n,(k:Int),n^j)=some (n^(j+k)):=by
 intro m
 induction m with
 |zero=>intro k j _ h;omega
 |succ m ih=>
  intro k j hj hk
  simp only[By]
  cases k with
  |zero=>simp
  |succ k=>
   have e:w64 (((k+1:Nat):Int)-1)=(k:Int):=by rw[AA (by omega) (by omega)];omega
   have hb:=ET h0 h8 (k:=j+1) (by omega)
   rw[Int.pow_succ]at hb
   rw[e,AA (by omega) (by omega),←Int.pow_succ,if_pos (by simp),ih k (j+1) (by omega) (by omega)]
   congr 2<;>omega
theorem Dw {n:Int} (h0:0<=n) (h8:n<=8) {k:Nat} (hk:k<=20):Cb n (k:Int)=some (n^k):=by
 unfold Cb
 have:=EU h0 h8 Aa k 0 (by omega) (by unfold Aa;omega)
 rw[Int.pow_zero]at this
 rw[this];simp
theorem EM {n:Int} (h0:0<=n) (h8:n<=8): ∀(m k j:Nat),j+k<=20->k<m->BB m (n,(k:Int),n^j)=some (n^(j+k)):=by
 intro m
 induction m with
 |zero=>intro k j _ h;omega
 |succ m ih=>
  intro k j hj hk
  simp only[BB]
  cases k with
  |zero=>simp
  |succ k=>
   have e:w64 (((k+1:Nat):Int)-1)=(k:Int):=by rw[AA (by omega) (by omega)];omega
   have hb:=ET h0 h8 (k:=j+1) (by omega)
   rw[Int.pow_succ]at hb
   rw[e,AA (by omega) (by omega),←Int.pow_succ,if_pos (by simp),ih k (j+1) (by omega) (by omega)]
   congr 2<;>omega
theorem CD {n:Int} (h0:0<=n) (h8:n<=8) {k:Nat} (hk:k<=20):BV n (k:Int)=some (n^k):=by
 unfold BV
 have:=EM h0 h8 Aa k 0 (by omega) (by unfold Aa;omega)
 rw[Int.pow_zero]at this
 rw[this];simp
def DI (n:Int):Int->List Int->Int
 |i,[]=>i
 |i,a::l=>DI n (i*n+a) l
def idx (n:Int) (l:List Int):Int:=DI n 0 l
theorem DJ (n:Int): ∀(l:List Int) (i:Int),DI n i l=i*n^l.length+DI n 0 l
 | [],i=>by simp[DI]
 |a::l,i=>by
  simp only[DI,List.length_cons]
  rw[DJ n l (i*n+a),DJ n l (0*n+a),Int.pow_succ]
  simp only[Int.zero_mul,Int.zero_add]
  rw[Int.add_mul,Int.mul_assoc,Int.mul_comm n (n^l.length)]
  omega
theorem Di (n a:Int) (l:List Int):idx n (a::l)=a*n^l.length+idx n l:=by
 unfold idx
 simp only[DI]
 rw[DJ];simp
theorem Cj {n a:Int} {l:List Int}:Ap n (a::l)=true↔(0<=a/\a<n)/\Ap n l=true:=by
 unfold Ap;simp[List.all_cons]
theorem Dh {n:Int}: ∀ {l:List Int},Ap n l=true->0<=idx n l/\idx n l<n^l.length
 | [],_=>by simp[idx,DI]
 |a::l,h=>by
  obtain⟨h1,h2⟩:=Cj.1 h
  obtain⟨h3,h4⟩:=Dh h2
  rw[Di,List.length_cons,Int.pow_succ]
  have hp:0<=n^l.length:=by omega
  have k1:=Int.mul_nonneg h1.1 hp
  have k2:=Int.mul_le_mul_of_nonneg_right (show a+1<=n by omega) hp
  rw[Int.add_mul,Int.one_mul,Int.mul_comm n]at k2
  exact⟨by omega,by omega⟩
theorem Ee {n:Int}: ∀ {s t:List Int},Ap n s=true->Ap n t=true->s.length=t.length->(cmpL s t<0↔idx n s<idx n t)/\(cmpL s t=0↔idx n s=idx n t)
 | [],[],_,_,_=>by simp[cmpL,idx,DI]
 | [],_::_,_,_,h=>by simp at h
 |_::_,[],_,_,h=>by simp at h
 |a::s,b::t,hs,ht,hl=>by
  obtain⟨s1,s2⟩:=Cj.1 hs
  obtain⟨t1,t2⟩:=Cj.1 ht
  have hl':s.length=t.length:=by simpa using hl
  have ih:=Ee s2 t2 hl'
  obtain⟨b1,b2⟩:=Dh s2
  obtain⟨c1,c2⟩:=Dh t2
  rw[Di,Di,hl']
  rw[hl']at b2
  simp only[cmpL]
  have hp:0<=n^t.length:=by omega
  rcases Int.lt_trichotomy a b with h|h|h
  ·have:=Int.mul_le_mul_of_nonneg_right (show a+1<=b by omega) hp
   rw[Int.add_mul,Int.one_mul]at this
   rw[if_neg (by omega),if_pos h]
   exact⟨by constructor<;>intro<;>omega,by constructor<;>intro<;>omega⟩
  ·subst h
   rw[if_pos rfl]
   exact⟨by rw[ih.1];constructor<;>intro<;>omega,by rw[ih.2];constructor<;>intro<;>omega⟩
  ·have:=Int.mul_le_mul_of_nonneg_right (show b+1<=a by omega) hp
   rw[Int.add_mul,Int.one_mul]at this
   rw[if_neg (by omega),if_neg (by omega)]
   exact⟨by constructor<;>intro<;>omega,by constructor<;>intro<;>omega⟩
theorem En {n:Int} {k:Nat} {l:List (List Int)} (hi:Bw l=true) (hv: ∀t∈l,t.length=k/\Ap n t=true):(l.length:Int)<=n^k∨l= []:=by
 have key: ∀(i:Nat) (h:i<l.length),(i:Int)<=idx n l[i]:=by
  intro i
  induction i with
  |zero=>intro h;exact(Dh (hv _ (List.getElem_mem h)).2).1
  |succ i ih=>
   intro h
   have h1:=ih (by omega)
   obtain⟨l1,b1⟩:=hv _ (List.getElem_mem (show i<l.length by omega))
   obtain⟨l2,b2⟩:=hv _ (List.getElem_mem h)
   have:=(Ee b1 b2 (l1.trans l2.symm)).1.1 (BZ hi i (i+1) (by omega) h)
   omega
 cases hn:l.length with
 |zero=>exact .inr (List.length_eq_zero_iff.1 hn)
 |succ m=>
  left
  have h:=key m (by omega)
  obtain⟨l1,b1⟩:=hv _ (List.getElem_mem (show m<l.length by omega))
  have:=(Dh b1).2
  rw[l1]at this
  omega
theorem Ff {list:List (List Int)} {t:List Int} {k:Nat} (hl:list.length<=1099511627775) (hk:k<=1099511627775) (hv: ∀u∈list,u.length=k) (ht:t.length=k) (hi:Bw list=true): ∀(m a b:Nat),a<=b->b<=list.length->b-a<m->
  (∀i (h:i<list.length),i<a->cmpL list[i] t<0)->(∀i (h:i<list.length),b<=i-> ¬cmpL list[i] t<0)->
  ∃c:Nat,AL m (list,t,(a:Int),(b:Int))=some (list,t,(c:Int))/\c<=list.length/\(∀i (h:i<list.length),i<c->cmpL list[i] t<0)/\(∀i (h:i<list.length),c<=i-> ¬cmpL list[i] t<0):=by
 intro m
 induction m with
 |zero=>intro a b _ _ h;omega
 |succ m ih=>
  intro a b hab hb hm h1 h2
  simp only[AL]
  by_cases hlt:a<b
  ·have emid:w64 (Int.tdiv (w64 ((a:Int)+b)) 2)=(((a+b)/2:Nat):Int):=by
    rw[AA (x:=(a:Int)+b) (by omega) (by omega),Int.tdiv_eq_ediv_of_nonneg (by omega),AA (by omega) (by omega)];omega
   have hmid:(a+b)/2<list.length:=by omega
   rw[emid]
   have hless:=Cr (s:=list[(a+b)/2]) (t:=t) (by rw[hv _ (List.getElem_mem hmid)];omega) (by rw[hv _ (List.getElem_mem hmid),ht])
   simp only[Ac,Ak hmid,hless,Option.bind_some,Ab (show(a+b)/2<4611686018427387904 by omega)]
   by_cases hc:cmpL list[(a+b)/2] t<0
   ·obtain⟨c,e,k1,k2,k3⟩:=ih ((a+b)/2+1) b (by omega) hb (by omega) (λi h hi'=>by
     rcases Nat.lt_or_ge i ((a+b)/2)with h'|h'
     ·exact cmpL_trans (BZ hi i ((a+b)/2) h' hmid) hc
     ·have:i=(a+b)/2:=by omega
      subst this;exact hc) h2
    exact⟨c,by simpa[hlt,hmid,hc]using e,k1,k2,k3⟩
   ·obtain⟨c,e,k1,k2,k3⟩:=ih a ((a+b)/2) (by omega) (by omega) (by omega) h1 (λi h hi' hneg=>by
     rcases Nat.lt_or_ge ((a+b)/2) i with h'|h'
     ·exact hc (cmpL_trans (BZ hi ((a+b)/2) i h' h) hneg)
     ·have:i=(a+b)/2:=by omega
      subst this;exact hc hneg)
    exact⟨c,by simpa[hlt,hmid,hc]using e,k1,k2,k3⟩
  ·have:a=b:=by omega
   subst this
   exact⟨a,by simp,hb,h1,h2⟩
theorem Ct {list:List (List Int)} {t:List Int} {k:Nat} (hl:list.length<=1099511627774) (hk:k<=1099511627775) (hv: ∀u∈list,u.length=k) (ht:t.length=k) (hi:Bw list=true):
  ∃c:Nat,A7 list t=some ((c:Int),decide (t∈list))/\c<=list.length/\(∀i (h:i<list.length),i<c->cmpL list[i] t<0)/\(∀i (h:i<list.length),c<=i-> ¬cmpL list[i] t<0):=by
 obtain⟨c,e,k1,k2,k3⟩:=Ff (by omega) hk hv ht hi Aa 0 list.length (Nat.zero_le _) (Nat.le_refl _) (by unfold Aa;omega) (λi _ h=>by omega) (λi h h'=>by omega)
 refine⟨c,?_,k1,k2,k3⟩
 unfold A7
 have e':AL Aa (list,t,0,(list.length:Int))=some (list,t,(c:Int)):=e
 rw[e']
 simp only[Option.bind_some]
 by_cases hc:c<list.length
 ·have hs:=Dn (a:=list[c]) (b:=t) (by rw[hv _ (List.getElem_mem hc)];omega)
  simp only[Ac,Ak hc,hs,Option.bind_some]
  have:decide (list[c]=t)=decide (t∈list):=by
   by_cases h:list[c]=t
   ·rw[decide_eq_true h,decide_eq_true (h▸List.getElem_mem hc)]
   ·rw[decide_eq_false h]
    symm;rw[decide_eq_false_iff_not]
    intro hm
    obtain⟨j,hj,rfl⟩:=List.mem_iff_getElem.1 hm
    have hne:j≠c:=λe=>h (by subst e;rfl)
    rcases Nat.lt_or_ge j c with hlt|hge
    ·have:=k2 j hj hlt;rw[cmpL_refl]at this;omega
    ·exact k3 c hc (Nat.le_refl _) (BZ hi c j (by omega) hj)
  simp[hc,this]
 ·have:decide (t∈list)=false:=by
   rw[decide_eq_false_iff_not]
   intro hm
   obtain⟨j,hj,rfl⟩:=List.mem_iff_getElem.1 hm
   have:=k2 j hj (by omega);rw[cmpL_refl]at this;omega
  rw[if_neg (by simp;omega),this]
end T
open Go Go.Va
namespace T
def B4 (n:Int):Bool:=decide (1<=n/\n<=8)
theorem Dj (n:Int):Cm n=some (B4 n):=by
 unfold Cm B4
 by_cases h:1<=n<;>simp[h]
theorem Dp (n:Int):Cs n=some (B4 n):=by
 unfold Cs B4
 rw[Bq];simp
def DO (n k:Int) (t:List Int):Bool:=decide ((t.length:Int)=k)&&Ap n t
def CI (n k:Int) (ts:List (List Int)):Bool:=B4 n&&decide (1<=k/\k<=4)&&ts.all (DO n k)&&Bw ts
def BF (n k:Int) (ts:List (List Int)) (i:Nat):Bool:=DO n k (ts.getD i [])&&(decide (i=0)||decide (cmpL (ts.getD (i-1) []) (ts.getD i [])<0))
theorem AS {α:Type} {l:List α} {i:Nat} {d:α} (h:i<l.length):l.getD i d=l[i]:=by simp[h]
theorem D1 (n k:Int) (ts:List (List Int)):(List.range ts.length).all (BF n k ts)=(ts.all (DO n k)&&Bw ts):=by
 rw[Bool.eq_iff_iff,Bool.and_eq_true,List.all_eq_true,List.all_eq_true,DW]
 constructor
 ·intro h
  refine⟨λt ht=>?_,λi hi=>?_⟩
  ·obtain⟨i,hi,rfl⟩:=List.mem_iff_getElem.1 ht
   have:=h i (by simpa using hi)
   unfold BF at this
   rw[AS hi]at this
   simp at this;exact this.1
  ·have:=h (i+1) (by simpa using hi)
   unfold BF at this
   rw[AS hi,Nat.add_sub_cancel,AS (show i<ts.length by omega)]at this
   simp only[Bool.and_eq_true,Bool.or_eq_true,decide_eq_true_eq]at this
   exact this.2.resolve_left (by omega)
 ·rintro ⟨h1,h2⟩ i hi
  have hi:i<ts.length:=by simpa using hi
  unfold BF
  rw[AS hi]
  simp only[Bool.and_eq_true,Bool.or_eq_true,decide_eq_true_eq]
  refine⟨h1 _ (List.getElem_mem hi),?_⟩
  cases i with
  |zero=>exact .inl rfl
  |succ i=>right;rw[Nat.add_sub_cancel,AS (show i<ts.length by omega)];exact h2 i hi
theorem D4 {k:Nat} (h:k<4611686018427387904) (h0:0<k):w64 ((k:Int)-1)=((k-1:Nat):Int):=by
 rw[AA (by omega) (by omega)];omega
theorem CF {n k:Int} {ts:List (List Int)} (hl:ts.length<=1099511627774) (hr: ∀t∈ts,t.length<=1099511627775):BG n k ts=some (CI n k ts):=by
 unfold BG CI
 rw[Dj,Bool.and_assoc,←D1]
 cases hs:B4 n with
 |false=>simp
 |true=>
  by_cases h1:k<1
  ·simp[h1,show¬1<=k by omega]
  ·by_cases h4:k>4
   ·simp[h1,h4,show¬k<=4 by omega]
   ·simp only[Option.bind_some,Bool.not_true,Bool.false_eq_true,if_false]
    rw[if_neg (by simpa using h1),if_neg (by simpa using h4)]
    have key:=Ge ts.length (λm (_:Unit) i=>Aq m (n,k,ts,ts,(ts.length:Int),i)) (λ_=>()) (BF n k ts) (r:=some (.inr false)) (e:=some (.inl ())) (λm i hi=>?_) (λm=>?_) (n:=Aa) (by unfold Aa;omega)
    ·rw[key]
     cases (List.range ts.length).all (BF n k ts)<;>simp<;>omega
    ·have hlen:=hr ts[i] (List.getElem_mem hi)
     unfold BF DO
     rw[AS hi]
     simp only[Aq,Ac,Ak hi,Ab (show i<4611686018427387904 by omega),BR n hlen,Option.bind_some]
     by_cases hk:(ts[i].length:Int)=k
     ·cases hb:Ap n ts[i]with
      |false=>simp[hi,hk]
      |true=>
       cases i with
       |zero=>simp[hi,hk]
       |succ i=>
        have hi':i<ts.length:=by omega
        rw[D4 (by omega) (by omega),Nat.add_sub_cancel,AS hi']
        simp only[Ak hi',Cl (t:=ts[i+1]) (hr ts[i] (List.getElem_mem hi')),Ac,Option.bind_some]
        by_cases hc:cmpL ts[i] ts[i+1]<0
        ·simp[hi,hi',hk,show¬0<=cmpL ts[i] ts[i+1] by omega,show(0:Int)<(i:Int)+1 by omega,show(i:Int)+1<ts.length by omega,hc]
        ·simp[hi,hi',hk,hc,show(0:Int)<(i:Int)+1 by omega,show(i:Int)+1<ts.length by omega,show 0<=cmpL ts[i] ts[i+1] by omega]
     ·simp[hi,hk]
    ·simp[Aq]
theorem D6 {n k:Int} {ts:List (List Int)} (h:CI n k ts=true):(ts.length:Int)<=n^k.toNat:=by
 unfold CI B4 at h
 simp only[Bool.and_eq_true,decide_eq_true_eq,List.all_eq_true]at h
 obtain⟨⟨⟨h1,h2⟩,h3⟩,h4⟩:=h
 rcases En (n:=n) (k:=k.toNat) h4 λt ht=>by
  have:=h3 t ht
  unfold DO at this
  simp only[Bool.and_eq_true,decide_eq_true_eq]at this
  exact⟨by omega,this.2⟩with h|h
 ·exact h
 ·rw[h];exact(CV (by omega) h1.2 k.toNat).1
theorem Do {n k:Int} {ts:List (List Int)} (hl:ts.length<=1099511627774) (hr: ∀t∈ts,t.length<=1099511627775):Cp n k ts=some (CI n k ts):=by
 unfold Cp
 rw[Dp,Bq]
 cases hs:B4 n with
 |false=>simp[CI,hs]
 |true=>
  by_cases h1:1<=k/\k<=4
  ·have hsz:1<=n/\n<=8:=by unfold B4 at hs;simpa using hs
   have hp:=CD (n:=n) (by omega) hsz.2 (k:=k.toNat) (by omega)
   rw[show((k.toNat:Nat):Int)=k by omega]at hp
   simp only[Option.bind_some,Bool.not_true,Bool.false_eq_true,if_false,h1,and_self,decide_true,hp]
   by_cases hc:(ts.length:Int)>n^k.toNat
   ·rw[if_pos (by simpa using hc)]
    cases h:CI n k ts with
    |false=>rfl
    |true=>have:=D6 h;omega
   ·rw[if_neg (by simpa using hc)]
    have key:=Gf ts.length (λm (_:Unit) i=>AK m (n,k,ts,i)) (λ_=>()) (λi=>if BF n k ts i then none else some (some (.inr false))) (e:=some (.inl ())) (λm i hi hprev=>?_) (λm=>?_) (n:=Aa) (by unfold Aa;omega)
    ·rw[key]
     unfold CI
     rw[hs,Bool.and_assoc,←D1]
     have: ∀l:List Nat,(l.findSome? λi=>if BF n k ts i then none else some (some (.inr false:Unit⊕Bool))).getD (some (.inl ()))=if l.all (BF n k ts)then some (.inl ())else some (.inr false):=by
      intro l
      induction l with
      |nil=>rfl
      |cons a l ih=>
       rw[List.findSome?_cons,List.all_cons]
       cases BF n k ts a with
       |true=>simpa using ih
       |false=>simp
     rw[this]
     cases (List.range ts.length).all (BF n k ts)<;>simp[h1]
    ·have hlen:=hr ts[i] (List.getElem_mem hi)
     have htup:=C4 (l:=ts[i]) (n:=n) k (by omega) (by omega) hlen
     simp only[AK,Ac,Ak hi,Ab (show i<4611686018427387904 by omega),htup,Option.bind_some]
     have hst:BF n k ts i=((decide ((ts[i].length:Int)=k)&&Ap n ts[i])&&(decide (i=0)||decide (cmpL (ts.getD (i-1) []) ts[i]<0))):=by unfold BF DO;rw[AS hi]
     rw[hst]
     cases hb:(decide ((ts[i].length:Int)=k)&&Ap n ts[i])with
     |false=>simp[hi]
     |true=>
      cases i with
      |zero=>simp[hi]
      |succ i=>
       have hi':i<ts.length:=by omega
       have hpv:=hprev i (by omega)
       have hpv:BF n k ts i=true:=by
        cases h:BF n k ts i with
        |true=>rfl
        |false=>rw[h]at hpv;simp at hpv
       unfold BF DO at hpv
       rw[AS hi']at hpv
       simp only[Bool.and_eq_true,decide_eq_true_eq]at hpv hb
       have hless:=Cr (s:=ts[i]) (t:=ts[i+1]) (hr ts[i] (List.getElem_mem hi')) (by omega)
       rw[D4 (by omega) (by omega),Nat.add_sub_cancel,AS hi']
       simp only[Ak hi',hless,Ac,Option.bind_some]
       by_cases hc:cmpL ts[i] ts[i+1]<0
       ·simp[hi,hi',hc,show(0:Int)<(i:Int)+1 by omega,show(i:Int)+1<ts.length by omega]
       ·simp[hi,hi',hc,show(0:Int)<(i:Int)+1 by omega,show(i:Int)+1<ts.length by omega]
    ·simp[AK]
  ·unfold CI;rw[hs];simp[h1]
end T
open Go Go.Va
namespace T
structure SetOk (p:Int) (k:Nat) (ts:List (List Int)):Prop where
 hp:2<=p/\p<=7
 hk:k<=4
 len: ∀t∈ts,t.length=k
 el: ∀t∈ts,Ap p t=true
 inc:Bw ts=true
section
variable {p:Int} {k:Nat} {ts:List (List Int)}
theorem SetOk.get (h:SetOk p k ts) {t:List Int} (ht:t∈ts) {i:Nat} (hi:i<k):i<t.length/\0<=t.getD i 0/\t.getD i 0<p:=by
 have hl:=h.len t ht
 have:=Dc (h.el t ht) i (by omega)
 rw[AS (by omega)]
 exact⟨by omega,this⟩
end
end T
open Go Go.Va
namespace T
section
variable {p:Int} {k:Nat} {ts:List (List Int)}
end
theorem Eu {a:List (List Int)} (h: ¬szR (CQ a) 1048576<0):a.length<=1048576/\ ∀r∈a,r.length<=1048576:=Dq (a:=(0,0,a)) h
end T
set_option linter.unusedVariables false
open Go Go.Va
namespace T
def Ce (l:List Int):Option ((List Int)):=
 if([]:List Int).length+l.length<=lim then
 some ([]++l)
 else none
def Be:Nat->((List Int)×Int×Int)->Option ((Unit)⊕(Bool))
 |0,_=>none
 |n+1,(l,n_,i)=>
 if decide (i<(l.length:Int))then
 if inb i l then
 if(gd l i 0)==n_ then
 some (.inr true)
 else
 Be n (l,n_,w64 (i+1))
 else none
 else
 some (.inl ())
def CJ (l:List Int) (n_:Int):Option (Bool):=
 (Be Aa (l,n_,0)).bind λs1=>
  match s1 with
  | .inl s2=>
   some false
  | .inr s3=>
   some s3
def AJ:Nat->((List Int)×Int×Int)->Option ((List Int)×Int)
 |0,_=>none
 |n+1,(a,k,i)=>
 if decide (i<(a.length:Int))then
 if inb i a then
 AJ n (stt a i k,w64 (k+1),w64 (i+1))
 else none
 else
 some (a,k)
def BA (a:List Int) (k:Int):Option ((List Int)×Int):=
 (AJ Aa (a,k,0)).bind λs1=>
 some (s1.1,s1.2)
def AF:Nat->((List (List Int))×Int×Int)->Option ((List (List Int))×Int)
 |0,_=>none
 |n+1,(a,k,i)=>
 if decide (i<(a.length:Int))then
 if inb i a then
 (BA (gd a i []) k).bind λr1=>
 AF n (stt a i r1.1,r1.2,w64 (i+1))
 else none
 else
 some (a,k)
def Bp (a:List (List Int)) (k:Int):Option ((List (List Int))×Int):=
 (AF Aa (a,k,0)).bind λs1=>
 some (s1.1,s1.2)
def AI:Nat->((List Int)×Int×Int)->Option ((Int)⊕(Int))
 |0,_=>none
 |n+1,(a,k,i)=>
 if decide (i<(a.length:Int))then
 if inb i a then
 if(gd a i 0) !=k then
 some (.inr (-1))
 else
 AI n (a,w64 (k+1),w64 (i+1))
 else none
 else
 some (.inl k)
def Bz (a:List Int) (k:Int):Option (Int):=
 (AI Aa (a,k,0)).bind λs1=>
  match s1 with
  | .inl s2=>
   some s2
  | .inr s3=>
   some s3
def AE:Nat->((List (List Int))×Int×Int)->Option ((Int)⊕(Int))
 |0,_=>none
 |n+1,(a,k,i)=>
 if decide (i<(a.length:Int))then
 if inb i a then
 (Bz (gd a i []) k).bind λr1=>
 if decide (r1<0)then
 some (.inr (-1))
 else
 AE n (a,r1,w64 (i+1))
 else none
 else
 some (.inl k)
def Bn (a:List (List Int)) (k:Int):Option (Int):=
 (AE Aa (a,k,0)).bind λs1=>
  match s1 with
  | .inl s2=>
   some s2
  | .inr s3=>
   some s3
end T
open Go Go.Va
namespace T
abbrev Con:=List Int×Int×List (List Int)
abbrev Net:=Int×Int×List Con
theorem Aj {α:Type} {l:List α} {k:Nat} {d:α} (h:k<l.length):l.getD k d=l[k]:=by simp[List.getD_eq_getElem?_getD,h]
end T
open Go Go.Va
namespace T
theorem E6 (a b:Int):(a==b)=decide (a=b):=by by_cases h:a=b<;>simp[h]
theorem E7 (a b:Int):(a !=b)=!decide (a=b):=by by_cases h:a=b<;>simp[h]
def g0 (l:List Int) (i:Nat):Int:=l.getD i 0
section
variable {v n up:Int} {c:Con} {vals:List Int}
theorem CC {l:List Int} (h:l.length<=1099511627775):Ce l=some l:=by
 unfold Ce
 rw[if_pos (by unfold lim;simp;omega)];simp
end
end T
open Go Go.Va
namespace T
abbrev Dom:=List (List Bool)
def mk (bs:List Bool):List Int:=((List.range bs.length).filter λi=>bs.getD i false).map λi:Nat=>(i:Int)
def d2 (d:Dom) (v x:Nat):Bool:=(d.getD v []).getD x false
theorem Ai {α:Type} {l:List α} {i j:Nat} {y d:α}:(l.set i y).getD j d=if i=j/\j<l.length then y else l.getD j d:=by
 simp only[List.getD_eq_getElem?_getD,List.getElem?_set]
 by_cases h:i=j
 ·subst h
  by_cases h2:i<l.length
  ·simp[h2]
  ·simp[h2]
 ·simp[h]
theorem CB {l:List Int} {x:Int} (h:l.length<=1048576):CJ l x=some (decide (x∈l)):=by
 unfold CJ
 rw[E4 l (λn i=>Be n (l,x,i)) (λy=>!decide (y=x)) (.inr true) (.inl ()) ?_ ?_ (by unfold Aa;omega)]
 ·by_cases hx:x∈l
  ·rw[if_neg]
   ·simp[hx]
   ·rw[List.all_eq_true];intro h;have:=h x hx;simp at this
  ·rw[if_pos]
   ·simp[hx]
   ·rw[List.all_eq_true];intro y hy;have:y≠x:=λe=>hx (e▸hy)
    simp[this]
 ·intro n k hk
  simp only[Be,Ac,Ak hk,Ab (show k<4611686018427387904 by omega)]
  by_cases e:l[k]=x<;>simp[hk,e]
 ·intro n;simp[Be]
end T
open Go Go.Va
namespace T
abbrev ASt:=Dom×List (Int×Int×Int)
section
variable {a:Net} {K:Nat} {c:Con}
end
end T
open Go Go.Va
namespace T
def mkL {α:Type} (f:α->Int->α×Int):List α->Int->List α×Int
 | [],k=>([],k)
 |x::l,k=>((f x k).1::(mkL f l (f x k).2).1,(mkL f l (f x k).2).2)
theorem DY {α:Type} (f:α->Int->α×Int): ∀(l:List α) (x:α) (k:Int),mkL f (l++ [x]) k=((mkL f l k).1++ [(f x (mkL f l k).2).1],(f x (mkL f l k).2).2)
 | [],x,k=>by simp[mkL]
 |y::l,x,k=>by
  simp only[List.cons_append,mkL]
  rw[DY f l x]
theorem B3 {α:Type} (f:α->Int->α×Int): ∀(l:List α) (k:Int),(mkL f l k).1.length=l.length
 | [],_=>rfl
 |x::l,k=>by simp[mkL,B3 f l]
theorem C9 {α:Type} {f:α->Int->α×Int} {w:α->Nat}: ∀(l:List α) (k:Int),(∀x∈l,∀k,(f x k).2=k+w x)->(mkL f l k).2=k+((l.map w).sum:Nat)
 | [],k,_=>by simp[mkL]
 |x::l,k,h=>by
  simp only[mkL,List.map_cons,List.sum_cons]
  rw[C9 l _ λy hy=>h y (List.mem_cons_of_mem _ hy),h x (by simp)];push_cast;omega
theorem Fz {α β:Type} (N:Nat) (L:Nat->List α->Int->Int->Option β) (f:α->Int->α×Int) (w:α->Nat) (B:Int) (fin:List α->Int->Option β) (xs:List α) (k0:Int) (hN:xs.length=N) (hw: ∀x∈xs,∀k,(f x k).2=k+w x)
  (h0:0<=k0) (hB:k0+((xs.map w).sum:Nat)<=B)
  (hs: ∀n (a:List α) (k:Int) (i:Nat) (hi:i<N) (hl:a.length=N),a[i]'(by omega)∈xs->0<=k->k+w (a[i]'(by omega))<=B->L (n+1) a k i=L n (a.set i (f (a[i]'(by omega)) k).1) (f (a[i]'(by omega)) k).2 ((i+1:Nat):Int))
  (he: ∀n a k,a.length=N->L (n+1) a k (N:Nat)=fin a k) {n:Nat} (hn:N<n):L n xs k0 0=fin (mkL f xs k0).1 (mkL f xs k0).2:=by
 have far: ∀i,i<=N->(mkL f (xs.take i) k0).2=k0+(((xs.take i).map w).sum:Nat):=λi _=>C9 _ _ λx hx=>hw x (List.mem_of_mem_take hx)
 have:=Du N (λn (s:List α×Int) i=>L n s.1 s.2 i) (λi=>((mkL f (xs.take i) k0).1++xs.drop i,(mkL f (xs.take i) k0).2)) (r:=fin (mkL f xs k0).1 (mkL f xs k0).2) (λn i hi=>?_) (λn=>?_) hn
 ·simpa[mkL]using this
 ·have hix:i<xs.length:=by omega
  have hlen:(mkL f (xs.take i) k0).1.length=i:=by rw[B3];simp;omega
  have hl2:((mkL f (xs.take i) k0).1++xs.drop i).length=N:=by simp[hlen];omega
  have hget:((mkL f (xs.take i) k0).1++xs.drop i)[i]'(by omega)=xs[i]:=by
   rw[List.getElem_append_right (by omega)];simp[hlen]
  have hsum:(((xs.take i).map w).sum:Nat)+w xs[i]<=(xs.map w).sum:=by
   have h1:xs=xs.take i++xs[i]::xs.drop (i+1):=by rw[←List.drop_eq_getElem_cons hix,List.take_append_drop]
   have h2:(xs.map w).sum=((xs.take i).map w).sum+(w xs[i]+((xs.drop (i+1)).map w).sum):=by
    conv=>lhs;rw[h1]
    rw[List.map_append,List.sum_append,List.map_cons,List.sum_cons]
   omega
  have hf:=far i (by omega)
  dsimp only
  rw[hs n _ _ i hi hl2 (by rw[hget];exact List.getElem_mem hix) (by omega) (by rw[hget,hf];omega),hget,List.take_succ_eq_append_getElem hix,DY]
  congr 1
  rw[List.set_append_right _ _ (by omega),hlen,Nat.sub_self,List.drop_eq_getElem_cons hix,List.set_cons_zero,List.append_assoc];rfl
 ·dsimp only
  rw[List.take_of_length_le (by omega),List.drop_of_length_le (by omega),List.append_nil]
  exact he n _ _ (by rw[B3];exact hN)
theorem EH {α:Type} (f:α->Int->α×Int) (h:α->Int->Option Int) (w:α->Nat) (B:Int): ∀(xs:List α) (k0:Int) (L:Nat->Int->Int->Option (Int⊕Int)) (j:Nat),(∀x∈xs,∀k,(f x k).2=k+w x)->0<=k0->k0+((xs.map w).sum:Nat)<=B->
  (∀x∈xs,∀k,0<=k->k+w x<=B->h (f x k).1 k=some (f x k).2)->
  (∀n k (i:Nat) (hi:i<xs.length),0<=k->k+w xs[i]<=B->L (n+1) k ((j+i:Nat):Int)=(h ((mkL f xs k0).1[i]'(by rw[B3];exact hi)) k).bind λq=>if q<0 then some (.inr (-1))else L n q ((j+i+1:Nat):Int))->
  (∀n k,L (n+1) k ((j+xs.length:Nat):Int)=some (.inl k))-> ∀n,xs.length<n->L n k0 (j:Int)=some (.inl (mkL f xs k0).2)
 | [],k0,L,j,_,_,_,_,_,he,n,hn=>by
  obtain⟨n,rfl⟩: ∃m,n=m+1:=⟨n-1,by simp at hn;omega⟩
  have:=he n k0
  simpa[mkL]using this
 |x::xs,k0,L,j,hw,h0,hB,hh,hs,he,n,hn=>by
  obtain⟨n,rfl⟩: ∃m,n=m+1:=⟨n-1,by simp at hn;omega⟩
  rw[List.map_cons,List.sum_cons]at hB
  have hx:=hw x (by simp) k0
  have h1:=hs n k0 0 (by simp) h0 (by simp only[List.getElem_cons_zero];omega)
  simp only[Nat.add_zero,mkL,List.getElem_cons_zero]at h1
  rw[h1,hh x (by simp) k0 h0 (by omega)]
  simp only[Option.bind_some]
  rw[if_neg (by omega)]
  have:=EH f h w B xs (f x k0).2 L (j+1) (λy hy=>hw y (List.mem_cons_of_mem _ hy)) (by omega) (by rw[hx];omega) (λy hy=>hh y (List.mem_cons_of_mem _ hy))
   (λn k i hi hk0 hkB=>by
    have:=hs n k (i+1) (by simpa using hi) hk0 (by simpa using hkB)
    simp only[mkL,List.getElem_cons_succ]at this
    rw[show j+1+i=j+(i+1) by omega];exact this)
   (λn k=>by have:=he n k;rw[List.length_cons]at this;rw[show j+1+xs.length=j+(xs.length+1) by omega];exact this) n (by simp at hn;omega)
  exact this
abbrev BM:Int:=1152921504606846976
def Eo (_:Int) (k:Int):Int×Int:=(k,k+1)
def BT (l:List Int) (k:Int):List Int×Int:=mkL Eo l k
def BU (l:List (List Int)) (k:Int):List (List Int)×Int:=mkL BT l k
theorem Da {α:Type}: ∀(l:List α),(l.map λ_=>1).sum=l.length
 | []=>rfl
 |_::l=>by rw[List.map_cons,List.sum_cons,Da l,List.length_cons];omega
theorem B6 (l:List Int) (k:Int):(BT l k).2=k+(l.length:Nat):=by
 unfold BT
 rw[C9 (w:=λ_=>1) l k λ_ _ _=>rfl,Da]
theorem Dl (l:List (List Int)) (k:Int):(BU l k).2=k+((l.map List.length).sum:Nat):=by
 unfold BU
 rw[C9 (w:=List.length) l k λx _ k=>B6 x k]
theorem Cn {l:List Int} {k:Int} (hl:l.length<=1048576) (h0:0<=k) (hB:k+l.length<=BM):BA l k=some (BT l k):=by
 unfold BA
 have:=Fz l.length (λn a k i=>AJ n (a,k,i)) Eo (λ_=>1) BM (λa k=>some (a,k)) l k rfl (λ_ _ _=>rfl) h0 (by rw[Da];exact hB) (λn a k i hi hl' _ hk0 hkB=>?_) (λn a k hl'=>?_) (n:=Aa) (by unfold Aa;omega)
 ·rw[this];rfl
 ·have hk1:w64 (k+1)=k+1:=AA (by omega) (by unfold BM at hkB;omega)
  simp only[AJ,Ac,Cy,Ab (show i<4611686018427387904 by omega),hk1,Eo]
  simp[hl',hi]
 ·simp[AJ,hl']
theorem DT {l:List Int} {k:Int} (hl:l.length<=1048576) (h0:0<=k) (hB:k+l.length<=BM):Bz (BT l k).1 k=some (BT l k).2:=by
 unfold Bz
 have hlen:(BT l k).1.length=l.length:=B3 _ _ _
 have:=EH Eo (λx k=>if x=k then some (k+1)else some (-1)) (λ_=>1) BM l k (λn k' i=>AI n ((BT l k).1,k',i)) 0 (λ_ _ _=>rfl) h0 (by rw[Da];exact hB) (λx _ k' _ _=>by simp[Eo])
  (λn k' i hi hk0 hkB=>by
   have hi':i<(BT l k).1.length:=by omega
   have hk1:w64 (k'+1)=k'+1:=AA (by omega) (by unfold BM at hkB;omega)
   rw[Nat.zero_add]
   simp only[AI,Ac,Ak hi',Ab (show i<4611686018427387904 by omega),hk1]
   have e:(mkL Eo l k).1[i]'(by rw[B3];exact hi)=(BT l k).1[i]:=rfl
   rw[e]
   by_cases h:(BT l k).1[i]=k'
   ·simp[hi',hi,h,hlen,show¬k'+1<0 by omega]
   ·simp[hi',hi,h,hlen])
  (λn k'=>by rw[Nat.zero_add];simp[AI,hlen]) Aa (by unfold Aa;omega)
 rw[show((0:Nat):Int)=0 from rfl]at this
 rw[this];rfl
theorem CO {l:List (List Int)} {k:Int} (hl:l.length<=1048576) (hr: ∀r∈l,r.length<=1048576) (h0:0<=k) (hB:k+((l.map List.length).sum:Nat)<=BM):Bp l k=some (BU l k):=by
 unfold Bp
 have:=Fz l.length (λn a k i=>AF n (a,k,i)) BT List.length BM (λa k=>some (a,k)) l k rfl (λx _ k=>B6 x k) h0 hB (λn a k i hi hl' hm hk0 hkB=>?_) (λn a k hl'=>?_) (n:=Aa) (by unfold Aa;omega)
 ·rw[this];rfl
 ·have hia:i<a.length:=by omega
  simp only[AF,Ac,Cy,Ak hia,Ab (show i<4611686018427387904 by omega),Cn (hr _ hm) hk0 hkB,Option.bind_some]
  simp[hl',hi]
 ·simp[AF,hl']
theorem DH {l:List (List Int)} {k:Int} (hl:l.length<=1048576) (hr: ∀r∈l,r.length<=1048576) (h0:0<=k) (hB:k+((l.map List.length).sum:Nat)<=BM):Bn (BU l k).1 k=some (BU l k).2:=by
 unfold Bn
 have hlen:(BU l k).1.length=l.length:=B3 _ _ _
 have:=EH BT Bz List.length BM l k (λn k' i=>AE n ((BU l k).1,k',i)) 0 (λx _ k=>B6 x k) h0 hB (λx hx k' hk0 hkB=>DT (hr x hx) hk0 hkB)
  (λn k' i hi hk0 hkB=>by
   have hi':i<(BU l k).1.length:=by omega
   rw[Nat.zero_add]
   simp only[AE,Ac,Ak hi',Ab (show i<4611686018427387904 by omega)]
   have e:(mkL BT l k).1[i]'(by rw[B3];exact hi)=(BU l k).1[i]:=rfl
   rw[e]
   simp[hlen,hi])
  (λn k'=>by rw[Nat.zero_add];simp[AE,hlen]) Aa (by unfold Aa;omega)
 rw[show((0:Nat):Int)=0 from rfl]at this
 rw[this];rfl
end T
open Go Go.Va
namespace T
theorem w1:w64 1=1:=by rw[Db];rfl
theorem w2:w64 2=2:=by rw[Db];rfl
theorem w3:w64 3=3:=by rw[Db];rfl
section
variable {a:Net}
end
end T
set_option linter.unusedVariables false
open Go Go.Va
namespace T
def CU (a:Int×(List Int)) (left:Int):Option (Int):=
 (AW a.2 left).bind λr1=>
 if decide (r1<0)then
 some (-1)
 else
 some r1
def BN (a:Int×(List Int)):Option ((Int×(List Int))):=
 (B2 a.2).bind λr1=>
 some (a.1,r1)
def Bs:Nat->(Int×(Int×(List Int))×Int)->Option ((Unit)⊕(Bool))
 |0,_=>none
 |n+1,(n_,op,i)=>
 if decide (i<(op.2.length:Int))then
 if inb i op.2 then
 (Bx (gd op.2 i 0) 0 (w64 (n_-1))).bind λr3=>
 if !r3 then
 some (.inr false)
 else
 Bs n (n_,(op.1,op.2),w64 (i+1))
 else none
 else
 some (.inl ())
def CX (n_:Int) (op:Int×(List Int)):Option (Bool):=
 (Bx op.1 0 3).bind λr1=>
  if !r1 then
   some false
  else
   (BV n_ op.1).bind λr2=>
    if(op.2.length:Int) !=r2 then
     some false
    else
     (Bs Aa (n_,(op.1,op.2),0)).bind λs3=>
      match s3 with
      | .inl s4=>
       some true
      | .inr s5=>
       some s5
def Cw (f:Int×(List Int)) (n_:Int):Option (Bool):=
 if decide (f.1≥0)then
 if decide (f.1<=3)then
 (Cb n_ f.1).bind λr1=>
 if(f.2.length:Int)==r1 then
 (BC f.2 n_).bind λr2=>
 some r2
 else
 some false
 else
 some false
 else
 some false
def CT (a:Int×(List Int)) (b:Int×(List Int)):Option (Bool):=
 if a.1 !=b.1 then
 some false
 else
 (B0 a.2 b.2).bind λr1=>
 if !r1 then
 some false
 else
 some true
def B1 (a:Int×(List Int)) (k:Int):Option ((Unit×(List Int))×Int):=
 (BA a.2 k).bind λr1=>
 some (((),r1.1),r1.2)
end T
open Go Go.Va
namespace T
abbrev Opn:=Int×List Int
def opB (n:Int) (f:Opn):Bool:=decide (0<=f.1/\f.1<=3)&&decide ((f.2.length:Int)=n^f.1.toNat)&&Ap n f.2
theorem CN {n:Int} (hn:0<=n/\n<=8) {f:Opn} (h:f.2.length<=1048576):Cw f n=some (opB n f):=by
 obtain⟨ar,l⟩:=f
 unfold Cw opB
 by_cases h0:0<=ar
 ·by_cases h1:ar<=3
  ·obtain⟨m,rfl⟩: ∃m:Nat,ar=m:=⟨ar.toNat,by omega⟩
   have hm:Cb n (m:Int)=some (n^m):=Dw hn.1 hn.2 (by omega)
   simp only[ge_iff_le,h0,h1,decide_true,if_true,hm,Option.bind_some,BR n (show l.length<=1099511627775 by simp at h;omega),Int.toNat_natCast,and_self,Bool.true_and,E6]
   by_cases hl:(l.length:Int)=n^m<;>simp[hl]
  ·simp[h0,h1]
 ·simp[h0]
theorem DN {n:Int} (hn:0<=n/\n<=8) {f:Opn} (h:f.2.length<=1048576):CX n f=some (opB n f):=by
 obtain⟨ar,l⟩:=f
 unfold CX opB
 rw[Bq]
 by_cases h0:0<=ar/\ar<=3
 ·obtain⟨m,rfl⟩: ∃m:Nat,ar=m:=⟨ar.toNat,by omega⟩
  have hm:BV n (m:Int)=some (n^m):=CD hn.1 hn.2 (by omega)
  have hw:w64 (n-1)=n-1:=AA (by omega) (by omega)
  have key:=E4 l (λk i=>Bs k (n,((m:Int),l),i)) (λx=>decide (0<=x/\x<n)) (.inr false) (.inl ()) ?_ ?_ (n:=Aa) (by unfold Aa;simp at h;omega)
  ·simp only[h0,and_self,decide_true,Option.bind_some,Bool.not_true,Bool.false_eq_true,if_false,hm,key,Int.toNat_natCast,Bool.true_and,E7]
   by_cases hl:(l.length:Int)=n^m
   ·have:Ap n l=l.all λx=>decide (0<=x/\x<n):=rfl
    rw[this]
    cases l.all (λx=>decide (0<=x/\x<n))<;>simp[hl]
   ·simp[hl]
  ·intro k i hi
   simp only at h
   simp only[Bs,Ac,Ak hi,Bq,hw,Option.bind_some,Ab (show i<4611686018427387904 by omega)]
   by_cases hx:0<=l[i]/\l[i]<n
   ·simp[hi,hx,show l[i]<=n-1 by omega]
   ·have: ¬(0<=l[i]/\l[i]<=n-1):=by omega
    simp[hi,hx,this]
  ·intro k;simp[Bs]
 ·simp[h0]
def inR (n x:Int):Prop:=0<=x/\x<n
section
variable {n:Int} {f:Opn}
variable {a:Net}
theorem Ft {s:Int} (h0:0<=s) (h1:s<=4611686018427387904) (h:f.2.length<=9223372036854775807):CU f s=some (szR f.2.length s):=by
 unfold CU
 rw[DE h0 h1 h]
 unfold szR
 split
 ·simp only[Option.bind_some];rw[if_neg (by simp;omega)]
 ·rfl
theorem Fu (h:f.2.length<=1048576):BN f=some f:=by
 unfold BN;rw[DG (by omega)];rfl
theorem Fb {g:Opn} (h:f.2.length<=1048576):CT f g=some (decide (f=g)):=by
 unfold CT
 rw[DB (by omega)]
 obtain⟨f1,f2⟩:=f
 obtain⟨g1,g2⟩:=g
 by_cases h1:f1=g1
 ·by_cases h2:f2=g2<;>simp[h1,h2]
 ·simp[h1]
theorem Ep {k:Int} (h:f.2.length<=1048576) (h0:0<=k) (hB:k<=1000000000): ∃b k',B1 f k=some (b,k')/\0<=k':=by
 unfold B1
 rw[Cn h h0 (by unfold BM;omega)]
 exact⟨_,_,rfl,by rw[B6];omega⟩
end
end T
set_option linter.unusedVariables false
open Go Go.Va
namespace T
def Ci:Nat->((List Int)×(List Int)×(List Int)×Int×Int)->Option ((List Int))
 |0,_=>none
 |n+1,(g,h,t11,t12,t13)=>
 if decide (t13<t12)then
 if inb t13 t11 then
 if inb (gd t11 t13 0) g then
 if inb t13 h then
 Ci n (g,stt h t13 (gd g (gd t11 t13 0) 0),t11,t12,w64 (t13+1))
 else none
 else none
 else none
 else
 some h
def DK (f:List Int) (g:List Int):Option ((List Int)):=
 if 0<=(f.length:Int)/\(f.length:Int)<=(f.length:Int)/\(f.length:Int)<=lim then
 (Ci Aa (g,List.replicate (Int.toNat (f.length:Int)) (0:Int),f,(f.length:Int),0)).bind λs1=>
 some s1
 else none
end T
open Go Go.Va
namespace T
def Fw (vs:List Int) (v:Int):Int:=vs.getD v.toNat 0
def FU (vs:List Int) (c:Con):Bool:=decide (c.1.map (Fw vs)∈c.2.2)
def Gj (l:List Con) (vs:List Int):Bool:=l.all (FU vs)
def Gg (vars:List Int) (c:Con):Bool:=c.1.all λv=>decide (v∈vars)
def Gh (a:Net) (vars:List Int):List Con:=a.2.2.filter (Gg vars)
section
variable {a:Net}
end
end T
open Go Go.Va
namespace T
theorem DS {α:Type} {k:Nat} {xs:List α} {d:α}:gd xs (k:Int) d=xs.getD k d:=rfl
abbrev T3:=List (List (List Bool))
abbrev T4:=List (List (List (List Bool)))
def Fy (s:Nat) (c:List (List Bool)):Prop:=c.length=s/\ ∀x,x<s->(c.getD x []).length=s
def FQ (n s:Nat) (r:T3):Prop:=r.length=n/\ ∀j,j<n->Fy s (r.getD j [])
def Ok4 (n s:Nat) (t:T4):Prop:=t.length=n/\ ∀i,i<n->FQ n s (t.getD i [])
def r4 (t:T4) (i j x y:Nat):Bool:=(((t.getD i []).getD j []).getD x []).getD y false
def s4 (t:T4) (i j x y:Nat) (b:Bool):T4:=t.set i ((t.getD i []).set j (((t.getD i []).getD j []).set x ((((t.getD i []).getD j []).getD x []).set y b)))
def Ok3 (n m:Nat) (u:T3):Prop:=u.length=n/\ ∀i,i<n->(u.getD i []).length=n/\ ∀j,j<n->((u.getD i []).getD j []).length=m
def r3 (u:T3) (i j p:Nat):Bool:=((u.getD i []).getD j []).getD p false
def s3 (u:T3) (i j p:Nat) (b:Bool):T3:=u.set i ((u.getD i []).set j (((u.getD i []).getD j []).set p b))
section
variable {n s m:Nat} {t:T4} {u:T3}
theorem Ok4.at (h:Ok4 n s t) {i j x:Nat} (hi:i<n) (hj:j<n) (hx:x<s):i<t.length/\j<(t.getD i []).length/\x<((t.getD i []).getD j []).length/\(((t.getD i []).getD j []).getD x []).length=s:=
 ⟨by rw[h.1];exact hi,by rw[(h.2 i hi).1];exact hj,by rw[((h.2 i hi).2 j hj).1];exact hx,((h.2 i hi).2 j hj).2 x hx⟩
theorem Ok3.at (h:Ok3 n m u) {i j:Nat} (hi:i<n) (hj:j<n):i<u.length/\j<(u.getD i []).length/\((u.getD i []).getD j []).length=m:=
 ⟨by rw[h.1];exact hi,by rw[(h.2 i hi).1];exact hj,(h.2 i hi).2 j hj⟩
theorem Ej (h:Ok4 n s t) {i j x y:Nat} {b:Bool}:Ok4 n s (s4 t i j x y b):=by
 unfold s4
 refine⟨by rw[List.length_set];exact h.1,λi' hi'=>?_⟩
 rw[Ai]
 split
 ·rename_i hc
  obtain⟨rfl,_⟩:=hc
  have hr:=h.2 i hi'
  refine⟨by rw[List.length_set];exact hr.1,λj' hj'=>?_⟩
  rw[Ai]
  split
  ·rename_i hc
   obtain⟨rfl,_⟩:=hc
   have hcl:=hr.2 j hj'
   refine⟨by rw[List.length_set];exact hcl.1,λx' hx'=>?_⟩
   rw[Ai]
   split
   ·rename_i hc
    obtain⟨rfl,_⟩:=hc
    rw[List.length_set];exact hcl.2 x hx'
   ·exact hcl.2 x' hx'
  ·exact hr.2 j' hj'
 ·exact h.2 i' hi'
theorem F7 (h:Ok3 n m u) {i j p:Nat} {b:Bool}:Ok3 n m (s3 u i j p b):=by
 unfold s3
 refine⟨by rw[List.length_set];exact h.1,λi' hi'=>?_⟩
 rw[Ai]
 split
 ·rename_i hc
  obtain⟨rfl,_⟩:=hc
  have hr:=h.2 i hi'
  refine⟨by rw[List.length_set];exact hr.1,λj' hj'=>?_⟩
  rw[Ai]
  split
  ·rename_i hc
   obtain⟨rfl,_⟩:=hc
   rw[List.length_set];exact hr.2 j hj'
  ·exact hr.2 j' hj'
 ·exact h.2 i' hi'
theorem Ei (h:Ok4 n s t) {i j x y:Nat} {b:Bool} (hi:i<n) (hj:j<n) (hx:x<s) (hy:y<s) (i' j' x' y':Nat):
  r4 (s4 t i j x y b) i' j' x' y'=if i=i'/\j=j'/\x=x'/\y=y' then b else r4 t i' j' x' y':=by
 obtain⟨h1,h2,h3,h4⟩:=h.at hi hj hx
 unfold r4 s4
 rw[Ai]
 by_cases e1:i=i'
 ·subst e1
  rw[if_pos ⟨rfl,h1⟩,Ai]
  by_cases e2:j=j'
  ·subst e2
   rw[if_pos ⟨rfl,h2⟩,Ai]
   by_cases e3:x=x'
   ·subst e3
    rw[if_pos ⟨rfl,h3⟩,Ai]
    by_cases e4:y=y'
    ·subst e4;rw[if_pos ⟨rfl,by omega⟩,if_pos ⟨rfl,rfl,rfl,rfl⟩]
    ·rw[if_neg (by omega),if_neg (by omega)]
   ·rw[if_neg (by omega),if_neg (by omega)]
  ·rw[if_neg (by omega),if_neg (by omega)]
 ·rw[if_neg (by omega),if_neg (by omega)]
theorem F6 (h:Ok3 n m u) {i j p:Nat} {b:Bool} (hi:i<n) (hj:j<n) (hp:p<m) (i' j' p':Nat):
  r3 (s3 u i j p b) i' j' p'=if i=i'/\j=j'/\p=p' then b else r3 u i' j' p':=by
 obtain⟨h1,h2,h3⟩:=h.at hi hj
 unfold r3 s3
 rw[Ai]
 by_cases e1:i=i'
 ·subst e1
  rw[if_pos ⟨rfl,h1⟩,Ai]
  by_cases e2:j=j'
  ·subst e2
   rw[if_pos ⟨rfl,h2⟩,Ai]
   by_cases e3:p=p'
   ·subst e3;rw[if_pos ⟨rfl,by omega⟩,if_pos ⟨rfl,rfl,rfl⟩]
   ·rw[if_neg (by omega),if_neg (by omega)]
  ·rw[if_neg (by omega),if_neg (by omega)]
 ·rw[if_neg (by omega),if_neg (by omega)]
end
structure Rel34 (n s:Nat) (t:T4) (u:T3):Prop where
 o4:Ok4 n s t
 o3:Ok3 n (s*s) u
 eq: ∀i j x y,i<j->j<n->x<s->y<s->r4 t i j x y=r3 u i j (x*s+y)/\r4 t j i y x=r3 u i j (x*s+y)
theorem E9 {s x y:Nat} (hx:x<s) (hy:y<s):x*s+y<s*s:=by
 have:(x+1)*s<=s*s:=Nat.mul_le_mul_right _ hx
 rw[Nat.succ_mul]at this;omega
theorem EB {s x y x' y':Nat} (hy:y<s) (hy':y'<s) (h:x*s+y=x'*s+y'):x=x'/\y=y':=by
 have h1:(x*s+y)/s=x:=by rw[Nat.mul_comm,Nat.mul_add_div (by omega),Nat.div_eq_of_lt hy];omega
 have h2:(x'*s+y')/s=x':=by rw[Nat.mul_comm,Nat.mul_add_div (by omega),Nat.div_eq_of_lt hy'];omega
 have:x=x':=by rw[←h1,←h2,h]
 subst this
 exact⟨rfl,by omega⟩
theorem Rel34.drop {n s:Nat} {t:T4} {u:T3} (h:Rel34 n s t u) {i j x y:Nat} (hij:i<j) (hj:j<n) (hx:x<s) (hy:y<s):
  Rel34 n s (s4 (s4 t i j x y false) j i y x false) (s3 u i j (x*s+y) false):=by
 refine⟨Ej (Ej h.o4),F7 h.o3,λi' j' x' y' h1 h2 h3 h4=>?_⟩
 have hi:i<n:=by omega
 rw[Ei (Ej h.o4) hj hi hy hx,Ei h.o4 hi hj hx hy,Ei (Ej h.o4) hj hi hy hx,Ei h.o4 hi hj hx hy,F6 h.o3 hi hj (E9 hx hy)]
 obtain⟨e1,e2⟩:=h.eq i' j' x' y' h1 h2 h3 h4
 by_cases e:i=i'/\j=j'/\x=x'/\y=y'
 ·obtain⟨rfl,rfl,rfl,rfl⟩:=e
  simp
 ·have e3: ¬(i=i'/\j=j'/\x*s+y=x'*s+y'):=λ⟨q1,q2,q3⟩=>by
   have:=EB hy h4 q3
   exact e ⟨q1,q2,this.1,this.2⟩
  have e4: ¬(j=i'/\i=j'/\y=x'/\x=y'):=by omega
  have e5: ¬(i=j'/\j=i'/\x=y'/\y=x'):=by omega
  have e6: ¬(j=j'/\i=i'/\y=y'/\x=x'):=by omega
  simp only[if_neg e,if_neg e3,if_neg e4,if_neg e5,if_neg e6]
  exact⟨e1,e2⟩
end T
open Go Go.Va
namespace T
section
variable {a:Net} {n s:Nat} {t:T4} {u:T3}
def V2 (n i j x y:Nat):List Int:=((List.replicate n (0:Int)).set i (x:Int)).set j (y:Int)
def fB (a:Net) (n i j x y:Nat):Bool:=Gj (Gh a [(i:Int),(j:Int)]) (V2 n i j x y)
end
end T
open Go Go.Va
namespace T
section
variable {a:Net} {n s:Nat} {t:T4} {u:T3}
def PA (n s i:Nat) (t:T4):Prop:=t.length=n/\ ∀i',i'<i->FQ n s (t.getD i' [])
def PB (n s i j:Nat) (t:T4):Prop:=PA n s i t/\(t.getD i []).length=n/\ ∀j',j'<j->Fy s ((t.getD i []).getD j' [])
theorem PA.set {i:Nat} (h:PA n s i t) (r:T3):PA n s i (t.set i r):=by
 refine⟨by rw[List.length_set];exact h.1,λi' hi'=>?_⟩
 rw[Ai,if_neg (by omega)];exact h.2 i' hi'
theorem PB.set {i j:Nat} (h:PB n s i j t) (hi:i<n) (c:List (List Bool)):PB n s i j (t.set i ((t.getD i []).set j c)):=by
 have hl:=h.1.1
 refine⟨h.1.set _,?_,λj' hj'=>?_⟩
 ·rw[Ai,if_pos ⟨rfl,by omega⟩,List.length_set];exact h.2.1
 ·rw[Ai,if_pos ⟨rfl,by omega⟩,Ai,if_neg (by omega)];exact h.2.2 j' hj'
end
end T
open Go Go.Va
namespace T
section
variable {a:Net} {n s:Nat} {t:T4} {u:T3}
def cI (o:List Nat):List Int:=o.map λx:Nat=>(x:Int)
theorem EA {o:List Nat} {i:Nat} (h:i<o.length):(cI o).getD i 0=((o.getD i 0:Nat):Int):=by
 unfold cI;rw[Aj (by simpa using h),Aj h];simp
end
end T
set_option linter.unusedVariables false
open Go Go.Va
namespace T
def B9:Nat->((List (List Int))×(List Int)×(List (List Int))×Int)->Option ((List (List Int)))
 |0,_=>none
 |n+1,(line,numbers,out,i)=>
 if decide (i<(numbers.length:Int))then
 if inb i numbers then
 if inb (gd numbers i 0) line then
 if out.length+ [gd line (gd numbers i 0) []].length<=lim then
 B9 n (line,numbers,out++ [gd line (gd numbers i 0) []],w64 (i+1))
 else none
 else none
 else none
 else
 some out
def E0 (line:List (List Int)) (numbers:List Int):Option ((List (List Int))):=
 (B9 Aa (line,numbers,[],0)).bind λs1=>
 some s1
def Bg:Nat->(Int×(List (List Int))×Int×(Int×(List (Int×(List Int))))×(List Int)×Int×Int×Int)->Option (Int×(List (List Int))×Int×(Int×(List (Int×(List Int))))×(List Int)×Int×Int)
 |0,_=>none
 |n+1,(op,tuples,k,a,out,place,at_,i)=>
 if decide (i<(tuples.length:Int))then
 if inb i tuples then
 if inb place (gd tuples i [])then
 Bg n (op,tuples,k,(a.1,a.2),out,place,w64 ((w64 (at_*a.1))+(gd (gd tuples i []) place 0)),w64 (i+1))
 else none
 else none
 else
 some (op,tuples,k,(a.1,a.2),out,place,at_)
def AB:Nat->(Int×(List (List Int))×Int×(Int×(List (Int×(List Int))))×(List Int)×Int)->Option ((List Int))
 |0,_=>none
 |n+1,(op,tuples,k,a,out,place)=>
 if decide (place<k)then
 (Bg Aa (op,tuples,k,(a.1,a.2),out,place,0,0)).bind λs1=>
 if inb s1.1 s1.2.2.2.1.2 then
 if inb s1.2.2.2.2.2.2 ((gd s1.2.2.2.1.2 s1.1 (0,[])).2)then
 if s1.2.2.2.2.1.length+ [gd ((gd s1.2.2.2.1.2 s1.1 (0,[])).2) s1.2.2.2.2.2.2 0].length<=lim then
 AB n (s1.1,s1.2.1,s1.2.2.1,(s1.2.2.2.1.1,s1.2.2.2.1.2),s1.2.2.2.2.1++ [gd ((gd s1.2.2.2.1.2 s1.1 (0,[])).2) s1.2.2.2.2.2.2 0],w64 (s1.2.2.2.2.2.1+1))
 else none
 else none
 else none
 else
 some out
def BK (a:Int×(List (Int×(List Int)))) (op:Int) (tuples:List (List Int)) (k:Int):Option ((List Int)):=
 (AB Aa (op,tuples,k,(a.1,a.2),[],0)).bind λs1=>
 some s1
def A8:Nat->(Int×(List Int)×Int)->Option (((List Int))⊕((List Int)×Bool))
 |0,_=>none
 |n+1,(n_,out,i)=>
 if decide (i≥0)then
 if inb i out then
 if decide ((gd out i 0)<(w64 (n_-1)))then
 if inb i out then
 if inb i out then
 some (.inr (stt out i (w64 ((gd out i 0)+1)),true))
 else none
 else none
 else
 if inb i out then
 A8 n (n_,stt out i 0,w64 (i-1))
 else none
 else none
 else
 some (.inl out)
def BE (list:List Int) (n_:Int):Option ((List Int)×Bool):=
 (Ce list).bind λr1=>
  (A8 Aa (n_,r1,w64 ((r1.length:Int)-1))).bind λs2=>
   match s2 with
   | .inl s3=>
    some (s3,false)
   | .inr s4=>
    some (s4.1,s4.2)
def AQ:Nat->((List Int)×(List Int)×Int×Int)->Option ((List Int))
 |0,_=>none
 |n+1,(b,t10,t11,t12)=>
 if decide (t12<t11)then
 if inb t12 t10 then
 if(0:Int)<=8 then
 if b.length+ [IntKind.wrap .u8 (YiD .i64 (gd t10 t12 0) 8),IntKind.wrap .u8 (gd t10 t12 0)].length<=lim then
 AQ n (b++ [IntKind.wrap .u8 (YiD .i64 (gd t10 t12 0) 8),IntKind.wrap .u8 (gd t10 t12 0)],t10,t11,w64 (t12+1))
 else none
 else none
 else none
 else
 some b
def BS (list:List Int):Option (ByteArray):=
 if(0:Int)<=0/\(0:Int)<=(w64 (2*(list.length:Int)))/\(w64 (2*(list.length:Int)))<=lim then
 (AQ Aa (List.replicate (Int.toNat 0) (0:Int),list,(list.length:Int),0)).bind λs1=>
 some (Ybp s1)
 else none
end T
open Go Go.Va
namespace T
def kb (l:List Int):List Int:=l.flatMap λx=> [0,x]
def Dx (l:List Int):ByteArray:=Ybp (kb l)
theorem D3 {x:Int} (h0:0<=x) (h1:x<256):IntKind.wrap .u8 x=x:=by
 simp[IntKind.wrap,IntKind.bits,IntKind.signed]
 omega
theorem Et {x:Int} (h0:0<=x) (h1:x<256):YiD .i64 x 8=0:=by
 unfold YiD
 have:(min (8:Int).toNat IntKind.i64.bits)=8:=by decide
 rw[this,Int.fdiv_eq_ediv_of_nonneg _ (by decide)]
 have:(2:Int)^8=256:=by decide
 rw[this];omega
theorem Dv {l:List Int} (hl:l.length<=1048576) (hv: ∀x∈l,0<=x/\x<256):BS l=some (Dx l):=by
 unfold BS
 have e2:w64 (2*(l.length:Int))=2*(l.length:Int):=AA (by omega) (by omega)
 rw[e2,if_pos (by unfold lim;omega)]
 have kbl: ∀k,k<=l.length->(kb (l.take k)).length=2*k:=by
  intro k hk
  have: ∀l:List Int,(kb l).length=2*l.length:=by
   intro l
   induction l with
   |nil=>rfl
   |cons x l ih=>unfold kb at ih⊢;simp only[List.flatMap_cons,List.length_append,ih,List.length_cons,List.length_nil];omega
  rw[this];simp;omega
 have:=Du l.length (λm o i=>AQ m (o,l,(l.length:Int),i)) (λk=>kb (l.take k)) (r:=some (kb l)) (λm k hk=>?_) (λm=>?_) (n:=Aa) (by unfold Aa;omega)
 ·have e0:kb (l.take 0)= []:=rfl
  rw[e0]at this
  have:AQ Aa (List.replicate (Int.toNat 0) (0:Int),l,(l.length:Int),0)=some (kb l):=this
  rw[this];rfl
 ·have hx:=hv _ (List.getElem_mem hk)
  have hlen:=kbl k (by omega)
  have e:kb (l.take (k+1))=kb (l.take k)++ [0,l[k]]:=by
   unfold kb;rw[List.take_succ_eq_append_getElem hk,List.flatMap_append];simp
  simp only[AQ,Ac,Ak hk,Ab (show k<4611686018427387904 by omega),D3 hx.1 hx.2,Et hx.1 hx.2,D3 (show(0:Int)<=0 by omega) (show(0:Int)<256 by omega),e]
  rw[if_pos (by simp;omega),if_pos hk,if_pos (by omega),if_pos (by unfold lim;simp;omega)]
 ·simp only[AQ,List.take_length]
  rw[if_neg (by simp)]
theorem CE: ∀(xs:List Int) (s:ByteArray),(xs.foldl (λs n=>s.push (UInt8.ofNat n.toNat)) s).data=s.data++(xs.map λn=>UInt8.ofNat n.toNat).toArray
 | [],s=>by simp
 |x::xs,s=>by
  rw[List.foldl_cons,CE xs]
  apply Array.ext'
  simp[ByteArray.push]
theorem EJ: ∀(l l':List Int),(∀x∈l,0<=x/\x<256)->(∀x∈l',0<=x/\x<256)->(kb l).map (λn=>UInt8.ofNat n.toNat)=(kb l').map (λn=>UInt8.ofNat n.toNat)->l=l'
 | [],[],_,_,_=>rfl
 | [],y::l',_,_,h=>by simp[kb]at h
 |x::l,[],_,_,h=>by simp[kb]at h
 |x::l,y::l',hv,hv',h=>by
  simp only[kb,List.flatMap_cons,List.map_append,List.map_cons,List.map_nil,List.cons_append,List.nil_append,List.cons.injEq,true_and]at h
  obtain⟨h1,h2⟩:=h
  have hx:=hv x (by simp)
  have hy:=hv' y (by simp)
  have h1:=congrArg UInt8.toNat h1
  simp only[UInt8.toNat_ofNat']at h1
  have:x=y:=by omega
  rw[this,EJ l l' (λz hz=>hv z (List.mem_cons_of_mem _ hz)) (λz hz=>hv' z (List.mem_cons_of_mem _ hz)) h2]
theorem EK {l l':List Int} (hv: ∀x∈l,0<=x/\x<256) (hv': ∀x∈l',0<=x/\x<256) (h:Dx l=Dx l'):l=l':=by
 have h:=congrArg ByteArray.data h
 unfold Dx Ybp at h
 rw[CE,CE]at h
 have h:=congrArg Array.toList h
 simp only[Array.toList_append]at h
 exact EJ l l' hv hv' (List.append_cancel_left h)
theorem Ez {a b:ByteArray}:(a==b)=decide (a=b):=by
 show(a.data==b.data)=_
 rw[Bool.eq_iff_iff,beq_iff_eq,decide_eq_true_eq]
 exact⟨λh=>ByteArray.ext h,λh=>congrArg ByteArray.data h⟩
theorem DX {ks:List ByteArray} {s:ByteArray}:Xs ks s=true↔s∈ks:=by
 unfold Xs
 rw[List.any_eq_true]
 constructor
 ·rintro ⟨k,h1,h2⟩;rw[Ez,decide_eq_true_eq]at h2;subst h2;exact h1
 ·intro h;exact⟨s,h,by rw[Ez];simp⟩
theorem EP {ks:List ByteArray} {s t:ByteArray}:t∈YhI ks s↔t∈ks∨t=s:=by
 unfold YhI
 by_cases h:Xs ks s=true
 ·rw[if_pos h]
  exact⟨.inl,λh'=>h'.elim id λe=>e▸DX.1 h⟩
 ·rw[if_neg h];simp
def CS (l:List (List Int)):List ByteArray:=l.foldl (λks t=>YhI ks (Dx t)) []
theorem EL {l:List (List Int)} {s:ByteArray}:s∈CS l↔ ∃t∈l,s=Dx t:=by
 have key: ∀(l:List (List Int)) (ks:List ByteArray),s∈l.foldl (λks t=>YhI ks (Dx t)) ks↔s∈ks∨ ∃t∈l,s=Dx t:=by
  intro l
  induction l with
  |nil=>intro ks;simp
  |cons t l ih=>
   intro ks
   rw[List.foldl_cons,ih,EP]
   simp only[List.mem_cons,exists_eq_or_imp,or_assoc]
 unfold CS;rw[key];simp
theorem Er {l:List (List Int)} {t:List Int} (hl: ∀t∈l,∀x∈t,0<=x/\x<256) (ht: ∀x∈t,0<=x/\x<256):Xs (CS l) (Dx t)=decide (t∈l):=by
 rw[Bool.eq_iff_iff,DX,decide_eq_true_eq,EL]
 constructor
 ·rintro ⟨u,h1,h2⟩;rw[EK ht (hl u h1) h2];exact h1
 ·intro h;exact⟨t,h,rfl⟩
def dg (b:Nat):Nat->Nat->List Nat
 |0,_=> []
 |k+1,i=>dg b k (i/b)++ [i%b]
theorem De {b:Nat}: ∀ {k i:Nat},(dg b k i).length=k
 |0,_=>rfl
 |k+1,i=>by simp[dg,De (k:=k)]
theorem Ec {b:Nat} (hb:0<b): ∀ {k i:Nat},∀x∈dg b k i,x<b
 |0,_,x,h=>by simp[dg]at h
 |k+1,i,x,h=>by
  simp only[dg]at h
  rcases List.mem_append.1 h with h|h
  ·exact Ec hb x h
  ·simp at h;subst h;exact Nat.mod_lt _ hb
theorem Ed {b:Nat}: ∀ {k:Nat},dg b k 0=List.replicate k 0
 |0=>rfl
 |k+1=>by simp[dg,Ed (k:=k),List.replicate_succ']
theorem Ck {o:List Nat}:(cI o).length=o.length:=by unfold cI;simp
end T
open Go Go.Va
namespace T
def vt (ts:List (List Int)) (x j:Nat):Nat:=((ts.getD x []).getD j 0).toNat
def atF (n:Nat) (ts:List (List Int)) (j:Nat) (args:List Nat):Nat:=args.foldl (λa x=>a*n+vt ts x j) 0
section
variable {n k m:Nat} {op:Opn} {r:Int×List (List Int)}
theorem Fo {n k:Nat} (hn:n<=64) (hk:k<=3):n^k<=262144:=by
 have h1:n^k<=64^k:=Nat.pow_le_pow_left hn k
 have h2:64^k<=64^3:=Nat.pow_le_pow_right (by omega) hk
 have:(64:Nat)^3=262144:=by decide
 omega
end
end T
open Go Go.Va
namespace T
section
variable {n k m:Nat} {op:Opn} {r:Int×List (List Int)}
theorem FZ {b:Nat} (hb:0<b) (hb8:b<=64) (hk:k<=3): ∀(j q f:Nat),j<=k->j<f->q<b^j->
  A8 f ((b:Int),cI (dg b j q++List.replicate (k-j) 0),(j:Int)-1)=some (if q+1<b^j then .inr (cI (dg b j (q+1)++List.replicate (k-j) 0),true)else .inl (cI (List.replicate k 0))):=by
 intro j
 induction j with
 |zero=>
  intro q f _ hf hq
  obtain⟨f,rfl⟩: ∃z,f=z+1:=⟨f-1,by omega⟩
  simp only[A8]
  rw[if_neg (by simp),if_neg (by simp)]
  simp[dg]
 |succ j ih=>
  intro q f hj hf hq
  obtain⟨f,rfl⟩: ∃z,f=z+1:=⟨f-1,by omega⟩
  have e1:((j+1:Nat):Int)-1=(j:Int):=by omega
  have hdl:(dg b j (q/b)).length=j:=De
  have hz:List.replicate (k-j) 0=0::List.replicate (k-(j+1)) 0:=by rw[show k-j=(k-(j+1))+1 by omega,List.replicate_succ]
  have hfull:dg b (j+1) q++List.replicate (k-(j+1)) 0=dg b j (q/b)++q%b::List.replicate (k-(j+1)) 0:=by simp[dg]
  have hset: ∀y:Nat,(cI (dg b j (q/b)++q%b::List.replicate (k-(j+1)) 0)).set j (y:Int)=cI (dg b j (q/b)++y::List.replicate (k-(j+1)) 0):=λy=>by
   unfold cI
   rw[List.map_append,List.map_append,List.map_cons,List.map_cons,List.set_append_right _ _ (by simp[hdl])]
   simp[hdl]
  have hlen:j<(cI (dg b j (q/b)++q%b::List.replicate (k-(j+1)) 0)).length:=by rw[Ck];simp[hdl]
  have hget:(cI (dg b j (q/b)++q%b::List.replicate (k-(j+1)) 0)).getD j 0=((q%b:Nat):Int):=by
   rw[EA (by simp[hdl])]
   rw[Aj (by simp[hdl]),List.getElem_append_right (by omega)]
   simp[hdl]
  have hmod:q%b<b:=Nat.mod_lt _ hb
  have hdm:b*(q/b)+q%b=q:=Nat.div_add_mod q b
  have hpow:b^(j+1)=b*b^j:=by rw[Nat.pow_succ,Nat.mul_comm]
  have hqd:q/b<b^j:=by
   rcases Nat.lt_or_ge (q/b) (b^j)with h|h
   ·exact h
   ·have:b*b^j<=b*(q/b):=Nat.mul_le_mul_left _ h
    omega
  have w1:w64 ((b:Int)-1)=(b:Int)-1:=AA (by omega) (by omega)
  have w2:w64 ((j:Int)-1)=(j:Int)-1:=AA (by omega) (by omega)
  have hge:decide ((j:Int)≥0)=true:=by simp
  rw[e1,hfull]
  simp only[A8,hge,if_true,Ac,hlen,DS,hget,w1,Cy]
  by_cases hc:q%b+1<b
  ·have hlt:q+1<b^(j+1):=by
    have:b*(q/b+1)<=b*b^j:=Nat.mul_le_mul_left _ hqd
    rw[Nat.mul_succ]at this;omega
   have hd1:(q+1)/b=q/b:=by
    rw[Nat.div_eq_iff hb];rw[Nat.mul_comm]at hdm;constructor<;>omega
   have hm1:(q+1)%b=q%b+1:=by
    have:=Nat.div_add_mod (q+1) b
    rw[hd1]at this;omega
   have w3:w64 (((q%b:Nat):Int)+1)=((q%b+1:Nat):Int):=Ab (by omega)
   rw[if_pos (by simp;omega),w3,hset,if_pos hlt]
   simp[dg,hd1,hm1]
  ·have hlast:q%b=b-1:=by omega
   have ihx:=ih (q/b) f (by omega) (by omega) hqd
   have hset0:=hset 0
   have hset0:(cI (dg b j (q/b)++q%b::List.replicate (k-(j+1)) 0)).set j 0=cI (dg b j (q/b)++0::List.replicate (k-(j+1)) 0):=hset0
   rw[if_neg (by simp;omega),hset0,w2,←hz,ihx]
   have hq1:q+1=b*(q/b+1):=by rw[Nat.mul_succ];omega
   have hiff:q+1<b^(j+1)↔q/b+1<b^j:=by
    rw[hq1,hpow];exact Nat.mul_lt_mul_left hb
   have hd1:(q+1)/b=q/b+1:=by rw[hq1,Nat.mul_div_cancel_left _ hb]
   have hm1:(q+1)%b=0:=by rw[hq1,Nat.mul_mod_right]
   by_cases h2:q/b+1<b^j
   ·rw[if_pos h2,if_pos (hiff.2 h2)]
    have:dg b j (q/b+1)++List.replicate (k-j) 0=dg b (j+1) (q+1)++List.replicate (k-(j+1)) 0:=by
     rw[hz];simp[dg,hd1,hm1]
    rw[this]
   ·rw[if_neg h2,if_neg λh=>h2 (hiff.1 h)]
theorem Cv {b:Nat} (hb:0<b) (hb8:b<=64) (hk:k<=3) {i:Nat} (hi:i<b^k):
  BE (cI (dg b k i)) (b:Int)=some (if i+1<b^k then(cI (dg b k (i+1)),true)else(cI (List.replicate k 0),false)):=by
 have hl:(cI (dg b k i)).length=k:=by rw[Ck,De]
 have hown:=CC (l:=cI (dg b k i)) (by omega)
 have w1:w64 ((k:Int)-1)=(k:Int)-1:=AA (by omega) (by omega)
 have:=FZ (k:=k) hb hb8 hk k i Aa (Nat.le_refl _) (by unfold Aa;omega) hi
 simp only[Nat.sub_self,List.replicate_zero,List.append_nil]at this
 unfold BE
 rw[hown]
 simp only[Option.bind_some,hl,w1,this]
 by_cases h:i+1<b^k
 ·simp[h]
 ·simp[h]
end
end T
set_option linter.unusedVariables false
open Go Go.Va
namespace T
def C1 (a:Int) (b:Int):Option (Int):=
 if decide (a>b)then
 some a
 else
 some b
def Bv (list:List Int):Option ((List Int)):=
 if([]:List Int).length+list.length<=lim then
 some ([]++list)
 else none
end T
open Go Go.Va
namespace T
def Ev (n i:Nat):Int:=((((i/(n*n)+n)-(i/n)%n+i%n)%n:Nat):Int)
section
variable {n:Nat}
theorem Fa (h:1<=n/\n<=8):n*n<=64/\n*n*n<=512/\1<=n*n:=by
 have h2:n*n<=8*8:=Nat.mul_le_mul h.2 h.2
 have h3:n*n*n<=64*8:=Nat.mul_le_mul h2 h.2
 have h4:1*1<=n*n:=Nat.mul_le_mul h.1 h.1
 omega
end
end T
open Go Go.Va
namespace T
abbrev DP:=Int×List (List Int)
structure ROk (n m:Nat) (r:DP):Prop where
 ar:r.1=(m:Int)
 hm:1<=m/\m<=3
 tl: ∀t∈r.2,t.length=m
 tv: ∀t∈r.2,∀x∈t,0<=x/\x<(n:Int)
 many:r.2.length<=64
 inc:Bw r.2=true
def PL (n k:Nat) (r:DP) (i:Nat):List Nat:=(List.range r.1.toNat).map λj=>atF n r.2 j (dg r.2.length k i)
section
variable {n k m:Nat} {r:DP}
theorem ROk.pl_len (h:ROk n m r) {i:Nat}:(PL n k r i).length=m:=by unfold PL;simp;have:=h.ar;omega
end
end T
open Go Go.Va
namespace T
section
variable {n:Int} {rels:List DP}
end
def C2 (V:List Int) (x:Nat):Int:=match V.findIdx? (λy=>y==(x:Int))with|some i=>(i:Int)|none=> -1
section
variable {n:Nat} {t:List Int}
end
section
variable {n m:Nat} {t:List Int} {r:DP} {rels:List DP}
end
end T
set_option linter.unusedVariables false
open Go Go.Va
namespace T
def Au:Nat->((List (List Int))×(List (List Int))×Int×Int)->Option ((List (List Int)))
 |0,_=>none
 |n+1,(list,t7,t8,t9)=>
 if decide (t9<t8)then
 if inb t9 t7 then
 (Bv (gd t7 t9 [])).bind λr1=>
 if list.length+ [r1].length<=lim then
 Au n (list++ [r1],t7,t8,w64 (t9+1))
 else none
 else none
 else
 some list
def BQ (rows:List (List Int)):Option ((List (List Int))):=
 (Au Aa ([],rows,(rows.length:Int),0)).bind λs1=>
 some s1
end T
open Go Go.Va
namespace T
section
variable {α:Type} {nw old:Nat->α} {N i:Nat}
end
def pr4 (p:Int):Prop:=p=2∨p=3∨p=5∨p=7
def Eg (p:Int) (W:Nat) (r:List Int):Prop:=r.length=W/\ ∀x∈r,0<=x/\x<p
section
variable {p:Int} {W:Nat} {r row:List Int}
theorem FL (h:Eg p W r) {i:Nat} (hi:i<W):0<=r.getD i 0/\r.getD i 0<p:=by
 have:i<r.length:=by rw[h.1];exact hi
 rw[Aj this];exact h.2 _ (List.getElem_mem this)
end
abbrev ES:=List (List Int)×List Int×List (List Int)
structure ESok (p:Int) (W N v:Nat) (s:ES):Prop where
 t: ∀r∈s.1,Eg p W r
 l: ∀r∈s.2.2,Eg p W r
 bl:s.2.1.length=s.1.length
 n:s.1.length+s.2.2.length=N
 bv: ∀x∈s.2.1,0<=x/\x<(v:Int)
 bn:s.2.1.Nodup
section
variable {p:Int} {W N:Nat}
end
end T
open Go Go.Va
namespace T
section
variable {p:Int} {W N V:Nat}
theorem Es {b:List Int} {u:Nat} (h:(u:Int)∉b):C2 b u= -1:=by
 unfold C2
 have h1:(b.findIdx? λy=>y==(u:Int))=none:=by
  rw[List.findIdx?_eq_none_iff]
  intro y hy
  simp only[beq_eq_false_iff_ne]
  intro e;exact h (e▸hy)
 rw[h1]
theorem Eh {b:List Int} {u:Nat} (h:(u:Int)∈b): ∃i,∃hi:i<b.length,C2 b u=(i:Int)/\b[i]=(u:Int):=by
 unfold C2
 have h1:(b.findIdx? λy=>y==(u:Int)).isSome=true:=by
  rw[List.findIdx?_isSome,List.any_eq_true]
  exact⟨_,h,by simp⟩
 obtain⟨i,hi⟩:=Option.isSome_iff_exists.1 h1
 rw[hi]
 obtain⟨g1,g2,_⟩:=List.findIdx?_eq_some_iff_getElem.1 hi
 exact⟨i,g1,rfl,by simpa using g2⟩
end
end T
open Go Go.Va
namespace T
def FW (N:Nat) (b:List Int):List Int:=((List.range N).filter λv:Nat=>!decide ((v:Int)∈b)).map λv:Nat=>(v:Int)
section
variable {p:Int} {W N V:Nat}
theorem ER {b:List Int} {u:Nat}:C2 b u<0↔(u:Int)∉b:=by
 by_cases h:(u:Int)∈b
 ·obtain⟨i,hi,h1,_⟩:=Eh h
  rw[h1];simp[h]
 ·rw[Es h];simp[h]
def EW (V:Nat) (s:ES) (u:Nat):Int:=if C2 s.2.1 u<0 then 0 else(s.1.getD (C2 s.2.1 u).toNat []).getD V 0
def F9 (V:Nat) (s:ES):List Int:=(List.range V).map (EW V s)
end
end T
open Go Go.Va
namespace T
section
variable {a:Lin}
theorem FO {t:Nat} (h: ¬szR t 1048576<0):t<=1048576:=by
 unfold szR at h;split at h<;>omega
end
end T
open Go Go.Va
namespace T
section
variable {a:Lin} {p:Int} {W N V:Nat}
theorem D2: ∀ {l:List (List Int)},(∀r∈l,r.length<=16)->(l.map List.length).sum<=16*l.length
 | [],_=>by simp
 |r::l,h=>by
  have:=D2 (l:=l) λq hq=>h q (List.mem_cons_of_mem _ hq)
  have:=h r (by simp)
  rw[List.map_cons,List.sum_cons,List.length_cons];omega
end
end T
open Go Go.Va
namespace T
def cg (p a b:Int):Prop:= ∃k,a=b+p*k
section
variable {p a b c d:Int}
theorem Eb (h:a=b):cg p a b:=⟨0,by rw[h];simp⟩
theorem FF (h:cg p a b) (g:cg p c d):cg p (a+c) (b+d):=by obtain⟨k,h⟩:=h;obtain⟨m,g⟩:=g;exact⟨k+m,by grind⟩
theorem FG (x:Int) (h:cg p a b):cg p (x*a) (x*b):=by obtain⟨k,h⟩:=h;exact⟨x*k,by grind⟩
end
inductive Sp (p:Int) (V:Nat) (A:List (List Int)):(Nat->Int)->Prop
 |zero:Sp p V A λ_=>0
 |add {f:Nat->Int} (r:List Int) (c:Int):r∈A->Sp p V A f->Sp p V A λi=>f i+c*r.getD i 0
 |cgr {f g:Nat->Int}:Sp p V A f->(∀i,i<V->cg p (g i) (f i))->Sp p V A g
section
variable {p:Int} {V W N:Nat} {A B:List (List Int)} {f g:Nat->Int}
theorem Sp.lin (hf:Sp p V A f) (hg:Sp p V A g) (c:Int):Sp p V A λi=>f i+c*g i:=by
 induction hg with
 |zero=>exact hf.cgr λi _=>Eb (by simp)
 |add r d hr _ ih=>exact(ih.add r (c*d) hr).cgr λi _=>Eb (by grind)
 |cgr _ h ih=>exact ih.cgr λi hi=>FF (Eb rfl) (FG c (h i hi))
theorem Sp.mem {r:List Int} (h:r∈A):Sp p V A λi=>r.getD i 0:=(Sp.add r 1 h .zero).cgr λi _=>Eb (by simp)
theorem Sp.sub (h: ∀r∈A,Sp p V B λi=>r.getD i 0) (hf:Sp p V A f):Sp p V B f:=by
 induction hf with
 |zero=>exact .zero
 |add r c hr _ ih=>exact ih.lin (h r hr) c
 |cgr _ h ih=>exact ih.cgr h
def eqSp (p:Int) (V:Nat) (A B:List (List Int)):Prop:= ∀f,Sp p V A f↔Sp p V B f
theorem Fe (h: ∀r∈A,Sp p V B λi=>r.getD i 0) (g: ∀r∈B,Sp p V A λi=>r.getD i 0):eqSp p V A B:=λ_=>⟨Sp.sub h,Sp.sub g⟩
end
end T
open Go Go.Va
namespace T
section
variable {p:Int} {V W N:Nat} {A B:List (List Int)} {f g:Nat->Int}
theorem Bc {α:Type} {l:List α} {i:Nat} {d:α} (hi:i<l.length):l.getD i d∈l:=by rw[Aj hi];exact List.getElem_mem hi
end
end T
open Go Go.Va
namespace T
section
variable {p:Int} {V W N:Nat} {A B C D:List (List Int)} {f g:Nat->Int}
theorem eqSp.symm (h:eqSp p V A B):eqSp p V B A:=λf=>(h f).symm
theorem eqSp.trans (h:eqSp p V A B) (g:eqSp p V B C):eqSp p V A C:=λf=>(h f).trans (g f)
theorem eqSp.app (h:eqSp p V A B):eqSp p V (A++C) (B++C):=by
 have key: ∀ {A B:List (List Int)},eqSp p V A B-> ∀r∈A++C,Sp p V (B++C) λi=>r.getD i 0:=fun {A B} h r hr=>by
  rcases List.mem_append.1 hr with hr|hr
  ·exact Sp.sub (λq hq=>Sp.mem (List.mem_append_left _ hq)) ((h _).1 (Sp.mem hr))
  ·exact Sp.mem (List.mem_append_right _ hr)
 exact Fe (key h) (key h.symm)
end
end T
open Go Go.Va
namespace T
def i64 (x:Int):Prop:= -9223372036854775808<=x/\x<=9223372036854775807
section
variable {c:List Int} {ar:Int}
end
end T
open Go Go.Va
namespace T
abbrev NS:=Bool×Int×List (List (List Int))×List (List (List ByteArray))
abbrev NIn (σ:Type):=Int×List Int×σ×NS×List Int×Unit
abbrev E1 (σ:Type):=List Int×σ×NS×List Int×Bool
def hM {σ:Type}:Nat->(Int×List Int×σ×NS×List Int×Unit×Int×Bool×List (List Int)×Int×Int)->Option (Int×List Int×σ×NS×List Int×Unit×Int×Bool)
 |0,_=>none
 |n+1,(t0,t1,t2,t3,t4,t5,t8,t9,t50,t51,t52)=>
 if decide (t52<t51)then
 if inb t52 t50 then
 if t9 then
 if t3.1=true then
 if inb t0 t3.2.2.2 then
 if inb t52 (gd t3.2.2.2 t0 [])then
 (DK (gd t50 t52 []) t1).bind λr2=>
 (BS r2).bind λr3=>
 hM n (t0,t1,t2,t3,t4,(),t8,Xs (gd (gd t3.2.2.2 t0 []) t52 []) r3,t50,t51,w64 (t52+1))
 else none
 else none
 else none
 else
 hM n (t0,t1,t2,t3,t4,(),t8,false,t50,t51,w64 (t52+1))
 else none
 else
 some (t0,t1,t2,t3,t4,(),t8,t9)
def hL {σ:Type} (rec:NIn σ->Option (E1 σ)):Nat->(Int×List Int×σ×NS×List Int×Unit×Int)->Option ((List Int×σ×NS×List Int×Unit)⊕(List Int×σ×NS×List Int×Unit×Bool))
 |0,_=>none
 |n+1,(t0,t1,t2,t3,t4,t5,t8)=>
 if t3.1=true then
 if decide (t8<t3.2.1)then
 if inb t0 t4 then
 if decide ((gd t4 t0 0)≥0)then
 if inb t0 t4 then
 if(gd t4 t0 0) !=t8 then
 hL rec n (t0,t1,t2,t3,t4,(),w64 (t8+1))
 else
 if inb t0 t1 then
 if t3.1=true then
 if inb t0 t3.2.2.1 then
 (hM Aa (t0,stt t1 t0 t8,t2,t3,t4,(),t8,true,gd t3.2.2.1 t0 [],((gd t3.2.2.1 t0 []).length:Int),0)).bind λs2=>
 if s2.2.2.2.2.2.2.2 then
 (rec (w64 (s2.1+1),s2.2.1,s2.2.2.1,s2.2.2.2.1,s2.2.2.2.2.1,())).bind λr3=>
 if !r3.2.2.2.2 then
 some (.inr (r3.1,r3.2.1,r3.2.2.1,r3.2.2.2.1,(),false))
 else
 hL rec n (s2.1,r3.1,r3.2.1,r3.2.2.1,r3.2.2.2.1,(),w64 (s2.2.2.2.2.2.2.1+1))
 else
 hL rec n (s2.1,s2.2.1,s2.2.2.1,s2.2.2.2.1,s2.2.2.2.2.1,(),w64 (s2.2.2.2.2.2.2.1+1))
 else none
 else none
 else none
 else none
 else
 if inb t0 t1 then
 if t3.1=true then
 if inb t0 t3.2.2.1 then
 (hM Aa (t0,stt t1 t0 t8,t2,t3,t4,(),t8,true,gd t3.2.2.1 t0 [],((gd t3.2.2.1 t0 []).length:Int),0)).bind λs4=>
 if s4.2.2.2.2.2.2.2 then
 (rec (w64 (s4.1+1),s4.2.1,s4.2.2.1,s4.2.2.2.1,s4.2.2.2.2.1,())).bind λr5=>
 if !r5.2.2.2.2 then
 some (.inr (r5.1,r5.2.1,r5.2.2.1,r5.2.2.2.1,(),false))
 else
 hL rec n (s4.1,r5.1,r5.2.1,r5.2.2.1,r5.2.2.2.1,(),w64 (s4.2.2.2.2.2.2.1+1))
 else
 hL rec n (s4.1,s4.2.1,s4.2.2.1,s4.2.2.2.1,s4.2.2.2.2.1,(),w64 (s4.2.2.2.2.2.2.1+1))
 else none
 else none
 else none
 else none
 else
 some (.inl (t1,t2,t3,t4,()))
 else none
def FX {σ:Type} (cb:List Int->σ->Option (σ×Bool)) (rec:NIn σ->Option (E1 σ)) (x:NIn σ):Option (E1 σ):=
 if x.1==(x.2.1.length:Int)then
  (cb x.2.1 x.2.2.1).bind λr1=>some (x.2.1,r1.1,x.2.2.2.1,x.2.2.2.2.1,r1.2)
 else
  (hL rec Aa (x.1,x.2.1,x.2.2.1,x.2.2.2.1,x.2.2.2.2.1,(),0)).bind λs2=>
   match s2 with
   | .inl s3=>some (s3.1,s3.2.1,s3.2.2.1,s3.2.2.2.1,true)
   | .inr s4=>some (s4.1,s4.2.1,s4.2.2.1,s4.2.2.2.1,s4.2.2.2.2.2)
def hF {σ:Type} (cb:List Int->σ->Option (σ×Bool)):Nat->NIn σ->Option (E1 σ)
 |0,_=>none
 |d+1,x=>FX cb (hF cb d) x
section
variable {V n:Nat} {cs:List Con} {given:List Int}
end
end T
open Go Go.Va
namespace T
abbrev FP:=List Int×Int×Int
def Cur (k:Nat) (c:FP):Prop:=c.1.length<=65536/\(∀x∈c.1,0<=x/\x<256)/\0<=c.2.1/\c.2.1<=(k:Int)
theorem Cur.mono {c:FP} {i j:Nat} (hij:i<=j):Cur i c->Cur j c:=λ⟨a,b,d,e⟩=>⟨a,b,d,by omega⟩
end T
set_option linter.unusedVariables false
open Go Go.Va
namespace T
def Cg (list:List (List Int)) (t:List Int):Option ((List (List Int))):=
 (A7 list t).bind λr1=>
 if r1.2 then
 some list
 else
 if(0:Int)<=0/\0<=r1.1/\r1.1<=(list.length:Int)then
 if([]:List (List Int)).length+((list.take (Int.toNat r1.1)).drop (Int.toNat 0)).length<=lim then
 if([]++((list.take (Int.toNat r1.1)).drop (Int.toNat 0))).length+ [t].length<=lim then
 if(0:Int)<=r1.1/\r1.1<=(list.length:Int)/\(list.length:Int)<=(list.length:Int)then
 if(([]++((list.take (Int.toNat r1.1)).drop (Int.toNat 0)))++ [t]).length+((list.take (Int.toNat (list.length:Int))).drop (Int.toNat r1.1)).length<=lim then
 some ((([]++((list.take (Int.toNat r1.1)).drop (Int.toNat 0)))++ [t])++((list.take (Int.toNat (list.length:Int))).drop (Int.toNat r1.1)))
 else none
 else none
 else none
 else none
 else none
end T
open Go Go.Va
namespace T
def Zn (cmp:List Int->List Int->Int) (rows:List (List Int)):List (List Int):=rows.mergeSort (λx y=>!decide (cmp y x<0))
def cmpT (s t:List Int):Int:=if s.length<t.length then-1 else if t.length<s.length then 1 else cmpL s t
theorem cmpT_refl (s:List Int):cmpT s s=0:=by unfold cmpT;rw[if_neg (by omega),if_neg (by omega),cmpL_refl]
theorem cmpT_symm (s t:List Int):cmpT t s= -cmpT s t:=by
 unfold cmpT
 by_cases h1:s.length<t.length
 ·rw[if_neg (by omega),if_pos h1,if_pos h1];rfl
 ·by_cases h2:t.length<s.length
  ·rw[if_pos h2,if_neg h1,if_pos h2]
  ·rw[if_neg h2,if_neg h1,if_neg h1,if_neg h2,cmpL_symm]
theorem cmpT_eq {s t:List Int} (h:cmpT s t=0):s=t:=by
 unfold cmpT at h
 by_cases h1:s.length<t.length
 ·rw[if_pos h1]at h;exact absurd h (by decide)
 ·rw[if_neg h1]at h
  by_cases h2:t.length<s.length
  ·rw[if_pos h2]at h;exact absurd h (by decide)
  ·rw[if_neg h2]at h;exact cmpL_eq.1 h
theorem cmpT_trans {s t u:List Int} (h1:cmpT s t<0) (h2:cmpT t u<0):cmpT s u<0:=by
 unfold cmpT at*
 by_cases a1:s.length<u.length
 ·rw[if_pos a1];decide
 ·rw[if_neg a1]
  by_cases b1:s.length<t.length
  ·have b2:u.length<t.length:=by omega
   rw[if_neg (by omega),if_pos b2]at h2;exact absurd h2 (by decide)
  ·rw[if_neg b1]at h1
   by_cases b3:t.length<s.length
   ·rw[if_pos b3]at h1;exact absurd h1 (by decide)
   ·rw[if_neg b3]at h1
    by_cases c1:t.length<u.length
    ·omega
    ·rw[if_neg c1]at h2
     by_cases c2:u.length<t.length
     ·rw[if_pos c2]at h2;exact absurd h2 (by decide)
     ·rw[if_neg c2]at h2
      rw[if_neg (by omega)]
      exact cmpL_trans h1 h2
end T
open Go Go.Va
namespace T
theorem B5 {l:List (List Int)}:Bw l=true↔l.Pairwise (λa b=>cmpL a b<0):=by
 constructor
 ·intro h
  rw[List.pairwise_iff_getElem]
  exact λi j hi hj hij=>BZ h i j hij hj
 ·intro h
  rw[DW]
  rw[List.pairwise_iff_getElem]at h
  exact λi hi=>h i (i+1) (by omega) hi (by omega)
theorem Dy {list:List (List Int)} {t:List Int} {k:Nat} (hl:list.length<=1000000) (hk:k<=1000000) (hv: ∀u∈list,u.length=k) (ht:t.length=k) (hi:Bw list=true):
  ∃out,Cg list t=some out/\Bw out=true/\(∀u,u∈out↔u=t∨u∈list)/\(t∉list->out.Perm (t::list)):=by
 obtain⟨c,e,k1,k2,k3⟩:=Ct (by omega) (by omega) hv ht hi
 unfold Cg
 rw[e]
 simp only[Option.bind_some]
 by_cases hm:t∈list
 ·rw[decide_eq_true hm,if_pos rfl]
  exact⟨list,rfl,hi,λu=>⟨Or.inr,λh=>h.elim (λh=>h▸hm) id⟩,λh=>absurd hm h⟩
 ·rw[decide_eq_false hm,if_neg (by simp)]
  have e1:(list.take (Int.toNat (c:Int))).drop (Int.toNat 0)=list.take c:=by simp
  have e2:(list.take (Int.toNat (list.length:Int))).drop (Int.toNat (c:Int))=list.drop c:=by simp
  have hlim:lim=1099511627776:=rfl
  have t1:(list.take c).length=c:=by rw[List.length_take];omega
  rw[e1,e2,if_pos (by omega),if_pos (by simp;omega),if_pos (by simp;omega),if_pos (by omega),if_pos (by simp;omega)]
  refine⟨_,rfl,?_,λu=>?_,λ_=>?_⟩
  ·rw[B5]at hi⊢
   simp only[List.nil_append]
   have hsp:list=list.take c++list.drop c:=(List.take_append_drop c list).symm
   rw[hsp,List.pairwise_append]at hi
   have h4: ∀u∈list.take c,cmpL u t<0:=λu hu=>by
    obtain⟨i,hi',rfl⟩:=List.mem_iff_getElem.1 hu
    rw[List.getElem_take]
    exact k2 i _ (by omega)
   have h5: ∀u∈list.drop c,cmpL t u<0:=λu hu=>by
    obtain⟨i,hi',rfl⟩:=List.mem_iff_getElem.1 hu
    rw[List.length_drop]at hi'
    rw[List.getElem_drop]
    have h6:=k3 (c+i) (by omega) (by omega)
    have h7:=cmpL_symm (list[c+i]'(by omega)) t
    have h8:cmpL (list[c+i]'(by omega)) t≠0:=λh=>hm (by rw[←cmpL_eq.1 h];exact List.getElem_mem _)
    omega
   rw[List.pairwise_append,List.pairwise_append]
   refine⟨⟨hi.1,List.pairwise_singleton _ _,λa ha b hb=>by rw[List.mem_singleton.1 hb];exact h4 a ha⟩,hi.2.1,λa ha b hb=>?_⟩
   rcases List.mem_append.1 ha with ha|ha
   ·exact hi.2.2 a ha b hb
   ·rw[List.mem_singleton.1 ha];exact h5 b hb
  ·have hsp:u∈list↔u∈list.take c∨u∈list.drop c:=by rw[←List.mem_append,List.take_append_drop]
   simp only[List.nil_append,List.mem_append,List.mem_singleton,hsp]
   constructor
   ·rintro ((h|h)|h)
    ·exact Or.inr (Or.inl h)
    ·exact Or.inl h
    ·exact Or.inr (Or.inr h)
   ·rintro (h|h|h)
    ·exact Or.inl (Or.inr h)
    ·exact Or.inl (Or.inl h)
    ·exact Or.inr h
  ·simp only[List.nil_append]
   refine(List.Perm.append_right _ (List.perm_append_comm)).trans ?_
   rw[List.append_assoc,List.take_append_drop]
   exact List.Perm.refl _
theorem El {x y:List Int} (h1: ¬cmpL y x<0) (h2: ¬cmpL x y<0):x=y:=by
 have:=cmpL_symm x y
 exact cmpL_eq.1 (by omega)
theorem B7 {out l:List (List Int)} (hi:Bw out=true) (hp:out.Perm l):Zn cmpL l=out:=by
 have hs:(Zn cmpL l).Pairwise λx y=>(!decide (cmpL y x<0))=true:=by
  unfold Zn
  refine List.pairwise_mergeSort (λa b c h1 h2=>?_) (λa b=>?_) l
  ·simp only[Bool.not_eq_true',decide_eq_false_iff_not]at*
   intro h3
   have q1:=cmpL_symm a b
   have q2:=cmpL_symm b c
   by_cases e:cmpL a b=0
   ·rw[cmpL_eq.1 e]at h3;exact h2 h3
   ·exact h2 (cmpL_trans h3 (by omega))
  ·simp only[Bool.or_eq_true,Bool.not_eq_true',decide_eq_false_iff_not]
   have q1:=cmpL_symm a b
   omega
 have ho:out.Pairwise λx y=>(!decide (cmpL y x<0))=true:=by
  refine(B5.1 hi).imp ?_
  intro a b h
  simp only[Bool.not_eq_true',decide_eq_false_iff_not]
  have q1:=cmpL_symm a b
  omega
 have hpp:(Zn cmpL l).Perm out:=(List.mergeSort_perm l _).trans hp.symm
 refine List.Perm.eq_of_pairwise (λa b _ _ h1 h2=>?_) hs ho hpp
 simp only[Bool.not_eq_true',decide_eq_false_iff_not]at h1 h2
 exact El h1 h2
end T
set_option linter.unusedVariables false
open Go Go.Va
namespace T
def Ao (a0:List (List Int)) (a1:Unit):Option (List (List Int)):=
 if List.length a0<=lim/\List.all a0 (λx=>decide (List.length x<=lim))=true then some (Zn cmpL a0)else none
end T
open Go Go.Va
namespace T
section
variable {p:Int} {W N V:Nat}
def coG (p:Int) (s:ES) (u:Nat) (f:Int):Int:=if C2 s.2.1 u<0 then(if f=(u:Int)then 1 else 0)else p-(s.1.getD (C2 s.2.1 u).toNat []).getD f.toNat 0
def FN (p:Int) (V:Nat) (s:ES) (F x:List Int) (u:Nat):Nat->Int
 |0=>EW V s u
 |k+1=>FN p V s F x u k+coG p s u (F.getD k 0)*x.getD k 0
def Gc (p:Int) (V:Nat) (s:ES) (F x:List Int) (k:Nat):List Int:=(List.range V).map λu=>FN p V s F x u k%p
structure GenOk (p:Int) (W N V:Nat) (s:ES) (F x:List Int):Prop where
 hp:pr4 p
 hs:ESok p W N V s
 hV:V<W
 hW:W<=1000
 hN:N<=100000
 hF:F=FW V s.2.1
 hx:x.length=F.length
 xb: ∀v∈x,0<=v/\v<p
variable {s:ES} {F x:List Int}
theorem GenOk.pb (g:GenOk p W N V s F x):2<=p/\p<=7:=by have:=g.hp;unfold pr4 at this;omega
theorem GenOk.row (g:GenOk p W N V s F x) {u:Nat} (hu: ¬C2 s.2.1 u<0):(C2 s.2.1 u).toNat<s.1.length/\Eg p W (s.1.getD (C2 s.2.1 u).toNat []):=by
 have hm:(u:Int)∈s.2.1:=by
  rcases Decidable.em ((u:Int)∈s.2.1)with h|h
  ·exact h
  ·exact absurd (ER.2 h) hu
 obtain⟨i,hi,g1,_⟩:=Eh hm
 rw[g1,Int.toNat_natCast]
 have:=g.hs.bl
 exact⟨by omega,by rw[Aj (by omega)];exact g.hs.t _ (List.getElem_mem _)⟩
theorem GenOk.base (g:GenOk p W N V s F x) (u:Nat):0<=EW V s u/\EW V s u<p:=by
 have:=g.pb
 unfold EW
 split
 ·omega
 ·rename_i h
  exact FL (g.row h).2 g.hV
end
end T
open Go Go.Va
namespace T
section
variable {p:Int} {W N V:Nat} {s:ES} {F x:List Int}
theorem GenOk.zero (g:GenOk p W N V s F x):Gc p V s F x 0=F9 V s:=by
 unfold Gc F9
 refine List.map_congr_left λu _=>?_
 have:=g.base u
 simp only[FN]
 exact Int.emod_eq_of_lt this.1 this.2
end
end T
open Go Go.Va
namespace T
section
variable {a:Lin} {p:Int} {W N V:Nat} {s:ES} {F:List Int}
theorem Bi (l:List (List Int)):(Zn cmpL l).Perm l:=List.mergeSort_perm l _
theorem Cc {l:List (List Int)} (hn:l.Nodup):Bw (Zn cmpL l)=true:=by
 rw[B5]
 have hs:(Zn cmpL l).Pairwise λx y=>(!decide (cmpL y x<0))=true:=by
  unfold Zn
  refine List.pairwise_mergeSort (λa b c h1 h2=>?_) (λa b=>?_) l
  ·simp only[Bool.not_eq_true',decide_eq_false_iff_not]at*
   intro h3
   have q1:=cmpL_symm a b
   have q2:=cmpL_symm b c
   by_cases e:cmpL a b=0
   ·rw[cmpL_eq.1 e]at h3;exact h2 h3
   ·exact h2 (cmpL_trans h3 (by omega))
  ·simp only[Bool.or_eq_true,Bool.not_eq_true',decide_eq_false_iff_not]
   have q1:=cmpL_symm a b
   omega
 have hn':(Zn cmpL l).Nodup:=(Bi l).nodup_iff.2 hn
 refine(hs.and hn').imp ?_
 intro x y h
 obtain⟨h1,h2⟩:=h
 simp only[Bool.not_eq_true',decide_eq_false_iff_not]at h1
 have q1:=cmpL_symm x y
 have q2:cmpL x y≠0:=λe=>h2 (cmpL_eq.1 e)
 omega
theorem EV {l:List (List Int)} {t:List Int} {k:Nat} (hl:l.length<=1000000) (hk:k<=1000000) (hv: ∀u∈l,u.length=k) (ht:t.length=k) (hn:l.Nodup) (hm:t∉l):Cg (Zn cmpL l) t=some (Zn cmpL (l++ [t])):=by
 have hp:=Bi l
 obtain⟨out,e,h1,_,h3⟩:=Dy (list:=Zn cmpL l) (t:=t) (k:=k) (by rw[hp.length_eq];exact hl) hk (λu hu=>hv u (hp.mem_iff.1 hu)) ht (Cc hn)
 rw[e]
 have h4:=h3 (λh=>hm (hp.mem_iff.1 h))
 rw[B7 h1 (h4.trans ((List.Perm.cons t hp).trans (List.perm_append_comm (l₁:= [t]))))]
end
end T
open Go Go.Va
namespace T
theorem EI: ∀ {a b:List (List Int)},Bw a=true->Bw b=true->(∀u,u∈a↔u∈b)->a=b:=by
 intro a b ha hb h
 have pa:=B5.1 ha
 have pb:=B5.1 hb
 have na:a.Nodup:=pa.imp fun {x y} h e=>by rw[e,cmpL_refl]at h;omega
 have nb:b.Nodup:=pb.imp fun {x y} h e=>by rw[e,cmpL_refl]at h;omega
 have hp:a.Perm b:=(List.perm_ext_iff_of_nodup na nb).2 h
 rw[←B7 ha (List.Perm.refl _),←B7 hb (List.Perm.refl _)]
 have h1:=B7 ha hp
 have h2:=B7 hb (List.Perm.refl b)
 have h3:=B7 ha (List.Perm.refl a)
 rw[h2,h3,←h1,h2]
end T
open Go Go.Va
namespace T
structure TupS (n:Int) (k:Nat) (ts:List (List Int)):Prop where
 hn:1<=n/\n<=8
 hk:1<=k/\k<=4
 len: ∀t∈ts,t.length=k
 el: ∀t∈ts,Ap n t=true
 inc:Bw ts=true
theorem Fv {n k:Int} {ts:List (List Int)} (h:CI n k ts=true):TupS n k.toNat ts/\(k.toNat:Int)=k:=by
 unfold CI at h
 simp only[Bool.and_eq_true,decide_eq_true_eq,List.all_eq_true]at h
 obtain⟨⟨⟨h1,h2⟩,h3⟩,h4⟩:=h
 unfold B4 at h1
 simp only[decide_eq_true_eq]at h1
 refine⟨⟨h1,by omega,λt ht=>?_,λt ht=>?_,h4⟩,by omega⟩
 ·have:=h3 t ht;unfold DO at this;simp at this;omega
 ·have:=h3 t ht;unfold DO at this;simp at this;exact this.2
section
variable {n:Int} {k:Nat} {ts:List (List Int)}
def DZ (ts:List (List Int)) (i j:Nat):List Int:=(ts.getD j []).take i
def C5 (ts:List (List Int)) (i j:Nat):Int:=(ts.getD j []).getD i 0
theorem TupS.le (h:TupS n k ts) {a b:Nat} (hab:a<=b) (hb:b<ts.length):cmpL (ts.getD a []) (ts.getD b [])<=0:=by
 rcases Nat.lt_or_ge a b with hlt|hge
 ·have:=BZ h.inc a b hlt hb
  rw[Aj hb,Aj (show a<ts.length by omega)];omega
 ·have:a=b:=by omega
  subst this;rw[cmpL_refl];omega
theorem TupS.lenj (h:TupS n k ts) {j:Nat} (hj:j<ts.length):(ts.getD j []).length=k:=h.len _ (Bc hj)
def FI (ts:List (List Int)) (k:Nat) (r:List Int):Prop:= ∃i j l,i<k/\j<ts.length/\l<ts.length/\DZ ts i j=DZ ts i l/\r= [(i:Int),C5 ts i j,C5 ts i l]
end
end T
open Go Go.Va
namespace T
section
variable {n:Int} {k:Nat} {ts:List (List Int)}
def ED (ts:List (List Int)) (i:Nat) (x y:Int) (a b:Nat):Bool:=C5 ts i a==x&&(C5 ts i b==y&&decide (DZ ts i a=DZ ts i b))
def bO (ts:List (List Int)) (i:Nat) (x y:Int) (a:Nat):Option Nat:=(List.range ts.length).find? (ED ts i x y a)
def CP (ts:List (List Int)) (i:Nat) (x y:Int):Option (Nat×Nat):=(List.range ts.length).findSome? λa=>(bO ts i x y a).map λb=>(a,b)
theorem CH {i:Nat} {x y:Int} {a b:Nat} (h:CP ts i x y=some (a,b)):a<ts.length/\b<ts.length/\C5 ts i a=x/\C5 ts i b=y/\DZ ts i a=DZ ts i b:=by
 unfold CP at h
 obtain⟨a',ha,h⟩:=List.exists_of_findSome?_eq_some h
 obtain⟨b',hb,h⟩:=Option.map_eq_some_iff.1 h
 obtain⟨rfl,rfl⟩:=Prod.mk.inj h
 have h1:=List.find?_some hb
 have h2:=List.mem_of_find?_eq_some hb
 unfold ED at h1
 simp only[Bool.and_eq_true,beq_iff_eq,decide_eq_true_eq]at h1
 exact⟨List.mem_range.1 ha,List.mem_range.1 h2,h1.1,h1.2.1,h1.2.2⟩
theorem Dm {i:Nat} {x y:Int} (h:CP ts i x y=none) {a b:Nat} (ha:a<ts.length) (hb:b<ts.length) (h1:C5 ts i a=x) (h2:C5 ts i b=y) (h3:DZ ts i a=DZ ts i b):False:=by
 unfold CP at h
 rw[List.findSome?_eq_none_iff]at h
 have h:=h a (List.mem_range.2 ha)
 rw[Option.map_eq_none_iff]at h
 unfold bO at h
 rw[List.find?_eq_none]at h
 have h:=h b (List.mem_range.2 hb)
 unfold ED at h
 simp[h1,h2,h3]at h
def Fk (i' x' y' i x y:Nat):Prop:=i'<i∨(i'=i/\(x'<x∨(x'=x/\y'<y)))
structure FA (n:Nat) (ts:List (List Int)) (i x y:Nat) (F A:List (List Int)):Prop where
 inc:Bw F=true
 mem: ∀r,r∈F↔ ∃i' x' y':Nat,x'<n/\y'<n/\Fk i' x' y' i x y/\(CP ts i' (x':Int) (y':Int)).isSome/\r= [(i':Int),(x':Int),(y':Int)]
 len:F.length<=(i*n+x)*n+y
 incA:Bw A=true
 memA: ∀t,t∈A↔ ∃i' x' y' a b:Nat,x'<n/\y'<n/\Fk i' x' y' i x y/\CP ts i' (x':Int) (y':Int)=some (a,b)/\(t=ts.getD a []∨t=ts.getD b [])
 lenA:A.length<=2*((i*n+x)*n+y)
theorem FA.fork {N:Nat} (h:TupS (N:Int) k ts) {F A:List (List Int)} (hF:FA N ts k 0 0 F A) (r:List Int):r∈F↔FI ts k r:=by
 rw[hF.mem]
 constructor
 ·rintro ⟨i,x,y,q1,q2,q3,q4,rfl⟩
  obtain⟨⟨a,b⟩,hp⟩:=Option.isSome_iff_exists.1 q4
  obtain⟨ha,hb,hva,hvb,hpre⟩:=CH hp
  exact⟨i,a,b,by unfold Fk at q3;omega,ha,hb,hpre,by rw[hva,hvb]⟩
 ·rintro ⟨i,j,l,q1,q2,q3,q4,rfl⟩
  have hval: ∀j,j<ts.length-> ∃x:Nat,x<N/\C5 ts i j=(x:Int):=λj hj=>by
   have h1:=h.lenj hj
   have h2:=Dc (h.el _ (Bc (d:= []) hj)) i (by omega)
   unfold C5
   rw[Aj (show i<(ts.getD j []).length by omega)]
   exact⟨((ts.getD j [])[i]'(by omega)).toNat,by omega,by omega⟩
  obtain⟨x,hx,ex⟩:=hval j q2
  obtain⟨y,hy,ey⟩:=hval l q3
  refine⟨i,x,y,hx,hy,by unfold Fk;omega,?_,by rw[ex,ey]⟩
  cases hp:CP ts i (x:Int) (y:Int)with
  |some q=>rfl
  |none=>exact(Dm hp q2 q3 ex ey q4).elim
end
end T
set_option linter.unusedVariables false
open Go Go.Va
namespace T
def Bl (list:List (List Int)):Option ((List (List Int))):=
 (BQ list).bind λr1=>
 (Ao r1 ()).bind λr2=>
 some r2
end T
open Go Go.Va
namespace T
section
variable {a:Net} {f:Opn} {n:Int}
theorem EC {l:List Int} (h:l.length<=1000000):Bv l=some l:=by
 unfold Bv
 rw[if_pos (by simp;unfold lim;omega)];simp
end
end T
set_option linter.unusedVariables false
open Go Go.Va
namespace T
def BL (list:List (List Int)) (t:List Int):Option ((List (List Int))):=
 (A7 list t).bind λr1=>
 if r1.2 then
 some list
 else
 if(0:Int)<=0/\0<=r1.1/\r1.1<=(list.length:Int)then
 if([]:List (List Int)).length+((list.take (Int.toNat r1.1)).drop (Int.toNat 0)).length<=lim then
 if([]++((list.take (Int.toNat r1.1)).drop (Int.toNat 0))).length+ [t].length<=lim then
 if(0:Int)<=r1.1/\r1.1<=(list.length:Int)/\(list.length:Int)<=(list.length:Int)then
 if(([]++((list.take (Int.toNat r1.1)).drop (Int.toNat 0)))++ [t]).length+((list.take (Int.toNat (list.length:Int))).drop (Int.toNat r1.1)).length<=lim then
 some ((([]++((list.take (Int.toNat r1.1)).drop (Int.toNat 0)))++ [t])++((list.take (Int.toNat (list.length:Int))).drop (Int.toNat r1.1)))
 else none
 else none
 else none
 else none
 else none
end T
open Go Go.Va
namespace T
def rowsB (R W:Nat) (l:List (List Int)):Prop:=l.length<=R/\ ∀r∈l,r.length<=W
theorem rowsB.mono {R W R' W':Nat} {l:List (List Int)} (h:rowsB R W l) (h1:R<=R') (h2:W<=W'):rowsB R' W' l:=⟨by have:=h.1;omega,λr hr=>by have:=h.2 r hr;omega⟩
theorem rowsB.app {R W:Nat} {l:List (List Int)} {t:List Int} (h:rowsB R W l) (ht:t.length<=W):rowsB (R+1) W (l++ [t]):=⟨by rw[List.length_append,List.length_singleton];have:=h.1;omega,λr hr=>by
 rcases List.mem_append.1 hr with hr|hr
 ·exact h.2 r hr
 ·rw[List.mem_singleton.1 hr];exact ht⟩
theorem F5:BL=Cg:=rfl
end T
open Go Go.Va
namespace T
section
variable {n k m:Nat} {r:DP} {rels:List DP}
def conOkL (n k:Nat) (l:List Con):Prop:= ∀c∈l,∃m r i,ROk n m r/\c=(cI (PL n k r i),r)
theorem conOkL.small {l:List Con} (h:conOkL n k l): ∀c∈l,c.1.length<=1000/\c.2.2.length<=1000/\ ∀u∈c.2.2,u.length<=1000:=λc hc=>by
 obtain⟨m,r,i,h1,rfl⟩:=h c hc
 have hpl:=h1.pl_len (k:=k) (i:=i)
 have hm:=h1.hm
 have:=h1.many
 exact⟨by show(cI (PL n k r i)).length<=1000;rw[Ck];omega,by show r.2.length<=1000;omega,λu hu=>by have:=h1.tl u hu;omega⟩
end
end T
set_option linter.unusedVariables false
open Go Go.Va
namespace T
def Bk:Nat->((Int×(List (Int×(List Int))))×(List (Int×(List Int)))×Int×Int)->Option ((Unit)⊕(Bool))
 |0,_=>none
 |n+1,(a,t20,t21,t22)=>
 if decide (t22<t21)then
 if inb t22 t20 then
 (Cw ((gd t20 t22 (0,[])).1,(gd t20 t22 (0,[])).2) a.1).bind λr1=>
 if !r1 then
 some (.inr false)
 else
 Bk n ((a.1,a.2),t20,t21,w64 (t22+1))
 else none
 else
 some (.inl ())
def BO (a:Int×(List (Int×(List Int)))):Option (Bool):=
 if decide (a.1<1)then
  some false
 else
  if decide (a.1>8)then
   some false
  else
   if decide ((a.2.length:Int)>4)then
    some false
   else
    (Bk Aa ((a.1,a.2),a.2,(a.2.length:Int),0)).bind λs1=>
     match s1 with
     | .inl s2=>
      some true
     | .inr s3=>
      some s3
end T
open Go Go.Va
namespace T
section
variable {n:Nat} {t:List Int}
def E8 (n:Nat) (t:List Int) (x y:Nat):Nat:=(t.getD (x*n+y) 0).toNat
structure TabOk (n:Nat) (t:List Int):Prop where
 hn:1<=n/\n<=4
 len:t.length=n*n
 val: ∀x∈t,0<=x/\x<(n:Int)
theorem ix2 (hn:n<=4) {x y:Nat} (hx:x<n) (hy:y<n):w64 (w64 ((x:Int)*(n:Int))+(y:Int))=((x*n+y:Nat):Int)/\x*n+y<n*n:=by
 have h1:x*n+y<n*n:=by
  calc x*n+y<x*n+n:=by omega
   _=(x+1)*n:=by rw[Nat.succ_mul]
   _<=n*n:=Nat.mul_le_mul_right _ hx
 have h2:n*n<=4*4:=Nat.mul_le_mul hn hn
 have e:(x:Int)*(n:Int)=((x*n:Nat):Int):=by simp
 have a1:w64 ((x*n:Nat):Int)=((x*n:Nat):Int):=AA (by omega) (by omega)
 rw[e,a1,AA (by omega) (by omega)]
 exact⟨by omega,h1⟩
theorem TabOk.at (h:TabOk n t) {x y:Nat} (hx:x<n) (hy:y<n):w64 (w64 ((x:Int)*(n:Int))+(y:Int))=((x*n+y:Nat):Int)/\inb ((x*n+y:Nat):Int) t/\gd t ((x*n+y:Nat):Int) 0=((E8 n t x y:Nat):Int)/\E8 n t x y<n:=by
 obtain⟨h1,h2⟩:=ix2 h.hn.2 hx hy
 have hl:x*n+y<t.length:=by rw[h.len];exact h2
 have hv:=h.val _ (List.getElem_mem hl)
 refine⟨h1,by rw[Ac];exact hl,?_,?_⟩
 ·rw[Ak hl];unfold E8;rw[Aj hl];omega
 ·unfold E8;rw[Aj hl];omega
end
end T
open Go Go.Va
namespace T
def conD (W:Nat) (c:Con):Prop:=c.1.length<=W/\rowsB 601 3 c.2.2
theorem conD.mono {W W':Nat} {c:Con} (h:W<=W'):conD W c->conD W' c:=λ⟨a,b⟩=>⟨by omega,b⟩
end T
open Go Go.Va
namespace T
section
variable {a:Net} {K:Nat} {c:Con} {i p n:Nat} {st:ASt}
def EZ (d:Dom) (V:Nat) (t:List Int):Prop:= ∀u,u<V->d2 d u (t.getD u 0).toNat=true
end
end T
open Go Go.Va
namespace T
structure Semi (n:Int) (op:Int->Int->Int):Prop where
 cl: ∀x y,inR n x->inR n y->inR n (op x y)
 comm: ∀x y,inR n x->inR n y->op x y=op y x
 assoc: ∀x y z,inR n x->inR n y->inR n z->op (op x y) z=op x (op y z)
 idem: ∀x,inR n x->op x x=x
section
variable {n:Int} {op:Int->Int->Int}
theorem Semi.fold_cl (h:Semi n op): ∀(l:List Int) (x:Int),inR n x->(∀y∈l,inR n y)->inR n (l.foldl op x)
 | [],x,hx,_=>hx
 |y::l,x,hx,hl=>h.fold_cl l _ (h.cl x y hx (hl y (List.mem_cons_self ..))) λz hz=>hl z (List.mem_cons_of_mem _ hz)
theorem Semi.up (h:Semi n op): ∀(l:List Int) (x:Int),inR n x->(∀y∈l,inR n y)->op x (l.foldl op x)=l.foldl op x/\ ∀y∈l,op y (l.foldl op x)=l.foldl op x
 | [],x,hx,_=>⟨h.idem x hx,λy hy=>by simp at hy⟩
 |y::l,x,hx,hl=>by
  have hy:=hl y (List.mem_cons_self ..)
  have hl': ∀z∈l,inR n z:=λz hz=>hl z (List.mem_cons_of_mem _ hz)
  have hxy:=h.cl x y hx hy
  obtain⟨h1,h2⟩:=h.up l (op x y) hxy hl'
  have hF:=h.fold_cl l (op x y) hxy hl'
  rw[List.foldl_cons]
  generalize l.foldl op (op x y)=F at*
  have e1:op x F=F:=by
   have:op x (op (op x y) F)=op (op x y) F:=by rw[←h.assoc x (op x y) F hx hxy hF,←h.assoc x x y hx hx hy,h.idem x hx]
   rw[h1]at this;exact this
  have e2:op y F=F:=by
   have:op y (op (op x y) F)=op (op x y) F:=by rw[←h.assoc y (op x y) F hy hxy hF,h.comm x y hx hy,←h.assoc y y x hy hy hx,h.idem y hy]
   rw[h1]at this;exact this
  refine⟨e1,λz hz=>?_⟩
  rcases List.mem_cons.1 hz with rfl|hz
  ·exact e2
  ·exact h2 z hz
theorem Semi.least (h:Semi n op) {z:Int} (hz:inR n z): ∀(l:List Int) (x:Int),inR n x->(∀y∈l,inR n y)->op x z=z->(∀y∈l,op y z=z)->op (l.foldl op x) z=z
 | [],x,_,_,h1,_=>h1
 |y::l,x,hx,hl,h1,h2=>by
  have hy:=hl y (List.mem_cons_self ..)
  refine h.least hz l (op x y) (h.cl x y hx hy) (λw hw=>hl w (List.mem_cons_of_mem _ hw)) ?_ λw hw=>h2 w (List.mem_cons_of_mem _ hw)
  rw[h.assoc x y z hx hy hz,h2 y (List.mem_cons_self ..),h1]
def EF (op:Int->Int->Int) (l:List Int):Int:=(l.drop 1).foldl op (l.getD 0 0)
theorem Dg {x:Int} {l:List Int}:EF op (x::l)=l.foldl op x:=rfl
theorem Semi.same (h:Semi n op) {l l':List Int} (h0:l≠ []) (h0':l'≠ []) (hl: ∀y∈l,inR n y) (hm: ∀y,y∈l↔y∈l'):EF op l=EF op l':=by
 obtain⟨x,l,rfl⟩:=List.exists_cons_of_ne_nil h0
 obtain⟨x',l',rfl⟩:=List.exists_cons_of_ne_nil h0'
 have hl': ∀y∈x'::l',inR n y:=λy hy=>hl y ((hm y).2 hy)
 rw[Dg,Dg]
 have a1:=hl x (List.mem_cons_self ..)
 have a2: ∀y∈l,inR n y:=λy hy=>hl y (List.mem_cons_of_mem _ hy)
 have b1:=hl' x' (List.mem_cons_self ..)
 have b2: ∀y∈l',inR n y:=λy hy=>hl' y (List.mem_cons_of_mem _ hy)
 have hF:=h.fold_cl l x a1 a2
 have hF':=h.fold_cl l' x' b1 b2
 obtain⟨u1,u2⟩:=h.up l x a1 a2
 obtain⟨v1,v2⟩:=h.up l' x' b1 b2
 have hu: ∀y∈x::l,op y (l.foldl op x)=l.foldl op x:=λy hy=>by
  rcases List.mem_cons.1 hy with rfl|hy
  ·exact u1
  ·exact u2 y hy
 have hv: ∀y∈x'::l',op y (l'.foldl op x')=l'.foldl op x':=λy hy=>by
  rcases List.mem_cons.1 hy with rfl|hy
  ·exact v1
  ·exact v2 y hy
 have e1:=h.least hF' l x a1 a2 (hv x ((hm x).1 (List.mem_cons_self ..))) λy hy=>hv y ((hm y).1 (List.mem_cons_of_mem _ hy))
 have e2:=h.least hF l' x' b1 b2 (hu x' ((hm x').2 (List.mem_cons_self ..))) λy hy=>hu y ((hm y).2 (List.mem_cons_of_mem _ hy))
 rw[←e2,h.comm _ _ hF' hF,e1]
end
section
variable {V m:Nat} {cs:List Con} {t:List Int}
end
end T
open Go Go.Va
namespace T
section
variable {a:Net} {n s:Nat} {t:T4} {u:T3}
def FT (a:Net) (i j k x y z:Nat):Prop:= ∀c∈a.2.2,(∀v∈c.1,v=(i:Int)∨v=(j:Int)∨v=(k:Int))-> ∀vs:List Int,Fw vs (i:Int)=(x:Int)->Fw vs (j:Int)=(y:Int)->Fw vs (k:Int)=(z:Int)->FU vs c=true
structure Fam (a:Net) (n s:Nat) (S:Nat->Nat->Nat->Nat->Prop):Prop where
 sym: ∀i j x y,S i j x y->S j i y x
 first: ∀i j x y,i<j->j<n->x<s->y<s->S i j x y->fB a n i j x y=true
 path: ∀i j k x y,i<n->j<n->k<n->i≠j->k≠i->k≠j->x<s->y<s->S i j x y-> ∃z,z<s/\S i k x z/\S j k y z/\FT a i j k x y z
structure MinP (a:Net) (n s:Nat) (t:T4) (u:T3):Prop where
 rel:Rel34 n s t u
 sym: ∀i j x y,i<n->j<n->i≠j->x<s->y<s->r4 t i j x y=r4 t j i y x
 first: ∀i j x y,i<n->j<n->i≠j->x<s->y<s->r4 t i j x y=true->fB a n i j x y=true
 path: ∀i j k x y,i<n->j<n->k<n->i≠j->k≠i->k≠j->x<s->y<s->r4 t i j x y=true-> ∃z,z<s/\r4 t i k x z=true/\r4 t j k y z=true/\FT a i j k x y z
 all: ∀S,Fam a n s S-> ∀i j x y,i<n->j<n->i≠j->x<s->y<s->S i j x y->r4 t i j x y=true
end
end T
open Go Go.Va
namespace T
section
variable {a:Net} {n s:Nat} {t:T4} {u:T3} {F:Nat->Nat->Nat->Nat}
theorem F4 (hM:MinP a n s t u) {w w' v x y:Nat} (hw:w<n) (hw':w'<n) (hv:v<n) (h1:w≠w') (h2:w≠v) (h3:w'≠v) (hx:x<s) (hy:y<s) (h:r4 t w' v y x=true): ∃z,z<s/\r4 t w v z x=true:=by
 obtain⟨z,hz,_,q,_⟩:=hM.path w' v w y x hw' hv hw h3 h1 h2 hy hx h
 exact⟨z,hz,by rw[hM.sym w v z x hw hv h2 hz hx];exact q⟩
theorem Gb (p q:Nat): ∃w,w<3/\w≠p/\w≠q:=by
 by_cases h0:0≠p/\0≠q
 ·exact⟨0,by omega,h0.1,h0.2⟩
 ·by_cases h1:1≠p/\1≠q
  ·exact⟨1,by omega,h1.1,h1.2⟩
  ·exact⟨2,by omega,by omega,by omega⟩
end
end T
open Go Go.Va
namespace T
section
variable {n:Int} {k:Nat} {ts:List (List Int)}
theorem Dt {rows:List (List Int)} (hN:rows.length<=1000000000) (hr: ∀r∈rows,r.length<=100000):BQ rows=some rows:=by
 unfold BQ
 have:=Du rows.length (λf o i=>Au f (o,rows,(rows.length:Int),i)) (λk=>rows.take k) (r:=some rows) (λf k hk=>by
  have hl:=hr _ (List.getElem_mem hk)
  have hcl:Bv rows[k]=some rows[k]:=by
   unfold Bv
   rw[if_pos (by simp;unfold lim;omega)];simp
  simp only[Au,Ac,hk,Ak hk,hcl,Option.bind_some,List.take_succ_eq_append_getElem hk,if_true,Ab (show k<4611686018427387904 by omega)]
  rw[if_pos (by simp;omega),if_pos (by simp;unfold lim;omega)]) (λf=>by
  simp only[Au,List.take_length]
  rw[if_neg (by simp)]) (n:=Aa) (by unfold Aa;omega)
 have this:Au Aa ([],rows,(rows.length:Int),0)=_:=this
 rw[this];rfl
theorem D7 {l:List (List Int)} (hl:l.length<=1000000000) (hr: ∀r∈l,r.length<=100000):Bl l=some (Zn cmpL l):=by
 unfold Bl
 rw[Dt hl hr]
 have:Ao l ()=some (Zn cmpL l):=by
  unfold Ao
  rw[if_pos]
  refine⟨by unfold lim;omega,?_⟩
  rw[List.all_eq_true]
  intro r h
  rw[decide_eq_true_iff]
  have:=hr r h;unfold lim;omega
 simp only[Option.bind_some,this]
end
end T
set_option linter.unusedVariables false
open Go Go.Va
namespace T
def BW:Nat->((Int×(List (Int×(List Int))))×Int×Int)->Option (Int)
 |0,_=>none
 |n+1,(a,most,k)=>
 if decide (k<(a.2.length:Int))then
 if inb k a.2 then
 (C1 most ((gd a.2 k (0,[])).1)).bind λr1=>
 BW n ((a.1,a.2),r1,w64 (k+1))
 else none
 else
 some most
def Cu (a:Int×(List (Int×(List Int)))):Option (Int):=
 (BW Aa ((a.1,a.2),0,0)).bind λs1=>
 if s1==3 then
 some 40
 else
 if s1==2 then
 some 200
 else
 some 300
def Az:Nat->((List (List Int))×(List Int)×(List (List Int))×Int)->Option ((List (List Int))×(List (List Int)))
 |0,_=>none
 |n+1,(line,numbers,out,i)=>
 if decide (i<(numbers.length:Int))then
 if inb i numbers then
 if inb (gd numbers i 0) line then
 if out.length+ [gd line (gd numbers i 0) []].length<=lim then
 Az n (line,numbers,out++ [gd line (gd numbers i 0) []],w64 (i+1))
 else none
 else none
 else none
 else
 some (line,out)
def BJ (line:List (List Int)) (numbers:List Int):Option ((List (List Int))×(List (List Int))):=
 (Az Aa (line,numbers,[],0)).bind λs1=>
 some (s1.1,s1.2)
def AC:Nat->(Int×(List (List Int))×(Int×(List (Int×(List Int))))×(List (List Int))×(List (List Int))×Int×(List (List Int))×Int)->Option (Int×(Int×(List (Int×(List Int))))×(List (List Int))×(List (List Int))×Int×(List (List Int)))
 |0,_=>none
 |n+1,(t1,t2,t3,t8,t9,t10,t11,t12)=>
 if decide (t12<(t2.length:Int))then
 if inb t12 t2 then
 (Ce (gd t2 t12 [])).bind λr2=>
 if t11.length+ [r2].length<=lim then
 AC n (t1,t2,(t3.1,t3.2),t8,t9,t10,t11++ [r2],w64 (t12+1))
 else none
 else none
 else
 some (t1,(t3.1,t3.2),t8,t9,t10,t11)
def AP:Nat->(Int×(Int×(List (Int×(List Int))))×(List (List Int))×(List (List Int))×Int×(List (List Int))×Int)->Option (Int×(Int×(List (Int×(List Int))))×(List (List Int))×(List (List Int))×Int×(List (List Int)))
 |0,_=>none
 |n+1,(t1,t3,t8,t9,t10,t11,t13)=>
 if decide (t13<(t3.2.length:Int))then
 if inb t13 t3.2 then
 if((gd t3.2 t13 (0,[])).1)==0 then
 (BK (t3.1,t3.2) t13 [] t1).bind λr4=>
 if t11.length+ [r4].length<=lim then
 AP n (t1,(t3.1,t3.2),t8,t9,t10,t11++ [r4],w64 (t13+1))
 else none
 else
 AP n (t1,(t3.1,t3.2),t8,t9,t10,t11,w64 (t13+1))
 else none
 else
 some (t1,(t3.1,t3.2),t8,t9,t10,t11)
def Ar:Nat->(Int×(Int×(List (Int×(List Int))))×(List (List Int))×(List (List Int))×Int×(List (List Int))×Int)->Option (Int×(Int×(List (Int×(List Int))))×(List (List Int))×(List (List Int))×Int)
 |0,_=>none
 |n+1,(t1,t3,t8,t9,t10,t11,t14)=>
 if decide (t14<(t11.length:Int))then
 if inb t14 t11 then
 (A7 t8 (gd t11 t14 [])).bind λr6=>
 if !r6.2 then
 if inb t14 t11 then
 (BL t8 (gd t11 t14 [])).bind λr7=>
 if inb t14 t11 then
 if t9.length+ [gd t11 t14 []].length<=lim then
 Ar n (t1,(t3.1,t3.2),r7,t9++ [gd t11 t14 []],t10,t11,w64 (t14+1))
 else none
 else none
 else none
 else
 Ar n (t1,(t3.1,t3.2),t8,t9,t10,t11,w64 (t14+1))
 else none
 else
 some (t1,(t3.1,t3.2),t8,t9,t10)
def Ad:Nat->(Int×(Int×(List (Int×(List Int))))×(List (List Int))×(List (List Int))×Int×Int×Int×(List Int)×Bool)->Option (Int×(Int×(List (Int×(List Int))))×(List (List Int))×(List (List Int))×Int×Int×Int)
 |0,_=>none
 |n+1,(t1,t3,t8,t9,t10,t17,t18,t19,t20)=>
 if t20 then
 if decide ((t9.length:Int)<=t10)then
 (CJ t19 t17).bind λr9=>
 if r9 then
 (BJ t9 t19).bind λr10=>
 (BK (t3.1,t3.2) t18 r10.2 t1).bind λr11=>
 (A7 t8 r11).bind λr12=>
 if !r12.2 then
 (BL t8 r11).bind λr13=>
 if r10.1.length+ [r11].length<=lim then
 (BE t19 (w64 (t17+1))).bind λr14=>
 Ad n (t1,(t3.1,t3.2),r13,r10.1++ [r11],t10,t17,t18,r14.1,r14.2)
 else none
 else
 (BE t19 (w64 (t17+1))).bind λr15=>
 Ad n (t1,(t3.1,t3.2),t8,r10.1,t10,t17,t18,r15.1,r15.2)
 else
 (BE t19 (w64 (t17+1))).bind λr16=>
 Ad n (t1,(t3.1,t3.2),t8,t9,t10,t17,t18,r16.1,r16.2)
 else
 some (t1,(t3.1,t3.2),t8,t9,t10,t17,t18)
 else
 some (t1,(t3.1,t3.2),t8,t9,t10,t17,t18)
def Aw:Nat->(Int×(Int×(List (Int×(List Int))))×(List (List Int))×(List (List Int))×Int×Int×Int)->Option (Int×(Int×(List (Int×(List Int))))×(List (List Int))×(List (List Int))×Int×Int)
 |0,_=>none
 |n+1,(t1,t3,t8,t9,t10,t17,t18)=>
 if decide (t18<(t3.2.length:Int))then
 if inb t18 t3.2 then
 if 0<=((gd t3.2 t18 (0,[])).1)/\((gd t3.2 t18 (0,[])).1)<=((gd t3.2 t18 (0,[])).1)/\((gd t3.2 t18 (0,[])).1)<=lim then
 if inb t18 t3.2 then
 (Ad Aa (t1,(t3.1,t3.2),t8,t9,t10,t17,t18,List.replicate (Int.toNat ((gd t3.2 t18 (0,[])).1)) (0:Int),decide (((gd t3.2 t18 (0,[])).1)>0))).bind λs9=>
 Aw n (s9.1,(s9.2.1.1,s9.2.1.2),s9.2.2.1,s9.2.2.2.1,s9.2.2.2.2.1,s9.2.2.2.2.2.1,w64 (s9.2.2.2.2.2.2+1))
 else none
 else none
 else none
 else
 some (t1,(t3.1,t3.2),t8,t9,t10,t17)
def Am:Nat->(Int×(Int×(List (Int×(List Int))))×(List (List Int))×(List (List Int))×Int×Int)->Option ((List (List Int))×Int)
 |0,_=>none
 |n+1,(t1,t3,t8,t9,t10,t17)=>
 if decide (t17<(t9.length:Int))then
 if decide ((t9.length:Int)<=t10)then
 (Aw Aa (t1,(t3.1,t3.2),t8,t9,t10,t17,0)).bind λs9=>
 Am n (s9.1,(s9.2.1.1,s9.2.1.2),s9.2.2.1,s9.2.2.2.1,s9.2.2.2.2.1,w64 (s9.2.2.2.2.2+1))
 else
 some (t8,t10)
 else
 some (t8,t10)
def Cf (t0:Int×(List (Int×(List Int)))) (t1:Int) (t2:List (List Int)):Option ((List (List Int))×Bool):=
 (Cu (t0.1,t0.2)).bind λr1=>
 (AC Aa (t1,t2,(t0.1,t0.2),[],[],r1,[],0)).bind λs2=>
 (AP Aa (s2.1,(s2.2.1.1,s2.2.1.2),s2.2.2.1,s2.2.2.2.1,s2.2.2.2.2.1,s2.2.2.2.2.2,0)).bind λs3=>
 (Ar Aa (s3.1,(s3.2.1.1,s3.2.1.2),s3.2.2.1,s3.2.2.2.1,s3.2.2.2.2.1,s3.2.2.2.2.2,0)).bind λs4=>
 (Am Aa (s4.1,(s4.2.1.1,s4.2.1.2),s4.2.2.1,s4.2.2.2.1,s4.2.2.2.2,0)).bind λs5=>
 some (s5.1,decide ((s5.1.length:Int)<=s5.2))
def BH (n_:Int) (op:Int×(List Int)) (k:Int) (tuples:List (List Int)):Option ((List (List Int))×Bool):=
 (Cp n_ k tuples).bind λr1=>
 if !r1 then
 some ([],false)
 else
 if decide ((tuples.length:Int)>20)then
 some ([],false)
 else
 if op.1 !=3 then
 some ([],false)
 else
 (CX n_ (op.1,op.2)).bind λr2=>
 if !r2 then
 some ([],false)
 else
 (Cf (n_,[(op.1,op.2)]) k tuples).bind λr3=>
 if !r3.2 then
 some ([],false)
 else
 some (r3.1,true)
def CA (k:Int):Option (Bool):=
 if decide (k≥1)then
 some (decide (k<=64))
 else
 some false
def As:Nat->(Int×(Int×(List (Int×(List Int))))×(List (List Int))×Int×Int)->Option ((Unit)⊕(Bool))
 |0,_=>none
 |n+1,(k,a,t9,t10,t11)=>
 if decide (t11<t10)then
 if inb t11 t9 then
 if((gd t9 t11 []).length:Int) !=k then
 some (.inr false)
 else
 (BC (gd t9 t11 []) a.1).bind λr1=>
 if !r1 then
 some (.inr false)
 else
 As n (k,(a.1,a.2),t9,t10,w64 (t11+1))
 else none
 else
 some (.inl ())
def BP (a:Int×(List (Int×(List Int)))) (k:Int) (tuples:List (List Int)):Option (Bool):=
 (As Aa (k,(a.1,a.2),tuples,(tuples.length:Int),0)).bind λs1=>
  match s1 with
  | .inl s2=>
   some true
  | .inr s3=>
   some s3
def Ca (a:Int×(List (Int×(List Int)))) (k:Int) (gens:List (List Int)):Option (Bool):=
 (BO (a.1,a.2)).bind λr1=>
 if r1 then
 (CA k).bind λr2=>
 if r2 then
 if decide ((gens.length:Int)<=20)then
 (BP (a.1,a.2) k gens).bind λr3=>
 some r3
 else
 some false
 else
 some false
 else
 some false
def Bd (s:(Int×(List (Int×(List Int))))×(Int×((List (List Int))×(List ByteArray)))) (t:List Int):Option (((Int×(List (Int×(List Int))))×(Int×((List (List Int))×(List ByteArray))))):=
 (BS t).bind λr1=>
 if !(Xs s.2.2.2 r1)then
 (BS t).bind λr2=>
 if s.2.2.1.length+ [t].length<=lim then
 some ((s.1.1,s.1.2),(s.2.1,(s.2.2.1++ [t],YhI s.2.2.2 r2)))
 else none
 else
 some ((s.1.1,s.1.2),(s.2.1,(s.2.2.1,s.2.2.2)))
def Bh:Nat->(Int×(List (Int×(List Int)))×Int×Int)->Option (Int)
 |0,_=>none
 |n+1,(arity,t7,t8,t9)=>
 if decide (t9<t8)then
 if inb t9 t7 then
 Bh n (Yiv arity ((gd t7 t9 (0,[])).1),t7,t8,w64 (t9+1))
 else none
 else
 some arity
def Av (a:Int×(List (Int×(List Int)))):Option (Int):=
 (Bh Aa (0,a.2,(a.2.length:Int),0)).bind λs1=>
 if s1==3 then
 some 40
 else
 if s1==2 then
 some 200
 else
 some 300
def AG:Nat->(Unit×((List (List Int))×Int)×(Int×(List (Int×(List Int))))×(Int×(List Int))×(List Int)×Int×Int×Int×Int×Int×Int)->Option (((List (List Int))×Int)×(Int×(List (Int×(List Int))))×(Int×(List Int))×(List Int)×Int×Int×Int×Int)
 |0,_=>none
 |n+1,(al21,tuples,a,f,value,i,at_,t17,t18,t22,t23)=>
 if decide (t23<t22)then
 if 0<=t23/\t23<tuples.2 then
 if inb i (gd tuples.1 t23 [])then
 AG n ((),(tuples.1,tuples.2),(a.1,a.2),(f.1,f.2),value,i,w64 ((w64 (at_*a.1))+(gd (gd tuples.1 t23 []) i 0)),t17,t18,t22,w64 (t23+1))
 else none
 else none
 else
 some ((tuples.1,tuples.2),(a.1,a.2),(f.1,f.2),value,i,at_,t17,t18)
def An:Nat->(((List (List Int))×Int)×(Int×(List (Int×(List Int))))×(Int×(List Int))×(List Int)×Int×Int)->Option (((List (List Int))×Int)×(List Int))
 |0,_=>none
 |n+1,(tuples,a,f,value,t17,t18)=>
 if decide (t18<t17)then
 (AG Aa ((),(tuples.1,tuples.2),(a.1,a.2),(f.1,f.2),value,t18,0,t17,t18,tuples.2,0)).bind λs1=>
 if inb s1.2.2.2.2.2.1 s1.2.2.1.2 then
 if inb s1.2.2.2.2.1 s1.2.2.2.1 then
 An n ((s1.1.1,s1.1.2),(s1.2.1.1,s1.2.1.2),(s1.2.2.1.1,s1.2.2.1.2),stt s1.2.2.2.1 s1.2.2.2.2.1 (gd s1.2.2.1.2 s1.2.2.2.2.2.1 0),s1.2.2.2.2.2.2.1,w64 (s1.2.2.2.2.2.2.2+1))
 else none
 else none
 else
 some ((tuples.1,tuples.2),value)
def A9 (a:Int×(List (Int×(List Int)))) (f:Int×(List Int)) (k:Int) (tuples:(List (List Int))×Int):Option ((List (List Int))×(List Int)):=
 if 0<=k/\k<=k/\k<=lim then
 (An Aa ((tuples.1,tuples.2),(a.1,a.2),(f.1,f.2),List.replicate (Int.toNat k) (0:Int),((List.replicate (Int.toNat k) (0:Int)).length:Int),0)).bind λs1=>
 some (s1.1.1,s1.2)
 else none
def Ae (rec:(((Int×(List (Int×(List Int))))×(Int×((List (List Int))×(List ByteArray))))×(Int×(List Int))×((List (List Int))×Int)×Int×Int×Bool)->Option (((Int×(List (Int×(List Int))))×(Int×((List (List Int))×(List ByteArray))))×(List (List Int))×Bool)):Nat->(((Int×(List (Int×(List Int))))×(Int×((List (List Int))×(List ByteArray))))×((List (List Int))×Int)×Int×Int×Bool×(Int×(List Int))×Int)->Option ((((Int×(List (Int×(List Int))))×(Int×((List (List Int))×(List ByteArray))))×((List (List Int))×Int))⊕(((Int×(List (Int×(List Int))))×(Int×((List (List Int))×(List ByteArray))))×((List (List Int))×Int)×Bool))
 |0,_=>none
 |n+1,(t0,t2,t3,t4,t5,t7,t13)=>
 if decide (t13<t4)then
 if inb t13 t0.2.2.1 then
 if 0<([gd t0.2.2.1 t13 []].length:Int)/\t2.2+([gd t0.2.2.1 t13 []].length:Int)<=(t2.1.length:Int)then
 if t5 then
 (rec (((t0.1.1,t0.1.2),(t0.2.1,(t0.2.2.1,t0.2.2.2))),(t7.1,t7.2),(Yda t2.1 t2.2 [gd t0.2.2.1 t13 []],t2.2+([gd t0.2.2.1 t13 []].length:Int)),t3,t4,true)).bind λr9=>
 if(decide (r9.2.1.length=(Yda t2.1 t2.2 [gd t0.2.2.1 t13 []]).length)&&true)then
 if !r9.2.2 then
 some (.inr (((r9.1.1.1,r9.1.1.2),(r9.1.2.1,(r9.1.2.2.1,r9.1.2.2.2))),(r9.2.1,t2.2),false))
 else
 Ae rec n (((r9.1.1.1,r9.1.1.2),(r9.1.2.1,(r9.1.2.2.1,r9.1.2.2.2))),(r9.2.1,t2.2),t3,t4,t5,(t7.1,t7.2),w64 (t13+1))
 else none
 else
 (rec (((t0.1.1,t0.1.2),(t0.2.1,(t0.2.2.1,t0.2.2.2))),(t7.1,t7.2),(Yda t2.1 t2.2 [gd t0.2.2.1 t13 []],t2.2+([gd t0.2.2.1 t13 []].length:Int)),t3,t4,decide (t13≥t3))).bind λr10=>
 if(decide (r10.2.1.length=(Yda t2.1 t2.2 [gd t0.2.2.1 t13 []]).length)&&true)then
 if !r10.2.2 then
 some (.inr (((r10.1.1.1,r10.1.1.2),(r10.1.2.1,(r10.1.2.2.1,r10.1.2.2.2))),(r10.2.1,t2.2),false))
 else
 Ae rec n (((r10.1.1.1,r10.1.1.2),(r10.1.2.1,(r10.1.2.2.1,r10.1.2.2.2))),(r10.2.1,t2.2),t3,t4,t5,(t7.1,t7.2),w64 (t13+1))
 else none
 else none
 else none
 else
 some (.inl (((t0.1.1,t0.1.2),(t0.2.1,(t0.2.2.1,t0.2.2.2))),(t2.1,t2.2)))
def AH (rec:(((Int×(List (Int×(List Int))))×(Int×((List (List Int))×(List ByteArray))))×(Int×(List Int))×((List (List Int))×Int)×Int×Int×Bool)->Option (((Int×(List (Int×(List Int))))×(Int×((List (List Int))×(List ByteArray))))×(List (List Int))×Bool)) (t0:(Int×(List (Int×(List Int))))×(Int×((List (List Int))×(List ByteArray)))) (t1:Int×(List Int)) (t2:(List (List Int))×Int) (t3:Int) (t4:Int) (t5:Bool):Option (((Int×(List (Int×(List Int))))×(Int×((List (List Int))×(List ByteArray))))×(List (List Int))×Bool):=
 if t2.2==t1.1 then
  if t5 then
   (A9 (t0.1.1,t0.1.2) (t1.1,t1.2) t0.2.1 (t2.1,t2.2)).bind λr1=>
    if decide (r1.1.length=t2.1.length)then
     (Bd ((t0.1.1,t0.1.2),(t0.2.1,(t0.2.2.1,t0.2.2.2))) r1.2).bind λr2=>
      (Av (r2.1.1,r2.1.2)).bind λr3=>
       some (((r2.1.1,r2.1.2),(r2.2.1,(r2.2.2.1,r2.2.2.2))),r1.1,decide ((r2.2.2.1.length:Int)<=r3))
    else none
  else
   if t1.1==0 then
    if t3==0 then
     (A9 (t0.1.1,t0.1.2) (t1.1,t1.2) t0.2.1 (t2.1,t2.2)).bind λr4=>
      if decide (r4.1.length=t2.1.length)then
       (Bd ((t0.1.1,t0.1.2),(t0.2.1,(t0.2.2.1,t0.2.2.2))) r4.2).bind λr5=>
        (Av (r5.1.1,r5.1.2)).bind λr6=>
         some (((r5.1.1,r5.1.2),(r5.2.1,(r5.2.2.1,r5.2.2.2))),r4.1,decide ((r5.2.2.1.length:Int)<=r6))
      else none
    else
     (Av (t0.1.1,t0.1.2)).bind λr7=>
      some (((t0.1.1,t0.1.2),(t0.2.1,(t0.2.2.1,t0.2.2.2))),t2.1,decide ((t0.2.2.1.length:Int)<=r7))
   else
    (Av (t0.1.1,t0.1.2)).bind λr8=>
     some (((t0.1.1,t0.1.2),(t0.2.1,(t0.2.2.1,t0.2.2.2))),t2.1,decide ((t0.2.2.1.length:Int)<=r8))
 else
  (Ae rec Aa (((t0.1.1,t0.1.2),(t0.2.1,(t0.2.2.1,t0.2.2.2))),(t2.1,t2.2),t3,t4,t5,(t1.1,t1.2),0)).bind λs9=>
   match s9 with
   | .inl s10=>
    some (((s10.1.1.1,s10.1.1.2),(s10.1.2.1,(s10.1.2.2.1,s10.1.2.2.2))),s10.2.1,true)
   | .inr s11=>
    some (((s11.1.1.1,s11.1.1.2),(s11.1.2.1,(s11.1.2.2.1,s11.1.2.2.2))),s11.2.1.1,s11.2.2)
def Ag:Nat->(((Int×(List (Int×(List Int))))×(Int×((List (List Int))×(List ByteArray))))×(Int×(List Int))×((List (List Int))×Int)×Int×Int×Bool)->Option (((Int×(List (Int×(List Int))))×(Int×((List (List Int))×(List ByteArray))))×(List (List Int))×Bool)
 |0,_=>none
 |d+1,x=>AH (Ag d) x.1 x.2.1 x.2.2.1 x.2.2.2.1 x.2.2.2.2.1 x.2.2.2.2.2
def Ax:Nat->((Int×(List (Int×(List Int))))×((Int×(List (Int×(List Int))))×(Int×((List (List Int))×(List ByteArray))))×(List (List Int))×Int×Int)->Option ((Int×(List (Int×(List Int))))×((Int×(List (Int×(List Int))))×(Int×((List (List Int))×(List ByteArray)))))
 |0,_=>none
 |n+1,(t3,t8,t21,t22,t23)=>
 if decide (t23<t22)then
 if inb t23 t21 then
 (Bv (gd t21 t23 [])).bind λr1=>
 (Bd ((t8.1.1,t8.1.2),(t8.2.1,(t8.2.2.1,t8.2.2.2))) r1).bind λr2=>
 Ax n ((t3.1,t3.2),((r2.1.1,r2.1.2),(r2.2.1,(r2.2.2.1,r2.2.2.2))),t21,t22,w64 (t23+1))
 else none
 else
 some ((t3.1,t3.2),((t8.1.1,t8.1.2),(t8.2.1,(t8.2.2.1,t8.2.2.2))))
def Ah:Nat->((Int×(List (Int×(List Int))))×((Int×(List (Int×(List Int))))×(Int×((List (List Int))×(List ByteArray))))×Int×Int×(List (Int×(List Int)))×Int×Int)->Option (((Int×(List (Int×(List Int))))×((Int×(List (Int×(List Int))))×(Int×((List (List Int))×(List ByteArray))))×Int)⊕((Bool×(Int×(List (Int×(List Int))))×Int×(List (List Int))×(List ByteArray))×Bool))
 |0,_=>none
 |n+1,(t3,t8,t11,t13,t56,t57,t58)=>
 if decide (t58<t57)then
 if inb t58 t56 then
 if(0:Int)<=0/\(0:Int)<=3/\3<=lim then
 (Ag Aa (((t8.1.1,t8.1.2),(t8.2.1,(t8.2.2.1,t8.2.2.2))),((gd t56 t58 (0,[])).1,(gd t56 t58 (0,[])).2),(List.replicate (Int.toNat 3) ([]:List Int),0),t11,t13,false)).bind λr5=>
 if(decide (r5.2.1.length=(List.replicate (Int.toNat 3) ([]:List Int)).length)&&true)then
 if !r5.2.2 then
 some (.inr ((false,((0,[]),(0,([],[])))),false))
 else
 Ah n ((t3.1,t3.2),((r5.1.1.1,r5.1.1.2),(r5.1.2.1,(r5.1.2.2.1,r5.1.2.2.2))),t11,t13,t56,t57,w64 (t58+1))
 else none
 else none
 else none
 else
 some (.inl ((t3.1,t3.2),((t8.1.1,t8.1.2),(t8.2.1,(t8.2.2.1,t8.2.2.2))),t13))
def Af:Nat->((Int×(List (Int×(List Int))))×((Int×(List (Int×(List Int))))×(Int×((List (List Int))×(List ByteArray))))×Int×Bool)->Option ((((Int×(List (Int×(List Int))))×(Int×((List (List Int))×(List ByteArray)))))⊕((Bool×(Int×(List (Int×(List Int))))×Int×(List (List Int))×(List ByteArray))×Bool))
 |0,_=>none
 |n+1,(t3,t8,t11,t12)=>
  if t12 then
   (Ah Aa ((t3.1,t3.2),((t8.1.1,t8.1.2),(t8.2.1,(t8.2.2.1,t8.2.2.2))),t11,(t8.2.2.1.length:Int),t3.2,(t3.2.length:Int),0)).bind λs5=>
    match s5 with
    | .inl s6=>
     Af n ((s6.1.1,s6.1.2),((s6.2.1.1.1,s6.2.1.1.2),(s6.2.1.2.1,(s6.2.1.2.2.1,s6.2.1.2.2.2))),s6.2.2,false)
    | .inr s7=>
     some (.inr (s7.1,s7.2))
  else
   if decide (t11<(t8.2.2.1.length:Int))then
    (Ah Aa ((t3.1,t3.2),((t8.1.1,t8.1.2),(t8.2.1,(t8.2.2.1,t8.2.2.2))),t11,(t8.2.2.1.length:Int),t3.2,(t3.2.length:Int),0)).bind λs8=>
     match s8 with
     | .inl s9=>
      Af n ((s9.1.1,s9.1.2),((s9.2.1.1.1,s9.2.1.1.2),(s9.2.1.2.1,(s9.2.1.2.2.1,s9.2.1.2.2.2))),s9.2.2,false)
     | .inr s10=>
      some (.inr (s10.1,s10.2))
   else
    some (.inl ((t8.1.1,t8.1.2),(t8.2.1,(t8.2.2.1,t8.2.2.2))))
def BY (t0:Int×(List (Int×(List Int)))) (t1:Int) (t2:List (List Int)):Option ((Bool×(Int×(List (Int×(List Int))))×Int×(List (List Int))×(List ByteArray))×Bool):=
 (Ax Aa ((t0.1,t0.2),((t0.1,t0.2),(t1,([],[]))),t2,(t2.length:Int),0)).bind λs1=>
  (Av (s1.1.1,s1.1.2)).bind λr2=>
   if decide ((s1.2.2.2.1.length:Int)>r2)then
    some ((false,((0,[]),(0,([],[])))),false)
   else
    (Af Aa ((s1.1.1,s1.1.2),((s1.2.1.1,s1.2.1.2),(s1.2.2.1,(s1.2.2.2.1,s1.2.2.2.2))),0,true)).bind λs3=>
     match s3 with
     | .inl s4=>
      some ((true,((s4.1.1,s4.1.2),(s4.2.1,(s4.2.2.1,s4.2.2.2)))),true)
     | .inr s5=>
      some (s5.1,s5.2)
def AR (a:Int×(List (Int×(List Int)))) (k:Int) (gens:List (List Int)):Option ((List (List Int))×Bool):=
 (Ca (a.1,a.2) k gens).bind λr1=>
 if !r1 then
 some ([],false)
 else
 (BY (a.1,a.2) k gens).bind λr2=>
 if !r2.2 then
 some ([],false)
 else
 if r2.1.1=true then
 (Bl r2.1.2.2.2.1).bind λr3=>
 some (r3,true)
 else none
def Bf (n_:Int) (op:Int×(List Int)) (k:Int) (tuples:List (List Int)):Option ((List (List Int))×Bool):=
 (BG n_ k tuples).bind λr1=>
 if !r1 then
 some ([],false)
 else
 if decide ((tuples.length:Int)>20)then
 some ([],false)
 else
 if op.1 !=3 then
 some ([],false)
 else
 (Cw (op.1,op.2) n_).bind λr2=>
 if !r2 then
 some ([],false)
 else
 (AR (n_,[(op.1,op.2)]) k tuples).bind λr3=>
 some (r3.1,r3.2)
def Bm (t0:Int) (t1:Int×(List Int)) (t2:Int) (t3:List (List Int)):Option (Bool):=
 (CU (t1.1,t1.2) 1048576).bind λr1=>
 if decide (r1<0)then
 some true
 else
 (Cd t3 r1).bind λr2=>
 if decide (r2<0)then
 some true
 else
 (BN (t1.1,t1.2)).bind λr3=>
 (Bb t3).bind λr4=>
 (BH t0 (r3.1,r3.2) t2 r4).bind λr5=>
 (BN (t1.1,t1.2)).bind λr6=>
 (Bb t3).bind λr7=>
 (Bf t0 (r6.1,r6.2) t2 r7).bind λr8=>
 (Ba r8.1 r5.1).bind λr9=>
 if !r9 then
 some false
 else
 if r8.2 !=r5.2 then
 some false
 else
 (BN (t1.1,t1.2)).bind λr10=>
 (CT (r6.1,r6.2) (r10.1,r10.2)).bind λr11=>
 if !r11 then
 some false
 else
 (Bb t3).bind λr12=>
 (Ba r7 r12).bind λr13=>
 if !r13 then
 some false
 else
 (B1 (r6.1,r6.2) 1).bind λr14=>
 (Bp r7 r14.2).bind λr15=>
 if decide (r15.2<0)then
 some false
 else
 (Ba r8.1 r5.1).bind λr16=>
 if !r16 then
 some false
 else
 if r8.2 !=r5.2 then
 some false
 else
 (Bp r8.1 1).bind λr17=>
 (Bn r17.1 1).bind λr18=>
 if decide (r18<0)then
 some false
 else
 if r18 !=r17.2 then
 some false
 else
 (BN (t1.1,t1.2)).bind λr19=>
 (Bb t3).bind λr20=>
 (Bf t0 (r19.1,r19.2) t2 r20).bind λr21=>
 (Ba r21.1 r5.1).bind λr22=>
 if !r22 then
 some false
 else
 if r21.2 !=r5.2 then
 some false
 else
 (Bn r17.1 1).bind λr23=>
 if decide (r23<0)then
 some false
 else
 if r23 !=r17.2 then
 some false
 else
 some true
end T
open Go Go.Va
namespace T
def Bu (n k:Nat) (T:List Int) (x y z:List Int):List Int:=(List.range k).map λj=>T.getD (((x.getD j 0).toNat*n+(y.getD j 0).toNat)*n+(z.getD j 0).toNat) 0
structure T3Ok (n k:Nat) (T:List Int):Prop where
 hn:1<=n/\n<=8
 hk:1<=k/\k<=4
 tl:T.length=n*n*n
 tv: ∀x∈T,0<=x/\x<(n:Int)
def TpOk (n k:Nat) (t:List Int):Prop:=t.length=k/\ ∀x∈t,0<=x/\x<(n:Int)
inductive Clo (n k:Nat) (T:List Int) (gens:List (List Int)):List Int->Prop
 |gen {t:List Int}:t∈gens->Clo n k T gens t
 |app {x y z:List Int}:Clo n k T gens x->Clo n k T gens y->Clo n k T gens z->Clo n k T gens (Bu n k T x y z)
section
variable {n k:Nat} {T:List Int} {gens:List (List Int)}
theorem TpOk.get {t:List Int} (h:TpOk n k t) {j:Nat} (hj:j<k):(t.getD j 0).toNat<n/\t.getD j 0=(((t.getD j 0).toNat:Nat):Int)/\j<t.length:=by
 have h1:j<t.length:=by have:=h.1;omega
 have:=h.2 _ (List.getElem_mem h1)
 rw[Aj h1]
 exact⟨by omega,by omega,h1⟩
theorem DQ {a b c:Nat} (ha:a<n) (hb:b<n) (hc:c<n):(a*n+b)*n+c<n*n*n:=by
 have h1:(a+1)*n<=n*n:=Nat.mul_le_mul_right _ ha
 have h2:(a*n+b+1)*n<=n*n*n:=Nat.mul_le_mul_right _ (by rw[Nat.succ_mul]at h1;omega)
 rw[Nat.succ_mul]at h2;omega
theorem CM (h:T3Ok n k T) {x y z:List Int} (hx:TpOk n k x) (hy:TpOk n k y) (hz:TpOk n k z):TpOk n k (Bu n k T x y z):=by
 refine⟨by simp[Bu],λv hv=>?_⟩
 obtain⟨j,hj,rfl⟩:=List.mem_map.1 hv
 have hj:=List.mem_range.1 hj
 have:=DQ (hx.get hj).1 (hy.get hj).1 (hz.get hj).1
 rw[←h.tl]at this
 rw[Aj this]
 exact h.tv _ (List.getElem_mem _)
theorem Clo.ok (h:T3Ok n k T) (hg: ∀t∈gens,TpOk n k t) {t:List Int} (c:Clo n k T gens t):TpOk n k t:=by
 induction c with
 |gen h=>exact hg _ h
 |app _ _ _ i1 i2 i3=>exact CM h i1 i2 i3
theorem DD {α:Type} [DecidableEq α]: ∀ {l m:List α},l.Nodup->(∀x∈l,x∈m)->l.length<=m.length
 | [],_,_,_=>Nat.zero_le _
 |x::l,m,hn,h=>by
  obtain⟨h1,h2⟩:=List.nodup_cons.1 hn
  have hx:=h x (List.mem_cons_self ..)
  have:=DD (m:=m.erase x) h2 λy hy=>(List.mem_erase_of_ne (λe:y=x=>h1 (by rw[←e];exact hy))).2 (h y (List.mem_cons_of_mem _ hy))
  rw[List.length_erase_of_mem hx]at this
  have:0<m.length:=List.length_pos_of_mem hx
  simp only[List.length_cons];omega
structure CloL (n k:Nat) (T:List Int) (gens L:List (List Int)):Prop where
 nd:L.Nodup
 sub: ∀x∈L,Clo n k T gens x
def Closd (n k:Nat) (T:List Int) (L:List (List Int)):Prop:= ∀x∈L,∀y∈L,∀z∈L,Bu n k T x y z∈L
theorem Closd.mem {L:List (List Int)} (hg: ∀t∈gens,t∈L) (hc:Closd n k T L) {t:List Int} (c:Clo n k T gens t):t∈L:=by
 induction c with
 |gen h=>exact hg _ h
 |app _ _ _ i1 i2 i3=>exact hc _ i1 _ i2 _ i3
structure GenL (n k:Nat) (T:List Int) (gens L:List (List Int)):Prop where
 cl:CloL n k T gens L
 le:L.length<=41
 gs: ∀t∈gens,t∈L
 all:L.length<=40->Closd n k T L
theorem GenL.same {L M:List (List Int)} (h:GenL n k T gens L) (h':GenL n k T gens M) (hl:L.length<=40):M.length<=40/\Zn cmpL L=Zn cmpL M:=by
 have hc:=h.all hl
 have h1: ∀t∈M,t∈L:=λt ht=>hc.mem h.gs (h'.cl.sub _ ht)
 have h2:=DD h'.cl.nd h1
 have hc':=h'.all (by omega)
 have h3: ∀t∈L,t∈M:=λt ht=>hc'.mem h'.gs (h.cl.sub _ ht)
 refine⟨by omega,?_⟩
 have i1:=Cc h.cl.nd
 have i2:=Cc h'.cl.nd
 refine EI i1 i2 λu=>?_
 rw[(Bi L).mem_iff,(Bi M).mem_iff]
 exact⟨h3 u,h1 u⟩
def Bj (L:List (List Int)) (t:List Int):List (List Int):=if t∈L then L else L++ [t]
theorem addL_pre {L:List (List Int)} {t:List Int}:L<+:Bj L t:=by
 unfold Bj;split
 ·exact List.prefix_refl L
 ·exact List.prefix_append L [t]
theorem CL {L:List (List Int)} {t:List Int}:t∈Bj L t:=by
 unfold Bj;split
 ·assumption
 ·simp
theorem E2 {L:List (List Int)} {t u:List Int} (h:u∈Bj L t):u∈L∨u=t:=by
 unfold Bj at h;split at h
 ·exact .inl h
 ·simpa using h
theorem C7 {L:List (List Int)} {t:List Int}:(Bj L t).length<=L.length+1:=by
 unfold Bj;split<;>simp
theorem C6 {L:List (List Int)} {t:List Int} (h:CloL n k T gens L) (ht:Clo n k T gens t):CloL n k T gens (Bj L t):=by
 refine⟨?_,λx hx=>(E2 hx).elim (h.sub x) λe=>e▸ht⟩
 unfold Bj;split
 ·exact h.nd
 ·rename_i hm
  rw[List.nodup_append]
  refine⟨h.nd,by simp,λa ha b hb=>?_⟩
  rw[List.mem_singleton.1 hb];exact λe=>hm (e▸ha)
theorem CY (hn:n<=8) {x v:Nat} (hx:x<=512) (hv:v<n):w64 (w64 ((x:Int)*(n:Int))+(v:Int))=((x*n+v:Nat):Int):=by
 have h1:x*n<=512*8:=Nat.mul_le_mul hx hn
 have e:(x:Int)*(n:Int)=((x*n:Nat):Int):=by push_cast;rfl
 rw[e,AA (x:=((x*n:Nat):Int)) (by omega) (by omega),AA (by omega) (by omega)]
 push_cast;rfl
theorem FB (hn:n<=8) {a b:Nat} (ha:a<n) (hb:b<n):a*n+b<=512:=by
 have:a*n<=8*8:=Nat.mul_le_mul (by omega) hn
 omega
theorem FD (h:T3Ok n k T) {x y z:List Int} (hx:TpOk n k x) (hy:TpOk n k y) (hz:TpOk n k z) {j:Nat} (hj:j<k) (value:List Int) (t17:Int) (A:List (Int×List Int)):
  AG Aa ((),([x,y,z],3),((n:Int),A),(3,T),value,(j:Int),0,t17,(j:Int),3,0)=some (([x,y,z],3),((n:Int),A),(3,T),value,(j:Int),((((x.getD j 0).toNat*n+(y.getD j 0).toNat)*n+(z.getD j 0).toNat:Nat):Int),t17,(j:Int)):=by
 obtain⟨x1,x2,x3⟩:=hx.get hj
 obtain⟨y1,y2,y3⟩:=hy.get hj
 obtain⟨z1,z2,z3⟩:=hz.get hj
 obtain⟨f,hf⟩: ∃f,Aa=f+4:=⟨Aa-4,rfl⟩
 have g0:gd [x,y,z] 0 []=x:=rfl
 have g1:gd [x,y,z] 1 []=y:=rfl
 have g2:gd [x,y,z] 2 []=z:=rfl
 have w0:w64 (0+1)=1:=by decide
 have w1:w64 (1+1)=2:=by decide
 have w2:w64 (2+1)=3:=by decide
 have s0:w64 (w64 (0*(n:Int))+x.getD j 0)=(((x.getD j 0).toNat:Nat):Int):=by
  have:=CY h.hn.2 (x:=0) (by omega) x1
  rw[←x2]at this
  have e:((0*n+(x.getD j 0).toNat:Nat):Int)=(((x.getD j 0).toNat:Nat):Int):=by rw[Nat.zero_mul,Nat.zero_add]
  rw[e]at this;exact this
 have s1:w64 (w64 ((((x.getD j 0).toNat:Nat):Int)*(n:Int))+y.getD j 0)=(((x.getD j 0).toNat*n+(y.getD j 0).toNat:Nat):Int):=by
  have:=CY h.hn.2 (x:=(x.getD j 0).toNat) (by have:=h.hn;omega) y1
  rw[←y2]at this;exact this
 have s2:w64 (w64 ((((x.getD j 0).toNat*n+(y.getD j 0).toNat:Nat):Int)*(n:Int))+z.getD j 0)=((((x.getD j 0).toNat*n+(y.getD j 0).toNat)*n+(z.getD j 0).toNat:Nat):Int):=by
  have:=CY h.hn.2 (x:=(x.getD j 0).toNat*n+(y.getD j 0).toNat) (FB h.hn.2 x1 y1) z1
  rw[←z2]at this;exact this
 rw[hf]
 simp only[AG,g0,g1,g2,w0,w1,w2,Ac,x3,y3,z3,DS,s0,s1,s2,if_true,show decide ((0:Int)<3)=true from rfl,show decide ((1:Int)<3)=true from rfl,show decide ((2:Int)<3)=true from rfl,show decide ((3:Int)<3)=false from rfl,show(0<=(0:Int)/\(0:Int)<3) from by decide,show(0<=(1:Int)/\(1:Int)<3) from by decide,show(0<=(2:Int)/\(2:Int)<3) from by decide,and_self,decide_true,Bool.false_eq_true,if_false]
theorem F8 {α:Type} (k j:Nat) (hj:j<k) (g:Nat->α) (d:α):((List.range j).map g++List.replicate (k-j) d).set j (g j)=(List.range (j+1)).map g++List.replicate (k-(j+1)) d:=by
 have e:k-j=(k-(j+1))+1:=by omega
 rw[List.set_append_right _ _ (by simp),e,List.replicate_succ,List.range_succ,List.map_append]
 simp
theorem Cz (h:T3Ok n k T) {x y z:List Int} (hx:TpOk n k x) (hy:TpOk n k y) (hz:TpOk n k z) (A:List (Int×List Int)):
  A9 ((n:Int),A) (3,T) (k:Int) ([x,y,z],3)=some ([x,y,z],Bu n k T x y z):=by
 have hk:=h.hk
 unfold A9
 rw[if_pos (by unfold lim;omega)]
 have:=Du k (λf v i=>An f (([x,y,z],3),((n:Int),A),(3,T),v,(k:Int),i)) (λq=>(List.range q).map (λj=>T.getD (((x.getD j 0).toNat*n+(y.getD j 0).toNat)*n+(z.getD j 0).toNat) 0)++List.replicate (k-q) 0)
  (r:=some (([x,y,z],3),Bu n k T x y z)) (λf j hj=>?_) (λf=>?_) (n:=Aa) (by unfold Aa;omega)
 ·have this:An Aa (([x,y,z],3),((n:Int),A),(3,T),List.replicate k 0,(k:Int),0)=_:=this
  rw[Int.toNat_natCast,List.length_replicate]
  dsimp only
  rw[this];rfl
 ·have h7:=FD h hx hy hz hj ((List.range j).map (λj=>T.getD (((x.getD j 0).toNat*n+(y.getD j 0).toNat)*n+(z.getD j 0).toNat) 0)++List.replicate (k-j) 0) (k:Int) A
  have:=DQ (hx.get hj).1 (hy.get hj).1 (hz.get hj).1
  rw[←h.tl]at this
  rw[←F8 k j hj (λj=>T.getD (((x.getD j 0).toNat*n+(y.getD j 0).toNat)*n+(z.getD j 0).toNat) 0) 0]
  simp only[An,h7,Option.bind_some,Ac,this,DS,Cy,Ab (show j<4611686018427387904 by omega)]
  rw[if_pos (by simp;omega),if_pos trivial,if_pos (by simp;omega)]
 ·simp only[An]
  rw[if_neg (by simp),Nat.sub_self]
  simp[Bu]
theorem FM (h:T3Ok n k T) {x y z:List Int} (hx:TpOk n k x) (hy:TpOk n k y) (hz:TpOk n k z) {j:Nat} (hj:j<k) (out:List Int):
  Bg Aa (0,[x,y,z],(k:Int),((n:Int),[(3,T)]),out,(j:Int),0,0)=some (0,[x,y,z],(k:Int),((n:Int),[(3,T)]),out,(j:Int),((((x.getD j 0).toNat*n+(y.getD j 0).toNat)*n+(z.getD j 0).toNat:Nat):Int)):=by
 obtain⟨x1,x2,x3⟩:=hx.get hj
 obtain⟨y1,y2,y3⟩:=hy.get hj
 obtain⟨z1,z2,z3⟩:=hz.get hj
 obtain⟨f,hf⟩: ∃f,Aa=f+4:=⟨Aa-4,rfl⟩
 have g0:gd [x,y,z] 0 []=x:=rfl
 have g1:gd [x,y,z] 1 []=y:=rfl
 have g2:gd [x,y,z] 2 []=z:=rfl
 have i0:inb 0 [x,y,z]:=by unfold inb;simp
 have i1:inb 1 [x,y,z]:=by unfold inb;simp
 have i2:inb 2 [x,y,z]:=by unfold inb;simp
 have w0:w64 (0+1)=1:=by decide
 have w1:w64 (1+1)=2:=by decide
 have w2:w64 (2+1)=3:=by decide
 have s0:w64 (w64 (0*(n:Int))+x.getD j 0)=(((x.getD j 0).toNat:Nat):Int):=by
  have:=CY h.hn.2 (x:=0) (by omega) x1
  rw[←x2]at this
  have e:((0*n+(x.getD j 0).toNat:Nat):Int)=(((x.getD j 0).toNat:Nat):Int):=by rw[Nat.zero_mul,Nat.zero_add]
  rw[e]at this;exact this
 have s1:w64 (w64 ((((x.getD j 0).toNat:Nat):Int)*(n:Int))+y.getD j 0)=(((x.getD j 0).toNat*n+(y.getD j 0).toNat:Nat):Int):=by
  have:=CY h.hn.2 (x:=(x.getD j 0).toNat) (by have:=h.hn;omega) y1
  rw[←y2]at this;exact this
 have s2:w64 (w64 ((((x.getD j 0).toNat*n+(y.getD j 0).toNat:Nat):Int)*(n:Int))+z.getD j 0)=((((x.getD j 0).toNat*n+(y.getD j 0).toNat)*n+(z.getD j 0).toNat:Nat):Int):=by
  have:=CY h.hn.2 (x:=(x.getD j 0).toNat*n+(y.getD j 0).toNat) (FB h.hn.2 x1 y1) z1
  rw[←z2]at this;exact this
 have hl:(([x,y,z].length:Nat):Int)=3:=rfl
 rw[hf]
 simp only[Bg,hl,g0,g1,g2,i0,i1,i2,w0,w1,w2,Ac,x3,y3,z3,DS,s0,s1,s2,if_true,show decide ((0:Int)<3)=true from rfl,show decide ((1:Int)<3)=true from rfl,show decide ((2:Int)<3)=true from rfl,show decide ((3:Int)<3)=false from rfl,Bool.false_eq_true,if_false]
theorem B8 (h:T3Ok n k T) {x y z:List Int} (hx:TpOk n k x) (hy:TpOk n k y) (hz:TpOk n k z):
  BK ((n:Int),[(3,T)]) 0 [x,y,z] (k:Int)=some (Bu n k T x y z):=by
 have hk:=h.hk
 unfold BK
 have:=Du k (λf v i=>AB f (0,[x,y,z],(k:Int),((n:Int),[(3,T)]),v,i)) (λq=>(List.range q).map (λj=>T.getD (((x.getD j 0).toNat*n+(y.getD j 0).toNat)*n+(z.getD j 0).toNat) 0))
  (r:=some (Bu n k T x y z)) (λf j hj=>?_) (λf=>?_) (n:=Aa) (by unfold Aa;omega)
 ·have this:AB Aa (0,[x,y,z],(k:Int),((n:Int),[(3,T)]),[],0)=_:=this
  dsimp only
  rw[this];rfl
 ·have h7:=FM h hx hy hz hj ((List.range j).map (λj=>T.getD (((x.getD j 0).toNat*n+(y.getD j 0).toNat)*n+(z.getD j 0).toNat) 0))
  have:=DQ (hx.get hj).1 (hy.get hj).1 (hz.get hj).1
  rw[←h.tl]at this
  have i0:inb 0 [((3:Int),T)]:=by unfold inb;simp
  have g0:gd [((3:Int),T)] 0 (0,[])=(3,T):=rfl
  simp only[AB,h7,Option.bind_some,i0,g0,if_true,Ac,this,DS,Ab (show j<4611686018427387904 by omega),List.range_succ,List.map_append,List.map_cons,List.map_nil]
  rw[if_pos (by simp;omega),if_pos (by simp;unfold lim;omega)]
 ·simp only[AB]
  rw[if_neg (by simp)];rfl
end
end T
open Go Go.Va
namespace T
section
variable {n k:Nat} {T:List Int} {gens:List (List Int)}
structure SpOk (n k:Nat) (T:List Int) (gens L:List (List Int)):Prop where
 cl:CloL n k T gens L
 le:L.length<=41
abbrev FR:=(Int×(List (Int×(List Int))))×(Int×((List (List Int))×(List ByteArray)))
def spn (n k:Nat) (T:List Int) (L:List (List Int)):FR:=(((n:Int),[(3,T)]),((k:Int),(L,CS L)))
theorem TpOk.small (h:T3Ok n k T) {t:List Int} (ht:TpOk n k t): ∀x∈t,0<=x/\x<256:=λx hx=>by have:=ht.2 x hx;have:=h.hn;omega
theorem C0 (h:T3Ok n k T) {L:List (List Int)} (hL: ∀t∈L,TpOk n k t) (hl:L.length<=1000) {t:List Int} (ht:TpOk n k t):
  Bd (spn n k T L) t=some (spn n k T (Bj L t)):=by
 have hk:=h.hk
 have e1:=Dv (l:=t) (by have:=ht.1;omega) (ht.small h)
 have e2:=Er (l:=L) (t:=t) (λu hu=>(hL u hu).small h) (ht.small h)
 unfold Bd spn Bj
 simp only[e1,Option.bind_some,e2]
 by_cases hm:t∈L
 ·simp[hm]
 ·have e3:CS (L++ [t])=YhI (CS L) (Dx t):=by unfold CS;rw[List.foldl_append];rfl
  rw[if_pos (by simpa using hm),if_pos (by simp;unfold lim;omega),if_neg hm,e3]
theorem CG (n:Int) (T:List Int):Av (n,[(3,T)])=some 40:=by
 obtain⟨f,hf⟩: ∃f,Aa=f+2:=⟨Aa-2,rfl⟩
 have i0:inb 0 [((3:Int),T)]:=by unfold inb;simp
 have g0:gd [((3:Int),T)] 0 (0,[])=(3,T):=rfl
 have m0:Yiv 0 3=3:=by decide
 have w0:w64 (0+1)=1:=by decide
 unfold Av
 rw[hf]
 simp only[Bh,List.length_singleton,i0,g0,m0,w0,if_true]
 simp
def E5 (n k:Nat) (T:List Int) (p:List (List Int)):List Int:=Bu n k T (p.getD 0 []) (p.getD 1 []) (p.getD 2 [])
def Need (n k:Nat) (T:List Int) (L0:List (List Int)) (old many:Nat):Nat->List (List Int)->Bool->List (List Int)->Prop
 |0,p,fr,M=>fr=true->E5 n k T p∈M
 |r+1,p,fr,M=> ∀i,i<many->Need n k T L0 old many r (p++ [L0.getD i []]) (fr||decide (old<=i)) M
theorem Need.mono {L0:List (List Int)} {old many:Nat}: ∀(r:Nat) (p:List (List Int)) (fr:Bool) {M M':List (List Int)},(∀t∈M,t∈M')->Need n k T L0 old many r p fr M->Need n k T L0 old many r p fr M'
 |0,p,fr,M,M',hs,h=>λe=>hs _ (h e)
 |r+1,p,fr,M,M',hs,h=>λi hi=>Need.mono r _ _ hs (h i hi)
theorem BD {L0 L:List (List Int)} (h:L0<+:L) {i:Nat} (hi:i<L0.length):L.getD i []=L0.getD i []:=by
 obtain⟨M,rfl⟩:=h
 rw[Aj (show i<(L0++M).length by simp;omega),Aj hi,List.getElem_append_left]
theorem EN {α:Type} {l:List α} (h:l.length=3): ∃x y z,l= [x,y,z]:=by
 match l,h with
 | [x,y,z],_=>exact⟨x,y,z,rfl⟩
theorem FE (h:T3Ok n k T) (hg: ∀t∈gens,TpOk n k t) {L0:List (List Int)} {old many:Nat} (hm:many<=L0.length): ∀(r d:Nat),r<d-> ∀(L:List (List Int)) (p bf:List (List Int)) (fr:Bool),
  SpOk n k T gens L->L.length<=40->L0<+:L->p.length+r=3->bf.length=3->bf.take p.length=p->(∀t∈p,Clo n k T gens t)->
  ∃L' bf' ok,Ag d (spn n k T L,(3,T),(bf,(p.length:Int)),(old:Int),(many:Int),fr)=some (spn n k T L',bf',ok)/\bf'.length=3/\bf'.take p.length=p/\L<+:L'/\SpOk n k T gens L'/\
   (ok=decide (L'.length<=40))/\(ok=true->Need n k T L0 old many r p fr L'):=by
 intro r
 induction r with
 |zero=>
  intro d hd L p bf fr hS hl hp hpl hbl hbt hpc
  obtain⟨d,rfl⟩: ∃q,d=q+1:=⟨d-1,by omega⟩
  have hp3:p.length=3:=by omega
  have hb:bf=p:=by rw[hp3,←hbl,List.take_length]at hbt;exact hbt
  subst hb
  obtain⟨x,y,z,rfl⟩:=EN hp3
  have hx:=hpc x (by simp);have hy:=hpc y (by simp);have hz:=hpc z (by simp)
  have e1:=Cz h (hx.ok h hg) (hy.ok h hg) (hz.ok h hg) [(3,T)]
  have e2:=C0 h (L:=L) (λt ht=>(hS.cl.sub t ht).ok h hg) (by omega) (CM h (hx.ok h hg) (hy.ok h hg) (hz.ok h hg))
  have hcn:=C6 hS.cl (hx.app hy hz)
  have hln:=C7 (L:=L) (t:=Bu n k T x y z)
  have b3:((([x,y,z]:List (List Int)).length:Nat):Int)==(3:Int):=rfl
  rw[Ag]
  unfold AH spn
  dsimp only
  rw[if_pos b3]
  cases fr with
  |true=>
   unfold spn at e2
   simp only[if_true]
   rw[show((([x,y,z]:List (List Int)).length:Nat):Int)=3 from rfl,e1]
   simp only[Option.bind_some,decide_true,if_true]
   rw[e2]
   simp only[Option.bind_some,CG]
   exact⟨Bj L (Bu n k T x y z),[x,y,z],_,rfl,rfl,rfl,addL_pre,⟨hcn,by omega⟩,by simp;omega,λ_ _=>CL⟩
  |false=>
   simp only[Bool.false_eq_true,if_false]
   rw[if_neg (by simp)]
   simp only[CG,Option.bind_some]
   exact⟨L,[x,y,z],_,rfl,rfl,rfl,List.prefix_refl L,hS,by simp;omega,λ_ e=>absurd e (by simp)⟩
 |succ r ih=>
  intro d hd L p bf fr hS hl hp hpl hbl hbt hpc
  obtain⟨d,rfl⟩: ∃q,d=q+1:=⟨d-1,by omega⟩
  have hp2:p.length<=2:=by omega
  have key: ∀(c f i:Nat) (L bf:List (List Int)),i+c=many->c<f->SpOk n k T gens L->L.length<=40->L0<+:L->bf.length=3->bf.take p.length=p->
    ∃L' bf' ok,Ae (Ag d) f (spn n k T L,(bf,(p.length:Int)),(old:Int),(many:Int),fr,(3,T),(i:Int))=some (if ok then .inl (spn n k T L',(bf',(p.length:Int)))else .inr (spn n k T L',(bf',(p.length:Int)),false))/\bf'.length=3/\bf'.take p.length=p/\L<+:L'/\SpOk n k T gens L'/\
     (ok=decide (L'.length<=40))/\(ok=true-> ∀q,i<=q->q<many->Need n k T L0 old many r (p++ [L0.getD q []]) (fr||decide (old<=q)) L'):=by
   intro c
   induction c with
   |zero=>
    intro f i L bf hi hf hS hl hp hbl hbt
    obtain⟨f,rfl⟩: ∃q,f=q+1:=⟨f-1,by omega⟩
    refine⟨L,bf,true,?_,hbl,hbt,List.prefix_refl L,hS,by simp;omega,λ_ q h1 h2=>by omega⟩
    unfold spn
    simp only[Ae]
    rw[if_neg (by simp;omega)];rfl
   |succ c ihc=>
    intro f i L bf hi hf hS hl hp hbl hbt
    obtain⟨f,rfl⟩: ∃q,f=q+1:=⟨f-1,by omega⟩
    have hpl2:L0.length<=L.length:=hp.length_le
    have hi1:i<L.length:=by omega
    have hg0:L.getD i []=L0.getD i []:=BD hp (by omega)
    have hput:Yda bf (p.length:Int) [L.getD i []]=p++([L.getD i []]++bf.drop (p.length+1)):=by
     unfold Yda;rw[Int.toNat_natCast,hbt];rfl
    have hpl3:(p++([L.getD i []]++bf.drop (p.length+1))).length=3:=by simp[hbl];omega
    have hnum:(p.length:Int)+(([L.getD i []].length:Nat):Int)=((p++ [L.getD i []]).length:Int):=by simp
    obtain⟨L',bf',ok,e1,b1,b2,b3,b4,b5,b6⟩:=ih d (by omega) L (p++ [L.getD i []]) (p++([L.getD i []]++bf.drop (p.length+1))) (fr||decide (old<=i)) hS hl hp (by simp;omega) hpl3
     (by rw[←List.append_assoc,List.take_left]) (λt ht=>by
      rcases List.mem_append.1 ht with h1|h1
      ·exact hpc t h1
      ·rw[List.mem_singleton.1 h1,Aj hi1];exact hS.cl.sub _ (List.getElem_mem _))
    have b2':bf'.take p.length=p:=by
     have:=congrArg (List.take p.length) b2
     rw[List.take_take,List.take_left,Nat.min_eq_left (by simp)]at this
     exact this
    have hcall: ∀fr',fr'=(fr||decide (old<=i))->Ag d ((((n:Int),[(3,T)]),((k:Int),(L,CS L))),(3,T),(Yda bf (p.length:Int) [L.getD i []],(p.length:Int)+(([L.getD i []].length:Nat):Int)),(old:Int),(many:Int),fr')=some (spn n k T L',bf',ok):=λfr' e=>by
     rw[e,hput,hnum];exact e1
    have hlen:(decide (bf'.length=(Yda bf (p.length:Int) [L.getD i []]).length)&&true)=true:=by rw[hput,hpl3,b1];rfl
    have hin:inb (i:Int) L:=Ac.2 hi1
    have hfit:0<(([L.getD i []].length:Nat):Int)/\(p.length:Int)+(([L.getD i []].length:Nat):Int)<=(bf.length:Int):=by rw[hbl];simp;omega
    have hlt:decide ((i:Int)<(many:Int))=true:=by simp;omega
    by_cases hok:ok=true
    ·subst hok
     have h40:L'.length<=40:=by simpa using b5.symm
     obtain⟨L2,bf2,ok2,e2,c1,c2,c3,c4,c5,c6⟩:=ihc f (i+1) L' bf' (by omega) (by omega) b4 h40 (hp.trans b3) b1 b2'
     refine⟨L2,bf2,ok2,?_,c1,c2,b3.trans c3,c4,c5,λe q h1 h2=>?_⟩
     ·unfold spn
      simp only[Ae,hlt,if_true,DS]
      rw[if_pos hin,if_pos hfit]
      cases fr with
      |true=>
       rw[if_pos rfl,hcall true rfl]
       simp only[Option.bind_some]
       refine Eq.trans (if_pos hlen) ?_
       unfold spn at e2⊢
       simp only[Ab (show i<4611686018427387904 by omega)]
       rw[if_neg (by simp)]
       exact e2
      |false=>
       rw[if_neg (by simp),hcall (decide ((i:Int)≥(old:Int))) (by simp)]
       simp only[Option.bind_some]
       refine Eq.trans (if_pos hlen) ?_
       unfold spn at e2⊢
       simp only[Ab (show i<4611686018427387904 by omega)]
       rw[if_neg (by simp)]
       exact e2
     ·rcases Nat.eq_or_lt_of_le h1 with h3|h3
      ·subst h3
       have:=b6 rfl
       rw[hg0]at this
       exact Need.mono r _ _ (λt ht=>c3.subset ht) this
      ·exact c6 e q (by omega) h2
    ·have hok:ok=false:=by simpa using hok
     subst hok
     refine⟨L',bf',false,?_,b1,b2',b3,b4,b5,λe=>absurd e (by simp)⟩
     unfold spn
     simp only[Ae,hlt,if_true,DS]
     rw[if_pos hin,if_pos hfit]
     cases fr with
     |true=>
      rw[if_pos rfl,hcall true rfl]
      simp only[Option.bind_some]
      refine Eq.trans (if_pos hlen) ?_;rfl
     |false=>
      rw[if_neg (by simp),hcall (decide ((i:Int)≥(old:Int))) (by simp)]
      simp only[Option.bind_some]
      refine Eq.trans (if_pos hlen) ?_;rfl
  obtain⟨L',bf',ok,e1,b1,b2,b3,b4,b5,b6⟩:=key many Aa 0 L bf (by omega) (by
   have h1:=hp.length_le
   unfold Aa;omega) hS hl hp hbl hbt
  refine⟨L',bf',ok,?_,b1,b2,b3,b4,b5,λe i hi=>b6 e i (Nat.zero_le _) hi⟩
  have b0:((p.length:Int)==(3:Int))=false:=by simp;omega
  rw[Ag]
  unfold AH
  unfold spn at e1⊢
  dsimp only
  have e1:Ae (Ag d) Aa ((((n:Int),[(3,T)]),((k:Int),(L,CS L))),(bf,(p.length:Int)),(old:Int),(many:Int),fr,(3,T),0)=_:=e1
  rw[b0,if_neg (by simp),e1]
  cases ok with
  |true=>rfl
  |false=>rfl
end
end T
open Go Go.Va
namespace T
section
variable {n k:Nat} {T:List Int} {gens:List (List Int)}
def Bt (gens:List (List Int)):List (List Int):=gens.foldl Bj []
theorem EG {L:List (List Int)} {gs:List (List Int)} (h:CloL n k T gens L) (hg: ∀t∈gs,t∈gens):CloL n k T gens (gs.foldl Bj L)/\(gs.foldl Bj L).length<=L.length+gs.length/\L<+:gs.foldl Bj L/\ ∀t∈gs,t∈gs.foldl Bj L:=by
 induction gs generalizing L with
 |nil=>exact⟨h,Nat.le_refl _,List.prefix_refl L,by simp⟩
 |cons t gs ih=>
  obtain⟨h1,h2,h3,h4⟩:=ih (L:=Bj L t) (C6 h (.gen (hg t (by simp)))) λu hu=>hg u (List.mem_cons_of_mem _ hu)
  have h5:=C7 (L:=L) (t:=t)
  refine⟨h1,by rw[List.foldl_cons,List.length_cons];omega,addL_pre.trans h3,λu hu=>?_⟩
  rcases List.mem_cons.1 hu with rfl|hu
  ·exact h3.subset CL
  ·exact h4 u hu
theorem C8 (gs:List (List Int)) (hg: ∀t∈gs,t∈gens):CloL n k T gens (Bt gs)/\(Bt gs).length<=gs.length/\ ∀t∈gs,t∈Bt gs:=by
 obtain⟨h1,h2,_,h4⟩:=EG (n:=n) (k:=k) (T:=T) (gens:=gens) (L:= []) (gs:=gs) ⟨by simp,by simp⟩ hg
 exact⟨h1,by simpa[Bt]using h2,h4⟩
theorem Dz {gs:List (List Int)} {i:Nat} (h:i<gs.length):Bt (gs.take (i+1))=Bj (Bt (gs.take i)) gs[i]:=by
 unfold Bt;rw[List.take_succ_eq_append_getElem h,List.foldl_append];rfl
theorem Fs (h:T3Ok n k T) (hg: ∀t∈gens,TpOk n k t) (hl:gens.length<=100):Ax Aa (((n:Int),[(3,T)]),spn n k T [],gens,(gens.length:Int),0)=some (((n:Int),[(3,T)]),spn n k T (Bt gens)):=by
 have hk:=h.hk
 have:=Du gens.length (λf s i=>Ax f (((n:Int),[(3,T)]),s,gens,(gens.length:Int),i)) (λq=>spn n k T (Bt (gens.take q)))
  (r:=some (((n:Int),[(3,T)]),spn n k T (Bt gens))) (λf i hi=>?_) (λf=>?_) (n:=Aa) (by unfold Aa;omega)
 ·exact this
 ·obtain⟨c1,c2,_⟩:=C8 (n:=n) (k:=k) (T:=T) (gens:=gens) (gens.take i) λt ht=>List.mem_of_mem_take ht
  have hgi:=hg _ (List.getElem_mem hi)
  have c2':(Bt (gens.take i)).length<=1000:=by rw[List.length_take]at c2;omega
  have e1:=C0 h (λt ht=>(c1.sub t ht).ok h hg) c2' hgi
  have e2:=EC (l:=gens[i]) (by have:=hgi.1;omega)
  unfold spn at e1⊢
  simp only[Ax,Ac,hi,Ak hi,if_true,e2,Option.bind_some,e1,Ab (show i<4611686018427387904 by omega),Dz hi]
  rw[if_pos (by simp;omega)]
 ·unfold spn
  simp only[Ax,List.take_length]
  rw[if_neg (by simp)]
theorem EY (h:T3Ok n k T) (hg: ∀t∈gens,TpOk n k t) {L:List (List Int)} (hS:SpOk n k T gens L) (hl:L.length<=40) (old:Nat):
    ∃L',L<+:L'/\SpOk n k T gens L'/\
      ((Ah Aa (((n:Int),[(3,T)]),spn n k T L,(old:Int),(L.length:Int),[(3,T)],(([((3:Int),T)].length:Nat):Int),0)=some (.inl (((n:Int),[(3,T)]),spn n k T L',(L.length:Int)))/\L'.length<=40/\
        ∀x y z,x<L.length->y<L.length->z<L.length->(old<=x∨old<=y∨old<=z)->Bu n k T (L.getD x []) (L.getD y []) (L.getD z [])∈L')∨
       (Ah Aa (((n:Int),[(3,T)]),spn n k T L,(old:Int),(L.length:Int),[(3,T)],(([((3:Int),T)].length:Nat):Int),0)=some (.inr ((false,((0,[]),(0,([],[])))),false))/\40<L'.length)):=by
  obtain⟨L',bf',ok,e1,b1,_,b3,b4,b5,b6⟩:=FE h hg (L0:=L) (old:=old) (many:=L.length) (Nat.le_refl _) 3 Aa (by unfold Aa;omega) L [] (List.replicate 3 []) false hS hl (List.prefix_refl L) rfl (by simp) rfl (by simp)
  refine⟨L',b3,b4,?_⟩
  obtain⟨f,hf⟩: ∃f,Aa=f+2:=⟨Aa-2,rfl⟩
  have i0:inb 0 [((3:Int),T)]:=by unfold inb;simp
  have g0:gd [((3:Int),T)] 0 (0,[])=(3,T):=rfl
  have w0:w64 (0+1)=1:=by decide
  have hl1:(([((3:Int),T)].length:Nat):Int)=1:=rfl
  have hlen:(decide (bf'.length=(List.replicate (Int.toNat 3) ([]:List Int)).length)&&true)=true:=by rw[b1];rfl
  have hlm:(0:Int)<=0/\(0:Int)<=3/\3<=lim:=by unfold lim;omega
  unfold spn at e1
  have e1:Ag Aa ((((n:Int),[(3,T)]),((k:Int),(L,CS L))),(3,T),(List.replicate (Int.toNat 3) ([]:List Int),0),(old:Int),(L.length:Int),false)=_:=e1
  cases ok with
  |true=>
    have h40:L'.length<=40:=by simpa using b5.symm
    refine .inl ⟨?_,h40,λx y z hx hy hz ho=>?_⟩
    · rw[show Ah Aa=Ah (f+2) from by rw[hf]]
      unfold spn
      simp only[Ah,hl1,i0,g0,if_true,w0]
      rw[if_pos (by decide),if_pos hlm,e1]
      simp only[Option.bind_some]
      refine Eq.trans (if_pos hlen) ?_
      rw[if_neg (by simp),if_neg (by decide)]
    · have this:(((false||decide (old<=x))||decide (old<=y))||decide (old<=z))=true->Bu n k T (L.getD x []) (L.getD y []) (L.getD z [])∈L':=b6 rfl x hx y hy z hz
      refine this ?_
      simp only[Bool.false_or,Bool.or_eq_true,decide_eq_true_eq];omega
  |false=>
    have h40:40<L'.length:=by simpa using b5.symm
    refine .inr ⟨?_,h40⟩
    rw[show Ah Aa=Ah (f+2) from by rw[hf]]
    unfold spn
    simp only[Ah,hl1,i0,g0,if_true,w0]
    rw[if_pos (by decide),if_pos hlm,e1]
    simp only[Option.bind_some]
    refine Eq.trans (if_pos hlen) ?_
    rw[if_pos (by simp)]
def CR (n k:Nat) (T:List Int) (old:Nat) (L M:List (List Int)):Prop:= ∀x y z,x<old->y<old->z<old->Bu n k T (L.getD x []) (L.getD y []) (L.getD z [])∈M
theorem DA {L:List (List Int)} (h:CR n k T L.length L L):Closd n k T L:=by
 intro x hx y hy z hz
 obtain⟨a,ha,rfl⟩:=List.mem_iff_getElem.1 hx
 obtain⟨b,hb,rfl⟩:=List.mem_iff_getElem.1 hy
 obtain⟨c,hc,rfl⟩:=List.mem_iff_getElem.1 hz
 have:=h a b c ha hb hc
 rwa [Aj ha,Aj hb,Aj hc]at this
theorem EX (h:T3Ok n k T) (hg: ∀t∈gens,TpOk n k t): ∀(c f:Nat) (L:List (List Int)) (old:Nat) (first:Bool),c+1<f->2*(41-L.length)+(if first||decide (old<L.length)then 1 else 0)<=c->
    SpOk n k T gens L->L.length<=40->old<=L.length->CR n k T old L L->
    ∃L',L<+:L'/\SpOk n k T gens L'/\
      ((Af f (((n:Int),[(3,T)]),spn n k T L,(old:Int),first)=some (.inl (spn n k T L'))/\L'.length<=40/\Closd n k T L')∨
       (Af f (((n:Int),[(3,T)]),spn n k T L,(old:Int),first)=some (.inr ((false,((0,[]),(0,([],[])))),false))/\40<L'.length)):=by
  intro c
  induction c using Nat.strongRecOn with
  |_ c ih=>
    intro f L old first hf hc hS hl ho hB
    obtain⟨f,rfl⟩: ∃q,f=q+1:=⟨f-1,by omega⟩
    by_cases hgo:(first||decide (old<L.length))=true
    · rw[if_pos hgo]at hc
      obtain⟨L',p1,p2,p3⟩:=EY h hg hS hl old
      have hle:=p1.length_le
      rcases p3 with ⟨e1,q1,q2⟩|⟨e1,q1⟩
      · have hB':CR n k T L.length L' L':=λx y z hx hy hz=>by
          rw[BD p1 hx,BD p1 hy,BD p1 hz]
          by_cases ho2:old<=x∨old<=y∨old<=z
          · exact q2 x y z hx hy hz ho2
          · exact p1.subset (hB x y z (by omega) (by omega) (by omega))
        have hcc:2*(41-L'.length)+(if(false||decide (L.length<L'.length))then 1 else 0)<c:=by
          by_cases h2:L.length<L'.length
          · rw[if_pos (by simpa using h2)];omega
          · rw[if_neg (by simpa using h2)];omega
        obtain⟨L2,r1,r2,r3⟩:=ih _ hcc f L' L.length false (by omega) (Nat.le_refl _) p2 q1 hle hB'
        refine⟨L2,p1.trans r1,r2,?_⟩
        have step:Af (f+1) (((n:Int),[(3,T)]),spn n k T L,(old:Int),first)=Af f (((n:Int),[(3,T)]),spn n k T L',(L.length:Int),false):=by
          unfold spn at e1⊢
          simp only[Af]
          cases first with
          |true=>simp only[if_true,e1,Option.bind_some]
          |false=>
            have:decide ((old:Int)<(L.length:Int))=true:=by simpa using hgo
            simp only[Bool.false_eq_true,if_false,this,if_true,e1,Option.bind_some]
        rw[step];exact r3
      · refine⟨L',p1,p2,.inr ⟨?_,q1⟩⟩
        unfold spn at e1⊢
        simp only[Af]
        cases first with
        |true=>simp only[if_true,e1,Option.bind_some]
        |false=>
          have:decide ((old:Int)<(L.length:Int))=true:=by simpa using hgo
          simp only[Bool.false_eq_true,if_false,this,if_true,e1,Option.bind_some]
    · have h1:first=false:=by cases first<;>simp_all
      have h2: ¬old<L.length:=λh=>hgo (by simp[h])
      have h3:old=L.length:=by omega
      subst h1;subst h3
      refine⟨L,List.prefix_refl L,hS,.inl ⟨?_,hl,DA hB⟩⟩
      unfold spn
      simp only[Af]
      rw[if_neg (by simp),if_neg (by simp)]
theorem Dk (h:T3Ok n k T) (hg: ∀t∈gens,TpOk n k t) (hl:gens.length<=20):
  ∃L,GenL n k T gens L/\((BY ((n:Int),[(3,T)]) (k:Int) gens=some ((true,spn n k T L),true)/\L.length<=40)∨
   (BY ((n:Int),[(3,T)]) (k:Int) gens=some ((false,((0,[]),(0,([],[])))),false)/\40<L.length)):=by
 obtain⟨c1,c2,c3⟩:=C8 (n:=n) (k:=k) (T:=T) (gens:=gens) gens λ_ h=>h
 have e1:=Fs h hg (by omega)
 obtain⟨L,p1,p2,p3⟩:=EX h hg 100 Aa (Bt gens) 0 true (by unfold Aa;omega) (by simp;omega) ⟨c1,by omega⟩ (by omega) (Nat.zero_le _) (λx y z hx=>by omega)
 refine⟨L,⟨p2.cl,p2.le,λt ht=>p1.subset (c3 t ht),λhle=>?_⟩,?_⟩
 ·rcases p3 with ⟨_,_,q⟩|⟨_,q⟩
  ·exact q
  ·omega
 ·unfold BY
  have e1:Ax Aa (((n:Int),[(3,T)]),(((n:Int),[(3,T)]),((k:Int),([],[]))),gens,(gens.length:Int),0)=_:=e1
  dsimp only
  rw[e1]
  unfold spn at p3⊢
  simp only[Option.bind_some,CG]
  rw[if_neg (by simp;omega)]
  rcases p3 with ⟨e2,q,_⟩|⟨e2,q⟩
  ·have e2:Af Aa (((n:Int),[(3,T)]),(((n:Int),[(3,T)]),((k:Int),(Bt gens,CS (Bt gens)))),0,true)=_:=e2
   rw[e2];exact .inl ⟨rfl,q⟩
  ·have e2:Af Aa (((n:Int),[(3,T)]),(((n:Int),[(3,T)]),((k:Int),(Bt gens,CS (Bt gens)))),0,true)=_:=e2
   rw[e2];exact .inr ⟨rfl,q⟩
end
end T
open Go Go.Va
namespace T
section
variable {n k:Nat} {T:List Int} {gens:List (List Int)}
theorem D8 (n:Int) (T:List Int):Cu (n,[(3,T)])=some 40:=by
 obtain⟨f,hf⟩: ∃f,Aa=f+2:=⟨Aa-2,rfl⟩
 have i0:inb 0 [((3:Int),T)]:=by unfold inb;simp
 have g0:gd [((3:Int),T)] 0 (0,[])=(3,T):=rfl
 have m0:C1 0 3=some 3:=by decide
 have w0:w64 (0+1)=1:=by decide
 unfold Cu
 rw[hf]
 simp only[BW,List.length_singleton,i0,g0,m0,w0,if_true,Option.bind_some]
 simp
theorem CZ {ts:List (List Int)} {ns:List Nat} (hl:ns.length<=1048576) (hv: ∀x∈ns,x<ts.length):BJ ts (cI ns)=some (ts,ns.map λx=>ts.getD x []):=by
 unfold BJ
 have:=Du ns.length (λf o i=>Az f (ts,cI ns,o,i)) (λq=>(ns.take q).map λx=>ts.getD x []) (r:=some (ts,ns.map λx=>ts.getD x [])) (λf q hq=>?_) (λf=>?_) (n:=Aa) (by unfold Aa;omega)
 ·simp only[List.take_zero,List.map_nil]at this
  simp only[this,Option.bind_some]
 ·have hqc:q<(cI ns).length:=by rw[Ck];exact hq
  have hg:=EA hq
  have hx:ns.getD q 0<ts.length:=by rw[Aj hq];exact hv _ (List.getElem_mem _)
  have e:(ns.take (q+1)).map (λx=>ts.getD x [])=(ns.take q).map (λx=>ts.getD x [])++ [ts.getD (ns.getD q 0) []]:=by
   rw[List.take_succ_eq_append_getElem hq,List.map_append,Aj hq];rfl
  rw[e]
  simp only[Az,Ck,decide_eq_true (show(q:Int)<(ns.length:Int) by omega),if_true,Ac,hqc,hq,DS,hg,hx,Ab (show q<4611686018427387904 by omega)]
  rw[if_pos (by unfold lim;simp;omega)]
 ·simp only[Az,Ck,List.take_length]
  rw[if_neg (by simp)]
theorem DL (h:T3Ok n k T) {L:List (List Int)} {t:List Int} (hS:CloL n k T gens L) (hg: ∀t∈gens,TpOk n k t) (hl:L.length<=1000) (ht:TpOk n k t):
  ∃c:Int,A7 (Zn cmpL L) t=some (c,decide (t∈L))/\(t∉L->BL (Zn cmpL L) t=some (Zn cmpL (L++ [t]))):=by
 have hk:=h.hk
 have hp:=Bi L
 have hL: ∀u∈L,u.length=k:=λu hu=>((hS.sub u hu).ok h hg).1
 obtain⟨c,e,_⟩:=Ct (list:=Zn cmpL L) (t:=t) (k:=k) (by rw[hp.length_eq];omega) (by omega) (λu hu=>hL u (hp.mem_iff.1 hu)) ht.1 (Cc hS.nd)
 refine⟨c,?_,λhm=>?_⟩
 ·rw[e];simp only[hp.mem_iff]
 ·rw[F5];exact EV (k:=k) (by omega) (by omega) hL ht.1 hS.nd hm
theorem Gd {B a b c:Nat} (hb:b<B) (hc:c<B):dg B 3 ((a*B+b)*B+c)=if a<B then [a,b,c]else dg B 3 ((a*B+b)*B+c):=by
 split
 ·rename_i ha
  have hB:0<B:=by omega
  have e1:((a*B+b)*B+c)/B=a*B+b:=by rw[Nat.mul_comm,Nat.mul_add_div hB,Nat.div_eq_of_lt hc];omega
  have e2:(a*B+b)/B=a:=by rw[Nat.mul_comm,Nat.mul_add_div hB,Nat.div_eq_of_lt hb];omega
  have e3:((a*B+b)*B+c)%B=c:=by rw[Nat.mul_comm,Nat.mul_add_mod,Nat.mod_eq_of_lt hc]
  have e4:(a*B+b)%B=b:=by rw[Nat.mul_comm,Nat.mul_add_mod,Nat.mod_eq_of_lt hb]
  simp[dg,e1,e2,e3,e4,Nat.mod_eq_of_lt ha]
 ·rfl
theorem Fj (h:T3Ok n k T) (hg: ∀t∈gens,TpOk n k t) {q B:Nat} (hB:B=q+1) (hB41:B<=40): ∀(c f i:Nat) (L:List (List Int)),i+c+1=B^3->c+2<f->SpOk n k T gens L->B<=L.length->
    ∃L',Ad f ((k:Int),((n:Int),[(3,T)]),Zn cmpL L,L,40,(q:Int),0,cI (dg B 3 i),true)=some ((k:Int),((n:Int),[(3,T)]),Zn cmpL L',L',40,(q:Int),0)/\L<+:L'/\SpOk n k T gens L'/\
      (L'.length<=40-> ∀j,i<=j->j<B^3->q∈dg B 3 j->E5 n k T ((dg B 3 j).map λx=>L.getD x [])∈L'):=by
  have hk:=h.hk
  have hB0:0<B:=by omega
  intro c
  induction c with
  |zero=>
    intro f i L hi hf hS hl
    obtain⟨f,rfl⟩: ∃q,f=q+2:=⟨f-2,by omega⟩
    by_cases h40:L.length<=40
    · have hdl:(dg B 3 i).length=3:=De
      have hdv: ∀x∈dg B 3 i,x<L.length:=λx hx=>by have:=Ec hB0 x hx;omega
      have e0:=CB (l:=cI (dg B 3 i)) (x:=(q:Int)) (by rw[Ck,hdl];omega)
      have e5:=Cv (k:=3) hB0 (by omega) (by omega) (i:=i) (by omega)
      rw[if_neg (by omega)]at e5
      have hmem:((q:Int)∈cI (dg B 3 i))↔q∈dg B 3 i:=by
        unfold cI;rw[List.mem_map]
        exact ⟨fun ⟨y, hy, e⟩ => by have : y = q := by omega
                                    subst this;exact hy,λh=>⟨q,h,rfl⟩⟩
      have w1:w64 ((q:Int)+1)=(B:Int):=by rw[Ab (by omega),hB]
      have hle:decide ((L.length:Int)<=40)=true:=by simp;omega
      by_cases hq:q∈dg B 3 i
      · obtain⟨a,b,d,hd3⟩:=EN hdl
        have ha:=hdv a (by rw[hd3];simp);have hb:=hdv b (by rw[hd3];simp);have hd:=hdv d (by rw[hd3];simp)
        have ca:=hS.cl.sub _ (Bc (d:= []) ha);have cb:=hS.cl.sub _ (Bc (d:= []) hb);have cd:=hS.cl.sub _ (Bc (d:= []) hd)
        have e1:=CZ (ts:=L) (ns:=dg B 3 i) (by omega) hdv
        have e2:=B8 h (ca.ok h hg) (cb.ok h hg) (cd.ok h hg)
        have e1':(dg B 3 i).map (λx=>L.getD x [])= [L.getD a [],L.getD b [],L.getD d []]:=by rw[hd3];rfl
        rw[e1']at e1
        have eA:E5 n k T ((dg B 3 i).map λx=>L.getD x [])=Bu n k T (L.getD a []) (L.getD b []) (L.getD d []):=by rw[e1'];rfl
        obtain⟨c,e3,e4⟩:=DL h hS.cl hg (by omega) (CM h (ca.ok h hg) (cb.ok h hg) (cd.ok h hg))
        refine⟨Bj L (Bu n k T (L.getD a []) (L.getD b []) (L.getD d [])),?_,addL_pre,⟨C6 hS.cl (ca.app cb cd),by have:=C7 (L:=L) (t:=Bu n k T (L.getD a []) (L.getD b []) (L.getD d []));omega⟩,λ_ j h1 h2 _=>?_⟩
        · simp only[Ad,if_true,hle,e0,hmem,hq,decide_true,Option.bind_some,e1,e2,e3,w1,e5]
          by_cases hm:Bu n k T (L.getD a []) (L.getD b []) (L.getD d [])∈L
          · unfold Bj
            rw[if_pos hm,if_neg (by simpa using hm)];rfl
          · unfold Bj
            rw[if_neg hm,if_pos (by simpa using hm),e4 hm]
            simp only[Option.bind_some]
            rw[if_pos (by simp;unfold lim;omega)];rfl
        · have:j=i:=by omega
          subst this;rw[eA];exact CL
      · refine⟨L,?_,List.prefix_refl L,hS,λ_ j h1 h2 hj=>?_⟩
        · simp only[Ad,if_true,hle,e0,hmem,hq,decide_false,Option.bind_some,w1,e5,Bool.false_eq_true,if_false]
        · have:j=i:=by omega
          subst this;exact absurd hj hq
    · have hle:decide ((L.length:Int)<=40)=false:=by simp;omega
      refine⟨L,?_,List.prefix_refl L,hS,λh=>absurd h h40⟩
      simp only[Ad,if_true,hle,Bool.false_eq_true,if_false]
  |succ c ih=>
    intro f i L hi hf hS hl
    obtain⟨f,rfl⟩: ∃q,f=q+1:=⟨f-1,by omega⟩
    by_cases h40:L.length<=40
    · have hdl:(dg B 3 i).length=3:=De
      have hdv: ∀x∈dg B 3 i,x<L.length:=λx hx=>by have:=Ec hB0 x hx;omega
      have e0:=CB (l:=cI (dg B 3 i)) (x:=(q:Int)) (by rw[Ck,hdl];omega)
      have e5:=Cv (k:=3) hB0 (by omega) (by omega) (i:=i) (by omega)
      rw[if_pos (by omega)]at e5
      have hmem:((q:Int)∈cI (dg B 3 i))↔q∈dg B 3 i:=by
        unfold cI;rw[List.mem_map]
        exact ⟨fun ⟨y, hy, e⟩ => by have : y = q := by omega
                                    subst this;exact hy,λh=>⟨q,h,rfl⟩⟩
      have w1:w64 ((q:Int)+1)=(B:Int):=by rw[Ab (by omega),hB]
      have hle:decide ((L.length:Int)<=40)=true:=by simp;omega
      by_cases hq:q∈dg B 3 i
      · obtain⟨a,b,d,hd3⟩:=EN hdl
        have ha:=hdv a (by rw[hd3];simp);have hb:=hdv b (by rw[hd3];simp);have hd:=hdv d (by rw[hd3];simp)
        have ca:=hS.cl.sub _ (Bc (d:= []) ha);have cb:=hS.cl.sub _ (Bc (d:= []) hb);have cd:=hS.cl.sub _ (Bc (d:= []) hd)
        have e1:=CZ (ts:=L) (ns:=dg B 3 i) (by omega) hdv
        have e2:=B8 h (ca.ok h hg) (cb.ok h hg) (cd.ok h hg)
        have e1':(dg B 3 i).map (λx=>L.getD x [])= [L.getD a [],L.getD b [],L.getD d []]:=by rw[hd3];rfl
        rw[e1']at e1
        have eA:E5 n k T ((dg B 3 i).map λx=>L.getD x [])=Bu n k T (L.getD a []) (L.getD b []) (L.getD d []):=by rw[e1'];rfl
        obtain⟨c',e3,e4⟩:=DL h hS.cl hg (by omega) (CM h (ca.ok h hg) (cb.ok h hg) (cd.ok h hg))
        have hpre:L<+:Bj L (Bu n k T (L.getD a []) (L.getD b []) (L.getD d [])):=addL_pre
        obtain⟨L',g1,g2,g3,g4⟩:=ih f (i+1) (Bj L (Bu n k T (L.getD a []) (L.getD b []) (L.getD d []))) (by omega) (by omega) ⟨C6 hS.cl (ca.app cb cd),by have:=C7 (L:=L) (t:=Bu n k T (L.getD a []) (L.getD b []) (L.getD d []));omega⟩ (by have:=hpre.length_le;omega)
        refine⟨L',?_,hpre.trans g2,g3,λhl' j h1 h2 hj=>?_⟩
        · simp only[Ad,if_true,hle,e0,hmem,hq,decide_true,Option.bind_some,e1,e2,e3,w1,e5]
          by_cases hm:Bu n k T (L.getD a []) (L.getD b []) (L.getD d [])∈L
          · unfold Bj at g1
            rw[if_pos hm]at g1
            rw[if_neg (by simpa using hm)]
            exact g1
          · unfold Bj at g1
            rw[if_neg hm]at g1
            rw[if_pos (by simpa using hm),e4 hm]
            simp only[Option.bind_some]
            rw[if_pos (by simp;unfold lim;omega)]
            exact g1
        · rcases Nat.eq_or_lt_of_le h1 with h3|h3
          · subst h3;rw[eA];exact g2.subset CL
          · have:=g4 hl' j h3 h2 hj
            have e:(dg B 3 j).map (λx=>(Bj L (Bu n k T (L.getD a []) (L.getD b []) (L.getD d []))).getD x [])=(dg B 3 j).map (λx=>L.getD x []):=List.map_congr_left λx hx=>BD hpre (by have:=Ec hB0 x hx;omega)
            rwa [e]at this
      · obtain⟨L',g1,g2,g3,g4⟩:=ih f (i+1) L (by omega) (by omega) hS hl
        refine⟨L',?_,g2,g3,λhl' j h1 h2 hj=>?_⟩
        · simp only[Ad,if_true,hle,e0,hmem,hq,decide_false,Option.bind_some,w1,e5,Bool.false_eq_true,if_false]
          exact g1
        · rcases Nat.eq_or_lt_of_le h1 with h3|h3
          · subst h3;exact absurd hj hq
          · exact g4 hl' j h3 h2 hj
    · have hle:decide ((L.length:Int)<=40)=false:=by simp;omega
      refine⟨L,?_,List.prefix_refl L,hS,λh=>absurd h h40⟩
      simp only[Ad,if_true,hle,Bool.false_eq_true,if_false]
theorem Fi (h:T3Ok n k T) (hg: ∀t∈gens,TpOk n k t) {q:Nat} (hq:q<40) {L:List (List Int)} (hS:SpOk n k T gens L) (hl:q<L.length) (hB:CR n k T q L L):
  ∃L',Aw Aa ((k:Int),((n:Int),[(3,T)]),Zn cmpL L,L,40,(q:Int),0)=some ((k:Int),((n:Int),[(3,T)]),Zn cmpL L',L',40,(q:Int))/\L<+:L'/\SpOk n k T gens L'/\
   (L'.length<=40->CR n k T (q+1) L' L'):=by
 have hp:0<(q+1)^3:=Nat.pow_pos (by omega)
 have hp2:(q+1)^3<=262144:=Fo (by omega) (by omega)
 obtain⟨L',e1,g2,g3,g4⟩:=Fj h hg (q:=q) (B:=q+1) rfl (by omega) ((q+1)^3-1) Aa 0 L (by omega) (by unfold Aa;omega) hS (by omega)
 refine⟨L',?_,g2,g3,λhl' x y z hx hy hz=>?_⟩
 ·obtain⟨f,hf⟩: ∃f,Aa=f+2:=⟨Aa-2,rfl⟩
  have i0:inb 0 [((3:Int),T)]:=by unfold inb;simp
  have g0:gd [((3:Int),T)] 0 (0,[])=(3,T):=rfl
  have w0:w64 (0+1)=1:=by decide
  have hlm:(0:Int)<=3/\(3:Int)<=3/\(3:Int)<=(lim:Int):=by unfold lim;omega
  have hl1:(([((3:Int),T)].length:Nat):Int)=1:=rfl
  rw[Ed]at e1
  have e1:Ad Aa ((k:Int),((n:Int),[(3,T)]),Zn cmpL L,L,40,(q:Int),0,List.replicate (Int.toNat 3) 0,decide ((3:Int)>0))=_:=e1
  rw[show Aw Aa=Aw (f+2) from by rw[hf]]
  simp only[Aw,hl1,i0,g0,if_true]
  rw[if_pos (by decide),if_pos hlm,e1]
  simp only[Option.bind_some,w0,hl1]
  rw[if_neg (by decide)]
 ·rw[BD g2 (by omega),BD g2 (by omega),BD g2 (by omega)]
  by_cases hin:x=q∨y=q∨z=q
  ·have hlt:=DQ (n:=q+1) hx hy hz
   have hpow:(q+1)^3=(q+1)*(q+1)*(q+1):=by rw[Nat.pow_succ,Nat.pow_succ,Nat.pow_one]
   have hd:=Gd (B:=q+1) (a:=x) hy hz
   rw[if_pos hx]at hd
   have:=g4 hl' ((x*(q+1)+y)*(q+1)+z) (Nat.zero_le _) (by rw[hpow];exact hlt) (by rw[hd];simp;omega)
   rw[hd]at this
   exact this
  ·exact g2.subset (hB x y z (by omega) (by omega) (by omega))
theorem Fh (h:T3Ok n k T) (hg: ∀t∈gens,TpOk n k t): ∀(c f q:Nat) (L:List (List Int)),c+1<f->41-q<=c->q<=L.length->SpOk n k T gens L->(L.length<=40->CR n k T q L L)->
  ∃L',Am f ((k:Int),((n:Int),[(3,T)]),Zn cmpL L,L,40,(q:Int))=some (Zn cmpL L',40)/\L<+:L'/\SpOk n k T gens L'/\(L'.length<=40->Closd n k T L'):=by
 intro c
 induction c with
 |zero=>
  intro f q L hf hc hq hS hB
  have:=hS.le
  obtain⟨f,rfl⟩: ∃q,f=q+1:=⟨f-1,by omega⟩
  refine⟨L,?_,List.prefix_refl L,hS,λh=>by omega⟩
  simp only[Am]
  rw[if_neg (by simp;omega)]
 |succ c ih=>
  intro f q L hf hc hq hS hB
  have:=hS.le
  obtain⟨f,rfl⟩: ∃q,f=q+1:=⟨f-1,by omega⟩
  by_cases h1:q<L.length
  ·by_cases h2:L.length<=40
   ·obtain⟨L1,e1,p1,p2,p3⟩:=Fi h hg (q:=q) (by omega) hS h1 (hB h2)
    obtain⟨L',e2,g1,g2,g3⟩:=ih f (q+1) L1 (by omega) (by omega) (by have:=p1.length_le;omega) p2 p3
    refine⟨L',?_,p1.trans g1,g2,g3⟩
    simp only[Am,e1,Option.bind_some,Ab (show q<4611686018427387904 by omega)]
    rw[if_pos (by simp;omega),if_pos (by simp;omega)]
    exact e2
   ·refine⟨L,?_,List.prefix_refl L,hS,λh=>absurd h h2⟩
    simp only[Am]
    rw[if_pos (by simp;omega),if_neg (by simp;omega)]
  ·have h3:q=L.length:=by omega
   subst h3
   refine⟨L,?_,List.prefix_refl L,hS,λh=>DA (hB h)⟩
   simp only[Am]
   rw[if_neg (by simp)]
theorem Fg (h:T3Ok n k T) (hg: ∀t∈gens,TpOk n k t) (hl:gens.length<=100):Ar Aa ((k:Int),((n:Int),[(3,T)]),[],[],40,gens,0)=some ((k:Int),((n:Int),[(3,T)]),Zn cmpL (Bt gens),Bt gens,40):=by
 have:=Du gens.length (λf (s:List (List Int)) i=>Ar f ((k:Int),((n:Int),[(3,T)]),Zn cmpL s,s,40,gens,i)) (λq=>Bt (gens.take q))
  (r:=some ((k:Int),((n:Int),[(3,T)]),Zn cmpL (Bt gens),Bt gens,40)) (λf i hi=>?_) (λf=>?_) (n:=Aa) (by unfold Aa;omega)
 ·have e0:Zn cmpL (Bt (gens.take 0))= []:=by simp[Zn,Bt]
  rw[e0]at this
  exact this
 ·obtain⟨c1,c2,_⟩:=C8 (n:=n) (k:=k) (T:=T) (gens:=gens) (gens.take i) λt ht=>List.mem_of_mem_take ht
  have hgi:=hg _ (List.getElem_mem hi)
  have c2':(Bt (gens.take i)).length<=1000:=by rw[List.length_take]at c2;omega
  obtain⟨c,e3,e4⟩:=DL h c1 hg c2' hgi
  simp only[Ar,Ac,hi,Ak hi,if_true,e3,Option.bind_some,Ab (show i<4611686018427387904 by omega),Dz hi]
  rw[if_pos (by simp;omega)]
  by_cases hm:gens[i]∈Bt (gens.take i)
  ·rw[if_neg (by simpa using hm)];unfold Bj;rw[if_pos hm]
  ·rw[if_pos (by simpa using hm),e4 hm]
   simp only[Option.bind_some]
   rw[if_pos (by simp;unfold lim;omega)];unfold Bj;rw[if_neg hm]
 ·simp only[Ar,List.take_length]
  rw[if_neg (by simp)]
theorem FJ (n k:Nat) (T:List Int) (hg: ∀t∈gens,t.length<=100) (hl:gens.length<=100):AC Aa ((k:Int),gens,((n:Int),[(3,T)]),[],[],40,[],0)=some ((k:Int),((n:Int),[(3,T)]),[],[],40,gens):=by
 have:=Du gens.length (λf (s:List (List Int)) i=>AC f ((k:Int),gens,((n:Int),[(3,T)]),[],[],40,s,i)) (λq=>gens.take q)
  (r:=some ((k:Int),((n:Int),[(3,T)]),[],[],40,gens)) (λf i hi=>?_) (λf=>?_) (n:=Aa) (by unfold Aa;omega)
 ·exact this
 ·have hgi:=hg _ (List.getElem_mem hi)
  have e1:=CC (l:=gens[i]) (by omega)
  simp only[AC,Ac,hi,Ak hi,if_true,e1,Option.bind_some,Ab (show i<4611686018427387904 by omega),List.take_succ_eq_append_getElem hi]
  rw[if_pos (by simp;omega),if_pos (by simp;unfold lim;omega)]
 ·simp only[AC,List.take_length]
  rw[if_neg (by simp)]
theorem FK (n k:Nat) (T:List Int) (t8 t9 fst:List (List Int)):AP Aa ((k:Int),((n:Int),[(3,T)]),t8,t9,40,fst,0)=some ((k:Int),((n:Int),[(3,T)]),t8,t9,40,fst):=by
 obtain⟨f,hf⟩: ∃f,Aa=f+2:=⟨Aa-2,rfl⟩
 have i0:inb 0 [((3:Int),T)]:=by unfold inb;simp
 have g0:gd [((3:Int),T)] 0 (0,[])=(3,T):=rfl
 have w0:w64 (0+1)=1:=by decide
 rw[hf]
 simp only[AP,List.length_singleton,i0,g0,if_true,w0]
 simp
theorem C3 (h:T3Ok n k T) (hg: ∀t∈gens,TpOk n k t) (hl:gens.length<=40):
  ∃L,GenL n k T gens L/\Cf ((n:Int),[(3,T)]) (k:Int) gens=some (Zn cmpL L,decide (L.length<=40)):=by
 have hk:=h.hk
 obtain⟨c1,c2,c3⟩:=C8 (n:=n) (k:=k) (T:=T) (gens:=gens) gens λ_ h=>h
 have e1:=FJ n k T (gens:=gens) (λt ht=>by have:=(hg t ht).1;omega) (by omega)
 have e2:=FK n k T [] [] gens
 have e3:=Fg h hg (by omega)
 obtain⟨L,e4,p1,p2,p3⟩:=Fh h hg 50 Aa 0 (Bt gens) (by unfold Aa;omega) (by omega) (Nat.zero_le _) ⟨c1,by omega⟩ (λ_ x y z hx=>by omega)
 refine⟨L,⟨p2.cl,p2.le,λt ht=>p1.subset (c3 t ht),p3⟩,?_⟩
 unfold Cf
 have e4:Am Aa ((k:Int),((n:Int),[(3,T)]),Zn cmpL (Bt gens),Bt gens,40,0)=_:=e4
 dsimp only
 rw[D8]
 simp only[Option.bind_some,e1,e2,e3,e4,(Bi L).length_eq]
 congr 2
 simp;omega
end
end T
open Go Go.Va
namespace T
section
variable {n k:Nat} {T:List Int} {gens ts:List (List Int)}
theorem FH (n:Int) (T:List Int) (hT:T.length<=1048576):BO (n,[(3,T)])=some (B4 n&&opB n (3,T)):=by
 unfold BO B4
 obtain⟨f,hf⟩: ∃f,Aa=f+2:=⟨Aa-2,rfl⟩
 by_cases h1:n<1
 ·rw[if_pos (by simpa using h1)]
  have: ¬(1<=n/\n<=8):=by omega
  simp[this]
 ·rw[if_neg (by simpa using h1)]
  by_cases h2:n>8
  ·rw[if_pos (by simpa using h2)]
   have: ¬(1<=n/\n<=8):=by omega
   simp[this]
  ·rw[if_neg (by simpa using h2),if_neg (by simp)]
   have e:=CN (n:=n) (f:=(3,T)) (by omega) hT
   have e0:gd ([(3,T)]:List Opn) (0:Int) (0,[])=(3,T):=rfl
   have w1:w64 (0+1)=1:=by decide
   have i0:inb (0:Int) ([(3,T)]:List Opn):=by unfold inb;simp
   have hl1:(([((3:Int),T)].length:Nat):Int)=1:=rfl
   have h3:1<=n/\n<=8:=by omega
   rw[hf]
   dsimp only
   simp only[Bk,hl1,e0,i0,if_true,e,Option.bind_some,w1]
   cases hb:opB n (3,T)<;>simp[h3]
theorem Ga {n:Int} {N:Nat} (hn:n=(N:Int)) (hN:1<=N/\N<=8) (hk:1<=k/\k<=4) (h:opB n (3,T)=true):T3Ok N k T:=by
 subst hn
 unfold opB at h
 simp only[Bool.and_eq_true,decide_eq_true_eq]at h
 obtain⟨⟨_,h2⟩,h3⟩:=h
 refine⟨hN,hk,?_,λx hx=>?_⟩
 ·have h2:(T.length:Int)=(N:Int)^3:=h2
  have:((N:Int))^3=((N*N*N:Nat):Int):=by rw[show(3:Nat)=2+1 from rfl,Int.pow_succ,show(2:Nat)=1+1 from rfl,Int.pow_succ,show(1:Nat)=0+1 from rfl,Int.pow_succ];push_cast;rw[Int.pow_zero,Int.one_mul]
  omega
 ·unfold Ap at h3
  have:=List.all_eq_true.1 h3 x hx
  simpa using this
theorem Ek {n:Int} (A:List Opn) (hg: ∀t∈gens,t.length=k/\Ap n t=true) (hk:k<=100) (hl:gens.length<=1000):BP (n,A) (k:Int) gens=some true:=by
 unfold BP
 have:=Du gens.length (λf (_:Unit) i=>As f ((k:Int),(n,A),gens,(gens.length:Int),i)) (λ_=>()) (r:=some (.inl ())) (λf i hi=>?_) (λf=>?_) (n:=Aa) (by unfold Aa;omega)
 ·have this:As Aa ((k:Int),(n,A),gens,(gens.length:Int),0)=_:=this
  dsimp only
  rw[this];rfl
 ·obtain⟨h1,h2⟩:=hg _ (List.getElem_mem hi)
  have e:=BR (l:=gens[i]) n (by omega)
  simp only[As,Ac,hi,Ak hi,if_true,e,h2,Option.bind_some,Ab (show i<4611686018427387904 by omega)]
  rw[if_pos (by simp;omega),if_neg (by simp[h1]),if_neg (by simp)]
 ·simp only[As]
  rw[if_neg (by simp)]
theorem Dd {n k:Nat} {t:List Int} (h1:t.length=k) (h2:Ap (n:Int) t=true):TpOk n k t:=⟨h1,λx hx=>by
 unfold Ap at h2
 have:=List.all_eq_true.1 h2 x hx
 simpa using this⟩
theorem DU {N:Nat} (h:T3Ok N k T) (hop:opB (N:Int) (3,T)=true) (hg: ∀t∈gens,t.length=k/\Ap (N:Int) t=true) (hl:gens.length<=20):
  ∃L,GenL N k T gens L/\AR ((N:Int),[(3,T)]) (k:Int) gens=some (if L.length<=40 then(Zn cmpL L,true)else([],false)):=by
 have hn:=h.hn;have hk:=h.hk
 have hcube:=Fa hn
 obtain⟨L,hG,hL⟩:=Dk h (λt ht=>Dd (hg t ht).1 (hg t ht).2) hl
 refine⟨L,hG,?_⟩
 have e1:Ca ((N:Int),[(3,T)]) (k:Int) gens=some true:=by
  unfold Ca CA
  have:=h.tl
  rw[FH _ _ (by omega),hop]
  have hs:B4 (N:Int)=true:=by unfold B4;simp;omega
  have e2:=Ek (n:=(N:Int)) [(3,T)] hg (by omega) (by omega)
  simp only[hs,Bool.and_self,Option.bind_some,if_true,e2]
  rw[if_pos (by simp;omega)]
  simp only[Option.bind_some]
  rw[if_pos (by simp;omega),if_pos (by simp;omega)]
 unfold AR
 dsimp only
 rw[e1]
 simp only[Option.bind_some]
 rw[if_neg (by simp)]
 rcases hL with ⟨e,q⟩|⟨e,q⟩
 ·have e3:=D7 (l:=L) (by omega) (λr hr=>by have:=((hG.cl.sub r hr).ok h λt ht=>Dd (hg t ht).1 (hg t ht).2).1;omega)
  rw[e]
  simp only[Option.bind_some,spn,e3]
  rw[if_neg (by simp),if_pos trivial,if_pos q]
 ·rw[e,if_neg (by omega)];rfl
theorem Dr {n kk:Int} {op:Opn} (hl:ts.length<=1099511627774) (hr: ∀t∈ts,t.length<=1099511627775) (ho:op.2.length<=1048576):
  ∃R:List (List Int)×Bool,Bf n op kk ts=some R/\BH n op kk ts=some R/\R.1.length<=40/\(∀r∈R.1,r.length<=4)/\
   (R.2=true-> ∃(N K:Nat) (L:List (List Int)),n=N/\kk=K/\T3Ok N K op.2/\GenL N K op.2 ts L/\L.length<=40/\R.1=Zn cmpL L):=by
 obtain⟨ar,T⟩:=op
 unfold Bf BH
 rw[CF hl hr,Do hl hr]
 simp only[Option.bind_some]
 cases hs:CI n kk ts with
 |false=>exact⟨([],false),rfl,rfl,by simp,by simp,by simp⟩
 |true=>
  obtain⟨h,hk⟩:=Fv hs
  have hn:=h.hn
  have hk':=h.hk
  obtain⟨N,rfl⟩: ∃N:Nat,n=(N:Int):=⟨n.toNat,by omega⟩
  obtain⟨K,hK⟩: ∃K,K=kk.toNat:=⟨_,rfl⟩
  rw[←hK]at h hk hk'
  subst hk
  by_cases h20:(ts.length:Int)>20
  ·simp only[h20,decide_true,if_true]
   exact⟨([],false),rfl,rfl,by simp,by simp,by simp⟩
  ·simp only[h20,decide_false,Bool.not_true,Bool.false_eq_true,if_false]
   by_cases h3:ar=3
   ·subst h3
    rw[if_neg (by simp),if_neg (by simp)]
    have ho:T.length<=1048576:=ho
    have e1:=CN (n:=(N:Int)) (f:=(3,T)) (by omega) ho
    have e2:=DN (n:=(N:Int)) (f:=(3,T)) (by omega) ho
    rw[e1,e2]
    simp only[Option.bind_some]
    cases hop:opB (N:Int) (3,T)with
    |false=>exact⟨([],false),rfl,rfl,by simp,by simp,by simp⟩
    |true=>
     have hT:=Ga (k:=K) (N:=N) rfl (by omega) hk' hop
     have hg: ∀t∈ts,t.length=K/\Ap (N:Int) t=true:=λt ht=>⟨h.len t ht,h.el t ht⟩
     have hg': ∀t∈ts,TpOk N K t:=λt ht=>Dd (hg t ht).1 (hg t ht).2
     obtain⟨L,hG,e3⟩:=DU hT hop hg (by omega)
     obtain⟨M,hG2,e4⟩:=C3 hT hg' (by omega)
     rw[e3,e4]
     simp only[Option.bind_some,Bool.not_true,Bool.false_eq_true,if_false]
     by_cases hL:L.length<=40
     ·obtain⟨hM,hE⟩:=hG.same hG2 hL
      rw[if_pos hL,if_neg (by simpa using hM),←hE]
      have hp:=Bi L
      exact⟨(Zn cmpL L,true),rfl,rfl,by rw[hp.length_eq];exact hL,λr hr=>by have:=((hG.cl.sub r (hp.mem_iff.1 hr)).ok hT hg').1;omega,λ_=>⟨N,K,L,rfl,rfl,hT,hG,hL,rfl⟩⟩
     ·have hM: ¬M.length<=40:=λh=>hL (hG2.same hG h).1
      rw[if_neg hL,if_pos (by simpa using hM)]
      exact⟨([],false),rfl,rfl,by simp,by simp,by simp⟩
   ·rw[if_pos (by simpa using h3),if_pos (by simpa using h3)]
    exact⟨([],false),rfl,rfl,by simp,by simp,by simp⟩
theorem FnExactRestoreSet_law {n kk:Int} {op:Opn} (_:wfT .int n) (hf:wfT (.pair .int (.slice .int)) op) (_:wfT .int kk) (h:wfT (.slice (.slice .int)) ts):Bm n op kk ts=some true:=by
 unfold Bm
 rw[Ft (f:=(op.1,op.2)) (by omega) (by omega) hf.2.1]
 simp only[Option.bind_some]
 by_cases hh:szR op.2.length 1048576<0
 ·rw[if_pos (by simpa using hh)]
 ·rw[if_neg (by simpa using hh)]
  have ho:op.2.length<=1048576:=by unfold szR at hh;split at hh<;>omega
  obtain⟨q,hq,hq0,hq1⟩: ∃q,szR op.2.length 1048576=q/\0<=q/\q<=1048576:=by unfold szR at hh⊢;split at hh<;>exact⟨_,rfl,by split<;>omega,by split<;>omega⟩
  rw[hq,D9 hq0 (by omega) h.1 λr hr=>(h.2 r hr).1]
  simp only[Option.bind_some]
  by_cases hz:szR (CQ ts) q<0
  ·rw[if_pos (by simpa using hz)]
  ·rw[if_neg (by simpa using hz)]
   have hz2: ¬szR (CQ ts) 1048576<0:=by unfold szR at hz⊢;split at hz<;>split<;>omega
   obtain⟨h1,h2⟩:=Eu hz2
   have h2': ∀r∈ts,r.length<=1099511627775:=λr hr=>by have:=h2 r hr;omega
   obtain⟨R,e1,e2,hR1,hR2,_⟩:=Dr (n:=n) (kk:=kk) (op:=op) (show ts.length<=1099511627774 by omega) h2' ho
   obtain⟨b,k1,hm,hk0⟩:=Ep (k:=1) ho (by omega) (by omega)
   have hk1:k1=(BT op.2 1).2:=by
    unfold B1 at hm
    rw[Cn ho (by omega) (by unfold BM;omega)]at hm
    simp only[Option.bind_some,Option.some.injEq,Prod.mk.injEq]at hm
    exact hm.2.symm
   have hk2:=B6 op.2 1
   have htot:=FO hz2
   have hm2:=CO (l:=ts) (k:=k1) h1 h2 hk0 (by unfold BM;unfold CQ at htot;omega)
   have hmf:=Dl ts k1
   have hR3: ∀r∈R.1,r.length<=1048576:=λr hr=>by have:=hR2 r hr;omega
   have hsum:=D2 (λr hr=>(by have:=hR2 r hr;omega:r.length<=16))
   have e3:=Dl R.1 1
   have e4: ¬(BU R.1 1).2<0:=by omega
   simp only[Fu ho,Fb ho,Ea (show ts.length<=1099511627775 by omega) h2',e1,e2,Df (show ts.length<=1099511627775 by omega) h2',Df (a:=R.1) (b:=R.1) (by omega) (λr hr=>by have:=hR2 r hr;omega),hm,hm2,Option.bind_some,CO (l:=R.1) (k:=1) (by omega) hR3 (by omega) (by unfold BM;omega),DH (l:=R.1) (k:=1) (by omega) hR3 (by omega) (by unfold BM;omega)]
   simp[e4,show¬(BU ts k1).2<0 by omega]
end
end T
open Go Go.Va
namespace T
section
variable {p:Int} {V W N k:Nat} {ts:List (List Int)} {f:Nat->Int} {A:List (List Int)}
def TpI (p:Int) (V:Nat) (x:List Int):Prop:=x.length=V/\ ∀y∈x,0<=y/\y<p
theorem TpI.get {x:List Int} (h:TpI p V x) {i:Nat} (hi:i<V):0<=x.getD i 0/\x.getD i 0<p:=by
 have h1:i<x.length:=by have:=h.1;omega
 rw[Aj h1];exact h.2 _ (List.getElem_mem h1)
end
end T
open Go Go.Va
namespace T
section
variable {p:Int} {n V W N k:Nat} {ts:List (List Int)} {f:Nat->Int} {A:List (List Int)}
def Ds (n:Nat):List Int:=(List.range (n*n*n)).map (Ev n)
theorem Ex:(Ds n).length=n*n*n:=by simp[Ds]
theorem E3 (hn:1<=n): ∀x∈Ds n,0<=x/\x<(n:Int):=λx hx=>by
 unfold Ds at hx
 obtain⟨i,_,rfl⟩:=List.mem_map.1 hx
 unfold Ev
 generalize (i/(n*n)+n-(i/n)%n+i%n)=q
 have:=Nat.mod_lt q (show 0<n by omega)
 omega
theorem Ew {a b c:Nat} (ha:a<n) (hb:b<n) (hc:c<n):(Ds n).getD ((a*n+b)*n+c) 0=((a:Int)-b+c)%n:=by
 have hlt:=DQ ha hb hc
 have hn:0<n:=by omega
 unfold Ds
 rw[Aj (by simpa using hlt)]
 simp only[List.getElem_map,List.getElem_range]
 unfold Ev
 have e1:((a*n+b)*n+c)/n=a*n+b:=by rw[Nat.mul_comm,Nat.mul_add_div hn,Nat.div_eq_of_lt hc];omega
 have e2:(a*n+b)/n=a:=by rw[Nat.mul_comm,Nat.mul_add_div hn,Nat.div_eq_of_lt hb];omega
 have e3:((a*n+b)*n+c)%n=c:=by rw[Nat.mul_comm,Nat.mul_add_mod,Nat.mod_eq_of_lt hc]
 have e4:(a*n+b)%n=b:=by rw[Nat.mul_comm,Nat.mul_add_mod,Nat.mod_eq_of_lt hb]
 have e5:((a*n+b)*n+c)/(n*n)=a:=by rw[←Nat.div_div_eq_div_mul,e1,e2]
 rw[e1,e3,e4,e5]
 have e6:(((a+n-b+c)%n:Nat):Int)=((a:Int)-b+c+n)%n:=by
  rw[Int.natCast_emod];congr 1;omega
 rw[e6]
 have:=Int.add_mul_emod_self_left ((a:Int)-b+c) n 1
 simpa using this
theorem Ey {x y z:List Int} (hx:TpOk n k x) (hy:TpOk n k y) (hz:TpOk n k z) {j:Nat} (hj:j<k):(Bu n k (Ds n) x y z).getD j 0=(x.getD j 0-y.getD j 0+z.getD j 0)%n:=by
 obtain⟨x1,x2,_⟩:=hx.get hj
 obtain⟨y1,y2,_⟩:=hy.get hj
 obtain⟨z1,z2,_⟩:=hz.get hj
 unfold Bu
 rw[Aj (by simpa using hj)]
 simp only[List.getElem_map,List.getElem_range]
 rw[Ew x1 y1 z1,←x2,←y2,←z2]
theorem FC (hn:1<=n/\n<=8) (hk:1<=k/\k<=4):T3Ok n k (Ds n):=⟨hn,hk,Ex,E3 hn.1⟩
end
end T
open Go Go.Va
namespace T
section
variable {n:Int} {k:Nat} {ts W:List (List Int)}
def WitOf (ts:List (List Int)) (k:Nat) (W:List (List Int)):Prop:= ∀w,w∈W↔ ∃(i:Nat) (x y:Int) (p q:Nat),i<k/\CP ts i x y=some (p,q)/\(w=ts.getD p []∨w=ts.getD q [])
theorem WitOf.sub (h:WitOf ts k W) {w:List Int} (hw:w∈W):w∈ts:=by
 obtain⟨i,x,y,p,q,_,h2,h3⟩:=(h w).1 hw
 obtain⟨g1,g2,_⟩:=CH h2
 rcases h3 with rfl|rfl
 ·exact Bc g1
 ·exact Bc g2
theorem Ef {l:List (List Int)} {t:List Int} (h:t∈l): ∃i,i<l.length/\l.getD i []=t:=by
 obtain⟨i,hi,rfl⟩:=List.mem_iff_getElem.1 h
 exact⟨i,hi,Aj hi⟩
theorem WitOf.fork (h:WitOf ts k W) {i:Nat} (hi:i<k) {t u:List Int} (ht:t∈ts) (hu:u∈ts) (hp:t.take i=u.take i): ∃v∈W,∃w∈W,v.getD i 0=t.getD i 0/\w.getD i 0=u.getD i 0/\v.take i=w.take i:=by
 obtain⟨j,hj,rfl⟩:=Ef ht
 obtain⟨l,hl,rfl⟩:=Ef hu
 cases hq:CP ts i (C5 ts i j) (C5 ts i l)with
 |none=>exact(Dm hq hj hl rfl rfl hp).elim
 |some pq=>
  obtain⟨p,q⟩:=pq
  obtain⟨g1,g2,g3,g4,g5⟩:=CH hq
  exact⟨_,(h _).2 ⟨i,_,_,p,q,hi,hq,.inl rfl⟩,_,(h _).2 ⟨i,_,_,p,q,hi,hq,.inr rfl⟩,g3,g4,g5⟩
theorem WitOf.set {N:Int} {kk:Int} (h:WitOf ts kk.toNat W) (hs:CI N kk ts=true) (hi:Bw W=true):CI N kk W=true:=by
 unfold CI at hs⊢
 simp only[Bool.and_eq_true,List.all_eq_true]at hs⊢
 exact⟨⟨hs.1.1,λw hw=>hs.1.2 w (h.sub hw)⟩,hi⟩
theorem Fq {N K:Nat} {L:List (List Int)} (hts: ∀t∈ts,TpOk N K t) (hN:1<=N/\N<=8) (hK:1<=K/\K<=4) (hW:WitOf ts K W) (hc:Closd N K (Ds N) ts) (hG:GenL N K (Ds N) W L) (hL:L.length<=40): ∀t,t∈L↔t∈ts:=by
 have hT:=FC (n:=N) (k:=K) hN hK
 have hcl:=hG.all hL
 have hsub: ∀t∈L,t∈ts:=λt ht=>by
  have:=hG.cl.sub t ht
  exact hc.mem (gens:=W) (λw hw=>hW.sub hw) this
 refine λt=>⟨hsub t,λht=>?_⟩
 have key: ∀i,i<=K-> ∃u∈L,u.take i=t.take i:=by
  intro i
  induction i with
  |zero=>
   intro _
   obtain⟨v,hv,_⟩:=hW.fork (i:=0) (by omega) ht ht rfl
   exact⟨v,hG.gs v hv,by simp⟩
  |succ i ih=>
   intro hi
   obtain⟨u,hu,e⟩:=ih (by omega)
   obtain⟨v,hv,w,hw,e1,e2,e3⟩:=hW.fork (i:=i) (by omega) (hsub u hu) ht e
   have tu:=hts u (hsub u hu);have tt:=hts t ht
   have tv:=hts v (hW.sub hv);have tw:=hts w (hW.sub hw)
   have hm:=hcl u hu v (hG.gs v hv) w (hG.gs w hw)
   have ho:=CM hT tu tv tw
   refine⟨_,hm,?_⟩
   refine List.ext_getElem (by rw[List.length_take,List.length_take,ho.1,tt.1]) λj h1 h2=>?_
   rw[List.length_take]at h1
   have hj:j<i+1:=by omega
   have hjK:j<K:=by omega
   rw[List.getElem_take,List.getElem_take,←Aj (d:=0),←Aj (d:=0),Ey tu tv tw hjK]
   have hu2:=tu.get hjK;have ht2:=tt.get hjK;have hv2:=tv.get hjK;have hw2:=tw.get hjK
   have hfin: ∀x:Int,0<=x/\x<(N:Int)->x%(N:Int)=x:=λx hx=>Int.emod_eq_of_lt hx.1 hx.2
   rcases Nat.lt_or_ge j i with h3|h3
   ·have a1:v.getD j 0=w.getD j 0:=by
     have:=congrArg (λl=>l.getD j 0) e3
     simp only[List.getD_eq_getElem?_getD,List.getElem?_take_of_lt h3]at this
     rw[List.getD_eq_getElem?_getD,List.getD_eq_getElem?_getD];exact this
    have a2:u.getD j 0=t.getD j 0:=by
     have:=congrArg (λl=>l.getD j 0) e
     simp only[List.getD_eq_getElem?_getD,List.getElem?_take_of_lt h3]at this
     rw[List.getD_eq_getElem?_getD,List.getD_eq_getElem?_getD];exact this
    rw[a1,show u.getD j 0-w.getD j 0+w.getD j 0=u.getD j 0 by omega,a2]
    exact hfin _ (by omega)
   ·have:j=i:=by omega
    subst this
    rw[e1,e2,show u.getD j 0-u.getD j 0+t.getD j 0=t.getD j 0 by omega]
    exact hfin _ (by omega)
 obtain⟨u,hu,e⟩:=key K (Nat.le_refl _)
 have tu:=hts u (hsub u hu);have tt:=hts t ht
 rw[List.take_of_length_le (by rw[tu.1];exact Nat.le_refl _),List.take_of_length_le (by rw[tt.1];exact Nat.le_refl _)]at e
 exact e▸hu
end
end T
