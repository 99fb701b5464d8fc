/- Plain lemmas on the typed functions of the program, and the plain law of FnExactWitnessesOf; no conditions. -/
import Derived.Test.YtgeboeaoblppcaaV1
import Derived.Test.YtgeboeaoblppcaaV5
import Derived.KernelRfl
set_option linter.all false
namespace Go.Va
theorem D5 (x:Int):w64 x=(x+9223372036854775808)%18446744073709551616-9223372036854775808:=by
 simp[w64,IntKind.wrap,IntKind.bits,IntKind.signed]
 split<;>omega
theorem Bd {x:Int} (h1: -9223372036854775808<=x) (h2:x<=9223372036854775807):w64 x=x:=by
 rw[D5];omega
theorem Ag {k:Nat} (h:k<4611686018427387904):w64 ((k:Int)+1)=((k+1:Nat):Int):=by
 rw[Bd (by omega) (by omega)];rfl
theorem Ah {α:Type} {k:Nat} {xs:List α}:inb (k:Int) xs↔k<xs.length:=by
 unfold inb;omega
theorem Ao {α:Type} {k:Nat} {xs:List α} {d:α} (h:k<xs.length):gd xs (k:Int) d=xs[k]:=by
 unfold gd;simp[h]
theorem Ci {α:Type} {k:Nat} {xs:List α} {x:α}:stt xs (k:Int) x=xs.set k x:=by
 unfold stt;simp
def CM {α σ β:Type} (step:σ->α->Option (σ⊕β)) (fin:σ->Option β):List α->σ->Option β
 | [],s=>fin s
 |a::l,s=>match step s a with|some (.inl s')=>CM step fin l s'|some (.inr r)=>some r|none=>none
theorem Ew {α σ β:Type} (xs:List α) (L:Nat->σ->Int->Option β) (step:σ->α->Option (σ⊕β)) (fin:σ->Option β)
  (hs: ∀n s (k:Nat) (hk:k<xs.length),L (n+1) s k=match step s xs[k]with|some (.inl s')=>L n s' ((k+1:Nat):Int)|some (.inr r)=>some r|none=>none)
  (he: ∀n s,L (n+1) s (xs.length:Nat)=fin s): ∀(n k:Nat) (s:σ),k<=xs.length->xs.length-k<n->L n s k=CM step fin (xs.drop k) s:=by
 intro n
 induction n with
 |zero=>intro k s _ h;omega
 |succ n ih=>
  intro k s hk hn
  rcases Nat.lt_or_ge k xs.length with hlt|hge
  ·rw[hs n s k hlt,List.drop_eq_getElem_cons hlt]
   simp only[CM]
   cases step s xs[k]with
   |none=>rfl
   |some q=>
    cases q with
    |inl s'=>exact ih (k+1) s' hlt (by omega)
    |inr r=>rfl
  ·have:k=xs.length:=by omega
   subst this
   rw[he,List.drop_length];rfl
theorem DA {α σ β:Type} (xs:List α) (L:Nat->σ->Int->Option β) (step:σ->α->Option (σ⊕β)) (fin:σ->Option β)
  (hs: ∀n s (k:Nat) (hk:k<xs.length),L (n+1) s k=match step s xs[k]with|some (.inl s')=>L n s' ((k+1:Nat):Int)|some (.inr r)=>some r|none=>none)
  (he: ∀n s,L (n+1) s (xs.length:Nat)=fin s) {n:Nat} (hn:xs.length<n) (s:σ):L n s 0=CM step fin xs s:=by
 have:=Ew xs L step fin hs he n 0 s (Nat.zero_le _) (by omega)
 simpa using this
theorem CX {α β:Type} {p:α->Bool} {step:Unit->α->Option (Unit⊕β)} {fin:Unit->Option β} {r:β}: ∀ {l:List α},(∀a∈l,step () a=if p a then some (.inl ())else some (.inr r))->CM step fin l ()=if l.all p then fin ()else some r
 | [],_=>rfl
 |a::l,h=>by
  simp only[CM]
  rw[h a (by simp)]
  cases hp:p a with
  |true=>simp only[if_true,List.all_cons,hp,Bool.true_and];exact CX λb hb=>h b (List.mem_cons_of_mem _ hb)
  |false=>simp[List.all_cons,hp]
theorem Er {α β γ:Type} (xs:List α) (L:Nat->List β->Int->Option γ) (g:α->β) (fin:List β->Option γ)
  (hs: ∀n (out:List β) (k:Nat) (hk:k<xs.length),out.length=xs.length->L (n+1) out k=L n (out.set k (g xs[k])) ((k+1:Nat):Int))
  (he: ∀n out,out.length=xs.length->L (n+1) out (xs.length:Nat)=fin out): ∀(n k:Nat) (out:List β),out.length=xs.length->k<=xs.length->xs.length-k<n->L n out k=fin (out.take k++(xs.drop k).map g):=by
 intro n
 induction n with
 |zero=>intro k out _ _ h;omega
 |succ n ih=>
  intro k out hl hk hn
  rcases Nat.lt_or_ge k xs.length with hlt|hge
  ·have:(out.set k (g xs[k])).take (k+1)=out.take k++ [g xs[k]]:=by
    rw[List.take_succ_eq_append_getElem (by simp;omega),List.take_set_of_le (Nat.le_refl _),List.getElem_set_self]
   rw[hs n out k hlt hl,ih (k+1) _ (by simpa using hl) hlt (by omega),List.drop_eq_getElem_cons hlt,this,List.map_cons,List.append_assoc,List.singleton_append]
  ·have:k=xs.length:=by omega
   subst this
   rw[he _ _ hl,List.drop_length,List.take_of_length_le (by omega)];simp
theorem Dv {α β γ:Type} (xs:List α) (L:Nat->List β->Int->Option γ) (g:α->β) (fin:List β->Option γ)
  (hs: ∀n (out:List β) (k:Nat) (hk:k<xs.length),out.length=xs.length->L (n+1) out k=L n (out.set k (g xs[k])) ((k+1:Nat):Int))
  (he: ∀n out,out.length=xs.length->L (n+1) out (xs.length:Nat)=fin out) {n:Nat} {out:List β} (hl:out.length=xs.length) (hn:xs.length<n):L n out 0=fin (xs.map g):=by
 have:=Er xs L g fin hs he n 0 out hl (Nat.zero_le _) (by omega)
 simpa using this
theorem eqX {α:Type} [DecidableEq α] (a b:List α) (hl:a.length=b.length) (L:Nat->Int->Option (Unit⊕Bool))
  (hs: ∀n (k:Nat) (h1:k<a.length) (h2:k<b.length),L (n+1) k=if a[k]=b[k]then L n ((k+1:Nat):Int)else some (.inr false)) (he: ∀n,L (n+1) (a.length:Nat)=some (.inl ())) {n:Nat} (hn:a.length<n):
  L n 0=some (if a=b then .inl ()else .inr false):=by
 have key: ∀(n k:Nat),k<=a.length->a.length-k<n->L n k=some (if a.drop k=b.drop k then .inl ()else .inr false):=by
  intro n
  induction n with
  |zero=>intro k _ h;omega
  |succ n ih=>
   intro k hk hn
   rcases Nat.lt_or_ge k a.length with hlt|hge
   ·have h2:k<b.length:=by omega
    have e:(a.drop k=b.drop k)↔(a[k]=b[k]/\a.drop (k+1)=b.drop (k+1)):=by
     rw[List.drop_eq_getElem_cons hlt,List.drop_eq_getElem_cons h2];exact List.cons_eq_cons
    rw[hs n k hlt h2]
    by_cases h:a[k]=b[k]
    ·rw[if_pos h,ih (k+1) hlt (by omega)]
     by_cases h3:a.drop (k+1)=b.drop (k+1)
     ·rw[if_pos h3,if_pos (e.2 ⟨h,h3⟩)]
     ·rw[if_neg h3,if_neg λh'=>h3 (e.1 h').2]
    ·rw[if_neg h,if_neg λh'=>h (e.1 h').1]
   ·have:k=a.length:=by omega
    subst this
    rw[he,List.drop_length,hl,List.drop_length];rfl
 have:=key n 0 (Nat.zero_le _) (by omega)
 simpa using this
theorem En {α β:Type} (xs:List α) (L:Nat->Int->Option β) (p:α->Bool) (r e:β)
  (hs: ∀n (k:Nat) (hk:k<xs.length),L (n+1) k=if p xs[k]then L n ((k+1:Nat):Int)else some r) (he: ∀n,L (n+1) (xs.length:Nat)=some e) {n:Nat} (hn:xs.length<n):
  L n 0=some (if xs.all p then e else r):=by
 have:=DA xs (λn (_:Unit) i=>L n i) (λ_ a=>if p a then some (.inl ())else some (.inr r)) (λ_=>some e) (λn s k hk=>by rw[hs n k hk];cases p xs[k]<;>simp) (λn s=>he n) hn ()
 rw[this,CX (p:=p) (r:=r) λa _=>by cases p a<;>simp]
 cases xs.all p<;>simp
theorem DO {σ β:Type} (N:Nat) (L:Nat->σ->Int->Option β) (S:Nat->σ) {r:Option β}
  (hs: ∀n (k:Nat),k<N->L (n+1) (S k) k=L n (S (k+1)) ((k+1:Nat):Int)) (he: ∀n,L (n+1) (S N) (N:Nat)=r) {n:Nat} (hn:N<n):L n (S 0) 0=r:=by
 have key: ∀(n k:Nat),k<=N->N-k<n->L n (S k) k=r:=by
  intro n
  induction n with
  |zero=>intro k _ h;omega
  |succ n ih=>
   intro k hk hn
   rcases Nat.lt_or_ge k N with hlt|hge
   ·rw[hs n k hlt];exact ih (k+1) hlt (by omega)
   ·have:k=N:=by omega
    subst this;exact he n
 exact key n 0 (Nat.zero_le _) (by omega)
theorem EE {σ β:Type} (N:Nat) (L:Nat->σ->Int->Option β) (S:Nat->σ) (p:Nat->Bool) {r e:Option β}
  (hs: ∀n (k:Nat),k<N->L (n+1) (S k) k=if p k then L n (S (k+1)) ((k+1:Nat):Int)else r) (he: ∀n,L (n+1) (S N) (N:Nat)=e) {n:Nat} (hn:N<n):
  L n (S 0) 0=if(List.range N).all p then e else r:=by
 have key: ∀(n k:Nat),k<=N->N-k<n->L n (S k) k=if(List.range' k (N-k)).all p then e else r:=by
  intro n
  induction n with
  |zero=>intro k _ h;omega
  |succ n ih=>
   intro k hk hn
   rcases Nat.lt_or_ge k N with hlt|hge
   ·rw[hs n k hlt,show N-k=(N-(k+1))+1 by omega,List.range'_succ,List.all_cons]
    cases hp:p k with
    |false=>simp
    |true=>simp only[if_true,Bool.true_and];exact ih (k+1) hlt (by omega)
   ·have:k=N:=by omega
    subst this;rw[he];simp
 have:=key n 0 (Nat.zero_le _) (by omega)
 rw[List.range_eq_range']
 simpa using this
theorem Ed {σ β:Type} (N:Nat) (L:Nat->σ->Int->Option β) (S:Nat->σ) (q:Nat->Option (Option β)) {e:Option β}
  (hs: ∀n (k:Nat),k<N->(∀j,j<k->q j=none)->L (n+1) (S k) k=match q k with|none=>L n (S (k+1)) ((k+1:Nat):Int)|some r=>r) (he: ∀n,L (n+1) (S N) (N:Nat)=e) {n:Nat} (hn:N<n):
  L n (S 0) 0=((List.range N).findSome? q).getD e:=by
 have key: ∀(n k:Nat),k<=N->N-k<n->(∀j,j<k->q j=none)->L n (S k) k=((List.range' k (N-k)).findSome? q).getD e:=by
  intro n
  induction n with
  |zero=>intro k _ h;omega
  |succ n ih=>
   intro k hk hn hq
   rcases Nat.lt_or_ge k N with hlt|hge
   ·rw[hs n k hlt hq,show N-k=(N-(k+1))+1 by omega,List.range'_succ,List.findSome?_cons]
    cases hp:q k with
    |some r=>simp
    |none=>
     refine ih (k+1) hlt (by omega) λj hj=>?_
     rcases Nat.lt_or_ge j k with h|h
     ·exact hq j h
     ·have:j=k:=by omega
      rw[this];exact hp
   ·have:k=N:=by omega
    subst this;rw[he];simp
 have:=key n 0 (Nat.zero_le _) (by omega) (λj h=>by omega)
 rw[List.range_eq_range']
 simpa using this
def szR (t:Nat) (left:Int):Int:=if(t:Int)<=left then left-t else-1
end Go.Va
set_option linter.unusedVariables false
open Go Go.Va
namespace T
def Af:Nat:=1099511627776
def AY (a:List Int) (left:Int):Option (Int):=
 if decide ((w64 (left-(a.length:Int)))<0)then
 some (-1)
 else
 some (w64 (left-(a.length:Int)))
def AJ:Nat->((List (List Int))×Int×Int)->Option ((Int)⊕(Int))
 |0,_=>none
 |n+1,(a,left,i)=>
 if decide (i<(a.length:Int))then
 if inb i a then
 (AY (gd a i []) left).bind λr1=>
 if decide (r1<0)then
 some (.inr (-1))
 else
 AJ n (a,r1,w64 (i+1))
 else none
 else
 some (.inl left)
def By (a:List (List Int)) (left:Int):Option (Int):=
 if decide ((w64 (left-(a.length:Int)))<0)then
  some (-1)
 else
  (AJ Af (a,w64 (left-(a.length:Int)),0)).bind λs1=>
   match s1 with
   | .inl s2=>
    some s2
   | .inr s3=>
    some s3
def AN:Nat->((List Int)×(List Int)×Int)->Option ((List Int))
 |0,_=>none
 |n+1,(a,out,i)=>
 if decide (i<(a.length:Int))then
 if inb i a then
 if inb i out then
 AN n (a,stt out i (gd a i 0),w64 (i+1))
 else none
 else none
 else
 some out
def BL (a:List Int):Option ((List Int)):=
 if 0<=(a.length:Int)/\(a.length:Int)<=(a.length:Int)/\(a.length:Int)<=lim then
 (AN Af (a,List.replicate (Int.toNat (a.length:Int)) (0:Int),0)).bind λs1=>
 some s1
 else none
def AK:Nat->((List (List Int))×(List (List Int))×Int)->Option ((List (List Int)))
 |0,_=>none
 |n+1,(a,out,i)=>
 if decide (i<(a.length:Int))then
 if inb i a then
 (BL (gd a i [])).bind λr1=>
 if inb i out then
 AK n (a,stt out i r1,w64 (i+1))
 else none
 else none
 else
 some out
def AT (a:List (List Int)):Option ((List (List Int))):=
 if 0<=(a.length:Int)/\(a.length:Int)<=(a.length:Int)/\(a.length:Int)<=lim then
 (AK Af (a,List.replicate (Int.toNat (a.length:Int)) ([]:List Int),0)).bind λs1=>
 some s1
 else none
def Bx (x:Int) (a:Int) (b:Int):Option (Bool):=
 if decide (x≥a)then
 some (decide (x<=b))
 else
 some false
def Aw:Nat->(Int×(List Int)×Int)->Option ((Unit)⊕(Bool))
 |0,_=>none
 |n+1,(n_,list,i)=>
 if decide (i<(list.length:Int))then
 if inb i list then
 (Bx (gd list i 0) 0 (w64 (n_-1))).bind λr1=>
 if !r1 then
 some (.inr false)
 else
 Aw n (n_,list,w64 (i+1))
 else none
 else
 some (.inl ())
def Bj (n_:Int) (list:List Int):Option (Bool):=
 (Aw Af (n_,list,0)).bind λs1=>
  match s1 with
  | .inl s2=>
   some true
  | .inr s3=>
   some s3
def BD (n_:Int) (k:Int) (t:List Int):Option (Bool):=
 if(t.length:Int)==k then
 (Bj n_ t).bind λr1=>
 some r1
 else
 some false
def AL:Nat->(Int×(List Int)×Int×Int)->Option ((Unit)⊕(Bool))
 |0,_=>none
 |n+1,(n_,t7,t8,t9)=>
 if decide (t9<t8)then
 if inb t9 t7 then
 if decide ((gd t7 t9 0)<0)then
 some (.inr false)
 else
 if decide ((gd t7 t9 0)≥n_)then
 some (.inr false)
 else
 AL n (n_,t7,t8,w64 (t9+1))
 else none
 else
 some (.inl ())
def BI (list:List Int) (n_:Int):Option (Bool):=
 (AL Af (n_,list,(list.length:Int),0)).bind λs1=>
  match s1 with
  | .inl s2=>
   some true
  | .inr s3=>
   some s3
def AM:Nat->((List Int)×(List Int)×Int)->Option ((Unit)⊕(Bool))
 |0,_=>none
 |n+1,(a,b,i)=>
 if decide (i<(a.length:Int))then
 if inb i a then
 if inb i b then
 if(gd a i 0) !=(gd b i 0)then
 some (.inr false)
 else
 AM n (a,b,w64 (i+1))
 else none
 else none
 else
 some (.inl ())
def BK (a:List Int) (b:List Int):Option (Bool):=
 if(a.length:Int) !=(b.length:Int)then
  some false
 else
  (AM Af (a,b,0)).bind λs1=>
   match s1 with
   | .inl s2=>
    some true
   | .inr s3=>
    some s3
def AI:Nat->((List (List Int))×(List (List Int))×Int)->Option ((Unit)⊕(Bool))
 |0,_=>none
 |n+1,(a,b,i)=>
 if decide (i<(a.length:Int))then
 if inb i a then
 if inb i b then
 (BK (gd a i []) (gd b i [])).bind λr1=>
 if !r1 then
 some (.inr false)
 else
 AI n (a,b,w64 (i+1))
 else none
 else none
 else
 some (.inl ())
def AS (a:List (List Int)) (b:List (List Int)):Option (Bool):=
 if(a.length:Int) !=(b.length:Int)then
  some false
 else
  (AI Af (a,b,0)).bind λs1=>
   match s1 with
   | .inl s2=>
    some true
   | .inr s3=>
    some s3
def BS (n_:Int):Option (Bool):=
 (Bx n_ 1 8).bind λr1=>
 some r1
def Bg:Nat->(Int×Int×Int)->Option (Int)
 |0,_=>none
 |n+1,(n_,k,out)=>
 if decide (k>0)then
 Bg n (n_,w64 (k-1),w64 (out*n_))
 else
 some out
def B3 (n_:Int) (k:Int):Option (Int):=
 (Bg Af (n_,k,1)).bind λs1=>
 some s1
def AQ:Nat->((List Int)×(List Int)×Int)->Option ((Unit)⊕(Bool))
 |0,_=>none
 |n+1,(a,b,i)=>
 if decide (i<(a.length:Int))then
 if inb i a then
 if inb i b then
 if(gd a i 0) !=(gd b i 0)then
 if inb i a then
 if inb i b then
 some (.inr (decide ((gd a i 0)<(gd b i 0))))
 else none
 else none
 else
 AQ n (a,b,w64 (i+1))
 else none
 else none
 else
 some (.inl ())
def BQ (a:List Int) (b:List Int):Option (Bool):=
 (AQ Af (a,b,0)).bind λs1=>
  match s1 with
  | .inl s2=>
   some false
  | .inr s3=>
   some s3
def AF:Nat->(Int×Int×(List (List Int))×Int)->Option ((Unit)⊕(Bool))
 |0,_=>none
 |n+1,(n_,k,tuples,i)=>
 if decide (i<(tuples.length:Int))then
 if inb i tuples then
 (BD n_ k (gd tuples i [])).bind λr4=>
 if !r4 then
 some (.inr false)
 else
 if decide (i>0)then
 if inb (w64 (i-1)) tuples then
 if inb i tuples then
 (BQ (gd tuples (w64 (i-1)) []) (gd tuples i [])).bind λr5=>
 if !r5 then
 some (.inr false)
 else
 AF n (n_,k,tuples,w64 (i+1))
 else none
 else none
 else
 AF n (n_,k,tuples,w64 (i+1))
 else none
 else
 some (.inl ())
def BP (n_:Int) (k:Int) (tuples:List (List Int)):Option (Bool):=
 (BS n_).bind λr1=>
  if !r1 then
   some false
  else
   (Bx k 1 4).bind λr2=>
    if !r2 then
     some false
    else
     (B3 n_ k).bind λr3=>
      if decide ((tuples.length:Int)>r3)then
       some false
      else
       (AF Af (n_,k,tuples,0)).bind λs4=>
        match s4 with
        | .inl s5=>
         some true
        | .inr s6=>
         some s6
def AP:Nat->((List Int)×(List Int)×Int)->Option ((Unit)⊕(Bool))
 |0,_=>none
 |n+1,(a,b,i)=>
 if decide (i<(a.length:Int))then
 if inb i a then
 if inb i b then
 if(gd a i 0) !=(gd b i 0)then
 some (.inr false)
 else
 AP n (a,b,w64 (i+1))
 else none
 else none
 else
 some (.inl ())
def Bt (a:List Int) (b:List Int):Option (Bool):=
 if(a.length:Int) !=(b.length:Int)then
  some false
 else
  (AP Af (a,b,0)).bind λs1=>
   match s1 with
   | .inl s2=>
    some true
   | .inr s3=>
    some s3
def AG:Nat->((List (List Int))×(List Int)×Int×Int)->Option ((List (List Int))×(List Int)×Int)
 |0,_=>none
 |n+1,(list,t,from_,to)=>
 if decide (from_<to)then
 if(2:Int)≠0 then
 if inb (w64 (Int.tdiv (w64 (from_+to)) 2)) list then
 (BQ (gd list (w64 (Int.tdiv (w64 (from_+to)) 2)) []) t).bind λr1=>
 if r1 then
 AG n (list,t,w64 ((w64 (Int.tdiv (w64 (from_+to)) 2))+1),to)
 else
 AG n (list,t,from_,w64 (Int.tdiv (w64 (from_+to)) 2))
 else none
 else none
 else
 some (list,t,from_)
def BT (list:List (List Int)) (t:List Int):Option (Int×Bool):=
 (AG Af (list,t,0,(list.length:Int))).bind λs1=>
 if decide (s1.2.2<(s1.1.length:Int))then
 if inb s1.2.2 s1.1 then
 (Bt (gd s1.1 s1.2.2 []) s1.2.1).bind λr2=>
 some (s1.2.2,r2)
 else none
 else
 some (s1.2.2,false)
def BJ (n_:Int):Option (Bool):=
 if decide (n_≥1)then
 some (decide (n_<=8))
 else
 some false
def Am:Nat->((List Int)×(List Int)×Int)->Option (((List Int)×(List Int))⊕(Int))
 |0,_=>none
 |n+1,(s,t,i)=>
 if decide (i<(s.length:Int))then
 if decide (i<(t.length:Int))then
 if inb i s then
 if inb i t then
 if(gd s i 0) !=(gd t i 0)then
 if inb i s then
 if inb i t then
 if decide ((gd s i 0)<(gd t i 0))then
 some (.inr (-1))
 else
 some (.inr 1)
 else none
 else none
 else
 Am n (s,t,w64 (i+1))
 else none
 else none
 else
 some (.inl (s,t))
 else
 some (.inl (s,t))
def Bn (s:List Int) (t:List Int):Option (Int):=
 (Am Af (s,t,0)).bind λs1=>
  match s1 with
  | .inl s2=>
   if decide ((s2.1.length:Int)<(s2.2.length:Int))then
    some (-1)
   else
    if decide ((s2.1.length:Int)>(s2.2.length:Int))then
     some 1
    else
     some 0
  | .inr s3=>
   some s3
def Aq:Nat->(Int×Int×(List (List Int))×(List (List Int))×Int×Int)->Option ((Unit)⊕(Bool))
 |0,_=>none
 |n+1,(n_,k,tuples,t20,t21,t22)=>
 if decide (t22<t21)then
 if inb t22 t20 then
 if((gd t20 t22 []).length:Int) !=k then
 some (.inr false)
 else
 (BI (gd t20 t22 []) n_).bind λr2=>
 if !r2 then
 some (.inr false)
 else
 if decide (t22>0)then
 if inb (w64 (t22-1)) tuples then
 (Bn (gd tuples (w64 (t22-1)) []) (gd t20 t22 [])).bind λr3=>
 if decide (r3≥0)then
 some (.inr false)
 else
 Aq n (n_,k,tuples,t20,t21,w64 (t22+1))
 else none
 else
 Aq n (n_,k,tuples,t20,t21,w64 (t22+1))
 else none
 else
 some (.inl ())
def Bi (n_:Int) (k:Int) (tuples:List (List Int)):Option (Bool):=
 (BJ n_).bind λr1=>
  if !r1 then
   some false
  else
   if decide (k<1)then
    some false
   else
    if decide (k>4)then
     some false
    else
     (Aq Af (n_,k,tuples,tuples,(tuples.length:Int),0)).bind λs2=>
      match s2 with
      | .inl s3=>
       some true
      | .inr s4=>
       some s4
end T
open Go Go.Va
namespace T
theorem Dq {a:List Int} {left:Int} (h0:0<=left) (h1:left<=4611686018427387904) (ha:a.length<=9223372036854775807):AY a left=some (szR a.length left):=by
 unfold AY szR
 rw[Bd (by omega) (by omega)]
 by_cases h:(a.length:Int)<=left
 ·rw[if_neg (by simp;omega),if_pos h]
 ·rw[if_pos (by simp;omega),if_neg h]
def Ce (a:List (List Int)):Nat:=a.length+(a.map List.length).sum
theorem C7 {a:List (List Int)} {left:Int} (h0:0<=left) (h1:left<=1099511627775) (ha:a.length<=9223372036854775807) (hr: ∀r∈a,r.length<=9223372036854775807):By a left=some (szR (Ce a) left):=by
 unfold By
 rw[Bd (by omega) (by omega)]
 by_cases h:(a.length:Int)<=left
 ·rw[if_neg (by simp;omega)]
  have key:=DA a (λn s i=>AJ n (a,s,i)) (λs r=>(AY r s).bind λq=>if q<0 then some (.inr (.inr (-1)))else some (.inl q)) (λs=>some (.inl s)) ?_ ?_ (n:=Af) (by unfold Af;omega) (left-a.length)
  ·rw[key]
   have run: ∀(l:List (List Int)) (s:Int),0<=s->s<=1099511627775->(∀r∈l,r.length<=9223372036854775807)->
     CM (λs r=>(AY r s).bind λq=>if q<0 then some (.inr (.inr (-1)))else some (.inl q)) (λs=>some (.inl s)) l s=some (if((l.map List.length).sum:Int)<=s then(.inl (s-(l.map List.length).sum):Int⊕Int)else .inr (-1)):=by
    intro l
    induction l with
    |nil=>intro s h0 _ _;simp[CM,h0]
    |cons r l ih=>
     intro s h0 h1 hr
     simp only[CM]
     rw[Dq h0 (by omega) (hr r (by simp))]
     unfold szR
     by_cases h:(r.length:Int)<=s
     ·rw[if_pos h]
      simp only[Option.bind_some]
      rw[if_neg (by omega)]
      dsimp only
      rw[ih (s-r.length) (by omega) (by omega) λr hr'=>hr r (List.mem_cons_of_mem _ hr')]
      simp only[List.map_cons,List.sum_cons]
      congr 1
      by_cases h2:(((l.map List.length).sum:Nat):Int)<=s-r.length
      ·rw[if_pos h2,if_pos (by omega)];congr 1;omega
      ·rw[if_neg h2,if_neg (by omega)]
     ·rw[if_neg h]
      simp only[List.map_cons,List.sum_cons]
      rw[if_neg (by omega)]
      rfl
   rw[run a _ (by omega) (by omega) hr]
   unfold szR Ce
   by_cases h2:(((a.map List.length).sum:Nat):Int)<=left-a.length
   ·rw[if_pos h2,if_pos (by omega)]
    simp only[Option.bind_some,Option.some.injEq];omega
   ·rw[if_neg h2,if_neg (by omega)];rfl
  ·intro n s k hk
   simp only[AJ,Ah,Ao hk,Ag (show k<4611686018427387904 by omega)]
   simp[hk]
   cases AY a[k] s with
   |none=>rfl
   |some q=>by_cases hq:q<0<;>simp[hq]
  ·intro n s
   simp[AJ]
 ·rw[if_pos (by simp;omega)]
  unfold szR Ce
  rw[if_neg (by omega)]
theorem Ds {a:List Int} (ha:a.length<=1099511627775):BL a=some a:=by
 unfold BL
 rw[if_pos (by unfold lim;omega)]
 have key:=Dv a (λn out i=>AN n (a,out,i)) id some ?_ ?_ (n:=Af) (out:=List.replicate (Int.toNat (a.length:Int)) (0:Int)) (by simp) (by unfold Af;omega)
 ·rw[key];simp
 ·intro n out k hk hl
  simp only[AN,Ah,Ao hk,Ci,Ag (show k<4611686018427387904 by omega)]
  simp[hk,hl]
 ·intro n out hl
  simp[AN]
theorem C8 {a:List (List Int)} (ha:a.length<=1099511627775) (hr: ∀r∈a,r.length<=1099511627775):AT a=some a:=by
 unfold AT
 rw[if_pos (by unfold lim;omega)]
 have key:=Dv a (λn out i=>AK n (a,out,i)) id some ?_ ?_ (n:=Af) (out:=List.replicate (Int.toNat (a.length:Int)) ([]:List Int)) (by simp) (by unfold Af;omega)
 ·rw[key];simp
 ·intro n out k hk hl
  simp only[AK,Ah,Ao hk,Ci,Ag (show k<4611686018427387904 by omega)]
  simp[hk,hl,Ds (hr _ (List.getElem_mem hk))]
 ·intro n out hl
  simp[AK]
theorem Dl {a b:List Int} (ha:a.length<=1099511627775):BK a b=some (decide (a=b)):=by
 unfold BK
 by_cases hl:a.length=b.length
 ·rw[if_neg (by simp[hl]),eqX a b hl (λn i=>AM n (a,b,i)) ?_ ?_ (by unfold Af;omega)]
  ·by_cases h:a=b<;>simp[h]
  ·intro n k h1 h2
   simp only[AM,Ah,Ao h1,Ao h2,Ag (show k<4611686018427387904 by omega)]
   by_cases h:a[k]=b[k]<;>simp[h1,h2,h]
  ·intro n
   simp[AM]
 ·rw[if_pos (by simp;omega),decide_eq_false (λe=>hl (by rw[e]))]
theorem Cm {a b:List (List Int)} (ha:a.length<=1099511627775) (hr: ∀r∈a,r.length<=1099511627775):AS a b=some (decide (a=b)):=by
 unfold AS
 by_cases hl:a.length=b.length
 ·rw[if_neg (by simp[hl]),eqX a b hl (λn i=>AI n (a,b,i)) ?_ ?_ (by unfold Af;omega)]
  ·by_cases h:a=b<;>simp[h]
  ·intro n k h1 h2
   simp only[AI,Ah,Ao h1,Ao h2,Ag (show k<4611686018427387904 by omega),Dl (hr _ (List.getElem_mem h1))]
   by_cases h:a[k]=b[k]<;>simp[h1,h2,h]
  ·intro n
   simp[AI]
 ·rw[if_pos (by simp;omega),decide_eq_false (λe=>hl (by rw[e]))]
abbrev Lin:=Int×Int×List (List Int)
def EH (a:Lin):Prop:=a.2.2.length<=1048576/\ ∀r∈a.2.2,r.length<=1048576
theorem DW {l:List (List Int)}: ∀ {r:List Int},r∈l->r.length<=(l.map List.length).sum:=by
 induction l with
 |nil=>intro r h;cases h
 |cons x l ih=>
  intro r h
  rw[List.map_cons,List.sum_cons]
  rcases List.mem_cons.1 h with rfl|h
  ·omega
  ·have:=ih h;omega
theorem CA {a:Lin} (h: ¬szR (Ce a.2.2) 1048576<0):EH a:=by
 unfold szR Ce at h
 split at h
 ·exact⟨by omega,λr hr=>by have:=DW hr;omega⟩
 ·omega
theorem Bz (x a b:Int):Bx x a b=some (decide (a<=x/\x<=b)):=by
 unfold Bx
 by_cases h:a<=x<;>simp[h]
def AH (n:Int) (l:List Int):Bool:=l.all λx=>decide (0<=x/\x<n)
theorem Cq {l:List Int} (n:Int) (hl:l.length<=1099511627775):BI l n=some (AH n l):=by
 unfold BI
 rw[En l (λm i=>AL m (n,l,(l.length:Int),i)) (λx=>decide (0<=x/\x<n)) (.inr false) (.inl ()) ?_ ?_ (by unfold Af;omega)]
 ·unfold AH;cases l.all (λx=>decide (0<=x/\x<n))<;>simp
 ·intro m k hk
  simp only[AL,Ah,Ao hk,Ag (show k<4611686018427387904 by omega)]
  by_cases h1:l[k]<0
  ·simp[hk,h1,show¬0<=l[k] by omega]
  ·by_cases h2:n<=l[k]
   ·simp[hk,h1,h2,show¬l[k]<n by omega]
   ·simp[hk,h1,h2,show 0<=l[k]/\l[k]<n by omega]
 ·intro m
  simp[AL]
theorem B2 {l:List Int} {n:Int} (hn: -9223372036854775808<n) (hn':n<=9223372036854775807) (hl:l.length<=1099511627775):Bj n l=some (AH n l):=by
 unfold Bj
 rw[En l (λm i=>Aw m (n,l,i)) (λx=>decide (0<=x/\x<n)) (.inr false) (.inl ()) ?_ ?_ (by unfold Af;omega)]
 ·unfold AH;cases l.all (λx=>decide (0<=x/\x<n))<;>simp
 ·intro m k hk
  simp only[Aw,Ah,Ao hk,Ag (show k<4611686018427387904 by omega),Bz,Bd (show-9223372036854775808<=n-1 by omega) (show n-1<=9223372036854775807 by omega)]
  by_cases h1:0<=l[k]/\l[k]<n
  ·simp[hk,h1,show l[k]<=n-1 by omega]
  ·have: ¬(0<=l[k]/\l[k]<=n-1):=by omega
   simp[hk,h1,this]
 ·intro m
  simp[Aw]
theorem Cg {l:List Int} {n:Int} (k:Int) (hn: -9223372036854775808<n) (hn':n<=9223372036854775807) (hl:l.length<=1099511627775):BD n k l=some (decide ((l.length:Int)=k)&&AH n l):=by
 unfold BD
 rw[B2 hn hn' hl]
 by_cases h:(l.length:Int)=k<;>simp[h]
end T
open Go Go.Va
namespace T
theorem C0 {n:Int} {l:List Int} (h:AH n l=true) (k:Nat) (hk:k<l.length):0<=l[k]/\l[k]<n:=by
 have:=(List.all_eq_true.1 h) l[k] (List.getElem_mem hk)
 simpa using this
section
variable {p v:Int} {rows:List (List Int)} {y:List Int}
end
end T
open Go Go.Va
namespace T
def cmpL:List Int->List Int->Int
 | [],[]=>0
 | [],_::_=> -1
 |_::_,[]=>1
 |a::s,b::t=>if a=b then cmpL s t else if a<b then-1 else 1
theorem C1 {s t:List Int} (hs:s.length<=1099511627775): ∀(n k:Nat),k<=s.length->k<=t.length->s.length-k<n->
  (Am n (s,t,(k:Int))).bind (λs1=>match s1 with
   | .inl s2=>if decide ((s2.1.length:Int)<(s2.2.length:Int))then some (-1)else if decide ((s2.1.length:Int)>(s2.2.length:Int))then some 1 else some 0
   | .inr s3=>some s3)=some (cmpL (s.drop k) (t.drop k)):=by
 intro n
 induction n with
 |zero=>intro k _ _ h;omega
 |succ n ih=>
  intro k h1 h2 hn
  by_cases k1:k<s.length
  ·by_cases k2:k<t.length
   ·rw[List.drop_eq_getElem_cons k1,List.drop_eq_getElem_cons k2]
    simp only[Am,Ah,Ao k1,Ao k2,Ag (show k<4611686018427387904 by omega),cmpL]
    by_cases he:s[k]=t[k]
    ·have:=ih (k+1) k1 k2 (by omega)
     simp[k1,k2,he]
     simpa using this
    ·by_cases hl:s[k]<t[k]<;>simp[k1,k2,he,hl]
   ·rw[List.drop_eq_getElem_cons k1,List.drop_of_length_le (show t.length<=k by omega)]
    have e:k=t.length:=by omega
    simp only[Am,cmpL]
    simp[k1,k2,show¬s.length<t.length by omega,show t.length<s.length by omega]
  ·rw[List.drop_of_length_le (show s.length<=k by omega)]
   simp only[Am]
   by_cases k2:k<t.length
   ·rw[List.drop_eq_getElem_cons k2]
    simp[k1,cmpL,show s.length<t.length by omega]
   ·rw[List.drop_of_length_le (show t.length<=k by omega)]
    simp[k1,cmpL,show¬s.length<t.length by omega,show¬t.length<s.length by omega]
theorem BH {s t:List Int} (hs:s.length<=1099511627775):Bn s t=some (cmpL s t):=by
 have:=C1 (t:=t) hs Af 0 (Nat.zero_le _) (Nat.zero_le _) (by unfold Af;omega)
 rw[List.drop_zero,List.drop_zero]at this
 exact this
theorem BR {s t:List Int} (hs:s.length<=1099511627775) (hl:s.length=t.length):BQ s t=some (decide (cmpL s t<0)):=by
 have key: ∀(n k:Nat),k<=s.length->s.length-k<n->(AQ n (s,t,(k:Int))).bind (λs1=>match s1 with| .inl _=>some false| .inr s3=>some s3)=some (decide (cmpL (s.drop k) (t.drop k)<0)):=by
  intro n
  induction n with
  |zero=>intro k _ h;omega
  |succ n ih=>
   intro k h1 hn
   by_cases k1:k<s.length
   ·have k2:k<t.length:=by omega
    rw[List.drop_eq_getElem_cons k1,List.drop_eq_getElem_cons k2]
    simp only[AQ,Ah,Ao k1,Ao k2,Ag (show k<4611686018427387904 by omega),cmpL]
    by_cases he:s[k]=t[k]
    ·have:=ih (k+1) k1 (by omega)
     simp[k1,k2,he]
     simpa using this
    ·by_cases hl:s[k]<t[k]<;>simp[k1,k2,he,hl]
   ·rw[List.drop_of_length_le (show s.length<=k by omega),List.drop_of_length_le (show t.length<=k by omega)]
    simp[AQ,k1,cmpL]
 have:=key Af 0 (Nat.zero_le _) (by unfold Af;omega)
 rw[List.drop_zero,List.drop_zero]at this
 exact this
theorem BO {a b:List Int} (ha:a.length<=1099511627775):Bt a b=some (decide (a=b)):=by
 unfold Bt
 by_cases hl:a.length=b.length
 ·rw[if_neg (by simp[hl]),eqX a b hl (λn i=>AP n (a,b,i)) ?_ ?_ (by unfold Af;omega)]
  ·by_cases h:a=b<;>simp[h]
  ·intro n k h1 h2
   simp only[AP,Ah,Ao h1,Ao h2,Ag (show k<4611686018427387904 by omega)]
   by_cases h:a[k]=b[k]<;>simp[h1,h2,h]
  ·intro n
   simp[AP]
 ·rw[if_pos (by simp;omega),decide_eq_false (λe=>hl (by rw[e]))]
theorem cmpL_refl: ∀s,cmpL s s=0
 | []=>rfl
 |a::s=>by simp[cmpL,cmpL_refl s]
theorem cmpL_eq: ∀ {s t},cmpL s t=0↔s=t
 | [],[]=>by simp[cmpL]
 | [],_::_=>by simp[cmpL]
 |_::_,[]=>by simp[cmpL]
 |a::s,b::t=>by
  simp only[cmpL]
  by_cases h:a=b
  ·rw[if_pos h,cmpL_eq];simp[h]
  ·rw[if_neg h];split<;>simp[h]
theorem cmpL_symm: ∀s t,cmpL t s= -cmpL s t
 | [],[]=>by simp[cmpL]
 | [],_::_=>by simp[cmpL]
 |_::_,[]=>by simp[cmpL]
 |a::s,b::t=>by
  simp only[cmpL]
  by_cases h:a=b
  ·rw[if_pos h,if_pos h.symm,cmpL_symm s t]
  ·rw[if_neg h,if_neg (Ne.symm h)]
   by_cases h2:a<b
   ·rw[if_pos h2,if_neg (by omega)];rfl
   ·rw[if_neg h2,if_pos (by omega)]
theorem cmpL_trans: ∀ {s t u},cmpL s t<0->cmpL t u<0->cmpL s u<0
 | [],[],_,h,_=>by simp[cmpL]at h
 | [],_::_,[],_,h=>by simp[cmpL]at h
 | [],_::_,_::_,_,_=>by simp[cmpL]
 |_::_,[],_,h,_=>by simp[cmpL]at h
 |_::_,_::_,[],_,h=>by simp[cmpL]at h
 |a::s,b::t,c::u,h1,h2=>by
  simp only[cmpL]at*
  by_cases e1:a=b
  ·rw[if_pos e1]at h1
   by_cases e2:b=c
   ·rw[if_pos e2]at h2;rw[if_pos (e1.trans e2)];exact cmpL_trans h1 h2
   ·rw[if_neg e2]at h2;rw[e1,if_neg e2];exact h2
  ·rw[if_neg e1]at h1
   have l1:a<b:=by
    by_cases h:a<b
    ·exact h
    ·rw[if_neg h]at h1;omega
   by_cases e2:b=c
   ·rw[←e2,if_neg e1,if_pos l1];omega
   ·rw[if_neg e2]at h2
    have l2:b<c:=by
     by_cases h:b<c
     ·exact h
     ·rw[if_neg h]at h2;omega
    rw[if_neg (by omega),if_pos (by omega)];omega
def AZ:List (List Int)->Bool
 |a::b::l=>decide (cmpL a b<0)&&AZ (b::l)
 |_=>true
theorem Dm {a:List Int} {l:List (List Int)} (h:AZ (a::l)=true):AZ l=true:=by
 cases l with
 |nil=>rfl
 |cons b l=>simp only[AZ,Bool.and_eq_true]at h;exact h.2
theorem CG: ∀ {a:List Int} {l:List (List Int)},AZ (a::l)=true-> ∀b∈l,cmpL a b<0
 |a,[],_,b,hb=>by cases hb
 |a,c::l,h,b,hb=>by
  simp only[AZ,Bool.and_eq_true,decide_eq_true_eq]at h
  rcases List.mem_cons.1 hb with rfl|hb
  ·exact h.1
  ·exact cmpL_trans h.1 (CG h.2 b hb)
theorem Bp: ∀ {l:List (List Int)},AZ l=true-> ∀(i j:Nat) (hi:i<j) (hj:j<l.length),cmpL (l[i]'(by omega)) l[j]<0
 | [],_,i,j,_,hj=>by simp at hj
 |a::l,h,0,j+1,_,hj=>by
  simp only[List.getElem_cons_zero,List.getElem_cons_succ]
  exact CG h _ (List.getElem_mem _)
 |a::l,h,i+1,j+1,hi,hj=>by
  simp only[List.getElem_cons_succ]
  exact Bp (Dm h) i j (by omega) (by simpa using hj)
theorem CQ {l:List (List Int)}:AZ l=true↔ ∀(i:Nat) (hi:i+1<l.length),cmpL (l[i]'(by omega)) l[i+1]<0:=by
 constructor
 ·exact λh i hi=>Bp h i (i+1) (by omega) hi
 ·induction l with
  |nil=>intro _;rfl
  |cons a l ih=>
   intro h
   cases l with
   |nil=>rfl
   |cons b l=>
    simp only[AZ,Bool.and_eq_true,decide_eq_true_eq]
    exact⟨h 0 (by simp),ih λi hi=>by have:=h (i+1) (by simpa using hi);simpa using this⟩
end T
open Go Go.Va
namespace T
theorem Cb {n:Int} (h0:0<=n) (h8:n<=8): ∀k:Nat,0<=n^k/\n^k<=8^k
 |0=>by simp
 |k+1=>by
  obtain⟨h1,h2⟩:=Cb h0 h8 k
  rw[Int.pow_succ,Int.pow_succ]
  exact⟨Int.mul_nonneg h1 h0,Int.mul_le_mul h2 h8 h0 (by have:(0:Int)<=8^k:=Int.le_trans h1 h2;exact this)⟩
theorem D0: ∀k:Nat,k<=20->(8:Int)^k<=8^20:=by
 intro k hk
 have:((8^k:Nat):Int)<=((8^20:Nat):Int):=Int.ofNat_le.2 (Nat.pow_le_pow_right (by omega) hk)
 simpa using this
theorem Ef {n:Int} (h0:0<=n) (h8:n<=8) {k:Nat} (hk:k<=20):0<=n^k/\n^k<=1152921504606846976:=by
  obtain⟨h1,h2⟩:=Cb h0 h8 k
  have:=D0 k hk
  exact ⟨h1, by have e : (8 : Int) ^ 20 = 1152921504606846976 := by decide
                omega⟩
theorem Dy {n:Int} (h0:0<=n) (h8:n<=8): ∀(m k j:Nat),j+k<=20->k<m->Bg m (n,(k:Int),n^j)=some (n^(j+k)):=by
 intro m
 induction m with
 |zero=>intro k j _ h;omega
 |succ m ih=>
  intro k j hj hk
  simp only[Bg]
  cases k with
  |zero=>simp
  |succ k=>
   have e:w64 (((k+1:Nat):Int)-1)=(k:Int):=by rw[Bd (by omega) (by omega)];omega
   have hb:=Ef h0 h8 (k:=j+1) (by omega)
   rw[Int.pow_succ]at hb
   rw[e,Bd (by omega) (by omega),←Int.pow_succ,if_pos (by simp),ih k (j+1) (by omega) (by omega)]
   congr 2<;>omega
theorem CE {n:Int} (h0:0<=n) (h8:n<=8) {k:Nat} (hk:k<=20):B3 n (k:Int)=some (n^k):=by
 unfold B3
 have:=Dy h0 h8 Af k 0 (by omega) (by unfold Af;omega)
 rw[Int.pow_zero]at this
 rw[this];simp
def CJ (n:Int):Int->List Int->Int
 |i,[]=>i
 |i,a::l=>CJ n (i*n+a) l
def idx (n:Int) (l:List Int):Int:=CJ n 0 l
theorem CK (n:Int): ∀(l:List Int) (i:Int),CJ n i l=i*n^l.length+CJ n 0 l
 | [],i=>by simp[CJ]
 |a::l,i=>by
  simp only[CJ,List.length_cons]
  rw[CK n l (i*n+a),CK n l (0*n+a),Int.pow_succ]
  simp only[Int.zero_mul,Int.zero_add]
  rw[Int.add_mul,Int.mul_assoc,Int.mul_comm n (n^l.length)]
  omega
theorem Cp (n a:Int) (l:List Int):idx n (a::l)=a*n^l.length+idx n l:=by
 unfold idx
 simp only[CJ]
 rw[CK];simp
theorem BF {n a:Int} {l:List Int}:AH n (a::l)=true↔(0<=a/\a<n)/\AH n l=true:=by
 unfold AH;simp[List.all_cons]
theorem Co {n:Int}: ∀ {l:List Int},AH n l=true->0<=idx n l/\idx n l<n^l.length
 | [],_=>by simp[idx,CJ]
 |a::l,h=>by
  obtain⟨h1,h2⟩:=BF.1 h
  obtain⟨h3,h4⟩:=Co h2
  rw[Cp,List.length_cons,Int.pow_succ]
  have hp:0<=n^l.length:=by omega
  have k1:=Int.mul_nonneg h1.1 hp
  have k2:=Int.mul_le_mul_of_nonneg_right (show a+1<=n by omega) hp
  rw[Int.add_mul,Int.one_mul,Int.mul_comm n]at k2
  exact⟨by omega,by omega⟩
theorem Dc {n:Int}: ∀ {s t:List Int},AH n s=true->AH n t=true->s.length=t.length->(cmpL s t<0↔idx n s<idx n t)/\(cmpL s t=0↔idx n s=idx n t)
 | [],[],_,_,_=>by simp[cmpL,idx,CJ]
 | [],_::_,_,_,h=>by simp at h
 |_::_,[],_,_,h=>by simp at h
 |a::s,b::t,hs,ht,hl=>by
  obtain⟨s1,s2⟩:=BF.1 hs
  obtain⟨t1,t2⟩:=BF.1 ht
  have hl':s.length=t.length:=by simpa using hl
  have ih:=Dc s2 t2 hl'
  obtain⟨b1,b2⟩:=Co s2
  obtain⟨c1,c2⟩:=Co t2
  rw[Cp,Cp,hl']
  rw[hl']at b2
  simp only[cmpL]
  have hp:0<=n^t.length:=by omega
  rcases Int.lt_trichotomy a b with h|h|h
  ·have:=Int.mul_le_mul_of_nonneg_right (show a+1<=b by omega) hp
   rw[Int.add_mul,Int.one_mul]at this
   rw[if_neg (by omega),if_pos h]
   exact⟨by constructor<;>intro<;>omega,by constructor<;>intro<;>omega⟩
  ·subst h
   rw[if_pos rfl]
   exact⟨by rw[ih.1];constructor<;>intro<;>omega,by rw[ih.2];constructor<;>intro<;>omega⟩
  ·have:=Int.mul_le_mul_of_nonneg_right (show b+1<=a by omega) hp
   rw[Int.add_mul,Int.one_mul]at this
   rw[if_neg (by omega),if_neg (by omega)]
   exact⟨by constructor<;>intro<;>omega,by constructor<;>intro<;>omega⟩
theorem B9 {n:Int} {k:Nat} {l:List (List Int)} (hi:AZ l=true) (hv: ∀t∈l,t.length=k/\AH n t=true):(l.length:Int)<=n^k∨l= []:=by
 have key: ∀(i:Nat) (h:i<l.length),(i:Int)<=idx n l[i]:=by
  intro i
  induction i with
  |zero=>intro h;exact(Co (hv _ (List.getElem_mem h)).2).1
  |succ i ih=>
   intro h
   have h1:=ih (by omega)
   obtain⟨l1,b1⟩:=hv _ (List.getElem_mem (show i<l.length by omega))
   obtain⟨l2,b2⟩:=hv _ (List.getElem_mem h)
   have:=(Dc b1 b2 (l1.trans l2.symm)).1.1 (Bp hi i (i+1) (by omega) h)
   omega
 cases hn:l.length with
 |zero=>exact .inr (List.length_eq_zero_iff.1 hn)
 |succ m=>
  left
  have h:=key m (by omega)
  obtain⟨l1,b1⟩:=hv _ (List.getElem_mem (show m<l.length by omega))
  have:=(Co b1).2
  rw[l1]at this
  omega
theorem DN {list:List (List Int)} {t:List Int} {k:Nat} (hl:list.length<=1099511627775) (hk:k<=1099511627775) (hv: ∀u∈list,u.length=k) (ht:t.length=k) (hi:AZ list=true): ∀(m a b:Nat),a<=b->b<=list.length->b-a<m->
  (∀i (h:i<list.length),i<a->cmpL list[i] t<0)->(∀i (h:i<list.length),b<=i-> ¬cmpL list[i] t<0)->
  ∃c:Nat,AG m (list,t,(a:Int),(b:Int))=some (list,t,(c:Int))/\c<=list.length/\(∀i (h:i<list.length),i<c->cmpL list[i] t<0)/\(∀i (h:i<list.length),c<=i-> ¬cmpL list[i] t<0):=by
 intro m
 induction m with
 |zero=>intro a b _ _ h;omega
 |succ m ih=>
  intro a b hab hb hm h1 h2
  simp only[AG]
  by_cases hlt:a<b
  ·have emid:w64 (Int.tdiv (w64 ((a:Int)+b)) 2)=(((a+b)/2:Nat):Int):=by
    rw[Bd (x:=(a:Int)+b) (by omega) (by omega),Int.tdiv_eq_ediv_of_nonneg (by omega),Bd (by omega) (by omega)];omega
   have hmid:(a+b)/2<list.length:=by omega
   rw[emid]
   have hless:=BR (s:=list[(a+b)/2]) (t:=t) (by rw[hv _ (List.getElem_mem hmid)];omega) (by rw[hv _ (List.getElem_mem hmid),ht])
   simp only[Ah,Ao hmid,hless,Option.bind_some,Ag (show(a+b)/2<4611686018427387904 by omega)]
   by_cases hc:cmpL list[(a+b)/2] t<0
   ·obtain⟨c,e,k1,k2,k3⟩:=ih ((a+b)/2+1) b (by omega) hb (by omega) (λi h hi'=>by
     rcases Nat.lt_or_ge i ((a+b)/2)with h'|h'
     ·exact cmpL_trans (Bp hi i ((a+b)/2) h' hmid) hc
     ·have:i=(a+b)/2:=by omega
      subst this;exact hc) h2
    exact⟨c,by simpa[hlt,hmid,hc]using e,k1,k2,k3⟩
   ·obtain⟨c,e,k1,k2,k3⟩:=ih a ((a+b)/2) (by omega) (by omega) (by omega) h1 (λi h hi' hneg=>by
     rcases Nat.lt_or_ge ((a+b)/2) i with h'|h'
     ·exact hc (cmpL_trans (Bp hi ((a+b)/2) i h' h) hneg)
     ·have:i=(a+b)/2:=by omega
      subst this;exact hc hneg)
    exact⟨c,by simpa[hlt,hmid,hc]using e,k1,k2,k3⟩
  ·have:a=b:=by omega
   subst this
   exact⟨a,by simp,hb,h1,h2⟩
theorem Cz {list:List (List Int)} {t:List Int} {k:Nat} (hl:list.length<=1099511627774) (hk:k<=1099511627775) (hv: ∀u∈list,u.length=k) (ht:t.length=k) (hi:AZ list=true):
  ∃c:Nat,BT list t=some ((c:Int),decide (t∈list))/\c<=list.length/\(∀i (h:i<list.length),i<c->cmpL list[i] t<0)/\(∀i (h:i<list.length),c<=i-> ¬cmpL list[i] t<0):=by
 obtain⟨c,e,k1,k2,k3⟩:=DN (by omega) hk hv ht hi Af 0 list.length (Nat.zero_le _) (Nat.le_refl _) (by unfold Af;omega) (λi _ h=>by omega) (λi h h'=>by omega)
 refine⟨c,?_,k1,k2,k3⟩
 unfold BT
 have e':AG Af (list,t,0,(list.length:Int))=some (list,t,(c:Int)):=e
 rw[e']
 simp only[Option.bind_some]
 by_cases hc:c<list.length
 ·have hs:=BO (a:=list[c]) (b:=t) (by rw[hv _ (List.getElem_mem hc)];omega)
  simp only[Ah,Ao hc,hs,Option.bind_some]
  have:decide (list[c]=t)=decide (t∈list):=by
   by_cases h:list[c]=t
   ·rw[decide_eq_true h,decide_eq_true (h▸List.getElem_mem hc)]
   ·rw[decide_eq_false h]
    symm;rw[decide_eq_false_iff_not]
    intro hm
    obtain⟨j,hj,rfl⟩:=List.mem_iff_getElem.1 hm
    have hne:j≠c:=λe=>h (by subst e;rfl)
    rcases Nat.lt_or_ge j c with hlt|hge
    ·have:=k2 j hj hlt;rw[cmpL_refl]at this;omega
    ·exact k3 c hc (Nat.le_refl _) (Bp hi c j (by omega) hj)
  simp[hc,this]
 ·have:decide (t∈list)=false:=by
   rw[decide_eq_false_iff_not]
   intro hm
   obtain⟨j,hj,rfl⟩:=List.mem_iff_getElem.1 hm
   have:=k2 j hj (by omega);rw[cmpL_refl]at this;omega
  rw[if_neg (by simp;omega),this]
end T
open Go Go.Va
namespace T
def BW (n:Int):Bool:=decide (1<=n/\n<=8)
theorem Cr (n:Int):BJ n=some (BW n):=by
 unfold BJ BW
 by_cases h:1<=n<;>simp[h]
theorem Cy (n:Int):BS n=some (BW n):=by
 unfold BS BW
 rw[Bz];simp
def CN (n k:Int) (t:List Int):Bool:=decide ((t.length:Int)=k)&&AH n t
def BU (n k:Int) (ts:List (List Int)):Bool:=BW n&&decide (1<=k/\k<=4)&&ts.all (CN n k)&&AZ ts
def Bh (n k:Int) (ts:List (List Int)) (i:Nat):Bool:=CN n k (ts.getD i [])&&(decide (i=0)||decide (cmpL (ts.getD (i-1) []) (ts.getD i [])<0))
theorem AW {α:Type} {l:List α} {i:Nat} {d:α} (h:i<l.length):l.getD i d=l[i]:=by simp[h]
theorem CY (n k:Int) (ts:List (List Int)):(List.range ts.length).all (Bh n k ts)=(ts.all (CN n k)&&AZ ts):=by
 rw[Bool.eq_iff_iff,Bool.and_eq_true,List.all_eq_true,List.all_eq_true,CQ]
 constructor
 ·intro h
  refine⟨λt ht=>?_,λi hi=>?_⟩
  ·obtain⟨i,hi,rfl⟩:=List.mem_iff_getElem.1 ht
   have:=h i (by simpa using hi)
   unfold Bh at this
   rw[AW hi]at this
   simp at this;exact this.1
  ·have:=h (i+1) (by simpa using hi)
   unfold Bh at this
   rw[AW hi,Nat.add_sub_cancel,AW (show i<ts.length by omega)]at this
   simp only[Bool.and_eq_true,Bool.or_eq_true,decide_eq_true_eq]at this
   exact this.2.resolve_left (by omega)
 ·rintro ⟨h1,h2⟩ i hi
  have hi:i<ts.length:=by simpa using hi
  unfold Bh
  rw[AW hi]
  simp only[Bool.and_eq_true,Bool.or_eq_true,decide_eq_true_eq]
  refine⟨h1 _ (List.getElem_mem hi),?_⟩
  cases i with
  |zero=>exact .inl rfl
  |succ i=>right;rw[Nat.add_sub_cancel,AW (show i<ts.length by omega)];exact h2 i hi
theorem CB {k:Nat} (h:k<4611686018427387904) (h0:0<k):w64 ((k:Int)-1)=((k-1:Nat):Int):=by
 rw[Bd (by omega) (by omega)];omega
theorem B0 {n k:Int} {ts:List (List Int)} (hl:ts.length<=1099511627774) (hr: ∀t∈ts,t.length<=1099511627775):Bi n k ts=some (BU n k ts):=by
 unfold Bi BU
 rw[Cr,Bool.and_assoc,←CY]
 cases hs:BW n with
 |false=>simp
 |true=>
  by_cases h1:k<1
  ·simp[h1,show¬1<=k by omega]
  ·by_cases h4:k>4
   ·simp[h1,h4,show¬k<=4 by omega]
   ·simp only[Option.bind_some,Bool.not_true,Bool.false_eq_true,if_false]
    rw[if_neg (by simpa using h1),if_neg (by simpa using h4)]
    have key:=EE ts.length (λm (_:Unit) i=>Aq m (n,k,ts,ts,(ts.length:Int),i)) (λ_=>()) (Bh n k ts) (r:=some (.inr false)) (e:=some (.inl ())) (λm i hi=>?_) (λm=>?_) (n:=Af) (by unfold Af;omega)
    ·rw[key]
     cases (List.range ts.length).all (Bh n k ts)<;>simp<;>omega
    ·have hlen:=hr ts[i] (List.getElem_mem hi)
     unfold Bh CN
     rw[AW hi]
     simp only[Aq,Ah,Ao hi,Ag (show i<4611686018427387904 by omega),Cq n hlen,Option.bind_some]
     by_cases hk:(ts[i].length:Int)=k
     ·cases hb:AH n ts[i]with
      |false=>simp[hi,hk]
      |true=>
       cases i with
       |zero=>simp[hi,hk]
       |succ i=>
        have hi':i<ts.length:=by omega
        rw[CB (by omega) (by omega),Nat.add_sub_cancel,AW hi']
        simp only[Ao hi',BH (t:=ts[i+1]) (hr ts[i] (List.getElem_mem hi')),Ah,Option.bind_some]
        by_cases hc:cmpL ts[i] ts[i+1]<0
        ·simp[hi,hi',hk,show¬0<=cmpL ts[i] ts[i+1] by omega,show(0:Int)<(i:Int)+1 by omega,show(i:Int)+1<ts.length by omega,hc]
        ·simp[hi,hi',hk,hc,show(0:Int)<(i:Int)+1 by omega,show(i:Int)+1<ts.length by omega,show 0<=cmpL ts[i] ts[i+1] by omega]
     ·simp[hi,hk]
    ·simp[Aq]
theorem C4 {n k:Int} {ts:List (List Int)} (h:BU n k ts=true):(ts.length:Int)<=n^k.toNat:=by
 unfold BU BW at h
 simp only[Bool.and_eq_true,decide_eq_true_eq,List.all_eq_true]at h
 obtain⟨⟨⟨h1,h2⟩,h3⟩,h4⟩:=h
 rcases B9 (n:=n) (k:=k.toNat) h4 λt ht=>by
  have:=h3 t ht
  unfold CN at this
  simp only[Bool.and_eq_true,decide_eq_true_eq]at this
  exact⟨by omega,this.2⟩with h|h
 ·exact h
 ·rw[h];exact(Cb (by omega) h1.2 k.toNat).1
theorem Cw {n k:Int} {ts:List (List Int)} (hl:ts.length<=1099511627774) (hr: ∀t∈ts,t.length<=1099511627775):BP n k ts=some (BU n k ts):=by
 unfold BP
 rw[Cy,Bz]
 cases hs:BW n with
 |false=>simp[BU,hs]
 |true=>
  by_cases h1:1<=k/\k<=4
  ·have hsz:1<=n/\n<=8:=by unfold BW at hs;simpa using hs
   have hp:=CE (n:=n) (by omega) hsz.2 (k:=k.toNat) (by omega)
   rw[show((k.toNat:Nat):Int)=k by omega]at hp
   simp only[Option.bind_some,Bool.not_true,Bool.false_eq_true,if_false,h1,and_self,decide_true,hp]
   by_cases hc:(ts.length:Int)>n^k.toNat
   ·rw[if_pos (by simpa using hc)]
    cases h:BU n k ts with
    |false=>rfl
    |true=>have:=C4 h;omega
   ·rw[if_neg (by simpa using hc)]
    have key:=Ed ts.length (λm (_:Unit) i=>AF m (n,k,ts,i)) (λ_=>()) (λi=>if Bh n k ts i then none else some (some (.inr false))) (e:=some (.inl ())) (λm i hi hprev=>?_) (λm=>?_) (n:=Af) (by unfold Af;omega)
    ·rw[key]
     unfold BU
     rw[hs,Bool.and_assoc,←CY]
     have: ∀l:List Nat,(l.findSome? λi=>if Bh n k ts i then none else some (some (.inr false:Unit⊕Bool))).getD (some (.inl ()))=if l.all (Bh n k ts)then some (.inl ())else some (.inr false):=by
      intro l
      induction l with
      |nil=>rfl
      |cons a l ih=>
       rw[List.findSome?_cons,List.all_cons]
       cases Bh n k ts a with
       |true=>simpa using ih
       |false=>simp
     rw[this]
     cases (List.range ts.length).all (Bh n k ts)<;>simp[h1]
    ·have hlen:=hr ts[i] (List.getElem_mem hi)
     have htup:=Cg (l:=ts[i]) (n:=n) k (by omega) (by omega) hlen
     simp only[AF,Ah,Ao hi,Ag (show i<4611686018427387904 by omega),htup,Option.bind_some]
     have hst:Bh n k ts i=((decide ((ts[i].length:Int)=k)&&AH n ts[i])&&(decide (i=0)||decide (cmpL (ts.getD (i-1) []) ts[i]<0))):=by unfold Bh CN;rw[AW hi]
     rw[hst]
     cases hb:(decide ((ts[i].length:Int)=k)&&AH n ts[i])with
     |false=>simp[hi]
     |true=>
      cases i with
      |zero=>simp[hi]
      |succ i=>
       have hi':i<ts.length:=by omega
       have hpv:=hprev i (by omega)
       have hpv:Bh n k ts i=true:=by
        cases h:Bh n k ts i with
        |true=>rfl
        |false=>rw[h]at hpv;simp at hpv
       unfold Bh CN at hpv
       rw[AW hi']at hpv
       simp only[Bool.and_eq_true,decide_eq_true_eq]at hpv hb
       have hless:=BR (s:=ts[i]) (t:=ts[i+1]) (hr ts[i] (List.getElem_mem hi')) (by omega)
       rw[CB (by omega) (by omega),Nat.add_sub_cancel,AW hi']
       simp only[Ao hi',hless,Ah,Option.bind_some]
       by_cases hc:cmpL ts[i] ts[i+1]<0
       ·simp[hi,hi',hc,show(0:Int)<(i:Int)+1 by omega,show(i:Int)+1<ts.length by omega]
       ·simp[hi,hi',hc,show(0:Int)<(i:Int)+1 by omega,show(i:Int)+1<ts.length by omega]
    ·simp[AF]
  ·unfold BU;rw[hs];simp[h1]
end T
open Go Go.Va
namespace T
structure SetOk (p:Int) (k:Nat) (ts:List (List Int)):Prop where
 hp:2<=p/\p<=7
 hk:k<=4
 len: ∀t∈ts,t.length=k
 el: ∀t∈ts,AH p t=true
 inc:AZ ts=true
theorem SetOk.count {p:Int} {k:Nat} {ts:List (List Int)} (h:SetOk p k ts):ts.length<=2401:=by
 rcases B9 (n:=p) (k:=k) h.inc λt ht=>⟨h.len t ht,h.el t ht⟩with h'|h'
 ·have hp:=h.hp
  have e:p^k<=7^4:=by
   have:(p.toNat^k:Nat)<=7^4:=Nat.le_trans (Nat.pow_le_pow_left (show p.toNat<=7 by omega) k) (Nat.pow_le_pow_right (by omega) h.hk)
   have e2:((p.toNat^k:Nat):Int)=p^k:=by
    rw[Int.natCast_pow];congr 1;omega
   rw[←e2];exact_mod_cast this
  have:(7:Int)^4=2401:=by decide
  omega
 ·rw[h'];simp
section
variable {p:Int} {k:Nat} {ts:List (List Int)}
end
end T
open Go Go.Va
namespace T
section
variable {p:Int} {k:Nat} {ts:List (List Int)}
end
theorem Dr {a:List (List Int)} (h: ¬szR (Ce a) 1048576<0):a.length<=1048576/\ ∀r∈a,r.length<=1048576:=CA (a:=(0,0,a)) h
end T
set_option linter.unusedVariables false
open Go Go.Va
namespace T
def BA (l:List Int):Option ((List Int)):=
 if([]:List Int).length+l.length<=lim then
 some ([]++l)
 else none
def AC:Nat->((List Int)×Int×Int)->Option ((List Int)×Int)
 |0,_=>none
 |n+1,(a,k,i)=>
 if decide (i<(a.length:Int))then
 if inb i a then
 AC n (stt a i k,w64 (k+1),w64 (i+1))
 else none
 else
 some (a,k)
def Bv (a:List Int) (k:Int):Option ((List Int)×Int):=
 (AC Af (a,k,0)).bind λs1=>
 some (s1.1,s1.2)
def Az:Nat->((List (List Int))×Int×Int)->Option ((List (List Int))×Int)
 |0,_=>none
 |n+1,(a,k,i)=>
 if decide (i<(a.length:Int))then
 if inb i a then
 (Bv (gd a i []) k).bind λr1=>
 Az n (stt a i r1.1,r1.2,w64 (i+1))
 else none
 else
 some (a,k)
def A9 (a:List (List Int)) (k:Int):Option ((List (List Int))×Int):=
 (Az Af (a,k,0)).bind λs1=>
 some (s1.1,s1.2)
def AB:Nat->((List Int)×Int×Int)->Option ((Int)⊕(Int))
 |0,_=>none
 |n+1,(a,k,i)=>
 if decide (i<(a.length:Int))then
 if inb i a then
 if(gd a i 0) !=k then
 some (.inr (-1))
 else
 AB n (a,w64 (k+1),w64 (i+1))
 else none
 else
 some (.inl k)
def Bf (a:List Int) (k:Int):Option (Int):=
 (AB Af (a,k,0)).bind λs1=>
  match s1 with
  | .inl s2=>
   some s2
  | .inr s3=>
   some s3
def Ay:Nat->((List (List Int))×Int×Int)->Option ((Int)⊕(Int))
 |0,_=>none
 |n+1,(a,k,i)=>
 if decide (i<(a.length:Int))then
 if inb i a then
 (Bf (gd a i []) k).bind λr1=>
 if decide (r1<0)then
 some (.inr (-1))
 else
 Ay n (a,r1,w64 (i+1))
 else none
 else
 some (.inl k)
def A8 (a:List (List Int)) (k:Int):Option (Int):=
 (Ay Af (a,k,0)).bind λs1=>
  match s1 with
  | .inl s2=>
   some s2
  | .inr s3=>
   some s3
end T
open Go Go.Va
namespace T
abbrev Con:=List Int×Int×List (List Int)
abbrev Net:=Int×Int×List Con
theorem Be {α:Type} {l:List α} {k:Nat} {d:α} (h:k<l.length):l.getD k d=l[k]:=by simp[List.getD_eq_getElem?_getD,h]
end T
open Go Go.Va
namespace T
section
variable {v n up:Int} {c:Con} {vals:List Int}
theorem BX {l:List Int} (h:l.length<=1099511627775):BA l=some l:=by
 unfold BA
 rw[if_pos (by unfold lim;simp;omega)];simp
end
end T
open Go Go.Va
namespace T
abbrev Dom:=List (List Bool)
def mk (bs:List Bool):List Int:=((List.range bs.length).filter λi=>bs.getD i false).map λi:Nat=>(i:Int)
def d2 (d:Dom) (v x:Nat):Bool:=(d.getD v []).getD x false
theorem Ai {α:Type} {l:List α} {i j:Nat} {y d:α}:(l.set i y).getD j d=if i=j/\j<l.length then y else l.getD j d:=by
 simp only[List.getD_eq_getElem?_getD,List.getElem?_set]
 by_cases h:i=j
 ·subst h
  by_cases h2:i<l.length
  ·simp[h2]
  ·simp[h2]
 ·simp[h]
end T
open Go Go.Va
namespace T
abbrev ASt:=Dom×List (Int×Int×Int)
section
variable {a:Net} {K:Nat} {c:Con}
end
end T
open Go Go.Va
namespace T
def mkL {α:Type} (f:α->Int->α×Int):List α->Int->List α×Int
 | [],k=>([],k)
 |x::l,k=>((f x k).1::(mkL f l (f x k).2).1,(mkL f l (f x k).2).2)
theorem CT {α:Type} (f:α->Int->α×Int): ∀(l:List α) (x:α) (k:Int),mkL f (l++ [x]) k=((mkL f l k).1++ [(f x (mkL f l k).2).1],(f x (mkL f l k).2).2)
 | [],x,k=>by simp[mkL]
 |y::l,x,k=>by
  simp only[List.cons_append,mkL]
  rw[CT f l x]
theorem Bs {α:Type} (f:α->Int->α×Int): ∀(l:List α) (k:Int),(mkL f l k).1.length=l.length
 | [],_=>rfl
 |x::l,k=>by simp[mkL,Bs f l]
theorem Ch {α:Type} {f:α->Int->α×Int} {w:α->Nat}: ∀(l:List α) (k:Int),(∀x∈l,∀k,(f x k).2=k+w x)->(mkL f l k).2=k+((l.map w).sum:Nat)
 | [],k,_=>by simp[mkL]
 |x::l,k,h=>by
  simp only[mkL,List.map_cons,List.sum_cons]
  rw[Ch l _ λy hy=>h y (List.mem_cons_of_mem _ hy),h x (by simp)];push_cast;omega
theorem D9 {α β:Type} (N:Nat) (L:Nat->List α->Int->Int->Option β) (f:α->Int->α×Int) (w:α->Nat) (B:Int) (fin:List α->Int->Option β) (xs:List α) (k0:Int) (hN:xs.length=N) (hw: ∀x∈xs,∀k,(f x k).2=k+w x)
  (h0:0<=k0) (hB:k0+((xs.map w).sum:Nat)<=B)
  (hs: ∀n (a:List α) (k:Int) (i:Nat) (hi:i<N) (hl:a.length=N),a[i]'(by omega)∈xs->0<=k->k+w (a[i]'(by omega))<=B->L (n+1) a k i=L n (a.set i (f (a[i]'(by omega)) k).1) (f (a[i]'(by omega)) k).2 ((i+1:Nat):Int))
  (he: ∀n a k,a.length=N->L (n+1) a k (N:Nat)=fin a k) {n:Nat} (hn:N<n):L n xs k0 0=fin (mkL f xs k0).1 (mkL f xs k0).2:=by
 have far: ∀i,i<=N->(mkL f (xs.take i) k0).2=k0+(((xs.take i).map w).sum:Nat):=λi _=>Ch _ _ λx hx=>hw x (List.mem_of_mem_take hx)
 have:=DO N (λn (s:List α×Int) i=>L n s.1 s.2 i) (λi=>((mkL f (xs.take i) k0).1++xs.drop i,(mkL f (xs.take i) k0).2)) (r:=fin (mkL f xs k0).1 (mkL f xs k0).2) (λn i hi=>?_) (λn=>?_) hn
 ·simpa[mkL]using this
 ·have hix:i<xs.length:=by omega
  have hlen:(mkL f (xs.take i) k0).1.length=i:=by rw[Bs];simp;omega
  have hl2:((mkL f (xs.take i) k0).1++xs.drop i).length=N:=by simp[hlen];omega
  have hget:((mkL f (xs.take i) k0).1++xs.drop i)[i]'(by omega)=xs[i]:=by
   rw[List.getElem_append_right (by omega)];simp[hlen]
  have hsum:(((xs.take i).map w).sum:Nat)+w xs[i]<=(xs.map w).sum:=by
   have h1:xs=xs.take i++xs[i]::xs.drop (i+1):=by rw[←List.drop_eq_getElem_cons hix,List.take_append_drop]
   have h2:(xs.map w).sum=((xs.take i).map w).sum+(w xs[i]+((xs.drop (i+1)).map w).sum):=by
    conv=>lhs;rw[h1]
    rw[List.map_append,List.sum_append,List.map_cons,List.sum_cons]
   omega
  have hf:=far i (by omega)
  dsimp only
  rw[hs n _ _ i hi hl2 (by rw[hget];exact List.getElem_mem hix) (by omega) (by rw[hget,hf];omega),hget,List.take_succ_eq_append_getElem hix,CT]
  congr 1
  rw[List.set_append_right _ _ (by omega),hlen,Nat.sub_self,List.drop_eq_getElem_cons hix,List.set_cons_zero,List.append_assoc];rfl
 ·dsimp only
  rw[List.take_of_length_le (by omega),List.drop_of_length_le (by omega),List.append_nil]
  exact he n _ _ (by rw[Bs];exact hN)
theorem Dw {α:Type} (f:α->Int->α×Int) (h:α->Int->Option Int) (w:α->Nat) (B:Int): ∀(xs:List α) (k0:Int) (L:Nat->Int->Int->Option (Int⊕Int)) (j:Nat),(∀x∈xs,∀k,(f x k).2=k+w x)->0<=k0->k0+((xs.map w).sum:Nat)<=B->
  (∀x∈xs,∀k,0<=k->k+w x<=B->h (f x k).1 k=some (f x k).2)->
  (∀n k (i:Nat) (hi:i<xs.length),0<=k->k+w xs[i]<=B->L (n+1) k ((j+i:Nat):Int)=(h ((mkL f xs k0).1[i]'(by rw[Bs];exact hi)) k).bind λq=>if q<0 then some (.inr (-1))else L n q ((j+i+1:Nat):Int))->
  (∀n k,L (n+1) k ((j+xs.length:Nat):Int)=some (.inl k))-> ∀n,xs.length<n->L n k0 (j:Int)=some (.inl (mkL f xs k0).2)
 | [],k0,L,j,_,_,_,_,_,he,n,hn=>by
  obtain⟨n,rfl⟩: ∃m,n=m+1:=⟨n-1,by simp at hn;omega⟩
  have:=he n k0
  simpa[mkL]using this
 |x::xs,k0,L,j,hw,h0,hB,hh,hs,he,n,hn=>by
  obtain⟨n,rfl⟩: ∃m,n=m+1:=⟨n-1,by simp at hn;omega⟩
  rw[List.map_cons,List.sum_cons]at hB
  have hx:=hw x (by simp) k0
  have h1:=hs n k0 0 (by simp) h0 (by simp only[List.getElem_cons_zero];omega)
  simp only[Nat.add_zero,mkL,List.getElem_cons_zero]at h1
  rw[h1,hh x (by simp) k0 h0 (by omega)]
  simp only[Option.bind_some]
  rw[if_neg (by omega)]
  have:=Dw f h w B xs (f x k0).2 L (j+1) (λy hy=>hw y (List.mem_cons_of_mem _ hy)) (by omega) (by rw[hx];omega) (λy hy=>hh y (List.mem_cons_of_mem _ hy))
   (λn k i hi hk0 hkB=>by
    have:=hs n k (i+1) (by simpa using hi) hk0 (by simpa using hkB)
    simp only[mkL,List.getElem_cons_succ]at this
    rw[show j+1+i=j+(i+1) by omega];exact this)
   (λn k=>by have:=he n k;rw[List.length_cons]at this;rw[show j+1+xs.length=j+(xs.length+1) by omega];exact this) n (by simp at hn;omega)
  exact this
abbrev BM:Int:=1152921504606846976
def Dn (_:Int) (k:Int):Int×Int:=(k,k+1)
def Bq (l:List Int) (k:Int):List Int×Int:=mkL Dn l k
def Bm (l:List (List Int)) (k:Int):List (List Int)×Int:=mkL Bq l k
theorem Cj {α:Type}: ∀(l:List α),(l.map λ_=>1).sum=l.length
 | []=>rfl
 |_::l=>by rw[List.map_cons,List.sum_cons,Cj l,List.length_cons];omega
theorem Ca (l:List Int) (k:Int):(Bq l k).2=k+(l.length:Nat):=by
 unfold Bq
 rw[Ch (w:=λ_=>1) l k λ_ _ _=>rfl,Cj]
theorem Cs (l:List (List Int)) (k:Int):(Bm l k).2=k+((l.map List.length).sum:Nat):=by
 unfold Bm
 rw[Ch (w:=List.length) l k λx _ k=>Ca x k]
theorem CS {l:List Int} {k:Int} (hl:l.length<=1048576) (h0:0<=k) (hB:k+l.length<=BM):Bv l k=some (Bq l k):=by
 unfold Bv
 have:=D9 l.length (λn a k i=>AC n (a,k,i)) Dn (λ_=>1) BM (λa k=>some (a,k)) l k rfl (λ_ _ _=>rfl) h0 (by rw[Cj];exact hB) (λn a k i hi hl' _ hk0 hkB=>?_) (λn a k hl'=>?_) (n:=Af) (by unfold Af;omega)
 ·rw[this];rfl
 ·have hk1:w64 (k+1)=k+1:=Bd (by omega) (by unfold BM at hkB;omega)
  simp only[AC,Ah,Ci,Ag (show i<4611686018427387904 by omega),hk1,Dn]
  simp[hl',hi]
 ·simp[AC,hl']
theorem CO {l:List Int} {k:Int} (hl:l.length<=1048576) (h0:0<=k) (hB:k+l.length<=BM):Bf (Bq l k).1 k=some (Bq l k).2:=by
 unfold Bf
 have hlen:(Bq l k).1.length=l.length:=Bs _ _ _
 have:=Dw Dn (λx k=>if x=k then some (k+1)else some (-1)) (λ_=>1) BM l k (λn k' i=>AB n ((Bq l k).1,k',i)) 0 (λ_ _ _=>rfl) h0 (by rw[Cj];exact hB) (λx _ k' _ _=>by simp[Dn])
  (λn k' i hi hk0 hkB=>by
   have hi':i<(Bq l k).1.length:=by omega
   have hk1:w64 (k'+1)=k'+1:=Bd (by omega) (by unfold BM at hkB;omega)
   rw[Nat.zero_add]
   simp only[AB,Ah,Ao hi',Ag (show i<4611686018427387904 by omega),hk1]
   have e:(mkL Dn l k).1[i]'(by rw[Bs];exact hi)=(Bq l k).1[i]:=rfl
   rw[e]
   by_cases h:(Bq l k).1[i]=k'
   ·simp[hi',hi,h,hlen,show¬k'+1<0 by omega]
   ·simp[hi',hi,h,hlen])
  (λn k'=>by rw[Nat.zero_add];simp[AB,hlen]) Af (by unfold Af;omega)
 rw[show((0:Nat):Int)=0 from rfl]at this
 rw[this];rfl
theorem B5 {l:List (List Int)} {k:Int} (hl:l.length<=1048576) (hr: ∀r∈l,r.length<=1048576) (h0:0<=k) (hB:k+((l.map List.length).sum:Nat)<=BM):A9 l k=some (Bm l k):=by
 unfold A9
 have:=D9 l.length (λn a k i=>Az n (a,k,i)) Bq List.length BM (λa k=>some (a,k)) l k rfl (λx _ k=>Ca x k) h0 hB (λn a k i hi hl' hm hk0 hkB=>?_) (λn a k hl'=>?_) (n:=Af) (by unfold Af;omega)
 ·rw[this];rfl
 ·have hia:i<a.length:=by omega
  simp only[Az,Ah,Ci,Ao hia,Ag (show i<4611686018427387904 by omega),CS (hr _ hm) hk0 hkB,Option.bind_some]
  simp[hl',hi]
 ·simp[Az,hl']
theorem CI {l:List (List Int)} {k:Int} (hl:l.length<=1048576) (hr: ∀r∈l,r.length<=1048576) (h0:0<=k) (hB:k+((l.map List.length).sum:Nat)<=BM):A8 (Bm l k).1 k=some (Bm l k).2:=by
 unfold A8
 have hlen:(Bm l k).1.length=l.length:=Bs _ _ _
 have:=Dw Bq Bf List.length BM l k (λn k' i=>Ay n ((Bm l k).1,k',i)) 0 (λx _ k=>Ca x k) h0 hB (λx hx k' hk0 hkB=>CO (hr x hx) hk0 hkB)
  (λn k' i hi hk0 hkB=>by
   have hi':i<(Bm l k).1.length:=by omega
   rw[Nat.zero_add]
   simp only[Ay,Ah,Ao hi',Ag (show i<4611686018427387904 by omega)]
   have e:(mkL Bq l k).1[i]'(by rw[Bs];exact hi)=(Bm l k).1[i]:=rfl
   rw[e]
   simp[hlen,hi])
  (λn k'=>by rw[Nat.zero_add];simp[Ay,hlen]) Af (by unfold Af;omega)
 rw[show((0:Nat):Int)=0 from rfl]at this
 rw[this];rfl
end T
set_option linter.unusedVariables false
open Go Go.Va
namespace T
def BE:Nat->((List Int)×(List Int)×(List Int)×Int×Int)->Option ((List Int))
 |0,_=>none
 |n+1,(g,h,t11,t12,t13)=>
 if decide (t13<t12)then
 if inb t13 t11 then
 if inb (gd t11 t13 0) g then
 if inb t13 h then
 BE n (g,stt h t13 (gd g (gd t11 t13 0) 0),t11,t12,w64 (t13+1))
 else none
 else none
 else none
 else
 some h
def CL (f:List Int) (g:List Int):Option ((List Int)):=
 if 0<=(f.length:Int)/\(f.length:Int)<=(f.length:Int)/\(f.length:Int)<=lim then
 (BE Af (g,List.replicate (Int.toNat (f.length:Int)) (0:Int),f,(f.length:Int),0)).bind λs1=>
 some s1
 else none
def AA:Nat->((List Int)×(List Int)×Int×Int)->Option ((Unit)⊕(Bool))
 |0,_=>none
 |n+1,(b,t12,t13,t14)=>
 if decide (t14<t13)then
 if inb t14 t12 then
 if inb t14 b then
 if(gd b t14 0) !=(gd t12 t14 0)then
 some (.inr false)
 else
 AA n (b,t12,t13,w64 (t14+1))
 else none
 else none
 else
 some (.inl ())
def Bu (a:List Int) (b:List Int):Option (Bool):=
 if(a.length:Int) !=(b.length:Int)then
  some false
 else
  (AA Af (b,a,(a.length:Int),0)).bind λs1=>
   match s1 with
   | .inl s2=>
    some true
   | .inr s3=>
    some s3
end T
open Go Go.Va
namespace T
def D4 (vs:List Int) (v:Int):Int:=vs.getD v.toNat 0
def Ep (vs:List Int) (c:Con):Bool:=decide (c.1.map (D4 vs)∈c.2.2)
def EA (l:List Con) (vs:List Int):Bool:=l.all (Ep vs)
def EF (vars:List Int) (c:Con):Bool:=c.1.all λv=>decide (v∈vars)
def Eu (a:Net) (vars:List Int):List Con:=a.2.2.filter (EF vars)
section
variable {a:Net}
theorem B8 {x y:List Int} (h:x.length<=1048576):Bu x y=some (decide (x=y)):=by
 unfold Bu
 by_cases hl:x.length=y.length
 ·rw[if_neg (by simp[hl])]
  rw[eqX x y hl (λn i=>AA n (y,x,(x.length:Int),i)) (λn k h1 h2=>?_) (λn=>?_) (n:=Af) (by unfold Af;omega)]
  ·by_cases e:x=y<;>simp[e]
  ·simp only[AA,Ah,Ao h1,Ao h2,Ag (show k<4611686018427387904 by omega)]
   by_cases e:x[k]=y[k]
   ·simp[h1,h2,e]
   ·have e':y[k]≠x[k]:=λh=>e h.symm
    simp[h1,h2,e,e']
  ·simp[AA]
 ·have:x≠y:=λe=>hl (by rw[e])
  rw[if_pos (by simp;omega)];simp[this]
end
end T
open Go Go.Va
namespace T
theorem DT {α:Type} {k:Nat} {xs:List α} {d:α}:gd xs (k:Int) d=xs.getD k d:=rfl
abbrev T3:=List (List (List Bool))
abbrev T4:=List (List (List (List Bool)))
def D8 (s:Nat) (c:List (List Bool)):Prop:=c.length=s/\ ∀x,x<s->(c.getD x []).length=s
def El (n s:Nat) (r:T3):Prop:=r.length=n/\ ∀j,j<n->D8 s (r.getD j [])
def Ok4 (n s:Nat) (t:T4):Prop:=t.length=n/\ ∀i,i<n->El n s (t.getD i [])
def r4 (t:T4) (i j x y:Nat):Bool:=(((t.getD i []).getD j []).getD x []).getD y false
def s4 (t:T4) (i j x y:Nat) (b:Bool):T4:=t.set i ((t.getD i []).set j (((t.getD i []).getD j []).set x ((((t.getD i []).getD j []).getD x []).set y b)))
def Ok3 (n m:Nat) (u:T3):Prop:=u.length=n/\ ∀i,i<n->(u.getD i []).length=n/\ ∀j,j<n->((u.getD i []).getD j []).length=m
def r3 (u:T3) (i j p:Nat):Bool:=((u.getD i []).getD j []).getD p false
def s3 (u:T3) (i j p:Nat) (b:Bool):T3:=u.set i ((u.getD i []).set j (((u.getD i []).getD j []).set p b))
section
variable {n s m:Nat} {t:T4} {u:T3}
theorem Ok4.at (h:Ok4 n s t) {i j x:Nat} (hi:i<n) (hj:j<n) (hx:x<s):i<t.length/\j<(t.getD i []).length/\x<((t.getD i []).getD j []).length/\(((t.getD i []).getD j []).getD x []).length=s:=
 ⟨by rw[h.1];exact hi,by rw[(h.2 i hi).1];exact hj,by rw[((h.2 i hi).2 j hj).1];exact hx,((h.2 i hi).2 j hj).2 x hx⟩
theorem Ok3.at (h:Ok3 n m u) {i j:Nat} (hi:i<n) (hj:j<n):i<u.length/\j<(u.getD i []).length/\((u.getD i []).getD j []).length=m:=
 ⟨by rw[h.1];exact hi,by rw[(h.2 i hi).1];exact hj,(h.2 i hi).2 j hj⟩
theorem Dh (h:Ok4 n s t) {i j x y:Nat} {b:Bool}:Ok4 n s (s4 t i j x y b):=by
 unfold s4
 refine⟨by rw[List.length_set];exact h.1,λi' hi'=>?_⟩
 rw[Ai]
 split
 ·rename_i hc
  obtain⟨rfl,_⟩:=hc
  have hr:=h.2 i hi'
  refine⟨by rw[List.length_set];exact hr.1,λj' hj'=>?_⟩
  rw[Ai]
  split
  ·rename_i hc
   obtain⟨rfl,_⟩:=hc
   have hcl:=hr.2 j hj'
   refine⟨by rw[List.length_set];exact hcl.1,λx' hx'=>?_⟩
   rw[Ai]
   split
   ·rename_i hc
    obtain⟨rfl,_⟩:=hc
    rw[List.length_set];exact hcl.2 x hx'
   ·exact hcl.2 x' hx'
  ·exact hr.2 j' hj'
 ·exact h.2 i' hi'
theorem Ez (h:Ok3 n m u) {i j p:Nat} {b:Bool}:Ok3 n m (s3 u i j p b):=by
 unfold s3
 refine⟨by rw[List.length_set];exact h.1,λi' hi'=>?_⟩
 rw[Ai]
 split
 ·rename_i hc
  obtain⟨rfl,_⟩:=hc
  have hr:=h.2 i hi'
  refine⟨by rw[List.length_set];exact hr.1,λj' hj'=>?_⟩
  rw[Ai]
  split
  ·rename_i hc
   obtain⟨rfl,_⟩:=hc
   rw[List.length_set];exact hr.2 j hj'
  ·exact hr.2 j' hj'
 ·exact h.2 i' hi'
theorem Dg (h:Ok4 n s t) {i j x y:Nat} {b:Bool} (hi:i<n) (hj:j<n) (hx:x<s) (hy:y<s) (i' j' x' y':Nat):
  r4 (s4 t i j x y b) i' j' x' y'=if i=i'/\j=j'/\x=x'/\y=y' then b else r4 t i' j' x' y':=by
 obtain⟨h1,h2,h3,h4⟩:=h.at hi hj hx
 unfold r4 s4
 rw[Ai]
 by_cases e1:i=i'
 ·subst e1
  rw[if_pos ⟨rfl,h1⟩,Ai]
  by_cases e2:j=j'
  ·subst e2
   rw[if_pos ⟨rfl,h2⟩,Ai]
   by_cases e3:x=x'
   ·subst e3
    rw[if_pos ⟨rfl,h3⟩,Ai]
    by_cases e4:y=y'
    ·subst e4;rw[if_pos ⟨rfl,by omega⟩,if_pos ⟨rfl,rfl,rfl,rfl⟩]
    ·rw[if_neg (by omega),if_neg (by omega)]
   ·rw[if_neg (by omega),if_neg (by omega)]
  ·rw[if_neg (by omega),if_neg (by omega)]
 ·rw[if_neg (by omega),if_neg (by omega)]
theorem Ey (h:Ok3 n m u) {i j p:Nat} {b:Bool} (hi:i<n) (hj:j<n) (hp:p<m) (i' j' p':Nat):
  r3 (s3 u i j p b) i' j' p'=if i=i'/\j=j'/\p=p' then b else r3 u i' j' p':=by
 obtain⟨h1,h2,h3⟩:=h.at hi hj
 unfold r3 s3
 rw[Ai]
 by_cases e1:i=i'
 ·subst e1
  rw[if_pos ⟨rfl,h1⟩,Ai]
  by_cases e2:j=j'
  ·subst e2
   rw[if_pos ⟨rfl,h2⟩,Ai]
   by_cases e3:p=p'
   ·subst e3;rw[if_pos ⟨rfl,by omega⟩,if_pos ⟨rfl,rfl,rfl⟩]
   ·rw[if_neg (by omega),if_neg (by omega)]
  ·rw[if_neg (by omega),if_neg (by omega)]
 ·rw[if_neg (by omega),if_neg (by omega)]
end
structure Rel34 (n s:Nat) (t:T4) (u:T3):Prop where
 o4:Ok4 n s t
 o3:Ok3 n (s*s) u
 eq: ∀i j x y,i<j->j<n->x<s->y<s->r4 t i j x y=r3 u i j (x*s+y)/\r4 t j i y x=r3 u i j (x*s+y)
theorem DM {s x y:Nat} (hx:x<s) (hy:y<s):x*s+y<s*s:=by
 have:(x+1)*s<=s*s:=Nat.mul_le_mul_right _ hx
 rw[Nat.succ_mul]at this;omega
theorem Du {s x y x' y':Nat} (hy:y<s) (hy':y'<s) (h:x*s+y=x'*s+y'):x=x'/\y=y':=by
 have h1:(x*s+y)/s=x:=by rw[Nat.mul_comm,Nat.mul_add_div (by omega),Nat.div_eq_of_lt hy];omega
 have h2:(x'*s+y')/s=x':=by rw[Nat.mul_comm,Nat.mul_add_div (by omega),Nat.div_eq_of_lt hy'];omega
 have:x=x':=by rw[←h1,←h2,h]
 subst this
 exact⟨rfl,by omega⟩
theorem Rel34.drop {n s:Nat} {t:T4} {u:T3} (h:Rel34 n s t u) {i j x y:Nat} (hij:i<j) (hj:j<n) (hx:x<s) (hy:y<s):
  Rel34 n s (s4 (s4 t i j x y false) j i y x false) (s3 u i j (x*s+y) false):=by
 refine⟨Dh (Dh h.o4),Ez h.o3,λi' j' x' y' h1 h2 h3 h4=>?_⟩
 have hi:i<n:=by omega
 rw[Dg (Dh h.o4) hj hi hy hx,Dg h.o4 hi hj hx hy,Dg (Dh h.o4) hj hi hy hx,Dg h.o4 hi hj hx hy,Ey h.o3 hi hj (DM hx hy)]
 obtain⟨e1,e2⟩:=h.eq i' j' x' y' h1 h2 h3 h4
 by_cases e:i=i'/\j=j'/\x=x'/\y=y'
 ·obtain⟨rfl,rfl,rfl,rfl⟩:=e
  simp
 ·have e3: ¬(i=i'/\j=j'/\x*s+y=x'*s+y'):=λ⟨q1,q2,q3⟩=>by
   have:=Du hy h4 q3
   exact e ⟨q1,q2,this.1,this.2⟩
  have e4: ¬(j=i'/\i=j'/\y=x'/\x=y'):=by omega
  have e5: ¬(i=j'/\j=i'/\x=y'/\y=x'):=by omega
  have e6: ¬(j=j'/\i=i'/\y=y'/\x=x'):=by omega
  simp only[if_neg e,if_neg e3,if_neg e4,if_neg e5,if_neg e6]
  exact⟨e1,e2⟩
end T
open Go Go.Va
namespace T
def V3 (n i j k x y z:Nat):List Int:=(((List.replicate n (0:Int)).set i (x:Int)).set j (y:Int)).set k (z:Int)
section
variable {a:Net} {n s:Nat} {t:T4} {u:T3}
def hP (a:Net) (n:Nat) (t:T4) (i j k x y z:Nat):Bool:=r4 t i k x z&&r4 t j k y z&&EA (Eu a [(i:Int),(j:Int),(k:Int)]) (V3 n i j k x y z)
end
end T
open Go Go.Va
namespace T
section
variable {a:Net} {n s:Nat} {t:T4} {u:T3}
def V2 (n i j x y:Nat):List Int:=((List.replicate n (0:Int)).set i (x:Int)).set j (y:Int)
def fB (a:Net) (n i j x y:Nat):Bool:=EA (Eu a [(i:Int),(j:Int)]) (V2 n i j x y)
end
end T
open Go Go.Va
namespace T
section
variable {a:Net} {n s:Nat} {t:T4} {u:T3}
def PA (n s i:Nat) (t:T4):Prop:=t.length=n/\ ∀i',i'<i->El n s (t.getD i' [])
def PB (n s i j:Nat) (t:T4):Prop:=PA n s i t/\(t.getD i []).length=n/\ ∀j',j'<j->D8 s ((t.getD i []).getD j' [])
theorem PA.set {i:Nat} (h:PA n s i t) (r:T3):PA n s i (t.set i r):=by
 refine⟨by rw[List.length_set];exact h.1,λi' hi'=>?_⟩
 rw[Ai,if_neg (by omega)];exact h.2 i' hi'
theorem PB.set {i j:Nat} (h:PB n s i j t) (hi:i<n) (c:List (List Bool)):PB n s i j (t.set i ((t.getD i []).set j c)):=by
 have hl:=h.1.1
 refine⟨h.1.set _,?_,λj' hj'=>?_⟩
 ·rw[Ai,if_pos ⟨rfl,by omega⟩,List.length_set];exact h.2.1
 ·rw[Ai,if_pos ⟨rfl,by omega⟩,Ai,if_neg (by omega)];exact h.2.2 j' hj'
end
end T
set_option linter.unusedVariables false
open Go Go.Va
namespace T
def BV:Nat->((List Int)×(List Int)×Int×Int)->Option ((List Int))
 |0,_=>none
 |n+1,(b,t10,t11,t12)=>
 if decide (t12<t11)then
 if inb t12 t10 then
 if(0:Int)<=8 then
 if b.length+ [IntKind.wrap .u8 (YiD .i64 (gd t10 t12 0) 8),IntKind.wrap .u8 (gd t10 t12 0)].length<=lim then
 BV n (b++ [IntKind.wrap .u8 (YiD .i64 (gd t10 t12 0) 8),IntKind.wrap .u8 (gd t10 t12 0)],t10,t11,w64 (t12+1))
 else none
 else none
 else none
 else
 some b
def C2 (list:List Int):Option (ByteArray):=
 if(0:Int)<=0/\(0:Int)<=(w64 (2*(list.length:Int)))/\(w64 (2*(list.length:Int)))<=lim then
 (BV Af (List.replicate (Int.toNat 0) (0:Int),list,(list.length:Int),0)).bind λs1=>
 some (Ybp s1)
 else none
end T
open Go Go.Va
namespace T
def kb (l:List Int):List Int:=l.flatMap λx=> [0,x]
def EG (l:List Int):ByteArray:=Ybp (kb l)
theorem Dt {a b:ByteArray}:(a==b)=decide (a=b):=by
 show(a.data==b.data)=_
 rw[Bool.eq_iff_iff,beq_iff_eq,decide_eq_true_eq]
 exact⟨λh=>ByteArray.ext h,λh=>congrArg ByteArray.data h⟩
theorem Ct {ks:List ByteArray} {s:ByteArray}:Xs ks s=true↔s∈ks:=by
 unfold Xs
 rw[List.any_eq_true]
 constructor
 ·rintro ⟨k,h1,h2⟩;rw[Dt,decide_eq_true_eq]at h2;subst h2;exact h1
 ·intro h;exact⟨s,h,by rw[Dt];simp⟩
theorem DB {ks:List ByteArray} {s t:ByteArray}:t∈YhI ks s↔t∈ks∨t=s:=by
 unfold YhI
 by_cases h:Xs ks s=true
 ·rw[if_pos h]
  exact⟨.inl,λh'=>h'.elim id λe=>e▸Ct.1 h⟩
 ·rw[if_neg h];simp
def Ev (l:List (List Int)):List ByteArray:=l.foldl (λks t=>YhI ks (EG t)) []
end T
set_option linter.unusedVariables false
open Go Go.Va
namespace T
def BZ (list:List Int):Option ((List Int)):=
 if([]:List Int).length+list.length<=lim then
 some ([]++list)
 else none
end T
open Go Go.Va
namespace T
abbrev DK:=Int×List (List Int)
section
variable {n k m:Nat} {r:DK}
end
end T
open Go Go.Va
namespace T
section
variable {n:Int} {rels:List DK}
end
def Cf (V:List Int) (x:Nat):Int:=match V.findIdx? (λy=>y==(x:Int))with|some i=>(i:Int)|none=> -1
section
variable {n:Nat} {t:List Int}
end
section
variable {n m:Nat} {t:List Int} {r:DK} {rels:List DK}
end
end T
set_option linter.unusedVariables false
open Go Go.Va
namespace T
def As:Nat->((List (List Int))×(List (List Int))×Int×Int)->Option ((List (List Int)))
 |0,_=>none
 |n+1,(list,t7,t8,t9)=>
 if decide (t9<t8)then
 if inb t9 t7 then
 (BZ (gd t7 t9 [])).bind λr1=>
 if list.length+ [r1].length<=lim then
 As n (list++ [r1],t7,t8,w64 (t9+1))
 else none
 else none
 else
 some list
def Bk (rows:List (List Int)):Option ((List (List Int))):=
 (As Af ([],rows,(rows.length:Int),0)).bind λs1=>
 some s1
end T
open Go Go.Va
namespace T
section
variable {α:Type} {nw old:Nat->α} {N i:Nat}
end
def pr4 (p:Int):Prop:=p=2∨p=3∨p=5∨p=7
def Dd (p:Int) (W:Nat) (r:List Int):Prop:=r.length=W/\ ∀x∈r,0<=x/\x<p
section
variable {p:Int} {W:Nat} {r row:List Int}
theorem Ee (h:Dd p W r) {i:Nat} (hi:i<W):0<=r.getD i 0/\r.getD i 0<p:=by
 have:i<r.length:=by rw[h.1];exact hi
 rw[Be this];exact h.2 _ (List.getElem_mem this)
end
abbrev ES:=List (List Int)×List Int×List (List Int)
structure ESok (p:Int) (W N v:Nat) (s:ES):Prop where
 t: ∀r∈s.1,Dd p W r
 l: ∀r∈s.2.2,Dd p W r
 bl:s.2.1.length=s.1.length
 n:s.1.length+s.2.2.length=N
 bv: ∀x∈s.2.1,0<=x/\x<(v:Int)
 bn:s.2.1.Nodup
section
variable {p:Int} {W N:Nat}
end
end T
open Go Go.Va
namespace T
section
variable {p:Int} {W N V:Nat}
theorem Do {b:List Int} {u:Nat} (h:(u:Int)∉b):Cf b u= -1:=by
 unfold Cf
 have h1:(b.findIdx? λy=>y==(u:Int))=none:=by
  rw[List.findIdx?_eq_none_iff]
  intro y hy
  simp only[beq_eq_false_iff_ne]
  intro e;exact h (e▸hy)
 rw[h1]
theorem De {b:List Int} {u:Nat} (h:(u:Int)∈b): ∃i,∃hi:i<b.length,Cf b u=(i:Int)/\b[i]=(u:Int):=by
 unfold Cf
 have h1:(b.findIdx? λy=>y==(u:Int)).isSome=true:=by
  rw[List.findIdx?_isSome,List.any_eq_true]
  exact⟨_,h,by simp⟩
 obtain⟨i,hi⟩:=Option.isSome_iff_exists.1 h1
 rw[hi]
 obtain⟨g1,g2,_⟩:=List.findIdx?_eq_some_iff_getElem.1 hi
 exact⟨i,g1,rfl,by simpa using g2⟩
end
end T
open Go Go.Va
namespace T
def Es (N:Nat) (b:List Int):List Int:=((List.range N).filter λv:Nat=>!decide ((v:Int)∈b)).map λv:Nat=>(v:Int)
section
variable {p:Int} {W N V:Nat}
theorem DC {b:List Int} {u:Nat}:Cf b u<0↔(u:Int)∉b:=by
 by_cases h:(u:Int)∈b
 ·obtain⟨i,hi,h1,_⟩:=De h
  rw[h1];simp[h]
 ·rw[Do h];simp[h]
def DG (V:Nat) (s:ES) (u:Nat):Int:=if Cf s.2.1 u<0 then 0 else(s.1.getD (Cf s.2.1 u).toNat []).getD V 0
def EB (V:Nat) (s:ES):List Int:=(List.range V).map (DG V s)
end
end T
open Go Go.Va
namespace T
section
variable {a:Lin}
theorem Eh {t:Nat} (h: ¬szR t 1048576<0):t<=1048576:=by
 unfold szR at h;split at h<;>omega
end
end T
open Go Go.Va
namespace T
section
variable {a:Lin} {p:Int} {W N V:Nat}
theorem CZ: ∀ {l:List (List Int)},(∀r∈l,r.length<=16)->(l.map List.length).sum<=16*l.length
 | [],_=>by simp
 |r::l,h=>by
  have:=CZ (l:=l) λq hq=>h q (List.mem_cons_of_mem _ hq)
  have:=h r (by simp)
  rw[List.map_cons,List.sum_cons,List.length_cons];omega
end
end T
open Go Go.Va
namespace T
def cg (p a b:Int):Prop:= ∃k,a=b+p*k
section
variable {p a b c d:Int}
theorem C9 (h:a=b):cg p a b:=⟨0,by rw[h];simp⟩
theorem Eb (h:cg p a b) (g:cg p c d):cg p (a+c) (b+d):=by obtain⟨k,h⟩:=h;obtain⟨m,g⟩:=g;exact⟨k+m,by grind⟩
theorem Ec (x:Int) (h:cg p a b):cg p (x*a) (x*b):=by obtain⟨k,h⟩:=h;exact⟨x*k,by grind⟩
end
inductive Sp (p:Int) (V:Nat) (A:List (List Int)):(Nat->Int)->Prop
 |zero:Sp p V A λ_=>0
 |add {f:Nat->Int} (r:List Int) (c:Int):r∈A->Sp p V A f->Sp p V A λi=>f i+c*r.getD i 0
 |cgr {f g:Nat->Int}:Sp p V A f->(∀i,i<V->cg p (g i) (f i))->Sp p V A g
section
variable {p:Int} {V W N:Nat} {A B:List (List Int)} {f g:Nat->Int}
theorem Sp.lin (hf:Sp p V A f) (hg:Sp p V A g) (c:Int):Sp p V A λi=>f i+c*g i:=by
 induction hg with
 |zero=>exact hf.cgr λi _=>C9 (by simp)
 |add r d hr _ ih=>exact(ih.add r (c*d) hr).cgr λi _=>C9 (by grind)
 |cgr _ h ih=>exact ih.cgr λi hi=>Eb (C9 rfl) (Ec c (h i hi))
theorem Sp.mem {r:List Int} (h:r∈A):Sp p V A λi=>r.getD i 0:=(Sp.add r 1 h .zero).cgr λi _=>C9 (by simp)
theorem Sp.sub (h: ∀r∈A,Sp p V B λi=>r.getD i 0) (hf:Sp p V A f):Sp p V B f:=by
 induction hf with
 |zero=>exact .zero
 |add r c hr _ ih=>exact ih.lin (h r hr) c
 |cgr _ h ih=>exact ih.cgr h
def eqSp (p:Int) (V:Nat) (A B:List (List Int)):Prop:= ∀f,Sp p V A f↔Sp p V B f
end
end T
open Go Go.Va
namespace T
section
variable {p:Int} {V W N:Nat} {A B:List (List Int)} {f g:Nat->Int}
theorem BG {α:Type} {l:List α} {i:Nat} {d:α} (hi:i<l.length):l.getD i d∈l:=by rw[Be hi];exact List.getElem_mem hi
end
end T
open Go Go.Va
namespace T
section
variable {p:Int} {V W N:Nat} {A B C D:List (List Int)} {f g:Nat->Int}
theorem eqSp.symm (h:eqSp p V A B):eqSp p V B A:=λf=>(h f).symm
theorem eqSp.trans (h:eqSp p V A B) (g:eqSp p V B C):eqSp p V A C:=λf=>(h f).trans (g f)
end
end T
open Go Go.Va
namespace T
def i64 (x:Int):Prop:= -9223372036854775808<=x/\x<=9223372036854775807
section
variable {c:List Int} {ar:Int}
end
end T
open Go Go.Va
namespace T
abbrev NS:=Bool×Int×List (List (List Int))×List (List (List ByteArray))
abbrev NIn (σ:Type):=Int×List Int×σ×NS×List Int×Unit
abbrev DJ (σ:Type):=List Int×σ×NS×List Int×Bool
def hM {σ:Type}:Nat->(Int×List Int×σ×NS×List Int×Unit×Int×Bool×List (List Int)×Int×Int)->Option (Int×List Int×σ×NS×List Int×Unit×Int×Bool)
 |0,_=>none
 |n+1,(t0,t1,t2,t3,t4,t5,t8,t9,t50,t51,t52)=>
 if decide (t52<t51)then
 if inb t52 t50 then
 if t9 then
 if t3.1=true then
 if inb t0 t3.2.2.2 then
 if inb t52 (gd t3.2.2.2 t0 [])then
 (CL (gd t50 t52 []) t1).bind λr2=>
 (C2 r2).bind λr3=>
 hM n (t0,t1,t2,t3,t4,(),t8,Xs (gd (gd t3.2.2.2 t0 []) t52 []) r3,t50,t51,w64 (t52+1))
 else none
 else none
 else none
 else
 hM n (t0,t1,t2,t3,t4,(),t8,false,t50,t51,w64 (t52+1))
 else none
 else
 some (t0,t1,t2,t3,t4,(),t8,t9)
def hL {σ:Type} (rec:NIn σ->Option (DJ σ)):Nat->(Int×List Int×σ×NS×List Int×Unit×Int)->Option ((List Int×σ×NS×List Int×Unit)⊕(List Int×σ×NS×List Int×Unit×Bool))
 |0,_=>none
 |n+1,(t0,t1,t2,t3,t4,t5,t8)=>
 if t3.1=true then
 if decide (t8<t3.2.1)then
 if inb t0 t4 then
 if decide ((gd t4 t0 0)≥0)then
 if inb t0 t4 then
 if(gd t4 t0 0) !=t8 then
 hL rec n (t0,t1,t2,t3,t4,(),w64 (t8+1))
 else
 if inb t0 t1 then
 if t3.1=true then
 if inb t0 t3.2.2.1 then
 (hM Af (t0,stt t1 t0 t8,t2,t3,t4,(),t8,true,gd t3.2.2.1 t0 [],((gd t3.2.2.1 t0 []).length:Int),0)).bind λs2=>
 if s2.2.2.2.2.2.2.2 then
 (rec (w64 (s2.1+1),s2.2.1,s2.2.2.1,s2.2.2.2.1,s2.2.2.2.2.1,())).bind λr3=>
 if !r3.2.2.2.2 then
 some (.inr (r3.1,r3.2.1,r3.2.2.1,r3.2.2.2.1,(),false))
 else
 hL rec n (s2.1,r3.1,r3.2.1,r3.2.2.1,r3.2.2.2.1,(),w64 (s2.2.2.2.2.2.2.1+1))
 else
 hL rec n (s2.1,s2.2.1,s2.2.2.1,s2.2.2.2.1,s2.2.2.2.2.1,(),w64 (s2.2.2.2.2.2.2.1+1))
 else none
 else none
 else none
 else none
 else
 if inb t0 t1 then
 if t3.1=true then
 if inb t0 t3.2.2.1 then
 (hM Af (t0,stt t1 t0 t8,t2,t3,t4,(),t8,true,gd t3.2.2.1 t0 [],((gd t3.2.2.1 t0 []).length:Int),0)).bind λs4=>
 if s4.2.2.2.2.2.2.2 then
 (rec (w64 (s4.1+1),s4.2.1,s4.2.2.1,s4.2.2.2.1,s4.2.2.2.2.1,())).bind λr5=>
 if !r5.2.2.2.2 then
 some (.inr (r5.1,r5.2.1,r5.2.2.1,r5.2.2.2.1,(),false))
 else
 hL rec n (s4.1,r5.1,r5.2.1,r5.2.2.1,r5.2.2.2.1,(),w64 (s4.2.2.2.2.2.2.1+1))
 else
 hL rec n (s4.1,s4.2.1,s4.2.2.1,s4.2.2.2.1,s4.2.2.2.2.1,(),w64 (s4.2.2.2.2.2.2.1+1))
 else none
 else none
 else none
 else none
 else
 some (.inl (t1,t2,t3,t4,()))
 else none
def Et {σ:Type} (cb:List Int->σ->Option (σ×Bool)) (rec:NIn σ->Option (DJ σ)) (x:NIn σ):Option (DJ σ):=
 if x.1==(x.2.1.length:Int)then
  (cb x.2.1 x.2.2.1).bind λr1=>some (x.2.1,r1.1,x.2.2.2.1,x.2.2.2.2.1,r1.2)
 else
  (hL rec Af (x.1,x.2.1,x.2.2.1,x.2.2.2.1,x.2.2.2.2.1,(),0)).bind λs2=>
   match s2 with
   | .inl s3=>some (s3.1,s3.2.1,s3.2.2.1,s3.2.2.2.1,true)
   | .inr s4=>some (s4.1,s4.2.1,s4.2.2.1,s4.2.2.2.1,s4.2.2.2.2.2)
def hF {σ:Type} (cb:List Int->σ->Option (σ×Bool)):Nat->NIn σ->Option (DJ σ)
 |0,_=>none
 |d+1,x=>Et cb (hF cb d) x
section
variable {V n:Nat} {cs:List Con} {given:List Int}
end
end T
set_option linter.unusedVariables false
open Go Go.Va
namespace T
def BC (list:List (List Int)) (t:List Int):Option ((List (List Int))):=
 (BT list t).bind λr1=>
 if r1.2 then
 some list
 else
 if(0:Int)<=0/\0<=r1.1/\r1.1<=(list.length:Int)then
 if([]:List (List Int)).length+((list.take (Int.toNat r1.1)).drop (Int.toNat 0)).length<=lim then
 if([]++((list.take (Int.toNat r1.1)).drop (Int.toNat 0))).length+ [t].length<=lim then
 if(0:Int)<=r1.1/\r1.1<=(list.length:Int)/\(list.length:Int)<=(list.length:Int)then
 if(([]++((list.take (Int.toNat r1.1)).drop (Int.toNat 0)))++ [t]).length+((list.take (Int.toNat (list.length:Int))).drop (Int.toNat r1.1)).length<=lim then
 some ((([]++((list.take (Int.toNat r1.1)).drop (Int.toNat 0)))++ [t])++((list.take (Int.toNat (list.length:Int))).drop (Int.toNat r1.1)))
 else none
 else none
 else none
 else none
 else none
end T
open Go Go.Va
namespace T
def Zn (cmp:List Int->List Int->Int) (rows:List (List Int)):List (List Int):=rows.mergeSort (λx y=>!decide (cmp y x<0))
def cmpT (s t:List Int):Int:=if s.length<t.length then-1 else if t.length<s.length then 1 else cmpL s t
theorem cmpT_refl (s:List Int):cmpT s s=0:=by unfold cmpT;rw[if_neg (by omega),if_neg (by omega),cmpL_refl]
theorem cmpT_symm (s t:List Int):cmpT t s= -cmpT s t:=by
 unfold cmpT
 by_cases h1:s.length<t.length
 ·rw[if_neg (by omega),if_pos h1,if_pos h1];rfl
 ·by_cases h2:t.length<s.length
  ·rw[if_pos h2,if_neg h1,if_pos h2]
  ·rw[if_neg h2,if_neg h1,if_neg h1,if_neg h2,cmpL_symm]
theorem cmpT_eq {s t:List Int} (h:cmpT s t=0):s=t:=by
 unfold cmpT at h
 by_cases h1:s.length<t.length
 ·rw[if_pos h1]at h;exact absurd h (by decide)
 ·rw[if_neg h1]at h
  by_cases h2:t.length<s.length
  ·rw[if_pos h2]at h;exact absurd h (by decide)
  ·rw[if_neg h2]at h;exact cmpL_eq.1 h
theorem cmpT_trans {s t u:List Int} (h1:cmpT s t<0) (h2:cmpT t u<0):cmpT s u<0:=by
 unfold cmpT at*
 by_cases a1:s.length<u.length
 ·rw[if_pos a1];decide
 ·rw[if_neg a1]
  by_cases b1:s.length<t.length
  ·have b2:u.length<t.length:=by omega
   rw[if_neg (by omega),if_pos b2]at h2;exact absurd h2 (by decide)
  ·rw[if_neg b1]at h1
   by_cases b3:t.length<s.length
   ·rw[if_pos b3]at h1;exact absurd h1 (by decide)
   ·rw[if_neg b3]at h1
    by_cases c1:t.length<u.length
    ·omega
    ·rw[if_neg c1]at h2
     by_cases c2:u.length<t.length
     ·rw[if_pos c2]at h2;exact absurd h2 (by decide)
     ·rw[if_neg c2]at h2
      rw[if_neg (by omega)]
      exact cmpL_trans h1 h2
end T
open Go Go.Va
namespace T
theorem Bb {l:List (List Int)}:AZ l=true↔l.Pairwise (λa b=>cmpL a b<0):=by
 constructor
 ·intro h
  rw[List.pairwise_iff_getElem]
  exact λi j hi hj hij=>Bp h i j hij hj
 ·intro h
  rw[CQ]
  rw[List.pairwise_iff_getElem]at h
  exact λi hi=>h i (i+1) (by omega) hi (by omega)
theorem BY {list:List (List Int)} {t:List Int} {k:Nat} (hl:list.length<=1000000) (hk:k<=1000000) (hv: ∀u∈list,u.length=k) (ht:t.length=k) (hi:AZ list=true):
  ∃out,BC list t=some out/\AZ out=true/\(∀u,u∈out↔u=t∨u∈list)/\(t∉list->out.Perm (t::list)):=by
 obtain⟨c,e,k1,k2,k3⟩:=Cz (by omega) (by omega) hv ht hi
 unfold BC
 rw[e]
 simp only[Option.bind_some]
 by_cases hm:t∈list
 ·rw[decide_eq_true hm,if_pos rfl]
  exact⟨list,rfl,hi,λu=>⟨Or.inr,λh=>h.elim (λh=>h▸hm) id⟩,λh=>absurd hm h⟩
 ·rw[decide_eq_false hm,if_neg (by simp)]
  have e1:(list.take (Int.toNat (c:Int))).drop (Int.toNat 0)=list.take c:=by simp
  have e2:(list.take (Int.toNat (list.length:Int))).drop (Int.toNat (c:Int))=list.drop c:=by simp
  have hlim:lim=1099511627776:=rfl
  have t1:(list.take c).length=c:=by rw[List.length_take];omega
  rw[e1,e2,if_pos (by omega),if_pos (by simp;omega),if_pos (by simp;omega),if_pos (by omega),if_pos (by simp;omega)]
  refine⟨_,rfl,?_,λu=>?_,λ_=>?_⟩
  ·rw[Bb]at hi⊢
   simp only[List.nil_append]
   have hsp:list=list.take c++list.drop c:=(List.take_append_drop c list).symm
   rw[hsp,List.pairwise_append]at hi
   have h4: ∀u∈list.take c,cmpL u t<0:=λu hu=>by
    obtain⟨i,hi',rfl⟩:=List.mem_iff_getElem.1 hu
    rw[List.getElem_take]
    exact k2 i _ (by omega)
   have h5: ∀u∈list.drop c,cmpL t u<0:=λu hu=>by
    obtain⟨i,hi',rfl⟩:=List.mem_iff_getElem.1 hu
    rw[List.length_drop]at hi'
    rw[List.getElem_drop]
    have h6:=k3 (c+i) (by omega) (by omega)
    have h7:=cmpL_symm (list[c+i]'(by omega)) t
    have h8:cmpL (list[c+i]'(by omega)) t≠0:=λh=>hm (by rw[←cmpL_eq.1 h];exact List.getElem_mem _)
    omega
   rw[List.pairwise_append,List.pairwise_append]
   refine⟨⟨hi.1,List.pairwise_singleton _ _,λa ha b hb=>by rw[List.mem_singleton.1 hb];exact h4 a ha⟩,hi.2.1,λa ha b hb=>?_⟩
   rcases List.mem_append.1 ha with ha|ha
   ·exact hi.2.2 a ha b hb
   ·rw[List.mem_singleton.1 ha];exact h5 b hb
  ·have hsp:u∈list↔u∈list.take c∨u∈list.drop c:=by rw[←List.mem_append,List.take_append_drop]
   simp only[List.nil_append,List.mem_append,List.mem_singleton,hsp]
   constructor
   ·rintro ((h|h)|h)
    ·exact Or.inr (Or.inl h)
    ·exact Or.inl h
    ·exact Or.inr (Or.inr h)
   ·rintro (h|h|h)
    ·exact Or.inl (Or.inr h)
    ·exact Or.inl (Or.inl h)
    ·exact Or.inr h
  ·simp only[List.nil_append]
   refine(List.Perm.append_right _ (List.perm_append_comm)).trans ?_
   rw[List.append_assoc,List.take_append_drop]
   exact List.Perm.refl _
theorem Dj {x y:List Int} (h1: ¬cmpL y x<0) (h2: ¬cmpL x y<0):x=y:=by
 have:=cmpL_symm x y
 exact cmpL_eq.1 (by omega)
theorem BN {out l:List (List Int)} (hi:AZ out=true) (hp:out.Perm l):Zn cmpL l=out:=by
 have hs:(Zn cmpL l).Pairwise λx y=>(!decide (cmpL y x<0))=true:=by
  unfold Zn
  refine List.pairwise_mergeSort (λa b c h1 h2=>?_) (λa b=>?_) l
  ·simp only[Bool.not_eq_true',decide_eq_false_iff_not]at*
   intro h3
   have q1:=cmpL_symm a b
   have q2:=cmpL_symm b c
   by_cases e:cmpL a b=0
   ·rw[cmpL_eq.1 e]at h3;exact h2 h3
   ·exact h2 (cmpL_trans h3 (by omega))
  ·simp only[Bool.or_eq_true,Bool.not_eq_true',decide_eq_false_iff_not]
   have q1:=cmpL_symm a b
   omega
 have ho:out.Pairwise λx y=>(!decide (cmpL y x<0))=true:=by
  refine(Bb.1 hi).imp ?_
  intro a b h
  simp only[Bool.not_eq_true',decide_eq_false_iff_not]
  have q1:=cmpL_symm a b
  omega
 have hpp:(Zn cmpL l).Perm out:=(List.mergeSort_perm l _).trans hp.symm
 refine List.Perm.eq_of_pairwise (λa b _ _ h1 h2=>?_) hs ho hpp
 simp only[Bool.not_eq_true',decide_eq_false_iff_not]at h1 h2
 exact Dj h1 h2
end T
set_option linter.unusedVariables false
open Go Go.Va
namespace T
def Ap (a0:List (List Int)) (a1:Unit):Option (List (List Int)):=
 if List.length a0<=lim/\List.all a0 (λx=>decide (List.length x<=lim))=true then some (Zn cmpL a0)else none
end T
open Go Go.Va
namespace T
section
variable {p:Int} {W N V:Nat}
def coG (p:Int) (s:ES) (u:Nat) (f:Int):Int:=if Cf s.2.1 u<0 then(if f=(u:Int)then 1 else 0)else p-(s.1.getD (Cf s.2.1 u).toNat []).getD f.toNat 0
def Eg (p:Int) (V:Nat) (s:ES) (F x:List Int) (u:Nat):Nat->Int
 |0=>DG V s u
 |k+1=>Eg p V s F x u k+coG p s u (F.getD k 0)*x.getD k 0
def ED (p:Int) (V:Nat) (s:ES) (F x:List Int) (k:Nat):List Int:=(List.range V).map λu=>Eg p V s F x u k%p
structure GenOk (p:Int) (W N V:Nat) (s:ES) (F x:List Int):Prop where
 hp:pr4 p
 hs:ESok p W N V s
 hV:V<W
 hW:W<=1000
 hN:N<=100000
 hF:F=Es V s.2.1
 hx:x.length=F.length
 xb: ∀v∈x,0<=v/\v<p
variable {s:ES} {F x:List Int}
theorem GenOk.pb (g:GenOk p W N V s F x):2<=p/\p<=7:=by have:=g.hp;unfold pr4 at this;omega
theorem GenOk.row (g:GenOk p W N V s F x) {u:Nat} (hu: ¬Cf s.2.1 u<0):(Cf s.2.1 u).toNat<s.1.length/\Dd p W (s.1.getD (Cf s.2.1 u).toNat []):=by
 have hm:(u:Int)∈s.2.1:=by
  rcases Decidable.em ((u:Int)∈s.2.1)with h|h
  ·exact h
  ·exact absurd (DC.2 h) hu
 obtain⟨i,hi,g1,_⟩:=De hm
 rw[g1,Int.toNat_natCast]
 have:=g.hs.bl
 exact⟨by omega,by rw[Be (by omega)];exact g.hs.t _ (List.getElem_mem _)⟩
theorem GenOk.base (g:GenOk p W N V s F x) (u:Nat):0<=DG V s u/\DG V s u<p:=by
 have:=g.pb
 unfold DG
 split
 ·omega
 ·rename_i h
  exact Ee (g.row h).2 g.hV
end
end T
open Go Go.Va
namespace T
section
variable {p:Int} {W N V:Nat} {s:ES} {F x:List Int}
theorem GenOk.zero (g:GenOk p W N V s F x):ED p V s F x 0=EB V s:=by
 unfold ED EB
 refine List.map_congr_left λu _=>?_
 have:=g.base u
 simp only[Eg]
 exact Int.emod_eq_of_lt this.1 this.2
end
end T
open Go Go.Va
namespace T
section
variable {a:Lin} {p:Int} {W N V:Nat} {s:ES} {F:List Int}
theorem C5 (l:List (List Int)):(Zn cmpL l).Perm l:=List.mergeSort_perm l _
end
end T
open Go Go.Va
namespace T
def Zm (xs:List (List Int)):List Nat:=(List.range xs.length).filter λi=>i==0||xs.getD (i-1) [] !=xs.getD i []
def Zx (xs:List (List Int)):List (List Int):=(Zm xs).map λi=>xs.getD i []
def dgP:List Int->List (List Int)->List (List Int)
 |_,[]=> []
 |p,x::l=>if p=x then dgP x l else x::dgP x l
theorem CF: ∀(l pre:List (List Int)) (p:List Int),((List.range' (pre++ [p]).length l.length).filter λi=>i==0||(pre++ [p]++l).getD (i-1) [] !=(pre++ [p]++l).getD i []).map (λi=>(pre++ [p]++l).getD i [])=dgP p l
 | [],_,_=>rfl
 |x::l,pre,p=>by
  have ih:=CF l (pre++ [p]) x
  have e:pre++ [p]++ [x]++l=pre++ [p]++(x::l):=by simp
  rw[e]at ih
  have e2:(pre++ [p]++ [x]).length=(pre++ [p]).length+1:=by simp
  rw[e2]at ih
  have g1:(pre++ [p]++(x::l)).getD ((pre++ [p]).length-1) []=p:=by
   rw[List.getD_eq_getElem?_getD,List.getElem?_append_left (by simp),List.length_append,List.length_singleton,Nat.add_sub_cancel,List.getElem?_append_right (Nat.le_refl _),Nat.sub_self];rfl
  have g2:(pre++ [p]++(x::l)).getD (pre++ [p]).length []=x:=by
   rw[List.getD_eq_getElem?_getD,List.getElem?_append_right (Nat.le_refl _),Nat.sub_self];rfl
  have g3:((pre++ [p]).length==0)=false:=by simp
  rw[List.length_cons,List.range'_succ,List.filter_cons,g1,g2,g3,dgP]
  by_cases h:p=x
  ·rw[if_neg (by simp[h]),if_pos h];exact ih
  ·rw[if_pos (by simp[h]),if_neg h,List.map_cons,g2];exact congrArg _ ih
theorem Cl {x:List Int} {l:List (List Int)}:Zx (x::l)=x::dgP x l:=by
 have h:=CF l [] x
 unfold Zx Zm
 rw[List.range_eq_range',List.length_cons,List.range'_succ,List.filter_cons,if_pos (by simp),List.map_cons]
 exact congrArg _ h
theorem Db: ∀ {l:List (List Int)} {p u:List Int},(u∈dgP p l∨u=p)↔(u∈l∨u=p)
 | [],_,_=>Iff.rfl
 |x::l,p,u=>by
  have ih:=Db (l:=l) (p:=x) (u:=u)
  unfold dgP
  by_cases h:p=x
  ·subst h
   rw[if_pos rfl,ih,List.mem_cons]
   exact⟨λh=>h.elim (λh=>Or.inl (Or.inr h)) Or.inr,λh=>h.elim (λh=>h.elim Or.inr Or.inl) Or.inr⟩
  ·rw[if_neg h,List.mem_cons,List.mem_cons]
   constructor
   ·rintro ((h|h)|h)
    ·exact Or.inl (Or.inl h)
    ·exact Or.inl ((ih.1 (Or.inl h)).elim Or.inr Or.inl)
    ·exact Or.inr h
   ·rintro ((h|h)|h)
    ·exact Or.inl (Or.inl h)
    ·exact Or.inl ((ih.2 (Or.inl h)).elim Or.inr Or.inl)
    ·exact Or.inr h
theorem Dk {l:List (List Int)} {u:List Int}:u∈Zx l↔u∈l:=by
 cases l with
 |nil=>exact Iff.rfl
 |cons x l=>
  rw[Cl,List.mem_cons,List.mem_cons]
  have:=Db (l:=l) (p:=x) (u:=u)
  exact⟨λh=>(this.1 h.symm).symm,λh=>(this.2 h.symm).symm⟩
theorem Da: ∀ {l:List (List Int)} {p:List Int},(p::l).Pairwise (λa b=> ¬cmpL b a<0)->(p::dgP p l).Pairwise λa b=>cmpL a b<0
 | [],_,_=>List.pairwise_singleton _ _
 |x::l,p,h=>by
  have h1:=List.pairwise_cons.1 h
  have ih:=Da (l:=l) (p:=x) h1.2
  unfold dgP
  by_cases e:p=x
  ·subst e;rw[if_pos rfl];exact ih
  ·rw[if_neg e]
   refine List.pairwise_cons.2 ⟨λb hb=>?_,ih⟩
   have hlt:cmpL p x<0:=by
    have h2:=h1.1 x (List.mem_cons_self ..)
    have h3:=cmpL_symm p x
    have h4:cmpL p x≠0:=λh=>e (cmpL_eq.1 h)
    omega
   rcases List.mem_cons.1 hb with rfl|hb
   ·exact hlt
   ·exact cmpL_trans hlt ((List.pairwise_cons.1 ih).1 b hb)
theorem DH (l:List (List Int)):(Zn cmpL l).Pairwise λa b=> ¬cmpL b a<0:=by
 have hs:(Zn cmpL l).Pairwise λx y=>(!decide (cmpL y x<0))=true:=by
  unfold Zn
  refine List.pairwise_mergeSort (λa b c h1 h2=>?_) (λa b=>?_) l
  ·simp only[Bool.not_eq_true',decide_eq_false_iff_not]at*
   intro h3
   have q1:=cmpL_symm a b
   have q2:=cmpL_symm b c
   by_cases e:cmpL a b=0
   ·rw[cmpL_eq.1 e]at h3;exact h2 h3
   ·exact h2 (cmpL_trans h3 (by omega))
  ·simp only[Bool.or_eq_true,Bool.not_eq_true',decide_eq_false_iff_not]
   have q1:=cmpL_symm a b
   omega
 exact hs.imp fun {a b} h=>by simpa using h
def DD (l:List (List Int)):List (List Int):=Zx (Zn cmpL l)
theorem setL_mem {l:List (List Int)} {u:List Int}:u∈DD l↔u∈l:=by
 unfold DD;rw[Dk];exact(List.mergeSort_perm l _).mem_iff
theorem DE (l:List (List Int)):AZ (DD l)=true:=by
 rw[Bb]
 unfold DD
 have h:=DH l
 generalize Zn cmpL l=s at h
 cases s with
 |nil=>exact List.Pairwise.nil
 |cons x s=>rw[Cl];exact Da h
theorem CR: ∀ {a b:List (List Int)},AZ a=true->AZ b=true->(∀u,u∈a↔u∈b)->a=b:=by
 intro a b ha hb h
 have pa:=Bb.1 ha
 have pb:=Bb.1 hb
 have na:a.Nodup:=pa.imp fun {x y} h e=>by rw[e,cmpL_refl]at h;omega
 have nb:b.Nodup:=pb.imp fun {x y} h e=>by rw[e,cmpL_refl]at h;omega
 have hp:a.Perm b:=(List.perm_ext_iff_of_nodup na nb).2 h
 rw[←BN ha (List.Perm.refl _),←BN hb (List.Perm.refl _)]
 have h1:=BN ha hp
 have h2:=BN hb (List.Perm.refl b)
 have h3:=BN ha (List.Perm.refl a)
 rw[h2,h3,←h1,h2]
theorem D1 {out l:List (List Int)} (hi:AZ out=true) (hm: ∀u,u∈out↔u∈l):DD l=out:=
 CR (DE l) hi λu=>setL_mem.trans (hm u).symm
end T
set_option linter.unusedVariables false
open Go Go.Va
namespace T
def Ak:Nat->((List (List Int))×Int×Int×Int×Int×Int)->Option (((List (List Int))×Int×Int×Int×Int)⊕(Int×Int×Bool))
 |0,_=>none
 |n+1,(tuples,i,x,y,a,b)=>
 if decide (b<(tuples.length:Int))then
 if inb a tuples then
 if inb i (gd tuples a [])then
 if(gd (gd tuples a []) i 0)==x then
 if inb b tuples then
 if inb i (gd tuples b [])then
 if(gd (gd tuples b []) i 0)==y then
 if inb a tuples then
 if(0:Int)<=0/\0<=i/\i<=((gd tuples a []).length:Int)then
 if inb b tuples then
 if(0:Int)<=0/\0<=i/\i<=((gd tuples b []).length:Int)then
 (Bt (((gd tuples a []).take (Int.toNat i)).drop (Int.toNat 0)) (((gd tuples b []).take (Int.toNat i)).drop (Int.toNat 0))).bind λr1=>
 if r1 then
 some (.inr (a,b,true))
 else
 Ak n (tuples,i,x,y,a,w64 (b+1))
 else none
 else none
 else none
 else none
 else
 Ak n (tuples,i,x,y,a,w64 (b+1))
 else none
 else none
 else
 Ak n (tuples,i,x,y,a,w64 (b+1))
 else none
 else none
 else
 some (.inl (tuples,i,x,y,a))
def Ax:Nat->((List (List Int))×Int×Int×Int×Int)->Option ((Unit)⊕(Int×Int×Bool))
 |0,_=>none
 |n+1,(tuples,i,x,y,a)=>
  if decide (a<(tuples.length:Int))then
   (Ak Af (tuples,i,x,y,a,0)).bind λs1=>
    match s1 with
    | .inl s2=>
     Ax n (s2.1,s2.2.1,s2.2.2.1,s2.2.2.2.1,w64 (s2.2.2.2.2+1))
    | .inr s3=>
     some (.inr (s3.1,s3.2.1,s3.2.2))
  else
   some (.inl ())
def BB (tuples:List (List Int)) (i:Int) (x:Int) (y:Int):Option (Int×Int×Bool):=
 (Ax Af (tuples,i,x,y,0)).bind λs1=>
  match s1 with
  | .inl s2=>
   some (0,0,false)
  | .inr s3=>
   some (s3.1,s3.2.1,s3.2.2)
def An:Nat->(Int×Int×(List (List Int))×(List (List Int))×(List (List Int))×Int×Int×Int)->Option (Int×Int×(List (List Int))×(List (List Int))×(List (List Int))×Int×Int)
 |0,_=>none
 |n+1,(t0,t1,t2,t8,t9,t10,t11,t12)=>
 if decide (t12<t0)then
 (BB t2 t10 t11 t12).bind λr1=>
 if r1.2.2 then
 if t8.length+ [[t10,t11,t12]].length<=lim then
 if inb r1.1 t2 then
 (BA (gd t2 r1.1 [])).bind λr2=>
 (BC t9 r2).bind λr3=>
 if inb r1.2.1 t2 then
 (BA (gd t2 r1.2.1 [])).bind λr4=>
 (BC r3 r4).bind λr5=>
 An n (t0,t1,t2,t8++ [[t10,t11,t12]],r5,t10,t11,w64 (t12+1))
 else none
 else none
 else none
 else
 An n (t0,t1,t2,t8,t9,t10,t11,w64 (t12+1))
 else
 some (t0,t1,t2,t8,t9,t10,t11)
def Av:Nat->(Int×Int×(List (List Int))×(List (List Int))×(List (List Int))×Int×Int)->Option (Int×Int×(List (List Int))×(List (List Int))×(List (List Int))×Int)
 |0,_=>none
 |n+1,(t0,t1,t2,t8,t9,t10,t11)=>
 if decide (t11<t0)then
 (An Af (t0,t1,t2,t8,t9,t10,t11,0)).bind λs1=>
 Av n (s1.1,s1.2.1,s1.2.2.1,s1.2.2.2.1,s1.2.2.2.2.1,s1.2.2.2.2.2.1,w64 (s1.2.2.2.2.2.2+1))
 else
 some (t0,t1,t2,t8,t9,t10)
def Au:Nat->(Int×Int×(List (List Int))×(List (List Int))×(List (List Int))×Int)->Option ((List (List Int))×(List (List Int)))
 |0,_=>none
 |n+1,(t0,t1,t2,t8,t9,t10)=>
 if decide (t10<t1)then
 (Av Af (t0,t1,t2,t8,t9,t10,0)).bind λs1=>
 Au n (s1.1,s1.2.1,s1.2.2.1,s1.2.2.2.1,s1.2.2.2.2.1,w64 (s1.2.2.2.2.2+1))
 else
 some (t8,t9)
def Bw (t0:Int) (t1:Int) (t2:List (List Int)):Option ((List (List Int))×(List (List Int))):=
 (Au Af (t0,t1,t2,[],[],0)).bind λs1=>
 some (s1.1,s1.2)
def Bl (a0:List (List Int)):Option (List (List Int)):=
 if List.length a0<=lim/\List.all a0 (λx=>decide (List.length x<=lim))=true then some (Zx a0)else none
end T
open Go Go.Va
namespace T
structure TupS (n:Int) (k:Nat) (ts:List (List Int)):Prop where
 hn:1<=n/\n<=8
 hk:1<=k/\k<=4
 len: ∀t∈ts,t.length=k
 el: ∀t∈ts,AH n t=true
 inc:AZ ts=true
theorem D3 {n k:Int} {ts:List (List Int)} (h:BU n k ts=true):TupS n k.toNat ts/\(k.toNat:Int)=k:=by
 unfold BU at h
 simp only[Bool.and_eq_true,decide_eq_true_eq,List.all_eq_true]at h
 obtain⟨⟨⟨h1,h2⟩,h3⟩,h4⟩:=h
 unfold BW at h1
 simp only[decide_eq_true_eq]at h1
 refine⟨⟨h1,by omega,λt ht=>?_,λt ht=>?_,h4⟩,by omega⟩
 ·have:=h3 t ht;unfold CN at this;simp at this;omega
 ·have:=h3 t ht;unfold CN at this;simp at this;exact this.2
theorem TupS.count {n:Int} {k:Nat} {ts:List (List Int)} (h:TupS n k ts):ts.length<=4096:=by
 rcases B9 (n:=n) (k:=k) h.inc λt ht=>⟨h.len t ht,h.el t ht⟩with h'|h'
 ·have hp:=h.hn
  have e:n^k<=8^4:=by
   have:(n.toNat^k:Nat)<=8^4:=Nat.le_trans (Nat.pow_le_pow_left (show n.toNat<=8 by omega) k) (Nat.pow_le_pow_right (by omega) h.hk.2)
   have e2:((n.toNat^k:Nat):Int)=n^k:=by
    rw[Int.natCast_pow];congr 1;omega
   rw[←e2];exact_mod_cast this
  have:(8:Int)^4=4096:=by decide
  omega
 ·rw[h'];simp
theorem CU: ∀ {s t u:List Int} {i:Nat},s.length=t.length->t.length=u.length->cmpL s t<=0->cmpL t u<=0->s.take i=u.take i->t.take i=s.take i
 |_,_,_,0,_,_,_,_,_=>rfl
 | [],[],_,i+1,_,_,_,_,_=>rfl
 |a::s,b::t,c::u,i+1,h1,h2,h3,h4,h5=>by
  rw[List.take_succ_cons,List.take_succ_cons]at h5
  obtain⟨e,h6⟩:=List.cons.inj h5
  subst e
  simp only[cmpL]at h3 h4
  have eb:a=b:=by
   by_cases h:a=b
   ·exact h
   ·rw[if_neg h]at h3;rw[if_neg (λe=>h e.symm)]at h4
    by_cases hlt:a<b
    ·rw[if_neg (by omega)]at h4;exact absurd h4 (by decide)
    ·rw[if_neg hlt]at h3;exact absurd h3 (by decide)
  subst eb
  rw[if_pos rfl]at h3 h4
  rw[List.take_succ_cons,List.take_succ_cons,CU (by simpa using h1) (by simpa using h2) h3 h4 h6]
section
variable {n:Int} {k:Nat} {ts:List (List Int)}
def Al (ts:List (List Int)) (i j:Nat):List Int:=(ts.getD j []).take i
def Ar (ts:List (List Int)) (i j:Nat):Int:=(ts.getD j []).getD i 0
theorem TupS.le (h:TupS n k ts) {a b:Nat} (hab:a<=b) (hb:b<ts.length):cmpL (ts.getD a []) (ts.getD b [])<=0:=by
 rcases Nat.lt_or_ge a b with hlt|hge
 ·have:=Bp h.inc a b hlt hb
  rw[Be hb,Be (show a<ts.length by omega)];omega
 ·have:a=b:=by omega
  subst this;rw[cmpL_refl];omega
theorem TupS.conv (h:TupS n k ts) {i a b c:Nat} (hab:a<=b) (hbc:b<=c) (hc:c<ts.length) (he:Al ts i a=Al ts i c):Al ts i b=Al ts i a:=by
 have hl: ∀j,j<ts.length->(ts.getD j []).length=k:=λj hj=>h.len _ (BG hj)
 exact CU ((hl a (by omega)).trans (hl b (by omega)).symm) ((hl b (by omega)).trans (hl c hc).symm) (h.le hab (by omega)) (h.le hbc hc) he
theorem TupS.lenj (h:TupS n k ts) {j:Nat} (hj:j<ts.length):(ts.getD j []).length=k:=h.len _ (BG hj)
theorem Ea {l:List Int} {i:Nat}:(l.take (Int.toNat (i:Int))).drop (Int.toNat 0)=l.take i:=by simp
end
end T
open Go Go.Va
namespace T
theorem Cd {α β:Type} {p:α->Bool} {g:α->β}: ∀ {l:List α},l.findSome? (λa=>if p a then some (g a)else none)=(l.find? p).map g
 | []=>rfl
 |a::l=>by
  rw[List.findSome?_cons,List.find?_cons]
  cases h:p a with
  |true=>rfl
  |false=>exact Cd
section
variable {n:Int} {k:Nat} {ts:List (List Int)}
def Cc (ts:List (List Int)) (i:Nat) (x y:Int) (a b:Nat):Bool:=Ar ts i a==x&&(Ar ts i b==y&&decide (Al ts i a=Al ts i b))
def bO (ts:List (List Int)) (i:Nat) (x y:Int) (a:Nat):Option Nat:=(List.range ts.length).find? (Cc ts i x y a)
def Ba (ts:List (List Int)) (i:Nat) (x y:Int):Option (Nat×Nat):=(List.range ts.length).findSome? λa=>(bO ts i x y a).map λb=>(a,b)
theorem AO {i:Nat} {x y:Int} {a b:Nat} (h:Ba ts i x y=some (a,b)):a<ts.length/\b<ts.length/\Ar ts i a=x/\Ar ts i b=y/\Al ts i a=Al ts i b:=by
 unfold Ba at h
 obtain⟨a',ha,h⟩:=List.exists_of_findSome?_eq_some h
 obtain⟨b',hb,h⟩:=Option.map_eq_some_iff.1 h
 obtain⟨rfl,rfl⟩:=Prod.mk.inj h
 have h1:=List.find?_some hb
 have h2:=List.mem_of_find?_eq_some hb
 unfold Cc at h1
 simp only[Bool.and_eq_true,beq_iff_eq,decide_eq_true_eq]at h1
 exact⟨List.mem_range.1 ha,List.mem_range.1 h2,h1.1,h1.2.1,h1.2.2⟩
theorem C3 {i:Nat} {x y:Int} (h:Ba ts i x y=none) {a b:Nat} (ha:a<ts.length) (hb:b<ts.length) (h1:Ar ts i a=x) (h2:Ar ts i b=y) (h3:Al ts i a=Al ts i b):False:=by
 unfold Ba at h
 rw[List.findSome?_eq_none_iff]at h
 have h:=h a (List.mem_range.2 ha)
 rw[Option.map_eq_none_iff]at h
 unfold bO at h
 rw[List.find?_eq_none]at h
 have h:=h b (List.mem_range.2 hb)
 unfold Cc at h
 simp[h1,h2,h3]at h
theorem DY (h:TupS n k ts) {i:Nat} (hi:i<k) (x y:Int) {a:Nat} (ha:a<ts.length):Ak Af (ts,(i:Int),x,y,(a:Int),0)=some (match bO ts i x y a with|some b=> .inr ((a:Int),(b:Int),true)|none=> .inl (ts,(i:Int),x,y,(a:Int))):=by
 have hc:=h.count
 have hk:=h.hk
 have:=Ed ts.length (λf (_:Unit) b=>Ak f (ts,(i:Int),x,y,(a:Int),b)) (λ_=>()) (λb=>if Cc ts i x y a b then some (some (.inr ((a:Int),(b:Int),true)))else none) (e:=some (.inl (ts,(i:Int),x,y,(a:Int)))) (λf b hb _=>?_) (λf=>?_) (n:=Af) (by unfold Af;omega)
 ·have this:Ak Af (ts,(i:Int),x,y,(a:Int),0)=_:=this
  rw[this,Cd]
  unfold bO
  cases (List.range ts.length).find? (Cc ts i x y a)<;>rfl
 ·have la:=h.lenj ha
  have lb:=h.lenj hb
  have ga:gd ts (a:Int) []=ts.getD a []:=by unfold gd;simp
  have gb:gd ts (b:Int) []=ts.getD b []:=by unfold gd;simp
  have q1:i<(ts.getD a []).length:=by omega
  have q2:i<(ts.getD b []).length:=by omega
  have hs:=BO (a:=(ts.getD a []).take i) (b:=(ts.getD b []).take i) (by rw[List.length_take];omega)
  simp only[Ak,Ah,ha,hb,q1,q2,ga,gb,DT,if_true,Ea,hs,Option.bind_some,Ag (show b<4611686018427387904 by omega)]
  rw[if_pos (by simp;omega)]
  unfold Cc Ar Al
  generalize (ts.getD a []).getD i 0=u
  generalize (ts.getD b []).getD i 0=v
  by_cases e1:u=x
  ·subst e1
   rw[if_pos (by simp)]
   by_cases e2:v=y
   ·subst e2
    rw[if_pos (by simp),if_pos (by omega),if_pos (by omega)]
    by_cases e3:(ts.getD a []).take i=(ts.getD b []).take i
    ·rw[e3];simp
    ·rw[if_neg (by simpa using e3)]
     have e4:((u==u)&&((v==v)&&decide ((ts.getD a []).take i=(ts.getD b []).take i)))=false:=by simpa using e3
     rw[e4];rfl
   ·have e4:((u==u)&&((v==y)&&decide ((ts.getD a []).take i=(ts.getD b []).take i)))=false:=by simp[e2]
    rw[if_neg (by simpa using e2),e4];rfl
  ·have e4:((u==x)&&((v==y)&&decide ((ts.getD a []).take i=(ts.getD b []).take i)))=false:=by simp[e1]
   rw[if_neg (by simpa using e1),e4];rfl
 ·simp only[Ak]
  rw[if_neg (by simp)]
theorem DZ (h:TupS n k ts) {i:Nat} (hi:i<k) (x y:Int):BB ts (i:Int) x y=some (match Ba ts i x y with|some q=>((q.1:Int),(q.2:Int),true)|none=>(0,0,false)):=by
 have hc:=h.count
 have:=Ed ts.length (λf (_:Unit) a=>Ax f (ts,(i:Int),x,y,a)) (λ_=>()) (λa=>(bO ts i x y a).map fun(b:Nat)=>(some (.inr ((a:Int),(b:Int),true)):Option (Unit⊕(Int×Int×Bool)))) (e:=some (.inl ())) (λf a ha _=>?_) (λf=>?_) (n:=Af) (by unfold Af;omega)
 ·have this:Ax Af (ts,(i:Int),x,y,0)=_:=this
  unfold BB
  rw[this]
  have e:(List.range ts.length).findSome? (λa=>(bO ts i x y a).map fun(b:Nat)=>(some (.inr ((a:Int),(b:Int),true)):Option (Unit⊕(Int×Int×Bool))))=(Ba ts i x y).map λq=>some (.inr ((q.1:Int),(q.2:Int),true)):=by
   unfold Ba
   generalize List.range ts.length=l
   induction l with
   |nil=>rfl
   |cons a l ih=>
    rw[List.findSome?_cons,List.findSome?_cons]
    cases bO ts i x y a with
    |none=>exact ih
    |some b=>rfl
  rw[e]
  cases Ba ts i x y<;>rfl
 ·have e:=DY h hi x y ha
  simp only[Ax,e,Option.bind_some]
  rw[if_pos (by simp;omega)]
  cases bO ts i x y a with
  |none=>
   simp only[Option.map_none]
   rw[Ag (show a<4611686018427387904 by omega)]
  |some b=>rfl
 ·simp only[Ax]
  rw[if_neg (by simp)]
def B1 (i' x' y' i x y:Nat):Prop:=i'<i∨(i'=i/\(x'<x∨(x'=x/\y'<y)))
theorem Dz {i' x' y' i x y:Nat} (h:B1 i' x' y' i x y):cmpL [(i':Int),(x':Int),(y':Int)] [(i:Int),(x:Int),(y:Int)]<0:=by
 unfold B1 at h
 simp only[cmpL]
 by_cases h1:i'=i
 ·by_cases h2:x'=x
  ·have h3:y'<y:=by omega
   rw[if_pos (by omega),if_pos (by omega),if_neg (by omega),if_pos (by omega)];decide
  ·rw[if_pos (by omega),if_neg (by omega),if_pos (by omega)];decide
 ·rw[if_neg (by omega),if_pos (by omega)];decide
structure FA (n:Nat) (ts:List (List Int)) (i x y:Nat) (F A:List (List Int)):Prop where
 inc:AZ F=true
 mem: ∀r,r∈F↔ ∃i' x' y':Nat,x'<n/\y'<n/\B1 i' x' y' i x y/\(Ba ts i' (x':Int) (y':Int)).isSome/\r= [(i':Int),(x':Int),(y':Int)]
 len:F.length<=(i*n+x)*n+y
 incA:AZ A=true
 memA: ∀t,t∈A↔ ∃i' x' y' a b:Nat,x'<n/\y'<n/\B1 i' x' y' i x y/\Ba ts i' (x':Int) (y':Int)=some (a,b)/\(t=ts.getD a []∨t=ts.getD b [])
 lenA:A.length<=2*((i*n+x)*n+y)
theorem FA.cast {n i x y i' x' y':Nat} {F A:List (List Int)} (h:FA n ts i x y F A) (hl:(i*n+x)*n+y=(i'*n+x')*n+y') (hx: ∀a b c,b<n->c<n->(B1 a b c i x y↔B1 a b c i' x' y')):FA n ts i' x' y' F A where
 inc:=h.inc
 mem r:=(h.mem r).trans ⟨λ⟨a,b,c,q1,q2,q3,q4⟩=>⟨a,b,c,q1,q2,(hx a b c q1 q2).1 q3,q4⟩,λ⟨a,b,c,q1,q2,q3,q4⟩=>⟨a,b,c,q1,q2,(hx a b c q1 q2).2 q3,q4⟩⟩
 len:=hl▸h.len
 incA:=h.incA
 memA t:=(h.memA t).trans ⟨λ⟨a,b,c,d,e,q1,q2,q3,q4⟩=>⟨a,b,c,d,e,q1,q2,(hx a b c q1 q2).1 q3,q4⟩,λ⟨a,b,c,d,e,q1,q2,q3,q4⟩=>⟨a,b,c,d,e,q1,q2,(hx a b c q1 q2).2 q3,q4⟩⟩
 lenA:=hl▸h.lenA
theorem Df {out list:List (List Int)} {t:List Int} (h1:AZ out=true) (h0:AZ list=true) (h2: ∀u,u∈out↔u=t∨u∈list) (h3:t∉list->out.Perm (t::list)):out.length<=list.length+1:=by
 by_cases hm:t∈list
 ·have:out=list:=CR h1 h0 λu=>(h2 u).trans ⟨λh=>h.elim (λh=>h▸hm) id,Or.inr⟩
  rw[this];omega
 ·rw[(h3 hm).length_eq];simp
theorem AE {a b c i x y:Nat}:B1 a b c i x (y+1)↔B1 a b c i x y∨(a=i/\b=x/\c=y):=by unfold B1;omega
theorem DS {N:Nat} (h:TupS (N:Int) k ts) {i:Nat} (hi:i<k) {x:Nat} (hx:x<N): ∀(d f y:Nat) (F A:List (List Int)),y+d=N->d<f->FA N ts i x y F A->
  ∃F' A',An f ((N:Int),(k:Int),ts,F,A,(i:Int),(x:Int),(y:Int))=some ((N:Int),(k:Int),ts,F',A',(i:Int),(x:Int))/\FA N ts i x N F' A':=by
 have hk:=h.hk
 have hn:=h.hn
 intro d
 induction d with
 |zero=>
  intro f y F A hy hf hFA
  obtain⟨f,rfl⟩: ∃z,f=z+1:=⟨f-1,by omega⟩
  have:y=N:=by omega
  subst this
  refine⟨F,A,?_,hFA⟩
  simp only[An]
  rw[if_neg (by simp)]
 |succ d ih=>
  intro f y F A hy hf hFA
  obtain⟨f,rfl⟩: ∃z,f=z+1:=⟨f-1,by omega⟩
  have e:=DZ h hi (x:Int) (y:Int)
  have hcode:(i*N+x)*N+y<=512:=by
   have h1:i*N<=3*8:=Nat.mul_le_mul (by omega) (by omega)
   have h2:(i*N+x)*N<=32*8:=Nat.mul_le_mul (by omega) (by omega)
   omega
  have hFl:=hFA.len
  have hAl:=hFA.lenA
  cases hp:Ba ts i (x:Int) (y:Int)with
  |none=>
   have hnx:FA N ts i x (y+1) F A:=by
    refine⟨hFA.inc,λr=>(hFA.mem r).trans ⟨λ⟨a,b,c,q1,q2,q3,q4⟩=>⟨a,b,c,q1,q2,AE.2 (Or.inl q3),q4⟩,λ⟨a,b,c,q1,q2,q3,q4,q5⟩=>?_⟩,by omega,hFA.incA,λt=>(hFA.memA t).trans ⟨λ⟨a,b,c,d,e,q1,q2,q3,q4⟩=>⟨a,b,c,d,e,q1,q2,AE.2 (Or.inl q3),q4⟩,λ⟨a,b,c,d,e,q1,q2,q3,q4,q5⟩=>?_⟩,by omega⟩
    ·rcases AE.1 q3 with h|⟨rfl,rfl,rfl⟩
     ·exact⟨a,b,c,q1,q2,h,q4,q5⟩
     ·rw[hp]at q4;simp at q4
    ·rcases AE.1 q3 with h|⟨rfl,rfl,rfl⟩
     ·exact⟨a,b,c,d,e,q1,q2,h,q4,q5⟩
     ·rw[hp]at q4;simp at q4
   obtain⟨F',A',e2,hF'⟩:=ih f (y+1) F A (by omega) (by omega) hnx
   refine⟨F',A',?_,hF'⟩
   rw[hp]at e
   simp only[An,e,Option.bind_some,Ag (show y<4611686018427387904 by omega)]
   rw[if_pos (by simp;omega),if_neg (by simp)]
   exact e2
  |some q=>
   obtain⟨a,b⟩:=q
   obtain⟨ha,hb,hva,hvb,hpre⟩:=AO hp
   have la:=h.lenj ha
   have lb:=h.lenj hb
   have ga:gd ts (a:Int) []=ts.getD a []:=by unfold gd;simp
   have gb:gd ts (b:Int) []=ts.getD b []:=by unfold gd;simp
   have hlA: ∀u∈A,u.length=k:=λu hu=>by
    obtain⟨i',x',y',a',b',_,_,_,q4,q5⟩:=(hFA.memA u).1 hu
    obtain⟨r1,r2,_⟩:=AO q4
    rcases q5 with rfl|rfl
    ·exact h.lenj r1
    ·exact h.lenj r2
   obtain⟨A1,p1,p2,p3,p4⟩:=BY (by omega) (show k<=1000000 by omega) hlA la hFA.incA
   have z1:=Df p2 hFA.incA p3 p4
   obtain⟨A2,r1,r2,r3,r4⟩:=BY (list:=A1) (t:=ts.getD b []) (by omega) (show k<=1000000 by omega) (λu hu=>((p3 u).1 hu).elim (λh=>by rw[h];exact la) (hlA u)) lb p2
   have z2:=Df r2 p2 r3 r4
   have hnx:FA N ts i x (y+1) (F++ [[(i:Int),(x:Int),(y:Int)]]) A2:=by
    refine⟨?_,λr=>?_,by rw[List.length_append,List.length_singleton];omega,r2,λt=>?_,by omega⟩
    ·rw[Bb,List.pairwise_append]
     refine⟨Bb.1 hFA.inc,List.pairwise_singleton _ _,λu hu v hv=>?_⟩
     rw[List.mem_singleton.1 hv]
     obtain⟨a',b',c',_,_,q3,_,rfl⟩:=(hFA.mem u).1 hu
     exact Dz q3
    ·rw[List.mem_append,hFA.mem]
     constructor
     ·rintro (⟨a',b',c',q1,q2,q3,q4⟩|hr)
      ·exact⟨a',b',c',q1,q2,AE.2 (Or.inl q3),q4⟩
      ·exact⟨i,x,y,hx,by omega,AE.2 (Or.inr ⟨rfl,rfl,rfl⟩),by rw[hp];rfl,List.mem_singleton.1 hr⟩
     ·rintro ⟨a',b',c',q1,q2,q3,q4,q5⟩
      rcases AE.1 q3 with h|⟨rfl,rfl,rfl⟩
      ·exact Or.inl ⟨a',b',c',q1,q2,h,q4,q5⟩
      ·exact Or.inr (List.mem_singleton.2 q5)
    ·rw[r3,p3,hFA.memA]
     constructor
     ·rintro (rfl|rfl|⟨a',b',c',d',e',q1,q2,q3,q4⟩)
      ·exact⟨i,x,y,a,b,hx,by omega,AE.2 (Or.inr ⟨rfl,rfl,rfl⟩),hp,Or.inr rfl⟩
      ·exact⟨i,x,y,a,b,hx,by omega,AE.2 (Or.inr ⟨rfl,rfl,rfl⟩),hp,Or.inl rfl⟩
      ·exact⟨a',b',c',d',e',q1,q2,AE.2 (Or.inl q3),q4⟩
     ·rintro ⟨a',b',c',d',e',q1,q2,q3,q4,q5⟩
      rcases AE.1 q3 with h|⟨rfl,rfl,rfl⟩
      ·exact Or.inr (Or.inr ⟨a',b',c',d',e',q1,q2,h,q4,q5⟩)
      ·rw[hp]at q4
       obtain⟨rfl,rfl⟩:=Prod.mk.inj (Option.some.inj q4)
       rcases q5 with rfl|rfl
       ·exact Or.inr (Or.inl rfl)
       ·exact Or.inl rfl
   obtain⟨F',A',e2,hF'⟩:=ih f (y+1) _ A2 (by omega) (by omega) hnx
   refine⟨F',A',?_,hF'⟩
   rw[hp]at e
   have o1:=BX (l:=ts.getD a []) (by omega)
   have o2:=BX (l:=ts.getD b []) (by omega)
   simp only[An,e,Option.bind_some,Ag (show y<4611686018427387904 by omega),if_true,Ah,ha,hb,ga,gb,o1,o2,p1,r1]
   rw[if_pos (by simp;omega),if_pos (by simp;unfold lim;omega)]
   exact e2
theorem DQ {N:Nat} (h:TupS (N:Int) k ts) {i:Nat} (hi:i<k): ∀(d f x:Nat) (F A:List (List Int)),x+d=N->d<f->FA N ts i x 0 F A->
  ∃F' A',Av f ((N:Int),(k:Int),ts,F,A,(i:Int),(x:Int))=some ((N:Int),(k:Int),ts,F',A',(i:Int))/\FA N ts i N 0 F' A':=by
 have hn:=h.hn
 intro d
 induction d with
 |zero=>
  intro f x F A hx hf hFA
  obtain⟨f,rfl⟩: ∃z,f=z+1:=⟨f-1,by omega⟩
  have:x=N:=by omega
  subst this
  refine⟨F,A,?_,hFA⟩
  simp only[Av]
  rw[if_neg (by simp)]
 |succ d ih=>
  intro f x F A hx hf hFA
  obtain⟨f,rfl⟩: ∃z,f=z+1:=⟨f-1,by omega⟩
  obtain⟨F1,A1,e1,h1⟩:=DS h hi (x:=x) (by omega) N Af 0 F A (by omega) (by unfold Af;omega) hFA
  have e1:An Af ((N:Int),(k:Int),ts,F,A,(i:Int),(x:Int),0)=_:=e1
  have h2:FA N ts i (x+1) 0 F1 A1:=h1.cast (by rw[Nat.add_zero,←Nat.add_assoc,Nat.succ_mul]) (λa b c hb hc=>by unfold B1;omega)
  obtain⟨F',A',e2,hF'⟩:=ih f (x+1) F1 A1 (by omega) (by omega) h2
  refine⟨F',A',?_,hF'⟩
  simp only[Av,e1,Option.bind_some,Ag (show x<4611686018427387904 by omega),e2]
  rw[if_pos (by simp;omega)]
theorem DP {N:Nat} (h:TupS (N:Int) k ts): ∀(d f i:Nat) (F A:List (List Int)),i+d=k->d<f->FA N ts i 0 0 F A->
  ∃F' A',Au f ((N:Int),(k:Int),ts,F,A,(i:Int))=some (F',A')/\FA N ts k 0 0 F' A':=by
 have hn:=h.hn
 have hk:=h.hk
 intro d
 induction d with
 |zero=>
  intro f i F A hx hf hFA
  obtain⟨f,rfl⟩: ∃z,f=z+1:=⟨f-1,by omega⟩
  have:i=k:=by omega
  subst this
  refine⟨F,A,?_,hFA⟩
  simp only[Au]
  rw[if_neg (by simp)]
 |succ d ih=>
  intro f i F A hx hf hFA
  obtain⟨f,rfl⟩: ∃z,f=z+1:=⟨f-1,by omega⟩
  obtain⟨F1,A1,e1,h1⟩:=DQ h (i:=i) (by omega) N Af 0 F A (by omega) (by unfold Af;omega) hFA
  have e1:Av Af ((N:Int),(k:Int),ts,F,A,(i:Int),0)=_:=e1
  have h2:FA N ts (i+1) 0 0 F1 A1:=h1.cast (by rw[Nat.add_zero,Nat.add_zero,Nat.succ_mul];rfl) (λa b c hb hc=>by unfold B1;omega)
  obtain⟨F',A',e2,hF'⟩:=ih f (i+1) F1 A1 (by omega) (by omega) h2
  refine⟨F',A',?_,hF'⟩
  simp only[Au,e1,Option.bind_some,Ag (show i<4611686018427387904 by omega),e2]
  rw[if_pos (by simp;omega)]
theorem CD {N:Nat} (h:TupS (N:Int) k ts): ∃F A,Bw (N:Int) (k:Int) ts=some (F,A)/\FA N ts k 0 0 F A:=by
 have hk:=h.hk
 obtain⟨F,A,e,hFA⟩:=DP h k Af 0 [] [] (by omega) (by unfold Af;omega) ⟨rfl,λr=>⟨λh=>(by cases h),λ⟨a,b,c,_,_,q,_⟩=>(by unfold B1 at q;omega)⟩,by simp,rfl,λt=>⟨λh=>(by cases h),λ⟨a,b,c,_,_,_,_,q,_⟩=>(by unfold B1 at q;omega)⟩,by simp⟩
 refine⟨F,A,?_,hFA⟩
 unfold Bw
 have e:Au Af ((N:Int),(k:Int),ts,[],[],0)=_:=e
 rw[e];rfl
end
end T
set_option linter.unusedVariables false
open Go Go.Va
namespace T
def A7 (list:List (List Int)):Option ((List (List Int))):=
 (Bk list).bind λr1=>
 (Ap r1 ()).bind λr2=>
 some r2
end T
open Go Go.Va
namespace T
section
variable {n:Nat} {t:List Int}
def DL (n:Nat) (t:List Int) (x y:Nat):Nat:=(t.getD (x*n+y) 0).toNat
structure TabOk (n:Nat) (t:List Int):Prop where
 hn:1<=n/\n<=4
 len:t.length=n*n
 val: ∀x∈t,0<=x/\x<(n:Int)
theorem ix2 (hn:n<=4) {x y:Nat} (hx:x<n) (hy:y<n):w64 (w64 ((x:Int)*(n:Int))+(y:Int))=((x*n+y:Nat):Int)/\x*n+y<n*n:=by
 have h1:x*n+y<n*n:=by
  calc x*n+y<x*n+n:=by omega
   _=(x+1)*n:=by rw[Nat.succ_mul]
   _<=n*n:=Nat.mul_le_mul_right _ hx
 have h2:n*n<=4*4:=Nat.mul_le_mul hn hn
 have e:(x:Int)*(n:Int)=((x*n:Nat):Int):=by simp
 have a1:w64 ((x*n:Nat):Int)=((x*n:Nat):Int):=Bd (by omega) (by omega)
 rw[e,a1,Bd (by omega) (by omega)]
 exact⟨by omega,h1⟩
theorem TabOk.at (h:TabOk n t) {x y:Nat} (hx:x<n) (hy:y<n):w64 (w64 ((x:Int)*(n:Int))+(y:Int))=((x*n+y:Nat):Int)/\inb ((x*n+y:Nat):Int) t/\gd t ((x*n+y:Nat):Int) 0=((DL n t x y:Nat):Int)/\DL n t x y<n:=by
 obtain⟨h1,h2⟩:=ix2 h.hn.2 hx hy
 have hl:x*n+y<t.length:=by rw[h.len];exact h2
 have hv:=h.val _ (List.getElem_mem hl)
 refine⟨h1,by rw[Ah];exact hl,?_,?_⟩
 ·rw[Ao hl];unfold DL;rw[Be hl];omega
 ·unfold DL;rw[Be hl];omega
end
end T
open Go Go.Va
namespace T
section
variable {a:Net} {K:Nat} {c:Con} {i p n:Nat} {st:ASt}
def DI (d:Dom) (V:Nat) (t:List Int):Prop:= ∀u,u<V->d2 d u (t.getD u 0).toNat=true
end
end T
open Go Go.Va
namespace T
section
variable {a:Net} {n s:Nat} {t:T4} {u:T3}
def Em (a:Net) (i j k x y z:Nat):Prop:= ∀c∈a.2.2,(∀v∈c.1,v=(i:Int)∨v=(j:Int)∨v=(k:Int))-> ∀vs:List Int,D4 vs (i:Int)=(x:Int)->D4 vs (j:Int)=(y:Int)->D4 vs (k:Int)=(z:Int)->Ep vs c=true
structure Fam (a:Net) (n s:Nat) (S:Nat->Nat->Nat->Nat->Prop):Prop where
 sym: ∀i j x y,S i j x y->S j i y x
 first: ∀i j x y,i<j->j<n->x<s->y<s->S i j x y->fB a n i j x y=true
 path: ∀i j k x y,i<n->j<n->k<n->i≠j->k≠i->k≠j->x<s->y<s->S i j x y-> ∃z,z<s/\S i k x z/\S j k y z/\Em a i j k x y z
structure MinP (a:Net) (n s:Nat) (t:T4) (u:T3):Prop where
 rel:Rel34 n s t u
 sym: ∀i j x y,i<n->j<n->i≠j->x<s->y<s->r4 t i j x y=r4 t j i y x
 first: ∀i j x y,i<n->j<n->i≠j->x<s->y<s->r4 t i j x y=true->fB a n i j x y=true
 path: ∀i j k x y,i<n->j<n->k<n->i≠j->k≠i->k≠j->x<s->y<s->r4 t i j x y=true-> ∃z,z<s/\r4 t i k x z=true/\r4 t j k y z=true/\Em a i j k x y z
 all: ∀S,Fam a n s S-> ∀i j x y,i<n->j<n->i≠j->x<s->y<s->S i j x y->r4 t i j x y=true
end
end T
open Go Go.Va
namespace T
section
variable {a:Net} {n s:Nat} {t:T4} {u:T3} {F:Nat->Nat->Nat->Nat}
theorem Ex (hM:MinP a n s t u) {w w' v x y:Nat} (hw:w<n) (hw':w'<n) (hv:v<n) (h1:w≠w') (h2:w≠v) (h3:w'≠v) (hx:x<s) (hy:y<s) (h:r4 t w' v y x=true): ∃z,z<s/\r4 t w v z x=true:=by
 obtain⟨z,hz,_,q,_⟩:=hM.path w' v w y x hw' hv hw h3 h1 h2 hy hx h
 exact⟨z,hz,by rw[hM.sym w v z x hw hv h2 hz hx];exact q⟩
theorem EC (p q:Nat): ∃w,w<3/\w≠p/\w≠q:=by
 by_cases h0:0≠p/\0≠q
 ·exact⟨0,by omega,h0.1,h0.2⟩
 ·by_cases h1:1≠p/\1≠q
  ·exact⟨1,by omega,h1.1,h1.2⟩
  ·exact⟨2,by omega,by omega,by omega⟩
end
end T
set_option linter.unusedVariables false
open Go Go.Va
namespace T
def Bc (n_:Int) (k:Int) (tuples:List (List Int)):Option ((List (List Int))×Bool):=
 (BP n_ k tuples).bind λr1=>
 if !r1 then
 some ([],false)
 else
 (Bw n_ k tuples).bind λr2=>
 some (r2.2,true)
def AU (i:Int) (t:List Int) (u:List Int) (t3:List ByteArray) (t4:List (List Int)):Option ((List ByteArray)×(List (List Int))):=
 if inb i t then
 if inb i u then
 if !(Xs t3 (YbP [i,gd t i 0,gd u i 0]))then
 if t4.length+ [t,u].length<=lim then
 some (YhI t3 (YbP [i,gd t i 0,gd u i 0]),t4++ [t,u])
 else none
 else
 some (t3,t4)
 else none
 else none
def Aa:Nat->(Int×(List (List Int))×((List ByteArray)×(List (List Int)))×Int×Int×Int×(List (List Int)))->Option (Int×(List (List Int))×((List ByteArray)×(List (List Int)))×Int×Int×(List (List Int)))
 |0,_=>none
 |n+1,(t0,t1,t2,t6,t7,t8,t9)=>
 if decide (t8<(t1.length:Int))then
 if inb t7 t1 then
 if(0:Int)<=0/\0<=t6/\t6<=((gd t1 t7 []).length:Int)then
 if inb t8 t1 then
 if(0:Int)<=0/\0<=t6/\t6<=((gd t1 t8 []).length:Int)then
 (Bu (((gd t1 t7 []).take (Int.toNat t6)).drop (Int.toNat 0)) (((gd t1 t8 []).take (Int.toNat t6)).drop (Int.toNat 0))).bind λr1=>
 if r1 then
 if t8==t7 then
 if inb t8 t1 then
 if t9.length+ [gd t1 t8 []].length<=lim then
 Aa n (t0,t1,(t2.1,t2.2),t6,t7,w64 (t8+1),t9++ [gd t1 t8 []])
 else none
 else none
 else
 if inb t8 t1 then
 if inb t6 (gd t1 t8 [])then
 if inb (w64 (t8-1)) t1 then
 if inb t6 (gd t1 (w64 (t8-1)) [])then
 if(gd (gd t1 t8 []) t6 0) !=(gd (gd t1 (w64 (t8-1)) []) t6 0)then
 if inb t8 t1 then
 if t9.length+ [gd t1 t8 []].length<=lim then
 Aa n (t0,t1,(t2.1,t2.2),t6,t7,w64 (t8+1),t9++ [gd t1 t8 []])
 else none
 else none
 else
 Aa n (t0,t1,(t2.1,t2.2),t6,t7,w64 (t8+1),t9)
 else none
 else none
 else none
 else none
 else
 some (t0,t1,(t2.1,t2.2),t6,t8,t9)
 else none
 else none
 else none
 else none
 else
 some (t0,t1,(t2.1,t2.2),t6,t8,t9)
def Ae:Nat->(Unit×Unit×Int×(List (List Int))×((List ByteArray)×(List (List Int)))×Int×Int×(List (List Int))×(List Int)×Int×Int×Int×Int)->Option (Unit×Int×(List (List Int))×((List ByteArray)×(List (List Int)))×Int×Int×(List (List Int))×Int×Int)
 |0,_=>none
 |n+1,(al74,al80,t0,t1,t2,t6,t8,t9,t11,t75,t76,t81,t82)=>
 if decide (t82<t81)then
 if inb t82 t9 then
 (AU t6 t11 (gd t9 t82 []) t2.1 t2.2).bind λr3=>
 Ae n ((),(),t0,t1,(r3.1,r3.2),t6,t8,t9,t11,t75,t76,t81,w64 (t82+1))
 else none
 else
 some ((),t0,t1,(t2.1,t2.2),t6,t8,t9,t75,t76)
def Ad:Nat->(Unit×Int×(List (List Int))×((List ByteArray)×(List (List Int)))×Int×Int×(List (List Int))×Int×Int)->Option (Int×(List (List Int))×((List ByteArray)×(List (List Int)))×Int×Int)
 |0,_=>none
 |n+1,(al74,t0,t1,t2,t6,t8,t9,t75,t76)=>
 if decide (t76<t75)then
 if inb t76 t9 then
 (Ae Af ((),(),t0,t1,(t2.1,t2.2),t6,t8,t9,gd t9 t76 [],t75,t76,(t9.length:Int),0)).bind λs3=>
 Ad n ((),s3.2.1,s3.2.2.1,(s3.2.2.2.1.1,s3.2.2.2.1.2),s3.2.2.2.2.1,s3.2.2.2.2.2.1,s3.2.2.2.2.2.2.1,s3.2.2.2.2.2.2.2.1,w64 (s3.2.2.2.2.2.2.2.2+1))
 else none
 else
 some (t0,t1,(t2.1,t2.2),t6,t8)
def Ac:Nat->(Int×(List (List Int))×((List ByteArray)×(List (List Int)))×Int×Int)->Option (Int×(List (List Int))×((List ByteArray)×(List (List Int)))×Int)
 |0,_=>none
 |n+1,(t0,t1,t2,t6,t7)=>
 if decide (t7<(t1.length:Int))then
 (Aa Af (t0,t1,(t2.1,t2.2),t6,t7,t7,[])).bind λs1=>
 (Ad Af ((),s1.1,s1.2.1,(s1.2.2.1.1,s1.2.2.1.2),s1.2.2.2.1,s1.2.2.2.2.1,s1.2.2.2.2.2,(s1.2.2.2.2.2.length:Int),0)).bind λs2=>
 Ac n (s2.1,s2.2.1,(s2.2.2.1.1,s2.2.2.1.2),s2.2.2.2.1,s2.2.2.2.2)
 else
 some (t0,t1,(t2.1,t2.2),t6)
def Ab:Nat->(Int×(List (List Int))×((List ByteArray)×(List (List Int)))×Int)->Option (((List ByteArray)×(List (List Int))))
 |0,_=>none
 |n+1,(t0,t1,t2,t6)=>
 if decide (t6<t0)then
 (Ac Af (t0,t1,(t2.1,t2.2),t6,0)).bind λs1=>
 Ab n (s1.1,s1.2.1,(s1.2.2.1.1,s1.2.2.1.2),w64 (s1.2.2.2+1))
 else
 some (t2.1,t2.2)
def Aj (t0:Int) (t1:List (List Int)) (t2:(List ByteArray)×(List (List Int))):Option (((List ByteArray)×(List (List Int)))):=
 (Ab Af (t0,t1,(t2.1,t2.2),0)).bind λs1=>
 some (s1.1,s1.2)
def AR (n_:Int) (k:Int) (tuples:List (List Int)):Option ((List (List Int))×Bool):=
 (Bi n_ k tuples).bind λr1=>
 if !r1 then
 some ([],false)
 else
 (Aj k tuples ([],[])).bind λr2=>
 (A7 r2.2).bind λr3=>
 (Bl r3).bind λr4=>
 some (r4,true)
def AX (t0:Int) (t1:Int) (t2:List (List Int)):Option (Bool):=
 (By t2 1048576).bind λr1=>
 if decide (r1<0)then
 some true
 else
 (AT t2).bind λr2=>
 (Bc t0 t1 r2).bind λr3=>
 (AT t2).bind λr4=>
 (AR t0 t1 r4).bind λr5=>
 (AS r5.1 r3.1).bind λr6=>
 if !r6 then
 some false
 else
 if r5.2 !=r3.2 then
 some false
 else
 (AT t2).bind λr7=>
 (AS r4 r7).bind λr8=>
 if !r8 then
 some false
 else
 (A9 r4 1).bind λr9=>
 if decide (r9.2<0)then
 some false
 else
 (AS r5.1 r3.1).bind λr10=>
 if !r10 then
 some false
 else
 if r5.2 !=r3.2 then
 some false
 else
 (A9 r5.1 1).bind λr11=>
 (A8 r11.1 1).bind λr12=>
 if decide (r12<0)then
 some false
 else
 if r12 !=r11.2 then
 some false
 else
 (AT t2).bind λr13=>
 (AR t0 t1 r13).bind λr14=>
 (AS r14.1 r3.1).bind λr15=>
 if !r15 then
 some false
 else
 if r14.2 !=r3.2 then
 some false
 else
 (A8 r11.1 1).bind λr16=>
 if decide (r16<0)then
 some false
 else
 if r16 !=r11.2 then
 some false
 else
 some true
end T
open Go Go.Va
namespace T
section
variable {n:Int} {k:Nat} {ts:List (List Int)}
abbrev WSt:=List ByteArray×List (List Int)
def B4 (i:Nat) (t u:List Int):ByteArray:=YbP [(i:Int),t.getD i 0,u.getD i 0]
def stW (i:Nat) (t u:List Int) (s:WSt):WSt:=if Xs s.1 (B4 i t u)then s else(YhI s.1 (B4 i t u),s.2++ [t,u])
theorem D2 {i:Nat} {t u:List Int} {s:WSt}:(stW i t u s).2.length<=s.2.length+2:=by
 unfold stW;split
 ·omega
 ·simp
theorem Ek {i:Nat} {t u:List Int} {s:WSt} (ht:i<t.length) (hu:i<u.length) (ho:s.2.length<=1000000000):AU (i:Int) t u s.1 s.2=some (stW i t u s):=by
 unfold AU stW B4
 rw[if_pos (Ah.2 ht),if_pos (Ah.2 hu)]
 rw[show gd t (i:Int) 0=t.getD i 0 from DT,show gd u (i:Int) 0=u.getD i 0 from DT]
 generalize Xs s.1 (YbP [(i:Int),t.getD i 0,u.getD i 0])=b
 cases b with
 |true=>simp
 |false=>
  simp only[Bool.not_false,if_true,Bool.false_eq_true,if_false]
  rw[if_pos (by simp;unfold lim;omega)]
def B6 (i:Nat) (t:List Int) (fs:List (List Int)) (s:WSt):WSt:=fs.foldl (λs u=>stW i t u s) s
theorem Cv {i:Nat} {t:List Int}: ∀(fs:List (List Int)) (s:WSt),(B6 i t fs s).2.length<=s.2.length+2*fs.length
 | [],s=>by simp[B6]
 |u::fs,s=>by
  have h1:=Cv (i:=i) (t:=t) fs (stW i t u s)
  have h2:=D2 (i:=i) (t:=t) (u:=u) (s:=s)
  unfold B6 at h1⊢
  rw[List.foldl_cons,List.length_cons];omega
def B7 (i:Nat) (gs fs:List (List Int)) (s:WSt):WSt:=gs.foldl (λs t=>B6 i t fs s) s
theorem Cn {i:Nat} {fs:List (List Int)}: ∀(gs:List (List Int)) (s:WSt),(B7 i gs fs s).2.length<=s.2.length+gs.length*(2*fs.length)
 | [],s=>by simp[B7]
 |t::gs,s=>by
  have h1:=Cn (i:=i) (fs:=fs) gs (B6 i t fs s)
  have h2:=Cv (i:=i) (t:=t) fs s
  unfold B7 at h1⊢
  rw[List.foldl_cons,List.length_cons,Nat.succ_mul];omega
theorem D7 {i:Nat} {t0:Int} {fs:List (List Int)} {t:List Int} (ht:i<t.length) (hfs: ∀u∈fs,i<u.length) (hl:fs.length<=4096) (s:WSt) (ho:s.2.length<=900000000) (t8 t75 t76:Int):
  Ae Af ((),(),t0,ts,s,(i:Int),t8,fs,t,t75,t76,(fs.length:Int),0)=some ((),t0,ts,B6 i t fs s,(i:Int),t8,fs,t75,t76):=by
 have:=DO fs.length (λf (o:WSt) v=>Ae f ((),(),t0,ts,o,(i:Int),t8,fs,t,t75,t76,(fs.length:Int),v)) (λc=>B6 i t (fs.take c) s) (r:=some ((),t0,ts,B6 i t fs s,(i:Int),t8,fs,t75,t76)) (λf c hc=>?_) (λf=>?_) (n:=Af) (by unfold Af;omega)
 ·exact this
 ·have hcl:(B6 i t (fs.take c) s).2.length<=1000000000:=by
   have:=Cv (i:=i) (t:=t) (fs.take c) s
   rw[List.length_take]at this;omega
  have hu:=hfs _ (List.getElem_mem hc)
  have e:=Ek (i:=i) ht hu hcl
  have e2:B6 i t (fs.take (c+1)) s=stW i t fs[c] (B6 i t (fs.take c) s):=by
   unfold B6
   rw[List.take_succ_eq_append_getElem hc,List.foldl_append];rfl
  simp only[Ae,Ah,hc,Ao hc,if_true,e,Option.bind_some,Ag (show c<4611686018427387904 by omega),e2]
  rw[if_pos (by simp;omega)]
 ·simp only[Ae,List.take_length]
  rw[if_neg (by simp)]
theorem D6 {i:Nat} {t0:Int} {fs:List (List Int)} (hfs: ∀u∈fs,i<u.length) (hl:fs.length<=4096) (s:WSt) (ho:s.2.length<=800000000) (t8:Int):
  Ad Af ((),t0,ts,s,(i:Int),t8,fs,(fs.length:Int),0)=some (t0,ts,B7 i fs fs s,(i:Int),t8):=by
 have:=DO fs.length (λf (o:WSt) v=>Ad f ((),t0,ts,o,(i:Int),t8,fs,(fs.length:Int),v)) (λc=>B7 i (fs.take c) fs s) (r:=some (t0,ts,B7 i fs fs s,(i:Int),t8)) (λf c hc=>?_) (λf=>?_) (n:=Af) (by unfold Af;omega)
 ·exact this
 ·have hcl:(B7 i (fs.take c) fs s).2.length<=900000000:=by
   have:=Cn (i:=i) (fs:=fs) (fs.take c) s
   rw[List.length_take]at this
   have:min c fs.length*(2*fs.length)<=4096*(2*4096):=Nat.mul_le_mul (by omega) (by omega)
   omega
  have hu:=hfs _ (List.getElem_mem hc)
  have e:=D7 (ts:=ts) (t0:=t0) hu hfs hl _ hcl t8 (fs.length:Int) (c:Int)
  have e2:B7 i (fs.take (c+1)) fs s=B6 i fs[c] fs (B7 i (fs.take c) fs s):=by
   unfold B7
   rw[List.take_succ_eq_append_getElem hc,List.foldl_append];rfl
  simp only[Ad,Ah,hc,Ao hc,if_true,e,Option.bind_some,Ag (show c<4611686018427387904 by omega),e2]
  rw[if_pos (by simp;omega)]
 ·simp only[Ad,List.take_length]
  rw[if_neg (by simp)]
structure PairsW (i:Nat) (s:WSt) (P:List Int->List Int->Prop) (s':WSt):Prop where
 key: ∀κ,κ∈s'.1↔κ∈s.1∨ ∃t u,P t u/\κ=B4 i t u
 mem: ∀w,w∈s'.2↔w∈s.2∨ ∃t u,P t u/\B4 i t u∉s.1/\(w=t∨w=u)
theorem Dp {i:Nat} {s s':WSt} {P:List Int->List Int->Prop} {t u:List Int} (h:PairsW i s P s') (hd: ∀t' u',P t' u'->B4 i t' u'=B4 i t u->t'=t/\u'=u):PairsW i s (λt' u'=>P t' u'∨(t'=t/\u'=u)) (stW i t u s'):=by
 unfold stW
 by_cases hm:B4 i t u∈s'.1
 ·rw[if_pos (Ct.2 hm)]
  refine⟨fun κ=>?_,λw=>?_⟩
  ·rw[h.key]
   constructor
   ·rintro (h1|⟨t',u',h1,h2⟩)
    ·exact .inl h1
    ·exact .inr ⟨t',u',.inl h1,h2⟩
   ·rintro (h1|⟨t',u',h1|⟨rfl,rfl⟩,h2⟩)
    ·exact .inl h1
    ·exact .inr ⟨t',u',h1,h2⟩
    ·subst h2;exact(h.key _).1 hm
  ·rw[h.mem]
   constructor
   ·rintro (h1|⟨t',u',h1,h2⟩)
    ·exact .inl h1
    ·exact .inr ⟨t',u',.inl h1,h2⟩
   ·rintro (h1|⟨t',u',h1|⟨rfl,rfl⟩,h2,h3⟩)
    ·exact .inl h1
    ·exact .inr ⟨t',u',h1,h2,h3⟩
    ·rcases(h.key _).1 hm with h4|⟨t2,u2,h4,h5⟩
     ·exact absurd h4 h2
     ·obtain⟨rfl,rfl⟩:=hd t2 u2 h4 h5.symm
      exact .inr ⟨t2,u2,h4,h2,h3⟩
 ·rw[if_neg (λe=>hm (Ct.1 e))]
  have hs:B4 i t u∉s.1:=λe=>hm ((h.key _).2 (.inl e))
  refine⟨fun κ=>?_,λw=>?_⟩
  ·rw[DB,h.key]
   constructor
   ·rintro ((h1|⟨t',u',h1,h2⟩)|rfl)
    ·exact .inl h1
    ·exact .inr ⟨t',u',.inl h1,h2⟩
    ·exact .inr ⟨t,u,.inr ⟨rfl,rfl⟩,rfl⟩
   ·rintro (h1|⟨t',u',h1|⟨rfl,rfl⟩,h2⟩)
    ·exact .inl (.inl h1)
    ·exact .inl (.inr ⟨t',u',h1,h2⟩)
    ·exact .inr h2
  ·rw[List.mem_append,h.mem]
   simp only[List.mem_cons,List.not_mem_nil,or_false]
   constructor
   ·rintro ((h1|⟨t',u',h1,h2⟩)|h1)
    ·exact .inl h1
    ·exact .inr ⟨t',u',.inl h1,h2⟩
    ·exact .inr ⟨t,u,.inr ⟨rfl,rfl⟩,hs,h1⟩
   ·rintro (h1|⟨t',u',h1|⟨rfl,rfl⟩,h2,h3⟩)
    ·exact .inl (.inl h1)
    ·exact .inl (.inr ⟨t',u',h1,h2,h3⟩)
    ·exact .inr h3
theorem PairsW.congr {i:Nat} {s s':WSt} {P Q:List Int->List Int->Prop} (h:PairsW i s P s') (e: ∀t u,P t u↔Q t u):PairsW i s Q s':=by
 have:P=Q:=funext λt=>funext λu=>propext (e t u)
 exact this▸h
theorem Dx {i:Nat} {t u t' u':List Int} (h:B4 i t u=B4 i t' u'):t.getD i 0=t'.getD i 0/\u.getD i 0=u'.getD i 0:=by
 have:=Yem h
 simp only[List.cons.injEq,and_true,true_and]at this
 exact this
theorem DU {i:Nat} {fs:List (List Int)} (hd: ∀r∈fs,∀r'∈fs,r.getD i 0=r'.getD i 0->r=r') (s:WSt):PairsW i s (λt u=>t∈fs/\u∈fs) (B7 i fs fs s):=by
 have row: ∀(t:List Int),t∈fs-> ∀(l:List (List Int)),(∀u∈l,u∈fs)-> ∀(P:List Int->List Int->Prop) (s':WSt),(∀t u,P t u->t∈fs/\u∈fs)->PairsW i s P s'->PairsW i s (λt' u'=>P t' u'∨(t'=t/\u'∈l)) (B6 i t l s'):=by
  intro t ht l
  induction l with
  |nil=>
   intro _ P s' _ h
   exact h.congr λt' u'=>by simp
  |cons u l ih=>
   intro hl P s' hP h
   have hu:=hl u (List.mem_cons_self ..)
   have h1:=Dp (t:=t) (u:=u) h λt' u' hp hk=>by
    obtain⟨e1,e2⟩:=Dx hk
    obtain⟨m1,m2⟩:=hP t' u' hp
    exact⟨hd _ m1 _ ht e1,hd _ m2 _ hu e2⟩
   have h2:=ih (λu hu=>hl u (List.mem_cons_of_mem _ hu)) _ _ (λt' u' hp=>by
    rcases hp with hp|⟨rfl,rfl⟩
    ·exact hP _ _ hp
    ·exact⟨ht,hu⟩) h1
   refine h2.congr λt' u'=>?_
   simp only[List.mem_cons]
   constructor
   ·rintro ((a|⟨a,b⟩)|⟨a,b⟩)
    ·exact .inl a
    ·exact .inr ⟨a,.inl b⟩
    ·exact .inr ⟨a,.inr b⟩
   ·rintro (a|⟨a,b|b⟩)
    ·exact .inl (.inl a)
    ·exact .inl (.inr ⟨a,b⟩)
    ·exact .inr ⟨a,b⟩
 have all: ∀(l:List (List Int)),(∀t∈l,t∈fs)-> ∀(P:List Int->List Int->Prop) (s':WSt),(∀t u,P t u->t∈fs/\u∈fs)->PairsW i s P s'->PairsW i s (λt' u'=>P t' u'∨(t'∈l/\u'∈fs)) (B7 i l fs s'):=by
  intro l
  induction l with
  |nil=>
   intro _ P s' _ h
   exact h.congr λt' u'=>by simp
  |cons t l ih=>
   intro hl P s' hP h
   have ht:=hl t (List.mem_cons_self ..)
   have h1:=row t ht fs (λ_ h=>h) P s' hP h
   have h2:=ih (λu hu=>hl u (List.mem_cons_of_mem _ hu)) _ _ (λt' u' hp=>by
    rcases hp with hp|⟨rfl,hu⟩
    ·exact hP _ _ hp
    ·exact⟨ht,hu⟩) h1
   refine h2.congr λt' u'=>?_
   simp only[List.mem_cons]
   constructor
   ·rintro ((a|⟨a,b⟩)|⟨a,b⟩)
    ·exact .inl a
    ·exact .inr ⟨.inl a,b⟩
    ·exact .inr ⟨.inr a,b⟩
   ·rintro (a|⟨a|a,b⟩)
    ·exact .inl (.inl a)
    ·exact .inl (.inr ⟨a,b⟩)
    ·exact .inr ⟨a,b⟩
 have:=all fs (λ_ h=>h) (λ_ _=>False) s (λ_ _ h=>h.elim) ⟨fun κ=>by simp,λw=>by simp⟩
 exact this.congr λt u=>by simp
end
end T
open Go Go.Va
namespace T
section
variable {n:Int} {k:Nat} {ts:List (List Int)}
def Di (ts:List (List Int)) (i a b:Nat) (fs:List (List Int)):Prop:=(∀r∈fs,∃j,a<=j/\j<b/\r=ts.getD j []/\ ∀j',a<=j'->j'<j->Ar ts i j'≠Ar ts i j)/\(∀j,a<=j->j<b-> ∃r∈fs,r.getD i 0=Ar ts i j)/\fs.length<=b-a
theorem CV (h:TupS n k ts) {i a b:Nat} (hi:i<k) (ha:a<ts.length) (hb:b<ts.length):Al ts (i+1) a=Al ts (i+1) b↔Al ts i a=Al ts i b/\Ar ts i a=Ar ts i b:=by
 have la:=h.lenj ha
 have lb:=h.lenj hb
 unfold Al Ar
 rw[List.take_succ_eq_append_getElem (show i<(ts.getD a []).length by omega),List.take_succ_eq_append_getElem (show i<(ts.getD b []).length by omega),Be (show i<(ts.getD a []).length by omega),Be (show i<(ts.getD b []).length by omega)]
 constructor
 ·intro e
  have:=List.append_inj' e rfl
  exact⟨this.1,by simpa using this.2⟩
 ·rintro ⟨e1,e2⟩
  rw[e1,e2]
theorem DX (h:TupS n k ts) {i a b:Nat} (hi:i<k) (hb:b<ts.length) (hp: ∀j,a<=j->j<b+1->Al ts i j=Al ts i a) (hv:a<b->Ar ts i b≠Ar ts i (b-1)): ∀j',a<=j'->j'<b->Ar ts i j'≠Ar ts i b:=by
 intro j' h1 h2 e
 have hpe:Al ts i j'=Al ts i b:=(hp j' h1 (by omega)).trans (hp b (by omega) (by omega)).symm
 have h3:=(CV h hi (by omega) hb).2 ⟨hpe,e⟩
 have h4:=h.conv (show j'<=b-1 by omega) (show b-1<=b by omega) hb h3
 have h5:=(CV h hi (show b-1<ts.length by omega) (show j'<ts.length by omega)).1 h4
 exact hv (by omega) (e.symm.trans h5.2.symm)
theorem Ej (h:TupS n k ts) {i:Nat} (hi:i<k) {a:Nat} (ha:a<ts.length) (t2:WSt): ∀(d f b:Nat) (fs:List (List Int)),b+d=ts.length->d<f->a<=b->(∀j,a<=j->j<b->Al ts i j=Al ts i a)->Di ts i a b fs->
  ∃(b':Nat) (fs':List (List Int)),Aa f ((k:Int),ts,t2,(i:Int),(a:Int),(b:Int),fs)=some ((k:Int),ts,t2,(i:Int),(b':Int),fs')/\b<=b'/\b'<=ts.length/\(∀j,a<=j->j<b'->Al ts i j=Al ts i a)/\(b'<ts.length->Al ts i b'≠Al ts i a)/\Di ts i a b' fs':=by
 have hc:=h.count
 have hlim:lim=1099511627776:=rfl
 intro d
 induction d with
 |zero=>
  intro f b fs hb hf hab hp hF
  obtain⟨f,rfl⟩: ∃z,f=z+1:=⟨f-1,by omega⟩
  refine⟨b,fs,?_,Nat.le_refl _,by omega,hp,λhh=>by omega,hF⟩
  simp only[Aa]
  rw[if_neg (by simp;omega)]
 |succ d ih=>
  intro f b fs hb hf hab hp hF
  obtain⟨f,rfl⟩: ∃z,f=z+1:=⟨f-1,by omega⟩
  have hbl:b<ts.length:=by omega
  have la:=h.lenj ha
  have lb:=h.lenj hbl
  have ga:gd ts (a:Int) []=ts.getD a []:=by unfold gd;simp
  have gb:gd ts (b:Int) []=ts.getD b []:=by unfold gd;simp
  have hs:=B8 (x:=(ts.getD a []).take i) (y:=(ts.getD b []).take i) (by have:=h.hk;rw[List.length_take];omega)
  have e0:(Aa (f+1) ((k:Int),ts,t2,(i:Int),(a:Int),(b:Int),fs))=if Al ts i a=Al ts i b then(if(b:Int)==(a:Int)then Aa f ((k:Int),ts,t2,(i:Int),(a:Int),((b+1:Nat):Int),fs++ [ts.getD b []])else if Ar ts i b !=Ar ts i (b-1)then Aa f ((k:Int),ts,t2,(i:Int),(a:Int),((b+1:Nat):Int),fs++ [ts.getD b []])else Aa f ((k:Int),ts,t2,(i:Int),(a:Int),((b+1:Nat):Int),fs))else some ((k:Int),ts,t2,(i:Int),(b:Int),fs):=by
   have hFl:=hF.2.2
   simp only[Aa,Ah,ha,hbl,if_true,ga,gb,Ea,hs,Option.bind_some,Ag (show b<4611686018427387904 by omega)]
   rw[if_pos (by simp;omega),if_pos (by omega),if_pos (by omega)]
   unfold Al
   by_cases hpe:(ts.getD a []).take i=(ts.getD b []).take i
   ·rw[if_pos (by simpa using hpe),if_pos hpe]
    by_cases hba:(b:Int)==(a:Int)
    ·rw[if_pos hba,if_pos hba,if_pos (by simp;omega)]
    ·rw[if_neg hba,if_neg hba]
     have hb0:0<b:=by simp at hba;omega
     have hb1:b-1<ts.length:=by omega
     have lb1:=h.lenj hb1
     have gb1:gd ts ((b-1:Nat):Int) []=ts.getD (b-1) []:=by unfold gd;simp
     have q1:i<(ts.getD b []).length:=by omega
     have q2:i<(ts.getD (b-1) []).length:=by omega
     simp only[CB (show b<4611686018427387904 by omega) hb0,Ah,hb1,gb1,q1,q2,if_true,DT]
     unfold Ar
     by_cases hv:(ts.getD b []).getD i 0=(ts.getD (b-1) []).getD i 0
     ·rw[if_neg (by simp only[hv];simp),if_neg (by simp only[hv];simp)]
     ·rw[if_pos (by simpa using hv),if_pos (by simp;omega),if_pos (by simpa using hv)]
   ·rw[if_neg (by simpa using hpe),if_neg hpe]
  rw[e0]
  by_cases hpe:Al ts i a=Al ts i b
  ·rw[if_pos hpe]
   have hp': ∀j,a<=j->j<b+1->Al ts i j=Al ts i a:=λj h1 h2=>by
    rcases Nat.lt_or_ge j b with hlt|hge
    ·exact hp j h1 hlt
    ·have:j=b:=by omega
     rw[this,hpe]
   have add:(a<b->Ar ts i b≠Ar ts i (b-1))->Di ts i a (b+1) (fs++ [ts.getD b []]):=λhnew=>by
    refine⟨λr hr=>?_,λj h1 h2=>?_,?_⟩
    ·rcases List.mem_append.1 hr with hr|hr
     ·obtain⟨j,q1,q2,q3⟩:=hF.1 r hr
      exact⟨j,q1,by omega,q3⟩
     ·exact⟨b,hab,by omega,List.mem_singleton.1 hr,DX h hi hbl hp' hnew⟩
    ·rcases Nat.lt_or_ge j b with hlt|hge
     ·obtain⟨r,q1,q2⟩:=hF.2.1 j h1 hlt
      exact⟨r,List.mem_append_left _ q1,q2⟩
     ·have:j=b:=by omega
      subst this
      exact⟨_,List.mem_append_right _ (List.mem_singleton.2 rfl),rfl⟩
    ·have:=hF.2.2
     rw[List.length_append,List.length_singleton];omega
   have nx: ∀fs',Di ts i a (b+1) fs'-> ∃(b':Nat) (fs'':List (List Int)),Aa f ((k:Int),ts,t2,(i:Int),(a:Int),((b+1:Nat):Int),fs')=some ((k:Int),ts,t2,(i:Int),(b':Int),fs'')/\b<=b'/\b'<=ts.length/\(∀j,a<=j->j<b'->Al ts i j=Al ts i a)/\(b'<ts.length->Al ts i b'≠Al ts i a)/\Di ts i a b' fs'':=λfs' hF'=>by
    obtain⟨b',fs'',q1,q2,q3⟩:=ih f (b+1) fs' (by omega) (by omega) (by omega) hp' hF'
    exact⟨b',fs'',q1,by omega,q3⟩
   by_cases hba:(b:Int)==(a:Int)
   ·rw[if_pos hba];exact nx _ (add λh=>by simp at hba;omega)
   ·rw[if_neg hba]
    by_cases hv:Ar ts i b=Ar ts i (b-1)
    ·rw[if_neg (by simp[hv])]
     have hb0:a<b:=by simp at hba;omega
     refine nx _ ⟨λr hr=>?_,λj h1 h2=>?_,?_⟩
     ·obtain⟨j,q1,q2,q3⟩:=hF.1 r hr
      exact⟨j,q1,by omega,q3⟩
     ·rcases Nat.lt_or_ge j b with hlt|hge
      ·exact hF.2.1 j h1 hlt
      ·have:j=b:=by omega
       subst this
       rw[hv]
       exact hF.2.1 (j-1) (by omega) (by omega)
     ·have:=hF.2.2;omega
    ·rw[if_pos (by simpa using hv)];exact nx _ (add λ_=>hv)
  ·rw[if_neg hpe]
   exact⟨b,fs,rfl,Nat.le_refl _,by omega,hp,λ_ e=>hpe e.symm,hF⟩
theorem Cu {p:Nat->Bool} {N a:Nat} (h:(List.range N).find? p=some a):a<N/\p a=true/\ ∀b,b<a->p b=false:=by
 refine⟨List.mem_range.1 (List.mem_of_find?_eq_some h),List.find?_some h,λb hb=>?_⟩
 rw[List.find?_range_eq_some]at h
 have:=h.2.2 b hb
 simpa using this
theorem CH {i:Nat} {x y:Int} {p q:Nat}:Ba ts i x y=some (p,q)↔p<ts.length/\q<ts.length/\Ar ts i p=x/\Ar ts i q=y/\Al ts i p=Al ts i q/\
  (∀p' q',p'<ts.length->q'<ts.length->Ar ts i p'=x->Ar ts i q'=y->Al ts i p'=Al ts i q'->p<=p')/\(∀q',q'<ts.length->Ar ts i q'=y->Al ts i p=Al ts i q'->q<=q'):=by
 have cb: ∀a b,Cc ts i x y a b=true↔Ar ts i a=x/\Ar ts i b=y/\Al ts i a=Al ts i b:=λa b=>by
  unfold Cc;simp only[Bool.and_eq_true,beq_iff_eq,decide_eq_true_eq]
 have fwd: ∀ {p q},Ba ts i x y=some (p,q)->p<ts.length/\q<ts.length/\Ar ts i p=x/\Ar ts i q=y/\Al ts i p=Al ts i q/\
  (∀p' q',p'<ts.length->q'<ts.length->Ar ts i p'=x->Ar ts i q'=y->Al ts i p'=Al ts i q'->p<=p')/\(∀q',q'<ts.length->Ar ts i q'=y->Al ts i p=Al ts i q'->q<=q'):=fun {p q} h=>by
  obtain⟨h1,h2,h3,h4,h5⟩:=AO h
  unfold Ba at h
  rw[List.findSome?_eq_some_iff]at h
  obtain⟨l1,a,l2,hl,ha,hn⟩:=h
  obtain⟨b,hb,hab⟩:=Option.map_eq_some_iff.1 ha
  obtain⟨rfl,rfl⟩:=Prod.mk.inj hab
  obtain⟨g1,g2,g3⟩:=Cu hb
  refine⟨h1,h2,h3,h4,h5,λp' q' hp hq e1 e2 e3=>?_,λq' hq e1 e2=>?_⟩
  ·rcases Nat.lt_or_ge p' a with hlt|hge
   ·have hm:p'∈l1:=by
     have hr:(List.range ts.length).Pairwise (· < ·):=List.pairwise_lt_range
     rw[hl]at hr
     have hp':p'∈List.range ts.length:=List.mem_range.2 hp
     rw[hl,List.mem_append,List.mem_cons]at hp'
     rcases hp' with h|h|h
     ·exact h
     ·omega
     ·rw[List.pairwise_append]at hr
      have:=(List.pairwise_cons.1 hr.2.1).1 p' h
      omega
    have hnone:=hn p' hm
    rw[Option.map_eq_none_iff]at hnone
    unfold bO at hnone
    rw[List.find?_eq_none]at hnone
    exact absurd ((cb p' q').2 ⟨e1,e2,e3⟩) (hnone q' (List.mem_range.2 hq))
   ·exact hge
  ·rcases Nat.lt_or_ge q' b with hlt|hge
   ·have:=g3 q' hlt
    rw[(cb a q').2 ⟨h3,e1,e2⟩]at this;cases this
   ·exact hge
 refine⟨fwd,λ⟨h1,h2,h3,h4,h5,h6,h7⟩=>?_⟩
 cases hp:Ba ts i x y with
 |none=>exact(C3 hp h1 h2 h3 h4 h5).elim
 |some r=>
  obtain⟨p',q'⟩:=r
  obtain⟨g1,g2,g3,g4,g5,g6,g7⟩:=fwd hp
  have e1:p'=p:=Nat.le_antisymm (g6 p q h1 h2 h3 h4 h5) (h6 p' q' g1 g2 g3 g4 g5)
  subst e1
  have e2:q'=q:=Nat.le_antisymm (g7 q h2 h4 h5) (h7 q' g2 g4 g5)
  rw[e2]
def WB (i a i' p q:Nat):Prop:=i'<i∨(i'=i/\p<a/\q<a)
structure WInv (ts:List (List Int)) (i a:Nat) (s:WSt):Prop where
 key: ∀(i':Nat) (x y:Int),YbP [(i':Int),x,y]∈s.1↔ ∃p q,p<ts.length/\q<ts.length/\Ar ts i' p=x/\Ar ts i' q=y/\Al ts i' p=Al ts i' q/\WB i a i' p q
 mem: ∀w,w∈s.2↔ ∃(i':Nat) (x y:Int) (p q:Nat),Ba ts i' x y=some (p,q)/\WB i a i' p q/\(w=ts.getD p []∨w=ts.getD q [])
theorem WInv.next {i:Nat} {s:WSt} (h:WInv ts i ts.length s):WInv ts (i+1) 0 s:=by
 have e: ∀i' p q,p<ts.length->q<ts.length->(WB i ts.length i' p q↔WB (i+1) 0 i' p q):=λi' p q h1 h2=>by unfold WB;omega
 refine⟨λi' x y=>(h.key i' x y).trans ⟨?_,?_⟩,λw=>(h.mem w).trans ⟨?_,?_⟩⟩
 ·rintro ⟨p,q,h1,h2,h3,h4,h5,h6⟩;exact⟨p,q,h1,h2,h3,h4,h5,(e i' p q h1 h2).1 h6⟩
 ·rintro ⟨p,q,h1,h2,h3,h4,h5,h6⟩;exact⟨p,q,h1,h2,h3,h4,h5,(e i' p q h1 h2).2 h6⟩
 ·rintro ⟨i',x,y,p,q,h1,h2,h3⟩
  have:=AO h1
  exact⟨i',x,y,p,q,h1,(e i' p q this.1 this.2.1).1 h2,h3⟩
 ·rintro ⟨i',x,y,p,q,h1,h2,h3⟩
  have:=AO h1
  exact⟨i',x,y,p,q,h1,(e i' p q this.1 this.2.1).2 h2,h3⟩
theorem WInv.group (h:TupS n k ts) {i a b:Nat} (hab:a<b) (hb:b<=ts.length) (hp: ∀j,a<=j->j<b->Al ts i j=Al ts i a) (hq:b<ts.length->Al ts i b≠Al ts i a) (h0:0<a->Al ts i (a-1)≠Al ts i a)
  {fs:List (List Int)} (hF:Di ts i a b fs) {s s':WSt} (hs:WInv ts i a s) (hP:PairsW i s (λt u=>t∈fs/\u∈fs) s'):WInv ts i b s':=by
 have inG: ∀j l,a<=j->j<b->l<ts.length->Al ts i j=Al ts i l->a<=l/\l<b:=λj l h1 h2 h3 h4=>by
  constructor
  ·rcases Nat.lt_or_ge l a with hlt|hge
   ·exfalso
    have h5:=h.conv (i:=i) (show l<=a-1 by omega) (show a-1<=j by omega) (by omega) h4.symm
    exact h0 (by omega) (h5.trans (h4.symm.trans (hp j h1 h2)))
   ·exact hge
  ·rcases Nat.lt_or_ge l b with hlt|hge
   ·exact hlt
   ·exfalso
    have h5:=h.conv (i:=i) (show j<=b by omega) hge h3 h4
    exact hq (by omega) (h5.trans (hp j h1 h2))
 have valg: ∀j,(ts.getD j []).getD i 0=Ar ts i j:=λj=>rfl
 refine⟨λi' x y=>?_,λw=>?_⟩
 ·rw[hP.key,hs.key]
  constructor
  ·rintro (⟨p,q,h1,h2,h3,h4,h5,h6⟩|⟨t,u,⟨ht,hu⟩,hk⟩)
   ·exact⟨p,q,h1,h2,h3,h4,h5,by unfold WB at h6⊢;omega⟩
   ·obtain⟨j,j1,j2,rfl,_⟩:=hF.1 t ht
    obtain⟨l,l1,l2,rfl,_⟩:=hF.1 u hu
    have hk:=Yem hk
    simp only[List.cons.injEq,and_true]at hk
    obtain⟨k1,rfl,rfl⟩:=hk
    have:i'=i:=by omega
    subst this
    exact⟨j,l,by omega,by omega,rfl,rfl,(hp j j1 j2).trans (hp l l1 l2).symm,.inr ⟨rfl,j2,l2⟩⟩
  ·rintro ⟨p,q,h1,h2,h3,h4,h5,h6⟩
   rcases h6 with h6|⟨rfl,h6,h7⟩
   ·exact .inl ⟨p,q,h1,h2,h3,h4,h5,.inl h6⟩
   ·rcases Nat.lt_or_ge p a with hlt|hge
    ·rcases Nat.lt_or_ge q a with hlt'|hge'
     ·exact .inl ⟨p,q,h1,h2,h3,h4,h5,.inr ⟨rfl,hlt,hlt'⟩⟩
     ·have:=(inG q p hge' h7 h1 h5.symm).1;omega
    ·have hq':=(inG p q hge h6 h2 h5).1
     obtain⟨t,ht,et⟩:=hF.2.1 p hge h6
     obtain⟨u,hu,eu⟩:=hF.2.1 q hq' h7
     refine .inr ⟨t,u,⟨ht,hu⟩,?_⟩
     unfold B4
     rw[et,eu,h3,h4]
 ·rw[hP.mem,hs.mem]
  constructor
  ·rintro (⟨i',x,y,p,q,h1,h2,h3⟩|⟨t,u,⟨ht,hu⟩,hk,hw⟩)
   ·exact⟨i',x,y,p,q,h1,by unfold WB at h2⊢;omega,h3⟩
   ·obtain⟨j,j1,j2,rfl,j3⟩:=hF.1 t ht
    obtain⟨l,l1,l2,rfl,l3⟩:=hF.1 u hu
    refine⟨i,Ar ts i j,Ar ts i l,j,l,CH.2 ⟨by omega,by omega,rfl,rfl,(hp j j1 j2).trans (hp l l1 l2).symm,λp' q' e1 e2 e3 e4 e5=>?_,λq' e1 e2 e3=>?_⟩,.inr ⟨rfl,j2,l2⟩,hw⟩
    ·rcases Nat.lt_or_ge p' a with hlt|hge
     ·exfalso
      rcases Nat.lt_or_ge q' a with hlt'|hge'
      ·refine hk ?_
       unfold B4
       rw[hs.key]
       exact⟨p',q',e1,e2,e3,e4,e5,.inr ⟨rfl,hlt,hlt'⟩⟩
      ·rcases Nat.lt_or_ge q' b with hlt2|hge2
       ·have:=(inG q' p' hge' hlt2 e1 e5.symm).1;omega
       ·have h5:=h.conv (i:=i) (show p'<=a-1 by omega) (show a-1<=q' by omega) e2 e5
        have h6:=h.conv (i:=i) (show p'<=a by omega) (show a<=q' by omega) e2 e5
        exact h0 (by omega) (h5.trans h6.symm)
     ·rcases Nat.lt_or_ge p' j with hlt|hge2
      ·exact absurd e3 (j3 p' hge hlt)
      ·exact hge2
    ·obtain⟨g1,g2⟩:=inG j q' j1 j2 e1 e3
     rcases Nat.lt_or_ge q' l with hlt|hge2
     ·exact absurd e2 (l3 q' g1 hlt)
     ·exact hge2
  ·rintro ⟨i',x,y,p,q,h1,h2,h3⟩
   rcases h2 with h2|⟨rfl,h6,h7⟩
   ·exact .inl ⟨i',x,y,p,q,h1,.inl h2,h3⟩
   ·obtain⟨g1,g2,g3,g4,g5,g6,g7⟩:=CH.1 h1
    rcases Nat.lt_or_ge p a with hlt|hge
    ·rcases Nat.lt_or_ge q a with hlt'|hge'
     ·exact .inl ⟨i',x,y,p,q,h1,.inr ⟨rfl,hlt,hlt'⟩,h3⟩
     ·have:=(inG q p hge' h7 g1 g5.symm).1;omega
    ·have hq':=(inG p q hge h6 g2 g5).1
     obtain⟨t,ht,et⟩:=hF.2.1 p hge h6
     obtain⟨u,hu,eu⟩:=hF.2.1 q hq' h7
     obtain⟨j,j1,j2,rfl,j3⟩:=hF.1 t ht
     obtain⟨l,l1,l2,rfl,l3⟩:=hF.1 u hu
     have et:Ar ts i' j=Ar ts i' p:=et
     have eu:Ar ts i' l=Ar ts i' q:=eu
     have ej:j=p:=by
      have a1:=g6 j q (by omega) g2 (et.trans g3) g4 ((hp j j1 j2).trans (hp q hq' h7).symm)
      rcases Nat.lt_or_ge p j with hlt|hge2
      ·exact absurd et.symm (j3 p hge hlt)
      ·omega
     have el:l=q:=by
      have a1:=g7 l (by omega) (eu.trans g4) ((hp p hge h6).trans (hp l l1 l2).symm)
      rcases Nat.lt_or_ge q l with hlt|hge2
      ·exact absurd eu.symm (l3 q hq' hlt)
      ·omega
     subst ej
     subst el
     refine .inr ⟨_,_,⟨ht,hu⟩,λhk=>?_,h3⟩
     unfold B4 at hk
     rw[hs.key]at hk
     obtain⟨p',q',e1,e2,e3,e4,e5,e6⟩:=hk
     have e3:Ar ts i' p'=Ar ts i' j:=e3
     have e4:Ar ts i' q'=Ar ts i' l:=e4
     have:=g6 p' q' e1 e2 (e3.trans g3) (e4.trans g4) e5
     unfold WB at e6
     omega
theorem Ei (h:TupS n k ts) {i:Nat} (hi:i<k): ∀(d f a:Nat) (s:WSt),a+d=ts.length->d<f->(0<a->a<ts.length->Al ts i (a-1)≠Al ts i a)->WInv ts i a s->s.2.length+8192*d<=700000000->
  ∃s',Ac f ((k:Int),ts,s,(i:Int),(a:Int))=some ((k:Int),ts,s',(i:Int))/\WInv ts i ts.length s'/\s'.2.length<=s.2.length+8192*d:=by
 have hc:=h.count
 intro d
 induction d using Nat.strongRecOn with
 |_ d ih=>
  intro f a s ha hf h0 hs ho
  obtain⟨f,rfl⟩: ∃z,f=z+1:=⟨f-1,by omega⟩
  rcases Nat.eq_zero_or_pos d with hd0|hd0
  ·have:a=ts.length:=by omega
   subst this
   refine⟨s,?_,hs,by omega⟩
   simp only[Ac]
   rw[if_neg (by simp)]
  ·have hal:a<ts.length:=by omega
   obtain⟨b,fs,e1,hb1,hb2,hp,hq,hF⟩:=Ej h hi hal s d Af a [] ha (by unfold Af;omega) (Nat.le_refl _) (λj h1 h2=>by omega) ⟨λr hr=>(by cases hr),λj h1 h2=>(by omega),by simp⟩
   have hab:a<b:=by
    rcases Nat.lt_or_ge a b with h1|h1
    ·exact h1
    ·have:b=a:=by omega
     subst this
     exact absurd rfl (hq hal)
   have hfl:=hF.2.2
   have hfs: ∀u∈fs,i<u.length:=λu hu=>by
    obtain⟨j,q1,q2,rfl,_⟩:=hF.1 u hu
    have:=h.lenj (show j<ts.length by omega);omega
   have e2:=D6 (ts:=ts) (t0:=(k:Int)) hfs (by omega) s (by omega) (b:Int)
   have hl2:=Cn (i:=i) (fs:=fs) fs s
   have hl3:fs.length*(2*fs.length)<=(b-a)*8192:=Nat.mul_le_mul hfl (by omega)
   have hd: ∀r∈fs,∀r'∈fs,r.getD i 0=r'.getD i 0->r=r':=λr hr r' hr' e=>by
    obtain⟨j,j1,j2,rfl,j3⟩:=hF.1 r hr
    obtain⟨l,l1,l2,rfl,l3⟩:=hF.1 r' hr'
    have e:Ar ts i j=Ar ts i l:=e
    rcases Nat.lt_trichotomy j l with hlt|heq|hgt
    ·exact absurd e (l3 j j1 hlt)
    ·rw[heq]
    ·exact absurd e.symm (j3 l l1 hgt)
   have hW:=WInv.group h hab hb2 hp hq (λh1=>h0 h1 hal) hF hs (DU hd s)
   obtain⟨s',e3,hE,hEl⟩:=ih (ts.length-b) (by omega) f b (B7 i fs fs s) (by omega) (by omega) (λ_ h2 e=>by
    have:=hp (b-1) (by omega) (by omega)
    exact hq h2 (e.symm.trans this)) hW (by omega)
   refine⟨s',?_,hE,by omega⟩
   simp only[Ac,e1,Option.bind_some,e2,e3]
   rw[if_pos (by simp;omega)]
theorem CP (h:TupS n k ts): ∃s:WSt,Aj (k:Int) ts ([],[])=some s/\(∀w,w∈s.2↔ ∃(i:Nat) (x y:Int) (p q:Nat),i<k/\Ba ts i x y=some (p,q)/\(w=ts.getD p []∨w=ts.getD q []))/\s.2.length<=200000000:=by
 have hc:=h.count
 have hk:=h.hk
 have key: ∀(d f i:Nat) (s:WSt),i+d=k->d<f->s.2.length<=33554432*i->WInv ts i 0 s->
   ∃s',Ab f ((k:Int),ts,s,(i:Int))=some s'/\WInv ts k 0 s'/\s'.2.length<=33554432*k:=by
  intro d
  induction d with
  |zero=>
   intro f i s hi hf ho hm
   obtain⟨f,rfl⟩: ∃z,f=z+1:=⟨f-1,by omega⟩
   have:i=k:=by omega
   subst this
   refine⟨s,?_,hm,ho⟩
   simp only[Ab]
   rw[if_neg (by simp)]
  |succ d ih=>
   intro f i s hi hf ho hm
   obtain⟨f,rfl⟩: ∃z,f=z+1:=⟨f-1,by omega⟩
   obtain⟨s',e1,hE,hEl⟩:=Ei h (i:=i) (by omega) ts.length Af 0 s (by omega) (by unfold Af;omega) (λh1=>by omega) hm (by omega)
   have e1:Ac Af ((k:Int),ts,s,(i:Int),0)=_:=e1
   have e1:Ac Af ((k:Int),ts,(s.1,s.2),(i:Int),0)=_:=e1
   obtain⟨s2,e2,hE',hl'⟩:=ih f (i+1) s' (by omega) (by omega) (by omega) hE.next
   have e2:Ab f ((k:Int),ts,(s'.1,s'.2),((i+1:Nat):Int))=_:=e2
   refine⟨s2,?_,hE',hl'⟩
   simp only[Ab,e1,Option.bind_some,Ag (show i<4611686018427387904 by omega),e2]
   rw[if_pos (by simp;omega)]
 obtain⟨s,e,hm,hl⟩:=key k Af 0 ([],[]) (by omega) (by unfold Af;omega) (by simp) ⟨λi' x y=>⟨λh=>(by cases h),λ⟨p,q,_,_,_,_,_,h⟩=>(by unfold WB at h;omega)⟩,λw=>⟨λh=>(by cases h),λ⟨i',x,y,p,q,_,h,_⟩=>(by unfold WB at h;omega)⟩⟩
 refine⟨s,?_,λw=>(hm.mem w).trans ⟨?_,?_⟩,by omega⟩
 ·unfold Aj
  have e:Ab Af ((k:Int),ts,([],[]),0)=_:=e
  rw[e];rfl
 ·rintro ⟨i',x,y,p,q,h1,h2,h3⟩
  exact⟨i',x,y,p,q,by unfold WB at h2;omega,h1,h3⟩
 ·rintro ⟨i',x,y,p,q,h1,h2,h3⟩
  exact⟨i',x,y,p,q,h2,.inl h1,h3⟩
theorem CC {rows:List (List Int)} (hN:rows.length<=1000000000) (hr: ∀r∈rows,r.length<=100000):Bk rows=some rows:=by
 unfold Bk
 have:=DO rows.length (λf o i=>As f (o,rows,(rows.length:Int),i)) (λk=>rows.take k) (r:=some rows) (λf k hk=>by
  have hl:=hr _ (List.getElem_mem hk)
  have hcl:BZ rows[k]=some rows[k]:=by
   unfold BZ
   rw[if_pos (by simp;unfold lim;omega)];simp
  simp only[As,Ah,hk,Ao hk,hcl,Option.bind_some,List.take_succ_eq_append_getElem hk,if_true,Ag (show k<4611686018427387904 by omega)]
  rw[if_pos (by simp;omega),if_pos (by simp;unfold lim;omega)]) (λf=>by
  simp only[As,List.take_length]
  rw[if_neg (by simp)]) (n:=Af) (by unfold Af;omega)
 have this:As Af ([],rows,(rows.length:Int),0)=_:=this
 rw[this];rfl
theorem C6 {l:List (List Int)} (hl:l.length<=1000000000) (hr: ∀r∈l,r.length<=100000):A7 l=some (Zn cmpL l):=by
 unfold A7
 rw[CC hl hr]
 have:Ap l ()=some (Zn cmpL l):=by
  unfold Ap
  rw[if_pos]
  refine⟨by unfold lim;omega,?_⟩
  rw[List.all_eq_true]
  intro r h
  rw[decide_eq_true_iff]
  have:=hr r h;unfold lim;omega
 simp only[Option.bind_some,this]
theorem Ck {n kk:Int} (hl:ts.length<=1099511627774) (hr: ∀t∈ts,t.length<=1099511627775): ∃R:List (List Int)×Bool,AR n kk ts=some R/\Bc n kk ts=some R/\R.1.length<=512/\(∀r∈R.1,r.length<=4)/\(R.2=BU n kk ts)/\(R.2=true->AZ R.1=true/\ ∀w,w∈R.1↔ ∃(i:Nat) (x y:Int) (p q:Nat),i<kk.toNat/\Ba ts i x y=some (p,q)/\(w=ts.getD p []∨w=ts.getD q [])):=by
 unfold AR Bc
 rw[B0 hl hr,Cw hl hr]
 simp only[Option.bind_some]
 cases hs:BU n kk ts with
 |false=>exact⟨([],false),rfl,rfl,by simp,by simp,rfl,by simp⟩
 |true=>
  obtain⟨h,hk⟩:=D3 hs
  have hn:=h.hn
  have hk':=h.hk
  obtain⟨N,rfl⟩: ∃N:Nat,n=(N:Int):=⟨n.toNat,by omega⟩
  obtain⟨K,hK⟩: ∃K,K=kk.toNat:=⟨_,rfl⟩
  rw[←hK]at h hk hk'⊢
  subst hk
  obtain⟨s,e1,hE,hEl⟩:=CP h
  obtain⟨F,A,e2,hFA⟩:=CD h
  have hlim:lim=1099511627776:=rfl
  have hval: ∀i j,i<K->j<ts.length-> ∃x:Nat,x<N/\Ar ts i j=(x:Int):=λi j hi hj=>by
   have h1:=h.lenj hj
   have h2:=C0 (h.el _ (BG (d:= []) hj)) i (by omega)
   unfold Ar
   rw[Be (show i<(ts.getD j []).length by omega)]
   exact⟨((ts.getD j [])[i]'(by omega)).toNat,by omega,by omega⟩
  have hmA: ∀w,w∈A↔w∈s.2:=λw=>by
   rw[hFA.memA,hE]
   constructor
   ·rintro ⟨i,x,y,a,b,q1,q2,q3,q4,q5⟩
    exact⟨i,x,y,a,b,by unfold B1 at q3;omega,q4,q5⟩
   ·rintro ⟨i,x,y,a,b,q1,q2,q3⟩
    obtain⟨g1,g2,g3,g4,g5⟩:=AO q2
    obtain⟨x',hx',ex⟩:=hval i a q1 g1
    obtain⟨y',hy',ey⟩:=hval i b q1 g2
    refine⟨i,x',y',a,b,hx',hy',by unfold B1;omega,?_,q3⟩
    rw[←ex,←ey,g3,g4];exact q2
  have hEr: ∀r∈s.2,r.length=K:=λr hr=>by
   obtain⟨i,x,y,p,q,_,h2,h3⟩:=(hE r).1 hr
   obtain⟨g1,g2,_⟩:=AO h2
   rcases h3 with rfl|rfl
   ·exact h.lenj g1
   ·exact h.lenj g2
  have e3:=C6 (l:=s.2) (by omega) λr hr=>by have:=hEr r hr;omega
  have hp:=C5 s.2
  have e4:Bl (Zn cmpL s.2)=some A:=by
   unfold Bl
   rw[if_pos]
   ·exact congrArg some (D1 hFA.incA hmA)
   ·refine⟨by rw[hp.length_eq];omega,?_⟩
    rw[List.all_eq_true]
    intro r hr
    rw[decide_eq_true_iff,hEr r (hp.mem_iff.1 hr)];omega
  have hcode:2*((K*N+0)*N+0)<=512:=by
   have h1:K*N<=4*8:=Nat.mul_le_mul (by omega) (by omega)
   have h2:(K*N+0)*N<=32*8:=Nat.mul_le_mul (by omega) (by omega)
   omega
  have:=hFA.lenA
  have e1:Aj (K:Int) ts ([],[])=_:=e1
  simp only[e1,e2,e3,e4,Option.bind_some,Bool.not_true,Bool.false_eq_true,if_false]
  refine⟨(A,true),rfl,rfl,by dsimp only;omega,λr hr=>?_,rfl,λ_=>⟨hFA.incA,λw=>(hmA w).trans (hE w)⟩⟩
  rw[hEr r ((hmA r).1 hr)];omega
theorem FnExactWitnessesOf_law {n kk:Int} (_:wfT .int n) (_:wfT .int kk) (h:wfT (.slice (.slice .int)) ts):AX n kk ts=some true:=by
 unfold AX
 rw[C7 (by omega) (by omega) h.1 λr hr=>(h.2 r hr).1]
 simp only[Option.bind_some]
 by_cases hz:szR (Ce ts) 1048576<0
 ·rw[if_pos (by simpa using hz)]
 ·obtain⟨h1,h2⟩:=Dr hz
  have h2': ∀r∈ts,r.length<=1099511627775:=λr hr=>by have:=h2 r hr;omega
  rw[if_neg (by simpa using hz)]
  obtain⟨R,e1,e2,hR1,hR2,_⟩:=Ck (n:=n) (kk:=kk) (show ts.length<=1099511627774 by omega) h2'
  have htot:=Eh hz
  have hm:=B5 (k:=1) h1 h2 (by omega) (by unfold BM;unfold Ce at htot;omega)
  have hmf:=Cs ts 1
  have hR3: ∀r∈R.1,r.length<=1048576:=λr hr=>by have:=hR2 r hr;omega
  have hsum:=CZ (λr hr=>(by have:=hR2 r hr;omega:r.length<=16))
  have e3:=Cs R.1 1
  have e4: ¬(Bm R.1 1).2<0:=by omega
  simp only[C8 (show ts.length<=1099511627775 by omega) h2',e1,e2,Cm (show ts.length<=1099511627775 by omega) h2',Cm (a:=R.1) (b:=R.1) (by omega) (λr hr=>by have:=hR2 r hr;omega),hm,Option.bind_some,B5 (l:=R.1) (k:=1) (by omega) hR3 (by omega) (by unfold BM;omega),CI (l:=R.1) (k:=1) (by omega) hR3 (by omega) (by unfold BM;omega)]
  simp[e4,show¬(Bm ts 1).2<0 by omega]
end
end T
open Go Go.Va
namespace T
def Eo (n k:Nat) (T:List Int) (x y z:List Int):List Int:=(List.range k).map λj=>T.getD (((x.getD j 0).toNat*n+(y.getD j 0).toNat)*n+(z.getD j 0).toNat) 0
inductive Clo (n k:Nat) (T:List Int) (gens:List (List Int)):List Int->Prop
 |gen {t:List Int}:t∈gens->Clo n k T gens t
 |app {x y z:List Int}:Clo n k T gens x->Clo n k T gens y->Clo n k T gens z->Clo n k T gens (Eo n k T x y z)
section
variable {n k:Nat} {T:List Int} {gens:List (List Int)}
def Closd (n k:Nat) (T:List Int) (L:List (List Int)):Prop:= ∀x∈L,∀y∈L,∀z∈L,Eo n k T x y z∈L
theorem Closd.mem {L:List (List Int)} (hg: ∀t∈gens,t∈L) (hc:Closd n k T L) {t:List Int} (c:Clo n k T gens t):t∈L:=by
 induction c with
 |gen h=>exact hg _ h
 |app _ _ _ i1 i2 i3=>exact hc _ i1 _ i2 _ i3
end
end T
open Go Go.Va
namespace T
section
variable {n:Int} {k:Nat} {ts W:List (List Int)}
def WitOf (ts:List (List Int)) (k:Nat) (W:List (List Int)):Prop:= ∀w,w∈W↔ ∃(i:Nat) (x y:Int) (p q:Nat),i<k/\Ba ts i x y=some (p,q)/\(w=ts.getD p []∨w=ts.getD q [])
theorem WitOf.sub (h:WitOf ts k W) {w:List Int} (hw:w∈W):w∈ts:=by
 obtain⟨i,x,y,p,q,_,h2,h3⟩:=(h w).1 hw
 obtain⟨g1,g2,_⟩:=AO h2
 rcases h3 with rfl|rfl
 ·exact BG g1
 ·exact BG g2
theorem WitOf.set {N:Int} {kk:Int} (h:WitOf ts kk.toNat W) (hs:BU N kk ts=true) (hi:AZ W=true):BU N kk W=true:=by
 unfold BU at hs⊢
 simp only[Bool.and_eq_true,List.all_eq_true]at hs⊢
 exact⟨⟨hs.1.1,λw hw=>hs.1.2 w (h.sub hw)⟩,hi⟩
end
end T
