/- Plain lemmas on the typed functions of the program, and the plain law of FnExactClausesTell; no conditions. -/
import Derived.Test.YtbfbcfnbcbdgjacV1
import Derived.Test.YtbfbcfnbcbdgjacV5
import Derived.KernelRfl
set_option linter.all false
namespace Go.Va
theorem B8 (x:Int):w64 x=(x+9223372036854775808)%18446744073709551616-9223372036854775808:=by
 simp[w64,IntKind.wrap,IntKind.bits,IntKind.signed]
 split<;>omega
theorem Bb {x:Int} (h1: -9223372036854775808<=x) (h2:x<=9223372036854775807):w64 x=x:=by
 rw[B8];omega
theorem Ad {k:Nat} (h:k<4611686018427387904):w64 ((k:Int)+1)=((k+1:Nat):Int):=by
 rw[Bb (by omega) (by omega)];rfl
theorem Ae {α:Type} {k:Nat} {xs:List α}:inb (k:Int) xs↔k<xs.length:=by
 unfold inb;omega
theorem Ah {α:Type} {k:Nat} {xs:List α} {d:α} (h:k<xs.length):gd xs (k:Int) d=xs[k]:=by
 unfold gd;simp[h]
theorem B0 {α:Type} {k:Nat} {xs:List α} {x:α}:stt xs (k:Int) x=xs.set k x:=by
 unfold stt;simp
def CL {α σ β:Type} (step:σ->α->Option (σ⊕β)) (fin:σ->Option β):List α->σ->Option β
 | [],s=>fin s
 |a::l,s=>match step s a with|some (.inl s')=>CL step fin l s'|some (.inr r)=>some r|none=>none
theorem Ew {α σ β:Type} (xs:List α) (L:Nat->σ->Int->Option β) (step:σ->α->Option (σ⊕β)) (fin:σ->Option β)
  (hs: ∀n s (k:Nat) (hk:k<xs.length),L (n+1) s k=match step s xs[k]with|some (.inl s')=>L n s' ((k+1:Nat):Int)|some (.inr r)=>some r|none=>none)
  (he: ∀n s,L (n+1) s (xs.length:Nat)=fin s): ∀(n k:Nat) (s:σ),k<=xs.length->xs.length-k<n->L n s k=CL step fin (xs.drop k) s:=by
 intro n
 induction n with
 |zero=>intro k s _ h;omega
 |succ n ih=>
  intro k s hk hn
  rcases Nat.lt_or_ge k xs.length with hlt|hge
  ·rw[hs n s k hlt,List.drop_eq_getElem_cons hlt]
   simp only[CL]
   cases step s xs[k]with
   |none=>rfl
   |some q=>
    cases q with
    |inl s'=>exact ih (k+1) s' hlt (by omega)
    |inr r=>rfl
  ·have:k=xs.length:=by omega
   subst this
   rw[he,List.drop_length];rfl
theorem DI {α σ β:Type} (xs:List α) (L:Nat->σ->Int->Option β) (step:σ->α->Option (σ⊕β)) (fin:σ->Option β)
  (hs: ∀n s (k:Nat) (hk:k<xs.length),L (n+1) s k=match step s xs[k]with|some (.inl s')=>L n s' ((k+1:Nat):Int)|some (.inr r)=>some r|none=>none)
  (he: ∀n s,L (n+1) s (xs.length:Nat)=fin s) {n:Nat} (hn:xs.length<n) (s:σ):L n s 0=CL step fin xs s:=by
 have:=Ew xs L step fin hs he n 0 s (Nat.zero_le _) (by omega)
 simpa using this
theorem CT {α β:Type} {p:α->Bool} {step:Unit->α->Option (Unit⊕β)} {fin:Unit->Option β} {r:β}: ∀ {l:List α},(∀a∈l,step () a=if p a then some (.inl ())else some (.inr r))->CL step fin l ()=if l.all p then fin ()else some r
 | [],_=>rfl
 |a::l,h=>by
  simp only[CL]
  rw[h a (by simp)]
  cases hp:p a with
  |true=>simp only[if_true,List.all_cons,hp,Bool.true_and];exact CT λb hb=>h b (List.mem_cons_of_mem _ hb)
  |false=>simp[List.all_cons,hp]
theorem Er {α β γ:Type} (xs:List α) (L:Nat->List β->Int->Option γ) (g:α->β) (fin:List β->Option γ)
  (hs: ∀n (out:List β) (k:Nat) (hk:k<xs.length),out.length=xs.length->L (n+1) out k=L n (out.set k (g xs[k])) ((k+1:Nat):Int))
  (he: ∀n out,out.length=xs.length->L (n+1) out (xs.length:Nat)=fin out): ∀(n k:Nat) (out:List β),out.length=xs.length->k<=xs.length->xs.length-k<n->L n out k=fin (out.take k++(xs.drop k).map g):=by
 intro n
 induction n with
 |zero=>intro k out _ _ h;omega
 |succ n ih=>
  intro k out hl hk hn
  rcases Nat.lt_or_ge k xs.length with hlt|hge
  ·have:(out.set k (g xs[k])).take (k+1)=out.take k++ [g xs[k]]:=by
    rw[List.take_succ_eq_append_getElem (by simp;omega),List.take_set_of_le (Nat.le_refl _),List.getElem_set_self]
   rw[hs n out k hlt hl,ih (k+1) _ (by simpa using hl) hlt (by omega),List.drop_eq_getElem_cons hlt,this,List.map_cons,List.append_assoc,List.singleton_append]
  ·have:k=xs.length:=by omega
   subst this
   rw[he _ _ hl,List.drop_length,List.take_of_length_le (by omega)];simp
theorem DA {α β γ:Type} (xs:List α) (L:Nat->List β->Int->Option γ) (g:α->β) (fin:List β->Option γ)
  (hs: ∀n (out:List β) (k:Nat) (hk:k<xs.length),out.length=xs.length->L (n+1) out k=L n (out.set k (g xs[k])) ((k+1:Nat):Int))
  (he: ∀n out,out.length=xs.length->L (n+1) out (xs.length:Nat)=fin out) {n:Nat} {out:List β} (hl:out.length=xs.length) (hn:xs.length<n):L n out 0=fin (xs.map g):=by
 have:=Er xs L g fin hs he n 0 out hl (Nat.zero_le _) (by omega)
 simpa using this
theorem eqX {α:Type} [DecidableEq α] (a b:List α) (hl:a.length=b.length) (L:Nat->Int->Option (Unit⊕Bool))
  (hs: ∀n (k:Nat) (h1:k<a.length) (h2:k<b.length),L (n+1) k=if a[k]=b[k]then L n ((k+1:Nat):Int)else some (.inr false)) (he: ∀n,L (n+1) (a.length:Nat)=some (.inl ())) {n:Nat} (hn:a.length<n):
  L n 0=some (if a=b then .inl ()else .inr false):=by
 have key: ∀(n k:Nat),k<=a.length->a.length-k<n->L n k=some (if a.drop k=b.drop k then .inl ()else .inr false):=by
  intro n
  induction n with
  |zero=>intro k _ h;omega
  |succ n ih=>
   intro k hk hn
   rcases Nat.lt_or_ge k a.length with hlt|hge
   ·have h2:k<b.length:=by omega
    have e:(a.drop k=b.drop k)↔(a[k]=b[k]/\a.drop (k+1)=b.drop (k+1)):=by
     rw[List.drop_eq_getElem_cons hlt,List.drop_eq_getElem_cons h2];exact List.cons_eq_cons
    rw[hs n k hlt h2]
    by_cases h:a[k]=b[k]
    ·rw[if_pos h,ih (k+1) hlt (by omega)]
     by_cases h3:a.drop (k+1)=b.drop (k+1)
     ·rw[if_pos h3,if_pos (e.2 ⟨h,h3⟩)]
     ·rw[if_neg h3,if_neg λh'=>h3 (e.1 h').2]
    ·rw[if_neg h,if_neg λh'=>h (e.1 h').1]
   ·have:k=a.length:=by omega
    subst this
    rw[he,List.drop_length,hl,List.drop_length];rfl
 have:=key n 0 (Nat.zero_le _) (by omega)
 simpa using this
theorem Di {α β:Type} (xs:List α) (L:Nat->Int->Option β) (p:α->Bool) (r e:β)
  (hs: ∀n (k:Nat) (hk:k<xs.length),L (n+1) k=if p xs[k]then L n ((k+1:Nat):Int)else some r) (he: ∀n,L (n+1) (xs.length:Nat)=some e) {n:Nat} (hn:xs.length<n):
  L n 0=some (if xs.all p then e else r):=by
 have:=DI xs (λn (_:Unit) i=>L n i) (λ_ a=>if p a then some (.inl ())else some (.inr r)) (λ_=>some e) (λn s k hk=>by rw[hs n k hk];cases p xs[k]<;>simp) (λn s=>he n) hn ()
 rw[this,CT (p:=p) (r:=r) λa _=>by cases p a<;>simp]
 cases xs.all p<;>simp
theorem CM {σ β:Type} (N:Nat) (L:Nat->σ->Int->Option β) (S:Nat->σ) {r:Option β}
  (hs: ∀n (k:Nat),k<N->L (n+1) (S k) k=L n (S (k+1)) ((k+1:Nat):Int)) (he: ∀n,L (n+1) (S N) (N:Nat)=r) {n:Nat} (hn:N<n):L n (S 0) 0=r:=by
 have key: ∀(n k:Nat),k<=N->N-k<n->L n (S k) k=r:=by
  intro n
  induction n with
  |zero=>intro k _ h;omega
  |succ n ih=>
   intro k hk hn
   rcases Nat.lt_or_ge k N with hlt|hge
   ·rw[hs n k hlt];exact ih (k+1) hlt (by omega)
   ·have:k=N:=by omega
    subst this;exact he n
 exact key n 0 (Nat.zero_le _) (by omega)
theorem Es {σ β:Type} (N:Nat) (L:Nat->σ->Int->Option β) (S:Nat->σ) (p:Nat->Bool) {r e:Option β}
  (hs: ∀n (k:Nat),k<N->L (n+1) (S k) k=if p k then L n (S (k+1)) ((k+1:Nat):Int)else r) (he: ∀n,L (n+1) (S N) (N:Nat)=e) {n:Nat} (hn:N<n):
  L n (S 0) 0=if(List.range N).all p then e else r:=by
 have key: ∀(n k:Nat),k<=N->N-k<n->L n (S k) k=if(List.range' k (N-k)).all p then e else r:=by
  intro n
  induction n with
  |zero=>intro k _ h;omega
  |succ n ih=>
   intro k hk hn
   rcases Nat.lt_or_ge k N with hlt|hge
   ·rw[hs n k hlt,show N-k=(N-(k+1))+1 by omega,List.range'_succ,List.all_cons]
    cases hp:p k with
    |false=>simp
    |true=>simp only[if_true,Bool.true_and];exact ih (k+1) hlt (by omega)
   ·have:k=N:=by omega
    subst this;rw[he];simp
 have:=key n 0 (Nat.zero_le _) (by omega)
 rw[List.range_eq_range']
 simpa using this
theorem EF {σ β:Type} (N:Nat) (L:Nat->σ->Int->Option β) (S:Nat->σ) (p:Nat->Bool) {r e:Option β}
  (hs: ∀n (k:Nat),k<N->(∀j,j<k->p j=true)->L (n+1) (S k) k=if p k then L n (S (k+1)) ((k+1:Nat):Int)else r) (he: ∀n,(∀j,j<N->p j=true)->L (n+1) (S N) (N:Nat)=e) {n:Nat} (hn:N<n):
  L n (S 0) 0=if(List.range N).all p then e else r:=by
 have key: ∀(n k:Nat),k<=N->N-k<n->(∀j,j<k->p j=true)->L n (S k) k=if(List.range' k (N-k)).all p then e else r:=by
  intro n
  induction n with
  |zero=>intro k _ h;omega
  |succ n ih=>
   intro k hk hn hb
   rcases Nat.lt_or_ge k N with hlt|hge
   ·rw[hs n k hlt hb,show N-k=(N-(k+1))+1 by omega,List.range'_succ,List.all_cons]
    cases hp:p k with
    |false=>simp
    |true=>
     simp only[if_true,Bool.true_and]
     refine ih (k+1) hlt (by omega) λj hj=>?_
     rcases Nat.lt_or_ge j k with h|h
     ·exact hb j h
     ·have:j=k:=by omega
      rw[this];exact hp
   ·have:k=N:=by omega
    subst this;rw[he n hb];simp
 have:=key n 0 (Nat.zero_le _) (by omega) (λj h=>by omega)
 rw[List.range_eq_range']
 simpa using this
def szR (t:Nat) (left:Int):Int:=if(t:Int)<=left then left-t else-1
end Go.Va
set_option linter.unusedVariables false
open Go Go.Va
namespace T
def Ac:Nat:=1099511627776
def A8 (a:List Int) (left:Int):Option (Int):=
 if decide ((w64 (left-(a.length:Int)))<0)then
 some (-1)
 else
 some (w64 (left-(a.length:Int)))
def AK:Nat->((List (List Int))×Int×Int)->Option ((Int)⊕(Int))
 |0,_=>none
 |n+1,(a,left,i)=>
 if decide (i<(a.length:Int))then
 if inb i a then
 (A8 (gd a i []) left).bind λr1=>
 if decide (r1<0)then
 some (.inr (-1))
 else
 AK n (a,r1,w64 (i+1))
 else none
 else
 some (.inl left)
def Bx (a:List (List Int)) (left:Int):Option (Int):=
 if decide ((w64 (left-(a.length:Int)))<0)then
  some (-1)
 else
  (AK Ac (a,w64 (left-(a.length:Int)),0)).bind λs1=>
   match s1 with
   | .inl s2=>
    some s2
   | .inr s3=>
    some s3
def AS:Nat->((List Int)×(List Int)×Int)->Option ((List Int))
 |0,_=>none
 |n+1,(a,out,i)=>
 if decide (i<(a.length:Int))then
 if inb i a then
 if inb i out then
 AS n (a,stt out i (gd a i 0),w64 (i+1))
 else none
 else none
 else
 some out
def BJ (a:List Int):Option ((List Int)):=
 if 0<=(a.length:Int)/\(a.length:Int)<=(a.length:Int)/\(a.length:Int)<=lim then
 (AS Ac (a,List.replicate (Int.toNat (a.length:Int)) (0:Int),0)).bind λs1=>
 some s1
 else none
def AL:Nat->((List (List Int))×(List (List Int))×Int)->Option ((List (List Int)))
 |0,_=>none
 |n+1,(a,out,i)=>
 if decide (i<(a.length:Int))then
 if inb i a then
 (BJ (gd a i [])).bind λr1=>
 if inb i out then
 AL n (a,stt out i r1,w64 (i+1))
 else none
 else none
 else
 some out
def By (a:List (List Int)):Option ((List (List Int))):=
 if 0<=(a.length:Int)/\(a.length:Int)<=(a.length:Int)/\(a.length:Int)<=lim then
 (AL Ac (a,List.replicate (Int.toNat (a.length:Int)) ([]:List Int),0)).bind λs1=>
 some s1
 else none
def BP (x:Int) (a:Int) (b:Int):Option (Bool):=
 if decide (x≥a)then
 some (decide (x<=b))
 else
 some false
def Aw:Nat->(Int×(List Int)×Int)->Option ((Unit)⊕(Bool))
 |0,_=>none
 |n+1,(n_,list,i)=>
 if decide (i<(list.length:Int))then
 if inb i list then
 (BP (gd list i 0) 0 (w64 (n_-1))).bind λr1=>
 if !r1 then
 some (.inr false)
 else
 Aw n (n_,list,w64 (i+1))
 else none
 else
 some (.inl ())
def Bh (n_:Int) (list:List Int):Option (Bool):=
 (Aw Ac (n_,list,0)).bind λs1=>
  match s1 with
  | .inl s2=>
   some true
  | .inr s3=>
   some s3
def BB (n_:Int) (k:Int) (t:List Int):Option (Bool):=
 if(t.length:Int)==k then
 (Bh n_ t).bind λr1=>
 some r1
 else
 some false
def AQ:Nat->(Int×(List Int)×Int×Int)->Option ((Unit)⊕(Bool))
 |0,_=>none
 |n+1,(n_,t7,t8,t9)=>
 if decide (t9<t8)then
 if inb t9 t7 then
 if decide ((gd t7 t9 0)<0)then
 some (.inr false)
 else
 if decide ((gd t7 t9 0)≥n_)then
 some (.inr false)
 else
 AQ n (n_,t7,t8,w64 (t9+1))
 else none
 else
 some (.inl ())
def BH (list:List Int) (n_:Int):Option (Bool):=
 (AQ Ac (n_,list,(list.length:Int),0)).bind λs1=>
  match s1 with
  | .inl s2=>
   some true
  | .inr s3=>
   some s3
def AR:Nat->((List Int)×(List Int)×Int)->Option ((Unit)⊕(Bool))
 |0,_=>none
 |n+1,(a,b,i)=>
 if decide (i<(a.length:Int))then
 if inb i a then
 if inb i b then
 if(gd a i 0) !=(gd b i 0)then
 some (.inr false)
 else
 AR n (a,b,w64 (i+1))
 else none
 else none
 else
 some (.inl ())
def BI (a:List Int) (b:List Int):Option (Bool):=
 if(a.length:Int) !=(b.length:Int)then
  some false
 else
  (AR Ac (a,b,0)).bind λs1=>
   match s1 with
   | .inl s2=>
    some true
   | .inr s3=>
    some s3
def AJ:Nat->((List (List Int))×(List (List Int))×Int)->Option ((Unit)⊕(Bool))
 |0,_=>none
 |n+1,(a,b,i)=>
 if decide (i<(a.length:Int))then
 if inb i a then
 if inb i b then
 (BI (gd a i []) (gd b i [])).bind λr1=>
 if !r1 then
 some (.inr false)
 else
 AJ n (a,b,w64 (i+1))
 else none
 else none
 else
 some (.inl ())
def Bw (a:List (List Int)) (b:List (List Int)):Option (Bool):=
 if(a.length:Int) !=(b.length:Int)then
  some false
 else
  (AJ Ac (a,b,0)).bind λs1=>
   match s1 with
   | .inl s2=>
    some true
   | .inr s3=>
    some s3
def Be:Nat->(Int×Int×Int)->Option (Int)
 |0,_=>none
 |n+1,(n_,k,out)=>
 if decide (k>0)then
 Be n (n_,w64 (k-1),w64 (out*n_))
 else
 some out
def BA (n_:Int) (k:Int):Option (Int):=
 (Be Ac (n_,k,1)).bind λs1=>
 some s1
def AU:Nat->((List Int)×(List Int)×Int)->Option ((Unit)⊕(Bool))
 |0,_=>none
 |n+1,(a,b,i)=>
 if decide (i<(a.length:Int))then
 if inb i a then
 if inb i b then
 if(gd a i 0) !=(gd b i 0)then
 if inb i a then
 if inb i b then
 some (.inr (decide ((gd a i 0)<(gd b i 0))))
 else none
 else none
 else
 AU n (a,b,w64 (i+1))
 else none
 else none
 else
 some (.inl ())
def BL (a:List Int) (b:List Int):Option (Bool):=
 (AU Ac (a,b,0)).bind λs1=>
  match s1 with
  | .inl s2=>
   some false
  | .inr s3=>
   some s3
def Am:Nat->((List Int)×(List Int)×Int)->Option (((List Int)×(List Int))⊕(Int))
 |0,_=>none
 |n+1,(s,t,i)=>
 if decide (i<(s.length:Int))then
 if decide (i<(t.length:Int))then
 if inb i s then
 if inb i t then
 if(gd s i 0) !=(gd t i 0)then
 if inb i s then
 if inb i t then
 if decide ((gd s i 0)<(gd t i 0))then
 some (.inr (-1))
 else
 some (.inr 1)
 else none
 else none
 else
 Am n (s,t,w64 (i+1))
 else none
 else none
 else
 some (.inl (s,t))
 else
 some (.inl (s,t))
def Bq (s:List Int) (t:List Int):Option (Int):=
 (Am Ac (s,t,0)).bind λs1=>
  match s1 with
  | .inl s2=>
   if decide ((s2.1.length:Int)<(s2.2.length:Int))then
    some (-1)
   else
    if decide ((s2.1.length:Int)>(s2.2.length:Int))then
     some 1
    else
     some 0
  | .inr s3=>
   some s3
def BS:Nat->(Int×Int×Int)->Option (Int)
 |0,_=>none
 |n+1,(n_,k,p)=>
 if decide (k>0)then
 BS n (n_,w64 (k-1),w64 (p*n_))
 else
 some p
def C5 (n_:Int) (k:Int):Option (Int):=
 (BS Ac (n_,k,1)).bind λs1=>
 some s1
end T
open Go Go.Va
namespace T
theorem Dv {a:List Int} {left:Int} (h0:0<=left) (h1:left<=4611686018427387904) (ha:a.length<=9223372036854775807):A8 a left=some (szR a.length left):=by
 unfold A8 szR
 rw[Bb (by omega) (by omega)]
 by_cases h:(a.length:Int)<=left
 ·rw[if_neg (by simp;omega),if_pos h]
 ·rw[if_pos (by simp;omega),if_neg h]
def BT (a:List (List Int)):Nat:=a.length+(a.map List.length).sum
theorem Da {a:List (List Int)} {left:Int} (h0:0<=left) (h1:left<=1099511627775) (ha:a.length<=9223372036854775807) (hr: ∀r∈a,r.length<=9223372036854775807):Bx a left=some (szR (BT a) left):=by
 unfold Bx
 rw[Bb (by omega) (by omega)]
 by_cases h:(a.length:Int)<=left
 ·rw[if_neg (by simp;omega)]
  have key:=DI a (λn s i=>AK n (a,s,i)) (λs r=>(A8 r s).bind λq=>if q<0 then some (.inr (.inr (-1)))else some (.inl q)) (λs=>some (.inl s)) ?_ ?_ (n:=Ac) (by unfold Ac;omega) (left-a.length)
  ·rw[key]
   have run: ∀(l:List (List Int)) (s:Int),0<=s->s<=1099511627775->(∀r∈l,r.length<=9223372036854775807)->
     CL (λs r=>(A8 r s).bind λq=>if q<0 then some (.inr (.inr (-1)))else some (.inl q)) (λs=>some (.inl s)) l s=some (if((l.map List.length).sum:Int)<=s then(.inl (s-(l.map List.length).sum):Int⊕Int)else .inr (-1)):=by
    intro l
    induction l with
    |nil=>intro s h0 _ _;simp[CL,h0]
    |cons r l ih=>
     intro s h0 h1 hr
     simp only[CL]
     rw[Dv h0 (by omega) (hr r (by simp))]
     unfold szR
     by_cases h:(r.length:Int)<=s
     ·rw[if_pos h]
      simp only[Option.bind_some]
      rw[if_neg (by omega)]
      dsimp only
      rw[ih (s-r.length) (by omega) (by omega) λr hr'=>hr r (List.mem_cons_of_mem _ hr')]
      simp only[List.map_cons,List.sum_cons]
      congr 1
      by_cases h2:(((l.map List.length).sum:Nat):Int)<=s-r.length
      ·rw[if_pos h2,if_pos (by omega)];congr 1;omega
      ·rw[if_neg h2,if_neg (by omega)]
     ·rw[if_neg h]
      simp only[List.map_cons,List.sum_cons]
      rw[if_neg (by omega)]
      rfl
   rw[run a _ (by omega) (by omega) hr]
   unfold szR BT
   by_cases h2:(((a.map List.length).sum:Nat):Int)<=left-a.length
   ·rw[if_pos h2,if_pos (by omega)]
    simp only[Option.bind_some,Option.some.injEq];omega
   ·rw[if_neg h2,if_neg (by omega)];rfl
  ·intro n s k hk
   simp only[AK,Ae,Ah hk,Ad (show k<4611686018427387904 by omega)]
   simp[hk]
   cases A8 a[k] s with
   |none=>rfl
   |some q=>by_cases hq:q<0<;>simp[hq]
  ·intro n s
   simp[AK]
 ·rw[if_pos (by simp;omega)]
  unfold szR BT
  rw[if_neg (by omega)]
theorem Dx {a:List Int} (ha:a.length<=1099511627775):BJ a=some a:=by
 unfold BJ
 rw[if_pos (by unfold lim;omega)]
 have key:=DA a (λn out i=>AS n (a,out,i)) id some ?_ ?_ (n:=Ac) (out:=List.replicate (Int.toNat (a.length:Int)) (0:Int)) (by simp) (by unfold Ac;omega)
 ·rw[key];simp
 ·intro n out k hk hl
  simp only[AS,Ae,Ah hk,B0,Ad (show k<4611686018427387904 by omega)]
  simp[hk,hl]
 ·intro n out hl
  simp[AS]
theorem Db {a:List (List Int)} (ha:a.length<=1099511627775) (hr: ∀r∈a,r.length<=1099511627775):By a=some a:=by
 unfold By
 rw[if_pos (by unfold lim;omega)]
 have key:=DA a (λn out i=>AL n (a,out,i)) id some ?_ ?_ (n:=Ac) (out:=List.replicate (Int.toNat (a.length:Int)) ([]:List Int)) (by simp) (by unfold Ac;omega)
 ·rw[key];simp
 ·intro n out k hk hl
  simp only[AL,Ae,Ah hk,B0,Ad (show k<4611686018427387904 by omega)]
  simp[hk,hl,Dx (hr _ (List.getElem_mem hk))]
 ·intro n out hl
  simp[AL]
theorem Dj {a b:List Int} (ha:a.length<=1099511627775):BI a b=some (decide (a=b)):=by
 unfold BI
 by_cases hl:a.length=b.length
 ·rw[if_neg (by simp[hl]),eqX a b hl (λn i=>AR n (a,b,i)) ?_ ?_ (by unfold Ac;omega)]
  ·by_cases h:a=b<;>simp[h]
  ·intro n k h1 h2
   simp only[AR,Ae,Ah h1,Ah h2,Ad (show k<4611686018427387904 by omega)]
   by_cases h:a[k]=b[k]<;>simp[h1,h2,h]
  ·intro n
   simp[AR]
 ·rw[if_pos (by simp;omega),decide_eq_false (λe=>hl (by rw[e]))]
theorem C3 {a b:List (List Int)} (ha:a.length<=1099511627775) (hr: ∀r∈a,r.length<=1099511627775):Bw a b=some (decide (a=b)):=by
 unfold Bw
 by_cases hl:a.length=b.length
 ·rw[if_neg (by simp[hl]),eqX a b hl (λn i=>AJ n (a,b,i)) ?_ ?_ (by unfold Ac;omega)]
  ·by_cases h:a=b<;>simp[h]
  ·intro n k h1 h2
   simp only[AJ,Ae,Ah h1,Ah h2,Ad (show k<4611686018427387904 by omega),Dj (hr _ (List.getElem_mem h1))]
   by_cases h:a[k]=b[k]<;>simp[h1,h2,h]
  ·intro n
   simp[AJ]
 ·rw[if_pos (by simp;omega),decide_eq_false (λe=>hl (by rw[e]))]
abbrev Lin:=Int×Int×List (List Int)
def EH (a:Lin):Prop:=a.2.2.length<=1048576/\ ∀r∈a.2.2,r.length<=1048576
theorem DZ {l:List (List Int)}: ∀ {r:List Int},r∈l->r.length<=(l.map List.length).sum:=by
 induction l with
 |nil=>intro r h;cases h
 |cons x l ih=>
  intro r h
  rw[List.map_cons,List.sum_cons]
  rcases List.mem_cons.1 h with rfl|h
  ·omega
  ·have:=ih h;omega
theorem Ci {a:Lin} (h: ¬szR (BT a.2.2) 1048576<0):EH a:=by
 unfold szR BT at h
 split at h
 ·exact⟨by omega,λr hr=>by have:=DZ hr;omega⟩
 ·omega
theorem BZ (x a b:Int):BP x a b=some (decide (a<=x/\x<=b)):=by
 unfold BP
 by_cases h:a<=x<;>simp[h]
def Ax (n:Int) (l:List Int):Bool:=l.all λx=>decide (0<=x/\x<n)
theorem Ce {l:List Int} (n:Int) (hl:l.length<=1099511627775):BH l n=some (Ax n l):=by
 unfold BH
 rw[Di l (λm i=>AQ m (n,l,(l.length:Int),i)) (λx=>decide (0<=x/\x<n)) (.inr false) (.inl ()) ?_ ?_ (by unfold Ac;omega)]
 ·unfold Ax;cases l.all (λx=>decide (0<=x/\x<n))<;>simp
 ·intro m k hk
  simp only[AQ,Ae,Ah hk,Ad (show k<4611686018427387904 by omega)]
  by_cases h1:l[k]<0
  ·simp[hk,h1,show¬0<=l[k] by omega]
  ·by_cases h2:n<=l[k]
   ·simp[hk,h1,h2,show¬l[k]<n by omega]
   ·simp[hk,h1,h2,show 0<=l[k]/\l[k]<n by omega]
 ·intro m
  simp[AQ]
theorem BW {l:List Int} {n:Int} (hn: -9223372036854775808<n) (hn':n<=9223372036854775807) (hl:l.length<=1099511627775):Bh n l=some (Ax n l):=by
 unfold Bh
 rw[Di l (λm i=>Aw m (n,l,i)) (λx=>decide (0<=x/\x<n)) (.inr false) (.inl ()) ?_ ?_ (by unfold Ac;omega)]
 ·unfold Ax;cases l.all (λx=>decide (0<=x/\x<n))<;>simp
 ·intro m k hk
  simp only[Aw,Ae,Ah hk,Ad (show k<4611686018427387904 by omega),BZ,Bb (show-9223372036854775808<=n-1 by omega) (show n-1<=9223372036854775807 by omega)]
  by_cases h1:0<=l[k]/\l[k]<n
  ·simp[hk,h1,show l[k]<=n-1 by omega]
  ·have: ¬(0<=l[k]/\l[k]<=n-1):=by omega
   simp[hk,h1,this]
 ·intro m
  simp[Aw]
theorem B5 {l:List Int} {n:Int} (k:Int) (hn: -9223372036854775808<n) (hn':n<=9223372036854775807) (hl:l.length<=1099511627775):BB n k l=some (decide ((l.length:Int)=k)&&Ax n l):=by
 unfold BB
 rw[BW hn hn' hl]
 by_cases h:(l.length:Int)=k<;>simp[h]
end T
open Go Go.Va
namespace T
theorem C0 {n:Int} {l:List Int} (h:Ax n l=true) (k:Nat) (hk:k<l.length):0<=l[k]/\l[k]<n:=by
 have:=(List.all_eq_true.1 h) l[k] (List.getElem_mem hk)
 simpa using this
section
variable {p v:Int} {rows:List (List Int)} {y:List Int}
end
end T
open Go Go.Va
namespace T
def cmpL:List Int->List Int->Int
 | [],[]=>0
 | [],_::_=> -1
 |_::_,[]=>1
 |a::s,b::t=>if a=b then cmpL s t else if a<b then-1 else 1
theorem C1 {s t:List Int} (hs:s.length<=1099511627775): ∀(n k:Nat),k<=s.length->k<=t.length->s.length-k<n->
  (Am n (s,t,(k:Int))).bind (λs1=>match s1 with
   | .inl s2=>if decide ((s2.1.length:Int)<(s2.2.length:Int))then some (-1)else if decide ((s2.1.length:Int)>(s2.2.length:Int))then some 1 else some 0
   | .inr s3=>some s3)=some (cmpL (s.drop k) (t.drop k)):=by
 intro n
 induction n with
 |zero=>intro k _ _ h;omega
 |succ n ih=>
  intro k h1 h2 hn
  by_cases k1:k<s.length
  ·by_cases k2:k<t.length
   ·rw[List.drop_eq_getElem_cons k1,List.drop_eq_getElem_cons k2]
    simp only[Am,Ae,Ah k1,Ah k2,Ad (show k<4611686018427387904 by omega),cmpL]
    by_cases he:s[k]=t[k]
    ·have:=ih (k+1) k1 k2 (by omega)
     simp[k1,k2,he]
     simpa using this
    ·by_cases hl:s[k]<t[k]<;>simp[k1,k2,he,hl]
   ·rw[List.drop_eq_getElem_cons k1,List.drop_of_length_le (show t.length<=k by omega)]
    have e:k=t.length:=by omega
    simp only[Am,cmpL]
    simp[k1,k2,show¬s.length<t.length by omega,show t.length<s.length by omega]
  ·rw[List.drop_of_length_le (show s.length<=k by omega)]
   simp only[Am]
   by_cases k2:k<t.length
   ·rw[List.drop_eq_getElem_cons k2]
    simp[k1,cmpL,show s.length<t.length by omega]
   ·rw[List.drop_of_length_le (show t.length<=k by omega)]
    simp[k1,cmpL,show¬s.length<t.length by omega,show¬t.length<s.length by omega]
theorem BG {s t:List Int} (hs:s.length<=1099511627775):Bq s t=some (cmpL s t):=by
 have:=C1 (t:=t) hs Ac 0 (Nat.zero_le _) (Nat.zero_le _) (by unfold Ac;omega)
 rw[List.drop_zero,List.drop_zero]at this
 exact this
theorem Ch {s t:List Int} (hs:s.length<=1099511627775) (hl:s.length=t.length):BL s t=some (decide (cmpL s t<0)):=by
 have key: ∀(n k:Nat),k<=s.length->s.length-k<n->(AU n (s,t,(k:Int))).bind (λs1=>match s1 with| .inl _=>some false| .inr s3=>some s3)=some (decide (cmpL (s.drop k) (t.drop k)<0)):=by
  intro n
  induction n with
  |zero=>intro k _ h;omega
  |succ n ih=>
   intro k h1 hn
   by_cases k1:k<s.length
   ·have k2:k<t.length:=by omega
    rw[List.drop_eq_getElem_cons k1,List.drop_eq_getElem_cons k2]
    simp only[AU,Ae,Ah k1,Ah k2,Ad (show k<4611686018427387904 by omega),cmpL]
    by_cases he:s[k]=t[k]
    ·have:=ih (k+1) k1 (by omega)
     simp[k1,k2,he]
     simpa using this
    ·by_cases hl:s[k]<t[k]<;>simp[k1,k2,he,hl]
   ·rw[List.drop_of_length_le (show s.length<=k by omega),List.drop_of_length_le (show t.length<=k by omega)]
    simp[AU,k1,cmpL]
 have:=key Ac 0 (Nat.zero_le _) (by unfold Ac;omega)
 rw[List.drop_zero,List.drop_zero]at this
 exact this
theorem cmpL_refl: ∀s,cmpL s s=0
 | []=>rfl
 |a::s=>by simp[cmpL,cmpL_refl s]
theorem cmpL_eq: ∀ {s t},cmpL s t=0↔s=t
 | [],[]=>by simp[cmpL]
 | [],_::_=>by simp[cmpL]
 |_::_,[]=>by simp[cmpL]
 |a::s,b::t=>by
  simp only[cmpL]
  by_cases h:a=b
  ·rw[if_pos h,cmpL_eq];simp[h]
  ·rw[if_neg h];split<;>simp[h]
theorem cmpL_symm: ∀s t,cmpL t s= -cmpL s t
 | [],[]=>by simp[cmpL]
 | [],_::_=>by simp[cmpL]
 |_::_,[]=>by simp[cmpL]
 |a::s,b::t=>by
  simp only[cmpL]
  by_cases h:a=b
  ·rw[if_pos h,if_pos h.symm,cmpL_symm s t]
  ·rw[if_neg h,if_neg (Ne.symm h)]
   by_cases h2:a<b
   ·rw[if_pos h2,if_neg (by omega)];rfl
   ·rw[if_neg h2,if_pos (by omega)]
theorem cmpL_trans: ∀ {s t u},cmpL s t<0->cmpL t u<0->cmpL s u<0
 | [],[],_,h,_=>by simp[cmpL]at h
 | [],_::_,[],_,h=>by simp[cmpL]at h
 | [],_::_,_::_,_,_=>by simp[cmpL]
 |_::_,[],_,h,_=>by simp[cmpL]at h
 |_::_,_::_,[],_,h=>by simp[cmpL]at h
 |a::s,b::t,c::u,h1,h2=>by
  simp only[cmpL]at*
  by_cases e1:a=b
  ·rw[if_pos e1]at h1
   by_cases e2:b=c
   ·rw[if_pos e2]at h2;rw[if_pos (e1.trans e2)];exact cmpL_trans h1 h2
   ·rw[if_neg e2]at h2;rw[e1,if_neg e2];exact h2
  ·rw[if_neg e1]at h1
   have l1:a<b:=by
    by_cases h:a<b
    ·exact h
    ·rw[if_neg h]at h1;omega
   by_cases e2:b=c
   ·rw[←e2,if_neg e1,if_pos l1];omega
   ·rw[if_neg e2]at h2
    have l2:b<c:=by
     by_cases h:b<c
     ·exact h
     ·rw[if_neg h]at h2;omega
    rw[if_neg (by omega),if_pos (by omega)];omega
def BD:List (List Int)->Bool
 |a::b::l=>decide (cmpL a b<0)&&BD (b::l)
 |_=>true
theorem Dq {a:List Int} {l:List (List Int)} (h:BD (a::l)=true):BD l=true:=by
 cases l with
 |nil=>rfl
 |cons b l=>simp only[BD,Bool.and_eq_true]at h;exact h.2
theorem Ct: ∀ {a:List Int} {l:List (List Int)},BD (a::l)=true-> ∀b∈l,cmpL a b<0
 |a,[],_,b,hb=>by cases hb
 |a,c::l,h,b,hb=>by
  simp only[BD,Bool.and_eq_true,decide_eq_true_eq]at h
  rcases List.mem_cons.1 hb with rfl|hb
  ·exact h.1
  ·exact cmpL_trans h.1 (Ct h.2 b hb)
theorem CH: ∀ {l:List (List Int)},BD l=true-> ∀(i j:Nat) (hi:i<j) (hj:j<l.length),cmpL (l[i]'(by omega)) l[j]<0
 | [],_,i,j,_,hj=>by simp at hj
 |a::l,h,0,j+1,_,hj=>by
  simp only[List.getElem_cons_zero,List.getElem_cons_succ]
  exact Ct h _ (List.getElem_mem _)
 |a::l,h,i+1,j+1,hi,hj=>by
  simp only[List.getElem_cons_succ]
  exact CH (Dq h) i j (by omega) (by simpa using hj)
theorem DG {l:List (List Int)}:BD l=true↔ ∀(i:Nat) (hi:i+1<l.length),cmpL (l[i]'(by omega)) l[i+1]<0:=by
 constructor
 ·exact λh i hi=>CH h i (i+1) (by omega) hi
 ·induction l with
  |nil=>intro _;rfl
  |cons a l ih=>
   intro h
   cases l with
   |nil=>rfl
   |cons b l=>
    simp only[BD,Bool.and_eq_true,decide_eq_true_eq]
    exact⟨h 0 (by simp),ih λi hi=>by have:=h (i+1) (by simpa using hi);simpa using this⟩
end T
open Go Go.Va
namespace T
theorem Cz {n:Int} (h0:0<=n) (h8:n<=8): ∀k:Nat,0<=n^k/\n^k<=8^k
 |0=>by simp
 |k+1=>by
  obtain⟨h1,h2⟩:=Cz h0 h8 k
  rw[Int.pow_succ,Int.pow_succ]
  exact⟨Int.mul_nonneg h1 h0,Int.mul_le_mul h2 h8 h0 (by have:(0:Int)<=8^k:=Int.le_trans h1 h2;exact this)⟩
theorem D1: ∀k:Nat,k<=20->(8:Int)^k<=8^20:=by
 intro k hk
 have:((8^k:Nat):Int)<=((8^20:Nat):Int):=Int.ofNat_le.2 (Nat.pow_le_pow_right (by omega) hk)
 simpa using this
theorem DM {n:Int} (h0:0<=n) (h8:n<=8) {k:Nat} (hk:k<=20):0<=n^k/\n^k<=1152921504606846976:=by
  obtain⟨h1,h2⟩:=Cz h0 h8 k
  have:=D1 k hk
  exact ⟨h1, by have e : (8 : Int) ^ 20 = 1152921504606846976 := by decide
                omega⟩
theorem DH {n:Int} (h0:0<=n) (h8:n<=8): ∀(m k j:Nat),j+k<=20->k<m->Be m (n,(k:Int),n^j)=some (n^(j+k)):=by
 intro m
 induction m with
 |zero=>intro k j _ h;omega
 |succ m ih=>
  intro k j hj hk
  simp only[Be]
  cases k with
  |zero=>simp
  |succ k=>
   have e:w64 (((k+1:Nat):Int)-1)=(k:Int):=by rw[Bb (by omega) (by omega)];omega
   have hb:=DM h0 h8 (k:=j+1) (by omega)
   rw[Int.pow_succ]at hb
   rw[e,Bb (by omega) (by omega),←Int.pow_succ,if_pos (by simp),ih k (j+1) (by omega) (by omega)]
   congr 2<;>omega
theorem Cp {n:Int} (h0:0<=n) (h8:n<=8) {k:Nat} (hk:k<=20):BA n (k:Int)=some (n^k):=by
 unfold BA
 have:=DH h0 h8 Ac k 0 (by omega) (by unfold Ac;omega)
 rw[Int.pow_zero]at this
 rw[this];simp
def CE (n:Int):Int->List Int->Int
 |i,[]=>i
 |i,a::l=>CE n (i*n+a) l
def idx (n:Int) (l:List Int):Int:=CE n 0 l
theorem CF (n:Int): ∀(l:List Int) (i:Int),CE n i l=i*n^l.length+CE n 0 l
 | [],i=>by simp[CE]
 |a::l,i=>by
  simp only[CE,List.length_cons]
  rw[CF n l (i*n+a),CF n l (0*n+a),Int.pow_succ]
  simp only[Int.zero_mul,Int.zero_add]
  rw[Int.add_mul,Int.mul_assoc,Int.mul_comm n (n^l.length)]
  omega
theorem Cc (n a:Int) (l:List Int):idx n (a::l)=a*n^l.length+idx n l:=by
 unfold idx
 simp only[CE]
 rw[CF];simp
theorem BE {n a:Int} {l:List Int}:Ax n (a::l)=true↔(0<=a/\a<n)/\Ax n l=true:=by
 unfold Ax;simp[List.all_cons]
theorem Cb {n:Int}: ∀ {l:List Int},Ax n l=true->0<=idx n l/\idx n l<n^l.length
 | [],_=>by simp[idx,CE]
 |a::l,h=>by
  obtain⟨h1,h2⟩:=BE.1 h
  obtain⟨h3,h4⟩:=Cb h2
  rw[Cc,List.length_cons,Int.pow_succ]
  have hp:0<=n^l.length:=by omega
  have k1:=Int.mul_nonneg h1.1 hp
  have k2:=Int.mul_le_mul_of_nonneg_right (show a+1<=n by omega) hp
  rw[Int.add_mul,Int.one_mul,Int.mul_comm n]at k2
  exact⟨by omega,by omega⟩
theorem Dd {n:Int}: ∀ {s t:List Int},Ax n s=true->Ax n t=true->s.length=t.length->(cmpL s t<0↔idx n s<idx n t)/\(cmpL s t=0↔idx n s=idx n t)
 | [],[],_,_,_=>by simp[cmpL,idx,CE]
 | [],_::_,_,_,h=>by simp at h
 |_::_,[],_,_,h=>by simp at h
 |a::s,b::t,hs,ht,hl=>by
  obtain⟨s1,s2⟩:=BE.1 hs
  obtain⟨t1,t2⟩:=BE.1 ht
  have hl':s.length=t.length:=by simpa using hl
  have ih:=Dd s2 t2 hl'
  obtain⟨b1,b2⟩:=Cb s2
  obtain⟨c1,c2⟩:=Cb t2
  rw[Cc,Cc,hl']
  rw[hl']at b2
  simp only[cmpL]
  have hp:0<=n^t.length:=by omega
  rcases Int.lt_trichotomy a b with h|h|h
  ·have:=Int.mul_le_mul_of_nonneg_right (show a+1<=b by omega) hp
   rw[Int.add_mul,Int.one_mul]at this
   rw[if_neg (by omega),if_pos h]
   exact⟨by constructor<;>intro<;>omega,by constructor<;>intro<;>omega⟩
  ·subst h
   rw[if_pos rfl]
   exact⟨by rw[ih.1];constructor<;>intro<;>omega,by rw[ih.2];constructor<;>intro<;>omega⟩
  ·have:=Int.mul_le_mul_of_nonneg_right (show b+1<=a by omega) hp
   rw[Int.add_mul,Int.one_mul]at this
   rw[if_neg (by omega),if_neg (by omega)]
   exact⟨by constructor<;>intro<;>omega,by constructor<;>intro<;>omega⟩
theorem Cu {n:Int} {k:Nat} {l:List (List Int)} (hi:BD l=true) (hv: ∀t∈l,t.length=k/\Ax n t=true):(l.length:Int)<=n^k∨l= []:=by
 have key: ∀(i:Nat) (h:i<l.length),(i:Int)<=idx n l[i]:=by
  intro i
  induction i with
  |zero=>intro h;exact(Cb (hv _ (List.getElem_mem h)).2).1
  |succ i ih=>
   intro h
   have h1:=ih (by omega)
   obtain⟨l1,b1⟩:=hv _ (List.getElem_mem (show i<l.length by omega))
   obtain⟨l2,b2⟩:=hv _ (List.getElem_mem h)
   have:=(Dd b1 b2 (l1.trans l2.symm)).1.1 (CH hi i (i+1) (by omega) h)
   omega
 cases hn:l.length with
 |zero=>exact .inr (List.length_eq_zero_iff.1 hn)
 |succ m=>
  left
  have h:=key m (by omega)
  obtain⟨l1,b1⟩:=hv _ (List.getElem_mem (show m<l.length by omega))
  have:=(Cb b1).2
  rw[l1]at this
  omega
end T
open Go Go.Va
namespace T
def EB (n:Int):Bool:=decide (1<=n/\n<=8)
def EI (n k:Int) (t:List Int):Bool:=decide ((t.length:Int)=k)&&Ax n t
def Ek (n k:Int) (ts:List (List Int)):Bool:=EB n&&decide (1<=k/\k<=4)&&ts.all (EI n k)&&BD ts
end T
open Go Go.Va
namespace T
section
variable {p:Int} {k:Nat} {ts:List (List Int)}
end
theorem Dw {a:List (List Int)} (h: ¬szR (BT a) 1048576<0):a.length<=1048576/\ ∀r∈a,r.length<=1048576:=Ci (a:=(0,0,a)) h
end T
set_option linter.unusedVariables false
open Go Go.Va
namespace T
def Bg (a:Int×(List (List Int))) (left:Int):Option (Int):=
 (Bx a.2 left).bind λr1=>
 if decide (r1<0)then
 some (-1)
 else
 some r1
def As (a:Int×(List (List Int))):Option ((Int×(List (List Int)))):=
 (By a.2).bind λr1=>
 some (a.1,r1)
def Ay:Nat->(Int×(Int×(List (List Int)))×Int)->Option ((Unit)⊕(Bool))
 |0,_=>none
 |n+1,(n_,r,i)=>
 if decide (i<(r.2.length:Int))then
 if inb i r.2 then
 (BB n_ r.1 (gd r.2 i [])).bind λr3=>
 if !r3 then
 some (.inr false)
 else
 if decide (i>0)then
 if inb (w64 (i-1)) r.2 then
 if inb i r.2 then
 (BL (gd r.2 (w64 (i-1)) []) (gd r.2 i [])).bind λr4=>
 if !r4 then
 some (.inr false)
 else
 Ay n (n_,(r.1,r.2),w64 (i+1))
 else none
 else none
 else
 Ay n (n_,(r.1,r.2),w64 (i+1))
 else none
 else
 some (.inl ())
def Bk (n_:Int) (r:Int×(List (List Int))):Option (Bool):=
 (BP r.1 1 3).bind λr1=>
  if !r1 then
   some false
  else
   (BA n_ r.1).bind λr2=>
    if decide ((r.2.length:Int)>r2)then
     some false
    else
     (Ay Ac (n_,(r.1,r.2),0)).bind λs3=>
      match s3 with
      | .inl s4=>
       some true
      | .inr s5=>
       some s5
def BV (l:List Int):Option ((List Int)):=
 if([]:List Int).length+l.length<=lim then
 some ([]++l)
 else none
def Ap:Nat->(Int×(Int×(List (List Int)))×(List (List Int))×Int×Int)->Option ((Unit)⊕(Bool))
 |0,_=>none
 |n+1,(n_,r,t16,t17,t18)=>
 if decide (t18<t17)then
 if inb t18 t16 then
 if((gd t16 t18 []).length:Int) !=r.1 then
 some (.inr false)
 else
 (BH (gd t16 t18 []) n_).bind λr1=>
 if !r1 then
 some (.inr false)
 else
 if decide (t18>0)then
 if inb (w64 (t18-1)) r.2 then
 (Bq (gd r.2 (w64 (t18-1)) []) (gd t16 t18 [])).bind λr2=>
 if decide (r2≥0)then
 some (.inr false)
 else
 Ap n (n_,(r.1,r.2),t16,t17,w64 (t18+1))
 else none
 else
 Ap n (n_,(r.1,r.2),t16,t17,w64 (t18+1))
 else none
 else
 some (.inl ())
def AX (n_:Int) (r:Int×(List (List Int))):Option (Bool):=
 if decide (r.1<1)then
  some false
 else
  if decide (r.1>3)then
   some false
  else
   (Ap Ac (n_,(r.1,r.2),r.2,(r.2.length:Int),0)).bind λs1=>
    match s1 with
    | .inl s2=>
     some true
    | .inr s3=>
     some s3
def AY (a:Int×(List (List Int))) (b:Int×(List (List Int))):Option (Bool):=
 if a.1 !=b.1 then
 some false
 else
 (Bw a.2 b.2).bind λr1=>
 if !r1 then
 some false
 else
 some true
def AF:Nat->((List Int)×Int×Int)->Option ((List Int)×Int)
 |0,_=>none
 |n+1,(a,k,i)=>
 if decide (i<(a.length:Int))then
 if inb i a then
 AF n (stt a i k,w64 (k+1),w64 (i+1))
 else none
 else
 some (a,k)
def Bt (a:List Int) (k:Int):Option ((List Int)×Int):=
 (AF Ac (a,k,0)).bind λs1=>
 some (s1.1,s1.2)
def AB:Nat->((List (List Int))×Int×Int)->Option ((List (List Int))×Int)
 |0,_=>none
 |n+1,(a,k,i)=>
 if decide (i<(a.length:Int))then
 if inb i a then
 (Bt (gd a i []) k).bind λr1=>
 AB n (stt a i r1.1,r1.2,w64 (i+1))
 else none
 else
 some (a,k)
def Bm (a:List (List Int)) (k:Int):Option ((List (List Int))×Int):=
 (AB Ac (a,k,0)).bind λs1=>
 some (s1.1,s1.2)
end T
open Go Go.Va
namespace T
abbrev Con:=List Int×Int×List (List Int)
abbrev Net:=Int×Int×List Con
def Cg (a:List (List Int)):Prop:=a.length<=1048576/\ ∀r∈a,r.length<=1048576
def C9 (n:Int) (r:Int×List (List Int)):Bool:=decide (1<=r.1/\r.1<=3)&&(r.2.all λt=>decide ((t.length:Int)=r.1)&&Ax n t)&&BD r.2
def Cl (n:Int) (r:Int×List (List Int)) (k:Nat):Bool:=decide (((r.2.getD k []).length:Int)=r.1)&&Ax n (r.2.getD k [])&&(decide (k=0)||decide (cmpL (r.2.getD (k-1) []) (r.2.getD k [])<0))
theorem AG {α:Type} {l:List α} {k:Nat} {d:α} (h:k<l.length):l.getD k d=l[k]:=by simp[List.getD_eq_getElem?_getD,h]
theorem CB {n ar:Int} {ts:List (List Int)}:(List.range ts.length).all (Cl n (ar,ts))=((ts.all λt=>decide ((t.length:Int)=ar)&&Ax n t)&&BD ts):=by
 rw[Bool.eq_iff_iff,Bool.and_eq_true,List.all_eq_true,List.all_eq_true,DG]
 unfold Cl
 constructor
 ·intro h
  refine⟨λt ht=>?_,λi hi=>?_⟩
  ·obtain⟨k,hk,rfl⟩:=List.getElem_of_mem ht
   have:=h k (List.mem_range.2 hk)
   rw[AG hk]at this
   simp only[Bool.and_eq_true]at this
   rw[Bool.and_eq_true];exact this.1
  ·have:=h (i+1) (List.mem_range.2 hi)
   rw[AG hi,Nat.add_sub_cancel,AG (show i<ts.length by omega)]at this
   simp at this
   exact this.2
 ·rintro ⟨h1,h2⟩ k hk
  have hk:=List.mem_range.1 hk
  have e:=h1 _ (List.getElem_mem hk)
  rw[AG hk]
  rw[Bool.and_eq_true]at e
  rw[Bool.and_eq_true,Bool.and_eq_true]
  refine⟨e,?_⟩
  cases k with
  |zero=>simp
  |succ i=>
   have:=h2 i hk
   rw[Nat.add_sub_cancel,AG (show i<ts.length by omega)]
   simp[this]
theorem BU {n:Int} {r:Int×List (List Int)} (h:Cg r.2):AX n r=some (C9 n r):=by
 obtain⟨ar,ts⟩:=r
 unfold AX C9
 by_cases h1:ar<1
 ·simp[h1,show¬1<=ar by omega]
 ·by_cases h2:ar>3
  ·simp[h1,h2,show¬ar<=3 by omega]
  ·rw[if_neg (by simpa using h1),if_neg (by simpa using h2)]
   have key:=Es ts.length (λm (_:Unit) i=>Ap m (n,(ar,ts),ts,(ts.length:Int),i)) (λ_=>()) (Cl n (ar,ts)) (r:=some (.inr false)) (e:=some (.inl ())) (λm k hk=>?_) (λm=>?_) (n:=Ac) (by unfold Ac;have:=h.1;simp at this;omega)
   ·rw[key,CB]
    simp only[show(1<=ar/\ar<=3)=True by simp;omega,decide_true,Bool.true_and]
    cases (ts.all λt=>decide ((t.length:Int)=ar)&&Ax n t)&&BD ts<;>simp
   ·have hx:=h.2 ts[k] (List.getElem_mem hk)
    have hk':=h.1
    simp only at hk'
    simp only[Ap,Ae,Ah hk,Ad (show k<4611686018427387904 by omega),Ce n (show ts[k].length<=1099511627775 by omega),Cl,AG hk]
    by_cases hl:(ts[k].length:Int)=ar
    ·cases hb:Ax n ts[k]with
     |false=>simp[hk,hl]
     |true=>
      cases k with
      |zero=>simp[hk,hl]
      |succ i=>
       have hi:i<ts.length:=by omega
       have hx2:=h.2 ts[i] (List.getElem_mem hi)
       have e:w64 (((i+1:Nat):Int)-1)=(i:Int):=by rw[Bb (by omega) (by omega)];omega
       simp only[e,Ae,Ah hi,Nat.add_sub_cancel,AG hi,BG (show ts[i].length<=1099511627775 by omega)]
       by_cases hc:cmpL ts[i] ts[i+1]<0
       ·simp[hk,hl,hi,hc,show¬cmpL ts[i] ts[i+1]≥0 by omega];omega
       ·simp[hk,hl,hi,hc,show cmpL ts[i] ts[i+1]≥0 by omega];omega
    ·simp[hk,hl]
   ·simp[Ap]
theorem B4 {n:Int} {r:Int×List (List Int)} (h:Cg r.2) (hn:1<=n/\n<=8):Bk n r=some (C9 n r):=by
 obtain⟨ar,ts⟩:=r
 unfold Bk C9
 rw[BZ]
 by_cases h1:1<=ar/\ar<=3
 ·simp only[h1,and_self,decide_true,Option.bind_some,Bool.not_true,Bool.false_eq_true,if_false,Bool.true_and]
  obtain⟨m,rfl⟩: ∃m:Nat,ar=m:=⟨ar.toNat,by omega⟩
  rw[Cp (by omega) (by omega) (by omega)]
  simp only[Option.bind_some]
  have key:=EF ts.length (λm' (_:Unit) i=>Ay m' (n,((m:Int),ts),i)) (λ_=>()) (Cl n ((m:Int),ts)) (r:=some (.inr false)) (e:=some (.inl ())) (λm' k hk hb0=>?_) (λm' _=>?_) (n:=Ac) (by unfold Ac;have:=h.1;simp at this;omega)
  ·by_cases hc:(ts.length:Int)>n^m
   ·rw[if_pos (by simpa using hc)]
    by_cases hv:((ts.all λt=>decide ((t.length:Int)=m)&&Ax n t)&&BD ts)=true
    ·rw[Bool.and_eq_true,List.all_eq_true]at hv
     rcases Cu (k:=m) hv.2 λt ht=>by have:=hv.1 t ht;simp at this;exact⟨by omega,this.2⟩with h2|h2
     ·omega
     ·subst h2
      have:=DM (n:=n) (by omega) (by omega) (k:=m) (by omega)
      simp at hc;omega
    ·simp only[Bool.not_eq_true]at hv;rw[hv]
   ·rw[if_neg (by simpa using hc),key,CB]
    cases (ts.all λt=>decide ((t.length:Int)=m)&&Ax n t)&&BD ts<;>simp
  ·have hx:=h.2 ts[k] (List.getElem_mem hk)
   have hk':=h.1
   simp only at hk'
   simp only[Ay,Ae,Ah hk,Ad (show k<4611686018427387904 by omega),B5 (n:=n) _ (by omega) (by omega) (show ts[k].length<=1099511627775 by omega),Cl,AG hk]
   by_cases hl:(ts[k].length:Int)=m
   ·cases hb:Ax n ts[k]with
    |false=>simp[hk,hl]
    |true=>
     cases k with
     |zero=>simp[hk,hl]
     |succ i=>
      have hi:i<ts.length:=by omega
      have hx2:=h.2 ts[i] (List.getElem_mem hi)
      have e:w64 (((i+1:Nat):Int)-1)=(i:Int):=by rw[Bb (by omega) (by omega)];omega
      simp only[e,Ae,Ah hi,Nat.add_sub_cancel,AG hi]
      have hb1:=hb0 i (by omega)
      simp only[Cl,AG hi,Bool.and_eq_true,decide_eq_true_eq]at hb1
      rw[Ch (s:=ts[i]) (t:=ts[i+1]) (by omega) (by have:=hb1.1.1;omega)]
      by_cases hc:cmpL ts[i] ts[i+1]<0
      ·simp[hk,hl,hi,hc];omega
      ·simp[hk,hl,hi,hc];omega
   ·simp[hk,hl]
  ·simp[Ay]
 ·have: ¬(1<=ar/\ar<=3):=h1
  simp[this]
end T
open Go Go.Va
namespace T
section
variable {v n up:Int} {c:Con} {vals:List Int}
theorem Co {l:List Int} (h:l.length<=1099511627775):BV l=some l:=by
 unfold BV
 rw[if_pos (by unfold lim;simp;omega)];simp
end
end T
open Go Go.Va
namespace T
abbrev Dom:=List (List Bool)
def mk (bs:List Bool):List Int:=((List.range bs.length).filter λi=>bs.getD i false).map λi:Nat=>(i:Int)
def d2 (d:Dom) (v x:Nat):Bool:=(d.getD v []).getD x false
theorem Af {α:Type} {l:List α} {i j:Nat} {y d:α}:(l.set i y).getD j d=if i=j/\j<l.length then y else l.getD j d:=by
 simp only[List.getD_eq_getElem?_getD,List.getElem?_set]
 by_cases h:i=j
 ·subst h
  by_cases h2:i<l.length
  ·simp[h2]
  ·simp[h2]
 ·simp[h]
end T
open Go Go.Va
namespace T
abbrev ASt:=Dom×List (Int×Int×Int)
section
variable {a:Net} {K:Nat} {c:Con}
end
end T
open Go Go.Va
namespace T
def mkL {α:Type} (f:α->Int->α×Int):List α->Int->List α×Int
 | [],k=>([],k)
 |x::l,k=>((f x k).1::(mkL f l (f x k).2).1,(mkL f l (f x k).2).2)
theorem CS {α:Type} (f:α->Int->α×Int): ∀(l:List α) (x:α) (k:Int),mkL f (l++ [x]) k=((mkL f l k).1++ [(f x (mkL f l k).2).1],(f x (mkL f l k).2).2)
 | [],x,k=>by simp[mkL]
 |y::l,x,k=>by
  simp only[List.cons_append,mkL]
  rw[CS f l x]
theorem BO {α:Type} (f:α->Int->α×Int): ∀(l:List α) (k:Int),(mkL f l k).1.length=l.length
 | [],_=>rfl
 |x::l,k=>by simp[mkL,BO f l]
theorem BY {α:Type} {f:α->Int->α×Int} {w:α->Nat}: ∀(l:List α) (k:Int),(∀x∈l,∀k,(f x k).2=k+w x)->(mkL f l k).2=k+((l.map w).sum:Nat)
 | [],k,_=>by simp[mkL]
 |x::l,k,h=>by
  simp only[mkL,List.map_cons,List.sum_cons]
  rw[BY l _ λy hy=>h y (List.mem_cons_of_mem _ hy),h x (by simp)];push_cast;omega
theorem DJ {α β:Type} (N:Nat) (L:Nat->List α->Int->Int->Option β) (f:α->Int->α×Int) (w:α->Nat) (B:Int) (fin:List α->Int->Option β) (xs:List α) (k0:Int) (hN:xs.length=N) (hw: ∀x∈xs,∀k,(f x k).2=k+w x)
  (h0:0<=k0) (hB:k0+((xs.map w).sum:Nat)<=B)
  (hs: ∀n (a:List α) (k:Int) (i:Nat) (hi:i<N) (hl:a.length=N),a[i]'(by omega)∈xs->0<=k->k+w (a[i]'(by omega))<=B->L (n+1) a k i=L n (a.set i (f (a[i]'(by omega)) k).1) (f (a[i]'(by omega)) k).2 ((i+1:Nat):Int))
  (he: ∀n a k,a.length=N->L (n+1) a k (N:Nat)=fin a k) {n:Nat} (hn:N<n):L n xs k0 0=fin (mkL f xs k0).1 (mkL f xs k0).2:=by
 have far: ∀i,i<=N->(mkL f (xs.take i) k0).2=k0+(((xs.take i).map w).sum:Nat):=λi _=>BY _ _ λx hx=>hw x (List.mem_of_mem_take hx)
 have:=CM N (λn (s:List α×Int) i=>L n s.1 s.2 i) (λi=>((mkL f (xs.take i) k0).1++xs.drop i,(mkL f (xs.take i) k0).2)) (r:=fin (mkL f xs k0).1 (mkL f xs k0).2) (λn i hi=>?_) (λn=>?_) hn
 ·simpa[mkL]using this
 ·have hix:i<xs.length:=by omega
  have hlen:(mkL f (xs.take i) k0).1.length=i:=by rw[BO];simp;omega
  have hl2:((mkL f (xs.take i) k0).1++xs.drop i).length=N:=by simp[hlen];omega
  have hget:((mkL f (xs.take i) k0).1++xs.drop i)[i]'(by omega)=xs[i]:=by
   rw[List.getElem_append_right (by omega)];simp[hlen]
  have hsum:(((xs.take i).map w).sum:Nat)+w xs[i]<=(xs.map w).sum:=by
   have h1:xs=xs.take i++xs[i]::xs.drop (i+1):=by rw[←List.drop_eq_getElem_cons hix,List.take_append_drop]
   have h2:(xs.map w).sum=((xs.take i).map w).sum+(w xs[i]+((xs.drop (i+1)).map w).sum):=by
    conv=>lhs;rw[h1]
    rw[List.map_append,List.sum_append,List.map_cons,List.sum_cons]
   omega
  have hf:=far i (by omega)
  dsimp only
  rw[hs n _ _ i hi hl2 (by rw[hget];exact List.getElem_mem hix) (by omega) (by rw[hget,hf];omega),hget,List.take_succ_eq_append_getElem hix,CS]
  congr 1
  rw[List.set_append_right _ _ (by omega),hlen,Nat.sub_self,List.drop_eq_getElem_cons hix,List.set_cons_zero,List.append_assoc];rfl
 ·dsimp only
  rw[List.take_of_length_le (by omega),List.drop_of_length_le (by omega),List.append_nil]
  exact he n _ _ (by rw[BO];exact hN)
theorem D8 {α:Type} (f:α->Int->α×Int) (h:α->Int->Option Int) (w:α->Nat) (B:Int): ∀(xs:List α) (k0:Int) (L:Nat->Int->Int->Option (Int⊕Int)) (j:Nat),(∀x∈xs,∀k,(f x k).2=k+w x)->0<=k0->k0+((xs.map w).sum:Nat)<=B->
  (∀x∈xs,∀k,0<=k->k+w x<=B->h (f x k).1 k=some (f x k).2)->
  (∀n k (i:Nat) (hi:i<xs.length),0<=k->k+w xs[i]<=B->L (n+1) k ((j+i:Nat):Int)=(h ((mkL f xs k0).1[i]'(by rw[BO];exact hi)) k).bind λq=>if q<0 then some (.inr (-1))else L n q ((j+i+1:Nat):Int))->
  (∀n k,L (n+1) k ((j+xs.length:Nat):Int)=some (.inl k))-> ∀n,xs.length<n->L n k0 (j:Int)=some (.inl (mkL f xs k0).2)
 | [],k0,L,j,_,_,_,_,_,he,n,hn=>by
  obtain⟨n,rfl⟩: ∃m,n=m+1:=⟨n-1,by simp at hn;omega⟩
  have:=he n k0
  simpa[mkL]using this
 |x::xs,k0,L,j,hw,h0,hB,hh,hs,he,n,hn=>by
  obtain⟨n,rfl⟩: ∃m,n=m+1:=⟨n-1,by simp at hn;omega⟩
  rw[List.map_cons,List.sum_cons]at hB
  have hx:=hw x (by simp) k0
  have h1:=hs n k0 0 (by simp) h0 (by simp only[List.getElem_cons_zero];omega)
  simp only[Nat.add_zero,mkL,List.getElem_cons_zero]at h1
  rw[h1,hh x (by simp) k0 h0 (by omega)]
  simp only[Option.bind_some]
  rw[if_neg (by omega)]
  have:=D8 f h w B xs (f x k0).2 L (j+1) (λy hy=>hw y (List.mem_cons_of_mem _ hy)) (by omega) (by rw[hx];omega) (λy hy=>hh y (List.mem_cons_of_mem _ hy))
   (λn k i hi hk0 hkB=>by
    have:=hs n k (i+1) (by simpa using hi) hk0 (by simpa using hkB)
    simp only[mkL,List.getElem_cons_succ]at this
    rw[show j+1+i=j+(i+1) by omega];exact this)
   (λn k=>by have:=he n k;rw[List.length_cons]at this;rw[show j+1+xs.length=j+(xs.length+1) by omega];exact this) n (by simp at hn;omega)
  exact this
abbrev BM:Int:=1152921504606846976
def Eg (_:Int) (k:Int):Int×Int:=(k,k+1)
def CQ (l:List Int) (k:Int):List Int×Int:=mkL Eg l k
def CI (l:List (List Int)) (k:Int):List (List Int)×Int:=mkL CQ l k
theorem BQ {α:Type}: ∀(l:List α),(l.map λ_=>1).sum=l.length
 | []=>rfl
 |_::l=>by rw[List.map_cons,List.sum_cons,BQ l,List.length_cons];omega
theorem Cw (l:List Int) (k:Int):(CQ l k).2=k+(l.length:Nat):=by
 unfold CQ
 rw[BY (w:=λ_=>1) l k λ_ _ _=>rfl,BQ]
theorem C7 (l:List (List Int)) (k:Int):(CI l k).2=k+((l.map List.length).sum:Nat):=by
 unfold CI
 rw[BY (w:=List.length) l k λx _ k=>Cw x k]
theorem CR {l:List Int} {k:Int} (hl:l.length<=1048576) (h0:0<=k) (hB:k+l.length<=BM):Bt l k=some (CQ l k):=by
 unfold Bt
 have:=DJ l.length (λn a k i=>AF n (a,k,i)) Eg (λ_=>1) BM (λa k=>some (a,k)) l k rfl (λ_ _ _=>rfl) h0 (by rw[BQ];exact hB) (λn a k i hi hl' _ hk0 hkB=>?_) (λn a k hl'=>?_) (n:=Ac) (by unfold Ac;omega)
 ·rw[this];rfl
 ·have hk1:w64 (k+1)=k+1:=Bb (by omega) (by unfold BM at hkB;omega)
  simp only[AF,Ae,B0,Ad (show i<4611686018427387904 by omega),hk1,Eg]
  simp[hl',hi]
 ·simp[AF,hl']
theorem CK {l:List (List Int)} {k:Int} (hl:l.length<=1048576) (hr: ∀r∈l,r.length<=1048576) (h0:0<=k) (hB:k+((l.map List.length).sum:Nat)<=BM):Bm l k=some (CI l k):=by
 unfold Bm
 have:=DJ l.length (λn a k i=>AB n (a,k,i)) CQ List.length BM (λa k=>some (a,k)) l k rfl (λx _ k=>Cw x k) h0 hB (λn a k i hi hl' hm hk0 hkB=>?_) (λn a k hl'=>?_) (n:=Ac) (by unfold Ac;omega)
 ·rw[this];rfl
 ·have hia:i<a.length:=by omega
  simp only[AB,Ae,B0,Ah hia,Ad (show i<4611686018427387904 by omega),CR (hr _ hm) hk0 hkB,Option.bind_some]
  simp[hl',hi]
 ·simp[AB,hl']
end T
open Go Go.Va
namespace T
theorem w1:w64 1=1:=by rw[B8];rfl
theorem w2:w64 2=2:=by rw[B8];rfl
theorem w3:w64 3=3:=by rw[B8];rfl
section
variable {a:Net}
end
end T
open Go Go.Va
namespace T
abbrev Opn:=Int×List Int
section
variable {n:Int} {f:Opn}
variable {a:Net}
end
end T
set_option linter.unusedVariables false
open Go Go.Va
namespace T
def BC:Nat->((List Int)×(List Int)×(List Int)×Int×Int)->Option ((List Int))
 |0,_=>none
 |n+1,(g,h,t11,t12,t13)=>
 if decide (t13<t12)then
 if inb t13 t11 then
 if inb (gd t11 t13 0) g then
 if inb t13 h then
 BC n (g,stt h t13 (gd g (gd t11 t13 0) 0),t11,t12,w64 (t13+1))
 else none
 else none
 else none
 else
 some h
def CG (f:List Int) (g:List Int):Option ((List Int)):=
 if 0<=(f.length:Int)/\(f.length:Int)<=(f.length:Int)/\(f.length:Int)<=lim then
 (BC Ac (g,List.replicate (Int.toNat (f.length:Int)) (0:Int),f,(f.length:Int),0)).bind λs1=>
 some s1
 else none
end T
open Go Go.Va
namespace T
def D4 (vs:List Int) (v:Int):Int:=vs.getD v.toNat 0
def Ep (vs:List Int) (c:Con):Bool:=decide (c.1.map (D4 vs)∈c.2.2)
def EA (l:List Con) (vs:List Int):Bool:=l.all (Ep vs)
def EG (vars:List Int) (c:Con):Bool:=c.1.all λv=>decide (v∈vars)
def Ev (a:Net) (vars:List Int):List Con:=a.2.2.filter (EG vars)
section
variable {a:Net}
end
end T
open Go Go.Va
namespace T
abbrev T3:=List (List (List Bool))
abbrev T4:=List (List (List (List Bool)))
def D6 (s:Nat) (c:List (List Bool)):Prop:=c.length=s/\ ∀x,x<s->(c.getD x []).length=s
def En (n s:Nat) (r:T3):Prop:=r.length=n/\ ∀j,j<n->D6 s (r.getD j [])
def Ok4 (n s:Nat) (t:T4):Prop:=t.length=n/\ ∀i,i<n->En n s (t.getD i [])
def r4 (t:T4) (i j x y:Nat):Bool:=(((t.getD i []).getD j []).getD x []).getD y false
def s4 (t:T4) (i j x y:Nat) (b:Bool):T4:=t.set i ((t.getD i []).set j (((t.getD i []).getD j []).set x ((((t.getD i []).getD j []).getD x []).set y b)))
def Ok3 (n m:Nat) (u:T3):Prop:=u.length=n/\ ∀i,i<n->(u.getD i []).length=n/\ ∀j,j<n->((u.getD i []).getD j []).length=m
def r3 (u:T3) (i j p:Nat):Bool:=((u.getD i []).getD j []).getD p false
def s3 (u:T3) (i j p:Nat) (b:Bool):T3:=u.set i ((u.getD i []).set j (((u.getD i []).getD j []).set p b))
section
variable {n s m:Nat} {t:T4} {u:T3}
theorem Ok4.at (h:Ok4 n s t) {i j x:Nat} (hi:i<n) (hj:j<n) (hx:x<s):i<t.length/\j<(t.getD i []).length/\x<((t.getD i []).getD j []).length/\(((t.getD i []).getD j []).getD x []).length=s:=
 ⟨by rw[h.1];exact hi,by rw[(h.2 i hi).1];exact hj,by rw[((h.2 i hi).2 j hj).1];exact hx,((h.2 i hi).2 j hj).2 x hx⟩
theorem Ok3.at (h:Ok3 n m u) {i j:Nat} (hi:i<n) (hj:j<n):i<u.length/\j<(u.getD i []).length/\((u.getD i []).getD j []).length=m:=
 ⟨by rw[h.1];exact hi,by rw[(h.2 i hi).1];exact hj,(h.2 i hi).2 j hj⟩
theorem Dh (h:Ok4 n s t) {i j x y:Nat} {b:Bool}:Ok4 n s (s4 t i j x y b):=by
 unfold s4
 refine⟨by rw[List.length_set];exact h.1,λi' hi'=>?_⟩
 rw[Af]
 split
 ·rename_i hc
  obtain⟨rfl,_⟩:=hc
  have hr:=h.2 i hi'
  refine⟨by rw[List.length_set];exact hr.1,λj' hj'=>?_⟩
  rw[Af]
  split
  ·rename_i hc
   obtain⟨rfl,_⟩:=hc
   have hcl:=hr.2 j hj'
   refine⟨by rw[List.length_set];exact hcl.1,λx' hx'=>?_⟩
   rw[Af]
   split
   ·rename_i hc
    obtain⟨rfl,_⟩:=hc
    rw[List.length_set];exact hcl.2 x hx'
   ·exact hcl.2 x' hx'
  ·exact hr.2 j' hj'
 ·exact h.2 i' hi'
theorem Ez (h:Ok3 n m u) {i j p:Nat} {b:Bool}:Ok3 n m (s3 u i j p b):=by
 unfold s3
 refine⟨by rw[List.length_set];exact h.1,λi' hi'=>?_⟩
 rw[Af]
 split
 ·rename_i hc
  obtain⟨rfl,_⟩:=hc
  have hr:=h.2 i hi'
  refine⟨by rw[List.length_set];exact hr.1,λj' hj'=>?_⟩
  rw[Af]
  split
  ·rename_i hc
   obtain⟨rfl,_⟩:=hc
   rw[List.length_set];exact hr.2 j hj'
  ·exact hr.2 j' hj'
 ·exact h.2 i' hi'
theorem Dg (h:Ok4 n s t) {i j x y:Nat} {b:Bool} (hi:i<n) (hj:j<n) (hx:x<s) (hy:y<s) (i' j' x' y':Nat):
  r4 (s4 t i j x y b) i' j' x' y'=if i=i'/\j=j'/\x=x'/\y=y' then b else r4 t i' j' x' y':=by
 obtain⟨h1,h2,h3,h4⟩:=h.at hi hj hx
 unfold r4 s4
 rw[Af]
 by_cases e1:i=i'
 ·subst e1
  rw[if_pos ⟨rfl,h1⟩,Af]
  by_cases e2:j=j'
  ·subst e2
   rw[if_pos ⟨rfl,h2⟩,Af]
   by_cases e3:x=x'
   ·subst e3
    rw[if_pos ⟨rfl,h3⟩,Af]
    by_cases e4:y=y'
    ·subst e4;rw[if_pos ⟨rfl,by omega⟩,if_pos ⟨rfl,rfl,rfl,rfl⟩]
    ·rw[if_neg (by omega),if_neg (by omega)]
   ·rw[if_neg (by omega),if_neg (by omega)]
  ·rw[if_neg (by omega),if_neg (by omega)]
 ·rw[if_neg (by omega),if_neg (by omega)]
theorem Ey (h:Ok3 n m u) {i j p:Nat} {b:Bool} (hi:i<n) (hj:j<n) (hp:p<m) (i' j' p':Nat):
  r3 (s3 u i j p b) i' j' p'=if i=i'/\j=j'/\p=p' then b else r3 u i' j' p':=by
 obtain⟨h1,h2,h3⟩:=h.at hi hj
 unfold r3 s3
 rw[Af]
 by_cases e1:i=i'
 ·subst e1
  rw[if_pos ⟨rfl,h1⟩,Af]
  by_cases e2:j=j'
  ·subst e2
   rw[if_pos ⟨rfl,h2⟩,Af]
   by_cases e3:p=p'
   ·subst e3;rw[if_pos ⟨rfl,by omega⟩,if_pos ⟨rfl,rfl,rfl⟩]
   ·rw[if_neg (by omega),if_neg (by omega)]
  ·rw[if_neg (by omega),if_neg (by omega)]
 ·rw[if_neg (by omega),if_neg (by omega)]
end
structure Rel34 (n s:Nat) (t:T4) (u:T3):Prop where
 o4:Ok4 n s t
 o3:Ok3 n (s*s) u
 eq: ∀i j x y,i<j->j<n->x<s->y<s->r4 t i j x y=r3 u i j (x*s+y)/\r4 t j i y x=r3 u i j (x*s+y)
theorem DY {s x y:Nat} (hx:x<s) (hy:y<s):x*s+y<s*s:=by
 have:(x+1)*s<=s*s:=Nat.mul_le_mul_right _ hx
 rw[Nat.succ_mul]at this;omega
theorem Dy {s x y x' y':Nat} (hy:y<s) (hy':y'<s) (h:x*s+y=x'*s+y'):x=x'/\y=y':=by
 have h1:(x*s+y)/s=x:=by rw[Nat.mul_comm,Nat.mul_add_div (by omega),Nat.div_eq_of_lt hy];omega
 have h2:(x'*s+y')/s=x':=by rw[Nat.mul_comm,Nat.mul_add_div (by omega),Nat.div_eq_of_lt hy'];omega
 have:x=x':=by rw[←h1,←h2,h]
 subst this
 exact⟨rfl,by omega⟩
theorem Rel34.drop {n s:Nat} {t:T4} {u:T3} (h:Rel34 n s t u) {i j x y:Nat} (hij:i<j) (hj:j<n) (hx:x<s) (hy:y<s):
  Rel34 n s (s4 (s4 t i j x y false) j i y x false) (s3 u i j (x*s+y) false):=by
 refine⟨Dh (Dh h.o4),Ez h.o3,λi' j' x' y' h1 h2 h3 h4=>?_⟩
 have hi:i<n:=by omega
 rw[Dg (Dh h.o4) hj hi hy hx,Dg h.o4 hi hj hx hy,Dg (Dh h.o4) hj hi hy hx,Dg h.o4 hi hj hx hy,Ey h.o3 hi hj (DY hx hy)]
 obtain⟨e1,e2⟩:=h.eq i' j' x' y' h1 h2 h3 h4
 by_cases e:i=i'/\j=j'/\x=x'/\y=y'
 ·obtain⟨rfl,rfl,rfl,rfl⟩:=e
  simp
 ·have e3: ¬(i=i'/\j=j'/\x*s+y=x'*s+y'):=λ⟨q1,q2,q3⟩=>by
   have:=Dy hy h4 q3
   exact e ⟨q1,q2,this.1,this.2⟩
  have e4: ¬(j=i'/\i=j'/\y=x'/\x=y'):=by omega
  have e5: ¬(i=j'/\j=i'/\x=y'/\y=x'):=by omega
  have e6: ¬(j=j'/\i=i'/\y=y'/\x=x'):=by omega
  simp only[if_neg e,if_neg e3,if_neg e4,if_neg e5,if_neg e6]
  exact⟨e1,e2⟩
end T
open Go Go.Va
namespace T
def V3 (n i j k x y z:Nat):List Int:=(((List.replicate n (0:Int)).set i (x:Int)).set j (y:Int)).set k (z:Int)
section
variable {a:Net} {n s:Nat} {t:T4} {u:T3}
def hP (a:Net) (n:Nat) (t:T4) (i j k x y z:Nat):Bool:=r4 t i k x z&&r4 t j k y z&&EA (Ev a [(i:Int),(j:Int),(k:Int)]) (V3 n i j k x y z)
end
end T
open Go Go.Va
namespace T
section
variable {a:Net} {n s:Nat} {t:T4} {u:T3}
def V2 (n i j x y:Nat):List Int:=((List.replicate n (0:Int)).set i (x:Int)).set j (y:Int)
def fB (a:Net) (n i j x y:Nat):Bool:=EA (Ev a [(i:Int),(j:Int)]) (V2 n i j x y)
end
end T
open Go Go.Va
namespace T
section
variable {a:Net} {n s:Nat} {t:T4} {u:T3}
def PA (n s i:Nat) (t:T4):Prop:=t.length=n/\ ∀i',i'<i->En n s (t.getD i' [])
def PB (n s i j:Nat) (t:T4):Prop:=PA n s i t/\(t.getD i []).length=n/\ ∀j',j'<j->D6 s ((t.getD i []).getD j' [])
theorem PA.set {i:Nat} (h:PA n s i t) (r:T3):PA n s i (t.set i r):=by
 refine⟨by rw[List.length_set];exact h.1,λi' hi'=>?_⟩
 rw[Af,if_neg (by omega)];exact h.2 i' hi'
theorem PB.set {i j:Nat} (h:PB n s i j t) (hi:i<n) (c:List (List Bool)):PB n s i j (t.set i ((t.getD i []).set j c)):=by
 have hl:=h.1.1
 refine⟨h.1.set _,?_,λj' hj'=>?_⟩
 ·rw[Af,if_pos ⟨rfl,by omega⟩,List.length_set];exact h.2.1
 ·rw[Af,if_pos ⟨rfl,by omega⟩,Af,if_neg (by omega)];exact h.2.2 j' hj'
end
end T
set_option linter.unusedVariables false
open Go Go.Va
namespace T
def BR:Nat->((List Int)×(List Int)×Int×Int)->Option ((List Int))
 |0,_=>none
 |n+1,(b,t10,t11,t12)=>
 if decide (t12<t11)then
 if inb t12 t10 then
 if(0:Int)<=8 then
 if b.length+ [IntKind.wrap .u8 (YiD .i64 (gd t10 t12 0) 8),IntKind.wrap .u8 (gd t10 t12 0)].length<=lim then
 BR n (b++ [IntKind.wrap .u8 (YiD .i64 (gd t10 t12 0) 8),IntKind.wrap .u8 (gd t10 t12 0)],t10,t11,w64 (t12+1))
 else none
 else none
 else none
 else
 some b
def C4 (list:List Int):Option (ByteArray):=
 if(0:Int)<=0/\(0:Int)<=(w64 (2*(list.length:Int)))/\(w64 (2*(list.length:Int)))<=lim then
 (BR Ac (List.replicate (Int.toNat 0) (0:Int),list,(list.length:Int),0)).bind λs1=>
 some (Ybp s1)
 else none
def AI:Nat->((List Bool)×(List Bool)×Int)->Option ((Unit)⊕(Bool))
 |0,_=>none
 |n+1,(a,b,i)=>
 if decide (i<(a.length:Int))then
 if inb i a then
 if inb i b then
 if(gd a i false) !=(gd b i false)then
 some (.inr false)
 else
 AI n (a,b,w64 (i+1))
 else none
 else none
 else
 some (.inl ())
def A9 (a:List Bool) (b:List Bool):Option (Bool):=
 if(a.length:Int) !=(b.length:Int)then
  some false
 else
  (AI Ac (a,b,0)).bind λs1=>
   match s1 with
   | .inl s2=>
    some true
   | .inr s3=>
    some s3
def AA:Nat->((List Bool)×Int×Int)->Option ((List Bool)×Int)
 |0,_=>none
 |n+1,(a,k,i)=>
 if decide (i<(a.length:Int))then
 if(3:Int)≠0 then
 if inb i a then
 AA n (stt a i ((Int.tmod k 3)==0),w64 (k+1),w64 (i+1))
 else none
 else none
 else
 some (a,k)
def Bl (a:List Bool) (k:Int):Option ((List Bool)×Int):=
 (AA Ac (a,k,0)).bind λs1=>
 some (s1.1,s1.2)
def Az:Nat->((List Bool)×Int×Int)->Option ((Int)⊕(Int))
 |0,_=>none
 |n+1,(a,k,i)=>
 if decide (i<(a.length:Int))then
 if inb i a then
 if(3:Int)≠0 then
 if(gd a i false) !=((Int.tmod k 3)==0)then
 some (.inr (-1))
 else
 Az n (a,w64 (k+1),w64 (i+1))
 else none
 else none
 else
 some (.inl k)
def Ba (a:List Bool) (k:Int):Option (Int):=
 (Az Ac (a,k,0)).bind λs1=>
  match s1 with
  | .inl s2=>
   some s2
  | .inr s3=>
   some s3
end T
open Go Go.Va
namespace T
section
variable {n k m:Nat} {op:Opn} {r:Int×List (List Int)}
theorem D2 {n k:Nat} (hn:n<=4) (hk:k<=3):n^k<=64:=by
 have h1:n^k<=4^k:=Nat.pow_le_pow_left hn k
 have h2:4^k<=4^3:=Nat.pow_le_pow_right (by omega) hk
 have:(4:Nat)^3=64:=by decide
 omega
end
end T
open Go Go.Va
namespace T
section
variable {v:Int} {c:Con}
end
section
variable {a:Net}
def Cv (_:Bool) (k:Int):Bool×Int:=(Int.tmod k 3==0,k+1)
def Bn (l:List Bool) (k:Int):List Bool×Int:=mkL Cv l k
theorem C6 (l:List Bool) (k:Int):(Bn l k).2=k+(l.length:Nat):=by
 unfold Bn
 rw[BY (w:=λ_=>1) l k λ_ _ _=>rfl,BQ]
theorem C2 {x y:List Bool} (h:x.length<=1048576):A9 x y=some (decide (x=y)):=by
 unfold A9
 by_cases hl:x.length=y.length
 ·rw[if_neg (by simp[hl])]
  rw[eqX x y hl (λn i=>AI n (x,y,i)) (λn k h1 h2=>?_) (λn=>?_) (n:=Ac) (by unfold Ac;omega)]
  ·by_cases e:x=y<;>simp[e]
  ·simp only[AI,Ae,Ah h1,Ah h2,Ad (show k<4611686018427387904 by omega)]
   by_cases e:x[k]=y[k]<;>simp[h1,h2,e]
  ·simp[AI]
 ·have:x≠y:=λe=>hl (by rw[e])
  rw[if_pos (by simp;omega)];simp[this]
theorem CJ {l:List Bool} {k:Int} (hl:l.length<=1048576) (h0:0<=k) (hB:k+l.length<=BM):Bl l k=some (Bn l k):=by
 unfold Bl
 have:=DJ l.length (λn a k i=>AA n (a,k,i)) Cv (λ_=>1) BM (λa k=>some (a,k)) l k rfl (λ_ _ _=>rfl) h0 (by rw[BQ];exact hB) (λn a k i hi hl' _ hk0 hkB=>?_) (λn a k hl'=>?_) (n:=Ac) (by unfold Ac;omega)
 ·rw[this];rfl
 ·have hk1:w64 (k+1)=k+1:=Bb (by omega) (by unfold BM at hkB;omega)
  simp only[AA,Ae,B0,Ad (show i<4611686018427387904 by omega),hk1,Cv]
  simp[hl',hi]
 ·simp[AA,hl']
theorem CD {l:List Bool} {k:Int} (hl:l.length<=1048576) (h0:0<=k) (hB:k+l.length<=BM):Ba (Bn l k).1 k=some (Bn l k).2:=by
 unfold Ba
 have hlen:(Bn l k).1.length=l.length:=BO _ _ _
 have:=D8 Cv (λt k=>if t=(Int.tmod k 3==0)then some (k+1)else some (-1)) (λ_=>1) BM l k (λn k' i=>Az n ((Bn l k).1,k',i)) 0 (λ_ _ k=>rfl) h0 (by rw[BQ];exact hB) (λx hx k' hk0 hkB=>by simp[Cv])
  (λn k' i hi hk0 hkB=>by
   have hi':i<(Bn l k).1.length:=by omega
   rw[Nat.zero_add]
   have hk1:w64 (k'+1)=k'+1:=Bb (by omega) (by unfold BM at hkB;omega)
   simp only[Az,Ae,Ah hi',Ad (show i<4611686018427387904 by omega),hk1]
   have e:(mkL Cv l k).1[i]'(by rw[BO];exact hi)=(Bn l k).1[i]:=rfl
   rw[e]
   rw[if_pos (by simp;omega),if_pos hi',if_pos (by decide)]
   by_cases hc:(Bn l k).1[i]=(Int.tmod k' 3==0)
   ·rw[if_neg (by simp[hc]),if_pos hc]
    simp only[Option.bind_some]
    rw[if_neg (by omega)]
   ·rw[if_pos (by simpa using hc),if_neg hc];rfl)
  (λn k'=>by rw[Nat.zero_add];simp[Az,hlen]) Ac (by unfold Ac;omega)
 rw[show((0:Nat):Int)=0 from rfl]at this
 rw[this];rfl
end
end T
set_option linter.unusedVariables false
open Go Go.Va
namespace T
def BK:Nat->(Int×Int×(List Int)×Int)->Option ((List Int))
 |0,_=>none
 |n+1,(n_,at_,out,i)=>
 if decide (i≥0)then
 if n_≠0 then
 if inb i out then
 if n_≠0 then
 BK n (n_,w64 (Int.tdiv at_ n_),stt out i (Int.tmod at_ n_),w64 (i-1))
 else none
 else none
 else none
 else
 some out
def CU (n_:Int) (arity:Int) (at_:Int):Option ((List Int)):=
 if 0<=arity/\arity<=arity/\arity<=lim then
 (BK Ac (n_,at_,List.replicate (Int.toNat arity) (0:Int),w64 (arity-1))).bind λs1=>
 some s1
 else none
def BF:Nat->(Int×Int×(List Int)×Int)->Option ((List Int))
 |0,_=>none
 |n+1,(i,n_,args,j)=>
 if decide (j≥0)then
 if n_≠0 then
 if inb j args then
 if n_≠0 then
 BF n (w64 (Int.tdiv i n_),n_,stt args j (Int.tmod i n_),w64 (j-1))
 else none
 else none
 else none
 else
 some args
def CO (i:Int) (k:Int) (n_:Int):Option ((List Int)):=
 if 0<=k/\k<=k/\k<=lim then
 (BF Ac (i,n_,List.replicate (Int.toNat k) (0:Int),w64 (k-1))).bind λs1=>
 some s1
 else none
def Cd (list:List Int):Option ((List Int)):=
 if([]:List Int).length+list.length<=lim then
 some ([]++list)
 else none
end T
open Go Go.Va
namespace T
abbrev CC:=Int×List (List Int)
structure ROk (n m:Nat) (r:CC):Prop where
 ar:r.1=(m:Int)
 hm:1<=m/\m<=3
 tl: ∀t∈r.2,t.length=m
 tv: ∀t∈r.2,∀x∈t,0<=x/\x<(n:Int)
 many:r.2.length<=64
 inc:BD r.2=true
theorem Ej {n:Nat} {r:CC} (hn:1<=n/\n<=4) (h:C9 (n:Int) r=true):ROk n r.1.toNat r:=by
 unfold C9 at h
 simp only[Bool.and_eq_true,decide_eq_true_eq,List.all_eq_true]at h
 obtain⟨⟨h1,h2⟩,h3⟩:=h
 refine⟨by omega,by omega,λt ht=>by have:=(h2 t ht).1;omega,λt ht x hx=>?_,?_,h3⟩
 ·obtain⟨j,hj,rfl⟩:=List.mem_iff_getElem.1 hx
  exact C0 (h2 t ht).2 j hj
 ·rcases Cu (n:=(n:Int)) (k:=r.1.toNat) h3 λt ht=>⟨by have:=(h2 t ht).1;omega,(h2 t ht).2⟩with h6|h6
  ·have h7:((n:Int))^r.1.toNat=((n^r.1.toNat:Nat):Int):=by push_cast;rfl
   have h8:=D2 hn.2 (show r.1.toNat<=3 by omega)
   omega
  ·rw[h6];simp
section
variable {n k m:Nat} {r:CC}
end
end T
open Go Go.Va
namespace T
theorem Cr {r:CC} (h:Cg r.2):As r=some r:=by
 unfold As
 rw[Db (by have:=h.1;omega) λt ht=>by have:=h.2 t ht;omega]
 rfl
theorem Cm {a b:CC} (h:Cg a.2):AY a b=some (decide (a=b)):=by
 unfold AY
 rw[C3 (by have:=h.1;omega) λr hr=>by have:=h.2 r hr;omega]
 obtain⟨a1,a2⟩:=a
 obtain⟨b1,b2⟩:=b
 by_cases h1:a1=b1
 ·by_cases h2:a2=b2<;>simp[h1,h2]
 ·simp[h1]
end T
open Go Go.Va
namespace T
section
variable {n:Int} {rels:List CC}
end
def B3 (V:List Int) (x:Nat):Int:=match V.findIdx? (λy=>y==(x:Int))with|some i=>(i:Int)|none=> -1
section
variable {n:Nat} {t:List Int}
end
section
variable {n m:Nat} {t:List Int} {r:CC} {rels:List CC}
end
end T
open Go Go.Va
namespace T
section
variable {α:Type} {nw old:Nat->α} {N i:Nat}
end
def pr4 (p:Int):Prop:=p=2∨p=3∨p=5∨p=7
def De (p:Int) (W:Nat) (r:List Int):Prop:=r.length=W/\ ∀x∈r,0<=x/\x<p
section
variable {p:Int} {W:Nat} {r row:List Int}
theorem Eh (h:De p W r) {i:Nat} (hi:i<W):0<=r.getD i 0/\r.getD i 0<p:=by
 have:i<r.length:=by rw[h.1];exact hi
 rw[AG this];exact h.2 _ (List.getElem_mem this)
theorem AN {x:Int} (h0: -1000000<=x) (h1:x<=1000000):w64 x=x:=Bb (by omega) (by omega)
end
abbrev ES:=List (List Int)×List Int×List (List Int)
structure ESok (p:Int) (W N v:Nat) (s:ES):Prop where
 t: ∀r∈s.1,De p W r
 l: ∀r∈s.2.2,De p W r
 bl:s.2.1.length=s.1.length
 n:s.1.length+s.2.2.length=N
 bv: ∀x∈s.2.1,0<=x/\x<(v:Int)
 bn:s.2.1.Nodup
section
variable {p:Int} {W N:Nat}
end
end T
open Go Go.Va
namespace T
section
variable {p:Int} {W N V:Nat}
theorem Dr {b:List Int} {u:Nat} (h:(u:Int)∉b):B3 b u= -1:=by
 unfold B3
 have h1:(b.findIdx? λy=>y==(u:Int))=none:=by
  rw[List.findIdx?_eq_none_iff]
  intro y hy
  simp only[beq_eq_false_iff_ne]
  intro e;exact h (e▸hy)
 rw[h1]
theorem Df {b:List Int} {u:Nat} (h:(u:Int)∈b): ∃i,∃hi:i<b.length,B3 b u=(i:Int)/\b[i]=(u:Int):=by
 unfold B3
 have h1:(b.findIdx? λy=>y==(u:Int)).isSome=true:=by
  rw[List.findIdx?_isSome,List.any_eq_true]
  exact⟨_,h,by simp⟩
 obtain⟨i,hi⟩:=Option.isSome_iff_exists.1 h1
 rw[hi]
 obtain⟨g1,g2,_⟩:=List.findIdx?_eq_some_iff_getElem.1 hi
 exact⟨i,g1,rfl,by simpa using g2⟩
end
end T
open Go Go.Va
namespace T
def Et (N:Nat) (b:List Int):List Int:=((List.range N).filter λv:Nat=>!decide ((v:Int)∈b)).map λv:Nat=>(v:Int)
section
variable {p:Int} {W N V:Nat}
theorem DL {b:List Int} {u:Nat}:B3 b u<0↔(u:Int)∉b:=by
 by_cases h:(u:Int)∈b
 ·obtain⟨i,hi,h1,_⟩:=Df h
  rw[h1];simp[h]
 ·rw[Dr h];simp[h]
def DN (V:Nat) (s:ES) (u:Nat):Int:=if B3 s.2.1 u<0 then 0 else(s.1.getD (B3 s.2.1 u).toNat []).getD V 0
def EC (V:Nat) (s:ES):List Int:=(List.range V).map (DN V s)
end
end T
open Go Go.Va
namespace T
section
variable {a:Lin}
theorem Em {t:Nat} (h: ¬szR t 1048576<0):t<=1048576:=by
 unfold szR at h;split at h<;>omega
end
end T
open Go Go.Va
namespace T
def cg (p a b:Int):Prop:= ∃k,a=b+p*k
section
variable {p a b c d:Int}
theorem Dz (h:a=b):cg p a b:=⟨0,by rw[h];simp⟩
theorem Ea (h:cg p a b) (g:cg p c d):cg p (a+c) (b+d):=by obtain⟨k,h⟩:=h;obtain⟨m,g⟩:=g;exact⟨k+m,by grind⟩
theorem Eb (x:Int) (h:cg p a b):cg p (x*a) (x*b):=by obtain⟨k,h⟩:=h;exact⟨x*k,by grind⟩
end
inductive Sp (p:Int) (V:Nat) (A:List (List Int)):(Nat->Int)->Prop
 |zero:Sp p V A λ_=>0
 |add {f:Nat->Int} (r:List Int) (c:Int):r∈A->Sp p V A f->Sp p V A λi=>f i+c*r.getD i 0
 |cgr {f g:Nat->Int}:Sp p V A f->(∀i,i<V->cg p (g i) (f i))->Sp p V A g
section
variable {p:Int} {V W N:Nat} {A B:List (List Int)} {f g:Nat->Int}
theorem Sp.lin (hf:Sp p V A f) (hg:Sp p V A g) (c:Int):Sp p V A λi=>f i+c*g i:=by
 induction hg with
 |zero=>exact hf.cgr λi _=>Dz (by simp)
 |add r d hr _ ih=>exact(ih.add r (c*d) hr).cgr λi _=>Dz (by grind)
 |cgr _ h ih=>exact ih.cgr λi hi=>Ea (Dz rfl) (Eb c (h i hi))
theorem Sp.sub (h: ∀r∈A,Sp p V B λi=>r.getD i 0) (hf:Sp p V A f):Sp p V B f:=by
 induction hf with
 |zero=>exact .zero
 |add r c hr _ ih=>exact ih.lin (h r hr) c
 |cgr _ h ih=>exact ih.cgr h
def eqSp (p:Int) (V:Nat) (A B:List (List Int)):Prop:= ∀f,Sp p V A f↔Sp p V B f
end
end T
open Go Go.Va
namespace T
section
variable {p:Int} {V W N:Nat} {A B:List (List Int)} {f g:Nat->Int}
theorem CN {α:Type} {l:List α} {i:Nat} {d:α} (hi:i<l.length):l.getD i d∈l:=by rw[AG hi];exact List.getElem_mem hi
end
end T
open Go Go.Va
namespace T
section
variable {p:Int} {V W N:Nat} {A B C D:List (List Int)} {f g:Nat->Int}
theorem eqSp.symm (h:eqSp p V A B):eqSp p V B A:=λf=>(h f).symm
theorem eqSp.trans (h:eqSp p V A B) (g:eqSp p V B C):eqSp p V A C:=λf=>(h f).trans (g f)
end
end T
set_option linter.unusedVariables false
open Go Go.Va
namespace T
def An:Nat->((List Int)×(List Int)×Int)->Option ((Unit)⊕(Bool))
 |0,_=>none
 |n+1,(t,clause,i)=>
 if decide (i<(clause.length:Int))then
 if inb i clause then
 if decide ((gd clause i 0)>0)then
 if inb i clause then
 if inb (w64 ((gd clause i 0)-1)) t then
 if(gd t (w64 ((gd clause i 0)-1)) 0)==1 then
 some (.inr true)
 else
 if inb i clause then
 if decide ((gd clause i 0)<0)then
 if inb i clause then
 if inb (w64 ((w64 (0-(gd clause i 0)))-1)) t then
 if(gd t (w64 ((w64 (0-(gd clause i 0)))-1)) 0)==0 then
 some (.inr true)
 else
 An n (t,clause,w64 (i+1))
 else none
 else none
 else
 An n (t,clause,w64 (i+1))
 else none
 else none
 else none
 else
 if inb i clause then
 if decide ((gd clause i 0)<0)then
 if inb i clause then
 if inb (w64 ((w64 (0-(gd clause i 0)))-1)) t then
 if(gd t (w64 ((w64 (0-(gd clause i 0)))-1)) 0)==0 then
 some (.inr true)
 else
 An n (t,clause,w64 (i+1))
 else none
 else none
 else
 An n (t,clause,w64 (i+1))
 else none
 else none
 else
 some (.inl ())
def Bu (t:List Int) (clause:List Int):Option (Bool):=
 (An Ac (t,clause,0)).bind λs1=>
  match s1 with
  | .inl s2=>
   some false
  | .inr s3=>
   some s3
def Ag:Nat->((List Int)×(List Int)×Int×Int)->Option ((Unit)⊕(Bool))
 |0,_=>none
 |n+1,(t,t7,t8,t9)=>
 if decide (t9<t8)then
 if inb t9 t7 then
 if decide ((gd t7 t9 0)>0)then
 if inb (w64 ((gd t7 t9 0)-1)) t then
 if(gd t (w64 ((gd t7 t9 0)-1)) 0)==1 then
 some (.inr true)
 else
 if decide ((gd t7 t9 0)<0)then
 if inb (w64 ((w64 (0-(gd t7 t9 0)))-1)) t then
 if(gd t (w64 ((w64 (0-(gd t7 t9 0)))-1)) 0)==0 then
 some (.inr true)
 else
 Ag n (t,t7,t8,w64 (t9+1))
 else none
 else
 Ag n (t,t7,t8,w64 (t9+1))
 else none
 else
 if decide ((gd t7 t9 0)<0)then
 if inb (w64 ((w64 (0-(gd t7 t9 0)))-1)) t then
 if(gd t (w64 ((w64 (0-(gd t7 t9 0)))-1)) 0)==0 then
 some (.inr true)
 else
 Ag n (t,t7,t8,w64 (t9+1))
 else none
 else
 Ag n (t,t7,t8,w64 (t9+1))
 else none
 else
 some (.inl ())
def Bc (t:List Int) (clause:List Int):Option (Bool):=
 (Ag Ac (t,clause,(clause.length:Int),0)).bind λs1=>
  match s1 with
  | .inl s2=>
   some false
  | .inr s3=>
   some s3
def AP (a:Int×(List (List Int))) (k:Int):Option ((Unit×(List (List Int)))×Int):=
 (Bm a.2 k).bind λr1=>
 some (((),r1.1),r1.2)
end T
open Go Go.Va
namespace T
def i64 (x:Int):Prop:= -9223372036854775808<=x/\x<=9223372036854775807
section
variable {c:List Int} {ar:Int}
def Bz (t:List Int) (x:Int):Bool:=if x>0 then gd t (x-1) 0==1 else gd t (-x-1) 0==0
theorem Dl {t:List Int} (ha:1<=ar/\ar<=3) (ht:(t.length:Int)=ar) (hc: ∀x∈c,-ar<=x/\x<=ar/\x≠0) (hl:c.length<=1099511627775):Bc t c=some (c.any (Bz t)):=by
 unfold Bc
 have key:=Di c (λm i=>Ag m (t,c,(c.length:Int),i)) (λx=>!Bz t x) (.inr true) (.inl ()) (λm k hk=>?_) (λm=>?_) (n:=Ac) (by unfold Ac;omega)
 ·rw[key]
  have e:(c.all λr=>!Bz t r)=!(c.any (Bz t)):=by rw[List.not_any_eq_all_not]
  rw[e]
  cases c.any (Bz t)<;>simp
 ·have hx:=hc _ (List.getElem_mem hk)
  generalize hgx:c[k]=x at hx
  have w1:w64 (x-1)=x-1:=AN (by omega) (by omega)
  have w2:w64 (0-x)= -x:=by rw[AN (by omega) (by omega)];omega
  have w3:w64 (-x-1)= -x-1:=AN (by omega) (by omega)
  simp only[Ag,Ae,hk,Ah hk,hgx,if_true,w1,w2,w3,Ad (show k<4611686018427387904 by omega)]
  rw[if_pos (by simp;omega)]
  unfold Bz
  by_cases cx:x>0
  ·rw[if_pos (by simpa using cx),if_pos cx,if_pos (show inb (x-1) t by unfold inb;omega),if_neg (show¬decide (x<0)=true by simp;omega)]
   cases (gd t (x-1) 0==1)<;>rfl
  ·rw[if_neg (by simpa using cx),if_neg cx,if_pos (show decide (x<0)=true by simp;omega),if_pos (show inb (-x-1) t by unfold inb;omega)]
   cases (gd t (-x-1) 0==0)<;>rfl
 ·simp only[Ag]
  rw[if_neg (by simp)]
theorem Dt {t:List Int} (ha:1<=ar/\ar<=3) (ht:(t.length:Int)=ar) (hc: ∀x∈c,-ar<=x/\x<=ar/\x≠0) (hl:c.length<=1099511627775):Bu t c=some (c.any (Bz t)):=by
 unfold Bu
 have key:=Di c (λm i=>An m (t,c,i)) (λx=>!Bz t x) (.inr true) (.inl ()) (λm k hk=>?_) (λm=>?_) (n:=Ac) (by unfold Ac;omega)
 ·rw[key]
  have e:(c.all λr=>!Bz t r)=!(c.any (Bz t)):=by rw[List.not_any_eq_all_not]
  rw[e]
  cases c.any (Bz t)<;>simp
 ·have hx:=hc _ (List.getElem_mem hk)
  generalize hgx:c[k]=x at hx
  have w1:w64 (x-1)=x-1:=AN (by omega) (by omega)
  have w2:w64 (0-x)= -x:=by rw[AN (by omega) (by omega)];omega
  have w3:w64 (-x-1)= -x-1:=AN (by omega) (by omega)
  simp only[An,Ae,hk,Ah hk,hgx,if_true,w1,w2,w3,Ad (show k<4611686018427387904 by omega)]
  rw[if_pos (by simp;omega)]
  unfold Bz
  by_cases cx:x>0
  ·rw[if_pos (by simpa using cx),if_pos cx,if_pos (show inb (x-1) t by unfold inb;omega),if_neg (show¬decide (x<0)=true by simp;omega)]
   cases (gd t (x-1) 0==1)<;>rfl
  ·rw[if_neg (by simpa using cx),if_neg cx,if_pos (show decide (x<0)=true by simp;omega),if_pos (show inb (-x-1) t by unfold inb;omega)]
   cases (gd t (-x-1) 0==0)<;>rfl
 ·simp only[An]
  rw[if_neg (by simp)]
end
end T
open Go Go.Va
namespace T
abbrev NS:=Bool×Int×List (List (List Int))×List (List (List ByteArray))
abbrev NIn (σ:Type):=Int×List Int×σ×NS×List Int×Unit
abbrev DW (σ:Type):=List Int×σ×NS×List Int×Bool
def hM {σ:Type}:Nat->(Int×List Int×σ×NS×List Int×Unit×Int×Bool×List (List Int)×Int×Int)->Option (Int×List Int×σ×NS×List Int×Unit×Int×Bool)
 |0,_=>none
 |n+1,(t0,t1,t2,t3,t4,t5,t8,t9,t50,t51,t52)=>
 if decide (t52<t51)then
 if inb t52 t50 then
 if t9 then
 if t3.1=true then
 if inb t0 t3.2.2.2 then
 if inb t52 (gd t3.2.2.2 t0 [])then
 (CG (gd t50 t52 []) t1).bind λr2=>
 (C4 r2).bind λr3=>
 hM n (t0,t1,t2,t3,t4,(),t8,Xs (gd (gd t3.2.2.2 t0 []) t52 []) r3,t50,t51,w64 (t52+1))
 else none
 else none
 else none
 else
 hM n (t0,t1,t2,t3,t4,(),t8,false,t50,t51,w64 (t52+1))
 else none
 else
 some (t0,t1,t2,t3,t4,(),t8,t9)
def hL {σ:Type} (rec:NIn σ->Option (DW σ)):Nat->(Int×List Int×σ×NS×List Int×Unit×Int)->Option ((List Int×σ×NS×List Int×Unit)⊕(List Int×σ×NS×List Int×Unit×Bool))
 |0,_=>none
 |n+1,(t0,t1,t2,t3,t4,t5,t8)=>
 if t3.1=true then
 if decide (t8<t3.2.1)then
 if inb t0 t4 then
 if decide ((gd t4 t0 0)≥0)then
 if inb t0 t4 then
 if(gd t4 t0 0) !=t8 then
 hL rec n (t0,t1,t2,t3,t4,(),w64 (t8+1))
 else
 if inb t0 t1 then
 if t3.1=true then
 if inb t0 t3.2.2.1 then
 (hM Ac (t0,stt t1 t0 t8,t2,t3,t4,(),t8,true,gd t3.2.2.1 t0 [],((gd t3.2.2.1 t0 []).length:Int),0)).bind λs2=>
 if s2.2.2.2.2.2.2.2 then
 (rec (w64 (s2.1+1),s2.2.1,s2.2.2.1,s2.2.2.2.1,s2.2.2.2.2.1,())).bind λr3=>
 if !r3.2.2.2.2 then
 some (.inr (r3.1,r3.2.1,r3.2.2.1,r3.2.2.2.1,(),false))
 else
 hL rec n (s2.1,r3.1,r3.2.1,r3.2.2.1,r3.2.2.2.1,(),w64 (s2.2.2.2.2.2.2.1+1))
 else
 hL rec n (s2.1,s2.2.1,s2.2.2.1,s2.2.2.2.1,s2.2.2.2.2.1,(),w64 (s2.2.2.2.2.2.2.1+1))
 else none
 else none
 else none
 else none
 else
 if inb t0 t1 then
 if t3.1=true then
 if inb t0 t3.2.2.1 then
 (hM Ac (t0,stt t1 t0 t8,t2,t3,t4,(),t8,true,gd t3.2.2.1 t0 [],((gd t3.2.2.1 t0 []).length:Int),0)).bind λs4=>
 if s4.2.2.2.2.2.2.2 then
 (rec (w64 (s4.1+1),s4.2.1,s4.2.2.1,s4.2.2.2.1,s4.2.2.2.2.1,())).bind λr5=>
 if !r5.2.2.2.2 then
 some (.inr (r5.1,r5.2.1,r5.2.2.1,r5.2.2.2.1,(),false))
 else
 hL rec n (s4.1,r5.1,r5.2.1,r5.2.2.1,r5.2.2.2.1,(),w64 (s4.2.2.2.2.2.2.1+1))
 else
 hL rec n (s4.1,s4.2.1,s4.2.2.1,s4.2.2.2.1,s4.2.2.2.2.1,(),w64 (s4.2.2.2.2.2.2.1+1))
 else none
 else none
 else none
 else none
 else
 some (.inl (t1,t2,t3,t4,()))
 else none
def Eu {σ:Type} (cb:List Int->σ->Option (σ×Bool)) (rec:NIn σ->Option (DW σ)) (x:NIn σ):Option (DW σ):=
 if x.1==(x.2.1.length:Int)then
  (cb x.2.1 x.2.2.1).bind λr1=>some (x.2.1,r1.1,x.2.2.2.1,x.2.2.2.2.1,r1.2)
 else
  (hL rec Ac (x.1,x.2.1,x.2.2.1,x.2.2.2.1,x.2.2.2.2.1,(),0)).bind λs2=>
   match s2 with
   | .inl s3=>some (s3.1,s3.2.1,s3.2.2.1,s3.2.2.2.1,true)
   | .inr s4=>some (s4.1,s4.2.1,s4.2.2.1,s4.2.2.2.1,s4.2.2.2.2.2)
def hF {σ:Type} (cb:List Int->σ->Option (σ×Bool)):Nat->NIn σ->Option (DW σ)
 |0,_=>none
 |d+1,x=>Eu cb (hF cb d) x
section
variable {V n:Nat} {cs:List Con} {given:List Int}
end
end T
open Go Go.Va
namespace T
def Zn (cmp:List Int->List Int->Int) (rows:List (List Int)):List (List Int):=rows.mergeSort (λx y=>!decide (cmp y x<0))
def cmpT (s t:List Int):Int:=if s.length<t.length then-1 else if t.length<s.length then 1 else cmpL s t
theorem cmpT_refl (s:List Int):cmpT s s=0:=by unfold cmpT;rw[if_neg (by omega),if_neg (by omega),cmpL_refl]
theorem cmpT_symm (s t:List Int):cmpT t s= -cmpT s t:=by
 unfold cmpT
 by_cases h1:s.length<t.length
 ·rw[if_neg (by omega),if_pos h1,if_pos h1];rfl
 ·by_cases h2:t.length<s.length
  ·rw[if_pos h2,if_neg h1,if_pos h2]
  ·rw[if_neg h2,if_neg h1,if_neg h1,if_neg h2,cmpL_symm]
theorem cmpT_eq {s t:List Int} (h:cmpT s t=0):s=t:=by
 unfold cmpT at h
 by_cases h1:s.length<t.length
 ·rw[if_pos h1]at h;exact absurd h (by decide)
 ·rw[if_neg h1]at h
  by_cases h2:t.length<s.length
  ·rw[if_pos h2]at h;exact absurd h (by decide)
  ·rw[if_neg h2]at h;exact cmpL_eq.1 h
theorem cmpT_trans {s t u:List Int} (h1:cmpT s t<0) (h2:cmpT t u<0):cmpT s u<0:=by
 unfold cmpT at*
 by_cases a1:s.length<u.length
 ·rw[if_pos a1];decide
 ·rw[if_neg a1]
  by_cases b1:s.length<t.length
  ·have b2:u.length<t.length:=by omega
   rw[if_neg (by omega),if_pos b2]at h2;exact absurd h2 (by decide)
  ·rw[if_neg b1]at h1
   by_cases b3:t.length<s.length
   ·rw[if_pos b3]at h1;exact absurd h1 (by decide)
   ·rw[if_neg b3]at h1
    by_cases c1:t.length<u.length
    ·omega
    ·rw[if_neg c1]at h2
     by_cases c2:u.length<t.length
     ·rw[if_pos c2]at h2;exact absurd h2 (by decide)
     ·rw[if_neg c2]at h2
      rw[if_neg (by omega)]
      exact cmpL_trans h1 h2
end T
open Go Go.Va
namespace T
section
variable {p:Int} {W N V:Nat}
def coG (p:Int) (s:ES) (u:Nat) (f:Int):Int:=if B3 s.2.1 u<0 then(if f=(u:Int)then 1 else 0)else p-(s.1.getD (B3 s.2.1 u).toNat []).getD f.toNat 0
def El (p:Int) (V:Nat) (s:ES) (F x:List Int) (u:Nat):Nat->Int
 |0=>DN V s u
 |k+1=>El p V s F x u k+coG p s u (F.getD k 0)*x.getD k 0
def EE (p:Int) (V:Nat) (s:ES) (F x:List Int) (k:Nat):List Int:=(List.range V).map λu=>El p V s F x u k%p
structure GenOk (p:Int) (W N V:Nat) (s:ES) (F x:List Int):Prop where
 hp:pr4 p
 hs:ESok p W N V s
 hV:V<W
 hW:W<=1000
 hN:N<=100000
 hF:F=Et V s.2.1
 hx:x.length=F.length
 xb: ∀v∈x,0<=v/\v<p
variable {s:ES} {F x:List Int}
theorem GenOk.pb (g:GenOk p W N V s F x):2<=p/\p<=7:=by have:=g.hp;unfold pr4 at this;omega
theorem GenOk.row (g:GenOk p W N V s F x) {u:Nat} (hu: ¬B3 s.2.1 u<0):(B3 s.2.1 u).toNat<s.1.length/\De p W (s.1.getD (B3 s.2.1 u).toNat []):=by
 have hm:(u:Int)∈s.2.1:=by
  rcases Decidable.em ((u:Int)∈s.2.1)with h|h
  ·exact h
  ·exact absurd (DL.2 h) hu
 obtain⟨i,hi,g1,_⟩:=Df hm
 rw[g1,Int.toNat_natCast]
 have:=g.hs.bl
 exact⟨by omega,by rw[AG (by omega)];exact g.hs.t _ (List.getElem_mem _)⟩
theorem GenOk.base (g:GenOk p W N V s F x) (u:Nat):0<=DN V s u/\DN V s u<p:=by
 have:=g.pb
 unfold DN
 split
 ·omega
 ·rename_i h
  exact Eh (g.row h).2 g.hV
end
end T
open Go Go.Va
namespace T
section
variable {p:Int} {W N V:Nat} {s:ES} {F x:List Int}
theorem GenOk.zero (g:GenOk p W N V s F x):EE p V s F x 0=EC V s:=by
 unfold EE EC
 refine List.map_congr_left λu _=>?_
 have:=g.base u
 simp only[El]
 exact Int.emod_eq_of_lt this.1 this.2
end
end T
set_option linter.unusedVariables false
open Go Go.Va
namespace T
def Cq (s:List Int) (t:List Int):Option (Bool):=
 if(s.length:Int) !=(t.length:Int)then
 some (decide ((s.length:Int)<(t.length:Int)))
 else
 (BL s t).bind λr1=>
 some r1
def Av:Nat->(Int×(List (List Int))×Int×(List Int)×(List Int)×Int)->Option (Int×(List (List Int))×Int×(List Int))
 |0,_=>none
 |n+1,(t0,t3,t4,t5,t6,t7)=>
 if decide (t7<t0)then
 if inb t7 t5 then
 if(gd t5 t7 0)==1 then
 if t6.length+ [w64 (t7+1)].length<=lim then
 if inb t7 t5 then
 if(gd t5 t7 0)==2 then
 if(t6++ [w64 (t7+1)]).length+ [w64 ((w64 (0-t7))-1)].length<=lim then
 Av n (t0,t3,t4,t5,(t6++ [w64 (t7+1)])++ [w64 ((w64 (0-t7))-1)],w64 (t7+1))
 else none
 else
 Av n (t0,t3,t4,t5,t6++ [w64 (t7+1)],w64 (t7+1))
 else none
 else none
 else
 if inb t7 t5 then
 if(gd t5 t7 0)==2 then
 if t6.length+ [w64 ((w64 (0-t7))-1)].length<=lim then
 Av n (t0,t3,t4,t5,t6++ [w64 ((w64 (0-t7))-1)],w64 (t7+1))
 else none
 else
 Av n (t0,t3,t4,t5,t6,w64 (t7+1))
 else none
 else none
 else
 some (t0,t3,t4,t6)
def Bi:Nat->(Int×(List (List Int))×Int×(List Int)×Int)->Option (Int×(List (List Int))×Int×(List Int)×Int)
 |0,_=>none
 |n+1,(t0,t3,t4,t6,t8)=>
 if decide (t8<(t3.length:Int))then
 if inb t8 t3 then
 (Cq (gd t3 t8 []) t6).bind λr4=>
 if r4 then
 Bi n (t0,t3,t4,t6,w64 (t8+1))
 else
 some (t0,t3,t4,t6,t8)
 else none
 else
 some (t0,t3,t4,t6,t8)
def Bp:Nat->(Int×(List (List Int))×Int)->Option ((List (List Int)))
 |0,_=>none
 |n+1,(t0,t3,t4)=>
 (BA 3 t0).bind λr1=>
 if decide (t4<r1)then
 (CU 3 t0 t4).bind λr2=>
 (Av Ac (t0,t3,t4,r2,[],0)).bind λs3=>
 (Bi Ac (s3.1,s3.2.1,s3.2.2.1,s3.2.2.2,0)).bind λs4=>
 if(0:Int)<=0/\0<=s4.2.2.2.2/\s4.2.2.2.2<=(s4.2.1.length:Int)then
 if([]:List (List Int)).length+((s4.2.1.take (Int.toNat s4.2.2.2.2)).drop (Int.toNat 0)).length<=lim then
 if([]++((s4.2.1.take (Int.toNat s4.2.2.2.2)).drop (Int.toNat 0))).length+ [s4.2.2.2.1].length<=lim then
 if(0:Int)<=s4.2.2.2.2/\s4.2.2.2.2<=(s4.2.1.length:Int)/\(s4.2.1.length:Int)<=(s4.2.1.length:Int)then
 if(([]++((s4.2.1.take (Int.toNat s4.2.2.2.2)).drop (Int.toNat 0)))++ [s4.2.2.2.1]).length+((s4.2.1.take (Int.toNat (s4.2.1.length:Int))).drop (Int.toNat s4.2.2.2.2)).length<=lim then
 Bp n (s4.1,(([]++((s4.2.1.take (Int.toNat s4.2.2.2.2)).drop (Int.toNat 0)))++ [s4.2.2.2.1])++((s4.2.1.take (Int.toNat (s4.2.1.length:Int))).drop (Int.toNat s4.2.2.2.2)),w64 (s4.2.2.1+1))
 else none
 else none
 else none
 else none
 else none
 else
 some t3
def AM (t0:Int):Option ((List (List Int))):=
 (Bp Ac (t0,[],0)).bind λs1=>
 some s1
def AT:Nat->((List Int)×(Int×(List (List Int)))×Int)->Option ((Unit)⊕(Bool))
 |0,_=>none
 |n+1,(clause,r,i)=>
 if decide (i<(r.2.length:Int))then
 if inb i r.2 then
 (Bu (gd r.2 i []) clause).bind λr1=>
 if !r1 then
 some (.inr false)
 else
 AT n (clause,(r.1,r.2),w64 (i+1))
 else none
 else
 some (.inl ())
def Bs (r:Int×(List (List Int))) (clause:List Int):Option (Bool):=
 (AT Ac (clause,(r.1,r.2),0)).bind λs1=>
  match s1 with
  | .inl s2=>
   some true
  | .inr s3=>
   some s3
def Au:Nat->((Int×(List (List Int)))×(List (List Int))×(List (List Int))×Int×Bool×Int)->Option ((Int×(List (List Int)))×(List (List Int))×(List (List Int))×Int×Bool)
 |0,_=>none
 |n+1,(r,out,all,i,prime,k)=>
 if inb i all then
 if decide (k<((gd all i []).length:Int))then
 if prime then
 if inb i all then
 if(0:Int)<=0/\0<=k/\k<=((gd all i []).length:Int)then
 (BV (((gd all i []).take (Int.toNat k)).drop (Int.toNat 0))).bind λr3=>
 if inb i all then
 if(0:Int)<=(w64 (k+1))/\(w64 (k+1))<=((gd all i []).length:Int)/\((gd all i []).length:Int)<=((gd all i []).length:Int)then
 if r3.length+(((gd all i []).take (Int.toNat ((gd all i []).length:Int))).drop (Int.toNat (w64 (k+1)))).length<=lim then
 (Bs (r.1,r.2) (r3++(((gd all i []).take (Int.toNat ((gd all i []).length:Int))).drop (Int.toNat (w64 (k+1)))))).bind λr4=>
 Au n ((r.1,r.2),out,all,i,!r4,w64 (k+1))
 else none
 else none
 else none
 else none
 else none
 else
 some ((r.1,r.2),out,all,i,prime)
 else
 some ((r.1,r.2),out,all,i,prime)
 else none
def Aq:Nat->((Int×(List (List Int)))×(List (List Int))×(List (List Int))×Int)->Option ((List (List Int)))
 |0,_=>none
 |n+1,(r,out,all,i)=>
 if decide (i<(all.length:Int))then
 if inb i all then
 (Bs (r.1,r.2) (gd all i [])).bind λr2=>
 (Au Ac ((r.1,r.2),out,all,i,r2,0)).bind λs3=>
 if s3.2.2.2.2 then
 if inb s3.2.2.2.1 s3.2.2.1 then
 if s3.2.1.length+ [gd s3.2.2.1 s3.2.2.2.1 []].length<=lim then
 Aq n ((s3.1.1,s3.1.2),s3.2.1++ [gd s3.2.2.1 s3.2.2.2.1 []],s3.2.2.1,w64 (s3.2.2.2.1+1))
 else none
 else none
 else
 Aq n ((s3.1.1,s3.1.2),s3.2.1,s3.2.2.1,w64 (s3.2.2.2.1+1))
 else none
 else
 some out
def Bd (r:Int×(List (List Int))):Option ((List (List Int))):=
 (AM r.1).bind λr1=>
 (Aq Ac ((r.1,r.2),[],r1,0)).bind λs2=>
 some s2
def Al:Nat->((List Bool)×(List (List Int))×Int×Int×Int)->Option ((List Bool)×(List (List Int))×Int×Int)
 |0,_=>none
 |n+1,(t4,t5,t6,t7,t8)=>
 if inb t6 t5 then
 if decide (t8<((gd t5 t6 []).length:Int))then
 if inb t6 t5 then
 if inb t8 (gd t5 t6 [])then
 if decide ((gd (gd t5 t6 []) t8 0)>0)then
 Al n (t4,t5,t6,w64 (t7+1),w64 (t8+1))
 else
 Al n (t4,t5,t6,t7,w64 (t8+1))
 else none
 else none
 else
 some (t4,t5,t6,t7)
 else none
def Ab:Nat->((List Bool)×(List (List Int))×Int)->Option ((List Bool))
 |0,_=>none
 |n+1,(t4,t5,t6)=>
 if decide (t6<(t5.length:Int))then
 (Al Ac (t4,t5,t6,0,0)).bind λs3=>
 if inb 0 s3.1 then
 if gd s3.1 0 false then
 if inb 0 s3.1 then
 if inb 1 (stt s3.1 0 (decide (s3.2.2.2<=1)))then
 if gd (stt s3.1 0 (decide (s3.2.2.2<=1))) 1 false then
 if inb s3.2.2.1 s3.2.1 then
 if inb 1 (stt s3.1 0 (decide (s3.2.2.2<=1)))then
 if inb 2 (stt (stt s3.1 0 (decide (s3.2.2.2<=1))) 1 (decide ((w64 (((gd s3.2.1 s3.2.2.1 []).length:Int)-s3.2.2.2))<=1)))then
 if gd (stt (stt s3.1 0 (decide (s3.2.2.2<=1))) 1 (decide ((w64 (((gd s3.2.1 s3.2.2.1 []).length:Int)-s3.2.2.2))<=1))) 2 false then
 if inb s3.2.2.1 s3.2.1 then
 if inb 2 (stt (stt s3.1 0 (decide (s3.2.2.2<=1))) 1 (decide ((w64 (((gd s3.2.1 s3.2.2.1 []).length:Int)-s3.2.2.2))<=1)))then
 Ab n (stt (stt (stt s3.1 0 (decide (s3.2.2.2<=1))) 1 (decide ((w64 (((gd s3.2.1 s3.2.2.1 []).length:Int)-s3.2.2.2))<=1))) 2 (decide (((gd s3.2.1 s3.2.2.1 []).length:Int)<=2)),s3.2.1,w64 (s3.2.2.1+1))
 else none
 else none
 else
 if inb 2 (stt (stt s3.1 0 (decide (s3.2.2.2<=1))) 1 (decide ((w64 (((gd s3.2.1 s3.2.2.1 []).length:Int)-s3.2.2.2))<=1)))then
 Ab n (stt (stt (stt s3.1 0 (decide (s3.2.2.2<=1))) 1 (decide ((w64 (((gd s3.2.1 s3.2.2.1 []).length:Int)-s3.2.2.2))<=1))) 2 false,s3.2.1,w64 (s3.2.2.1+1))
 else none
 else none
 else none
 else none
 else
 if inb 1 (stt s3.1 0 (decide (s3.2.2.2<=1)))then
 if inb 2 (stt (stt s3.1 0 (decide (s3.2.2.2<=1))) 1 false)then
 if gd (stt (stt s3.1 0 (decide (s3.2.2.2<=1))) 1 false) 2 false then
 if inb s3.2.2.1 s3.2.1 then
 if inb 2 (stt (stt s3.1 0 (decide (s3.2.2.2<=1))) 1 false)then
 Ab n (stt (stt (stt s3.1 0 (decide (s3.2.2.2<=1))) 1 false) 2 (decide (((gd s3.2.1 s3.2.2.1 []).length:Int)<=2)),s3.2.1,w64 (s3.2.2.1+1))
 else none
 else none
 else
 if inb 2 (stt (stt s3.1 0 (decide (s3.2.2.2<=1))) 1 false)then
 Ab n (stt (stt (stt s3.1 0 (decide (s3.2.2.2<=1))) 1 false) 2 false,s3.2.1,w64 (s3.2.2.1+1))
 else none
 else none
 else none
 else none
 else none
 else
 if inb 0 s3.1 then
 if inb 1 (stt s3.1 0 false)then
 if gd (stt s3.1 0 false) 1 false then
 if inb s3.2.2.1 s3.2.1 then
 if inb 1 (stt s3.1 0 false)then
 if inb 2 (stt (stt s3.1 0 false) 1 (decide ((w64 (((gd s3.2.1 s3.2.2.1 []).length:Int)-s3.2.2.2))<=1)))then
 if gd (stt (stt s3.1 0 false) 1 (decide ((w64 (((gd s3.2.1 s3.2.2.1 []).length:Int)-s3.2.2.2))<=1))) 2 false then
 if inb s3.2.2.1 s3.2.1 then
 if inb 2 (stt (stt s3.1 0 false) 1 (decide ((w64 (((gd s3.2.1 s3.2.2.1 []).length:Int)-s3.2.2.2))<=1)))then
 Ab n (stt (stt (stt s3.1 0 false) 1 (decide ((w64 (((gd s3.2.1 s3.2.2.1 []).length:Int)-s3.2.2.2))<=1))) 2 (decide (((gd s3.2.1 s3.2.2.1 []).length:Int)<=2)),s3.2.1,w64 (s3.2.2.1+1))
 else none
 else none
 else
 if inb 2 (stt (stt s3.1 0 false) 1 (decide ((w64 (((gd s3.2.1 s3.2.2.1 []).length:Int)-s3.2.2.2))<=1)))then
 Ab n (stt (stt (stt s3.1 0 false) 1 (decide ((w64 (((gd s3.2.1 s3.2.2.1 []).length:Int)-s3.2.2.2))<=1))) 2 false,s3.2.1,w64 (s3.2.2.1+1))
 else none
 else none
 else none
 else none
 else
 if inb 1 (stt s3.1 0 false)then
 if inb 2 (stt (stt s3.1 0 false) 1 false)then
 if gd (stt (stt s3.1 0 false) 1 false) 2 false then
 if inb s3.2.2.1 s3.2.1 then
 if inb 2 (stt (stt s3.1 0 false) 1 false)then
 Ab n (stt (stt (stt s3.1 0 false) 1 false) 2 (decide (((gd s3.2.1 s3.2.2.1 []).length:Int)<=2)),s3.2.1,w64 (s3.2.2.1+1))
 else none
 else none
 else
 if inb 2 (stt (stt s3.1 0 false) 1 false)then
 Ab n (stt (stt (stt s3.1 0 false) 1 false) 2 false,s3.2.1,w64 (s3.2.2.1+1))
 else none
 else none
 else none
 else none
 else none
 else none
 else
 some t4
def AW (t0:Int×(List (List Int))):Option ((List Bool)×Bool):=
 (Bk 2 (t0.1,t0.2)).bind λr1=>
 if !r1 then
 some ([],false)
 else
 (Bd (t0.1,t0.2)).bind λr2=>
 (Ab Ac ([true,true,true],r2,0)).bind λs3=>
 some (s3,true)
def AC (a0:List (List Int)) (a1:Unit):Option (List (List Int)):=
 if List.length a0<=lim/\List.all a0 (λx=>decide (List.length x<=lim))=true then some (Zn cmpT a0)else none
def AZ:Nat->(Int×(List (List Int))×Int×(List Int)×(List Int)×Int×Int)->Option (Int×(List (List Int))×Int×(List Int))
 |0,_=>none
 |n+1,(arity,list,i,clause,t18,t19,t20)=>
 if decide (t20<t19)then
 if inb t20 t18 then
 if decide ((gd t18 t20 0)>0)then
 if clause.length+ [w64 ((w64 (t20+1))*(w64 ((w64 (2*(gd t18 t20 0)))-3)))].length<=lim then
 AZ n (arity,list,i,clause++ [w64 ((w64 (t20+1))*(w64 ((w64 (2*(gd t18 t20 0)))-3)))],t18,t19,w64 (t20+1))
 else none
 else
 AZ n (arity,list,i,clause,t18,t19,w64 (t20+1))
 else none
 else
 some (arity,list,i,clause)
def Ao:Nat->(Int×(List (List Int))×Int)->Option ((List (List Int)))
 |0,_=>none
 |n+1,(arity,list,i)=>
 (C5 3 arity).bind λr1=>
 if decide (i<r1)then
 (CO i arity 3).bind λr2=>
 (AZ Ac (arity,list,i,[],r2,(r2.length:Int),0)).bind λs3=>
 if s3.2.1.length+ [s3.2.2.2].length<=lim then
 Ao n (s3.1,s3.2.1++ [s3.2.2.2],w64 (s3.2.2.1+1))
 else none
 else
 some list
def Ar (arity:Int):Option ((List (List Int))):=
 (Ao Ac (arity,[],0)).bind λs1=>
 (AC s1 ()).bind λr2=>
 some r2
def AH:Nat->((List Int)×(List (List Int))×Int×Int)->Option ((Unit)⊕(Bool))
 |0,_=>none
 |n+1,(clause,t7,t8,t9)=>
 if decide (t9<t8)then
 if inb t9 t7 then
 (Bc (gd t7 t9 []) clause).bind λr1=>
 if !r1 then
 some (.inr false)
 else
 AH n (clause,t7,t8,w64 (t9+1))
 else none
 else
 some (.inl ())
def Bj (tuples:List (List Int)) (clause:List Int):Option (Bool):=
 (AH Ac (clause,tuples,(tuples.length:Int),0)).bind λs1=>
  match s1 with
  | .inl s2=>
   some true
  | .inr s3=>
   some s3
def Bv (list:List Int) (at_:Int):Option ((List Int)):=
 if(0:Int)<=0/\0<=at_/\at_<=(list.length:Int)then
 (Cd ((list.take (Int.toNat at_)).drop (Int.toNat 0))).bind λr1=>
 if(0:Int)<=(w64 (at_+1))/\(w64 (at_+1))<=(list.length:Int)/\(list.length:Int)<=(list.length:Int)then
 if r1.length+((list.take (Int.toNat (list.length:Int))).drop (Int.toNat (w64 (at_+1)))).length<=lim then
 some (r1++((list.take (Int.toNat (list.length:Int))).drop (Int.toNat (w64 (at_+1)))))
 else none
 else none
 else none
def Aj:Nat->((Int×(List (List Int)))×(List (List Int))×(List Int)×Bool×(List (List Int))×Int×Int×Int×Int)->Option ((Int×(List (List Int)))×(List (List Int))×(List Int)×Bool×(List (List Int))×Int×Int)
 |0,_=>none
 |n+1,(r,list,clause,prime,t11,t12,t13,t22,t23)=>
 if decide (t23<t22)then
 if prime then
 (Bv clause t23).bind λr3=>
 (Bj r.2 r3).bind λr4=>
 Aj n ((r.1,r.2),list,clause,!r4,t11,t12,t13,t22,w64 (t23+1))
 else
 Aj n ((r.1,r.2),list,clause,false,t11,t12,t13,t22,w64 (t23+1))
 else
 some ((r.1,r.2),list,clause,prime,t11,t12,t13)
def Ai:Nat->((Int×(List (List Int)))×(List (List Int))×(List (List Int))×Int×Int)->Option ((List (List Int)))
 |0,_=>none
 |n+1,(r,list,t11,t12,t13)=>
 if decide (t13<t12)then
 if inb t13 t11 then
 (Bj r.2 (gd t11 t13 [])).bind λr2=>
 (Aj Ac ((r.1,r.2),list,gd t11 t13 [],r2,t11,t12,t13,((gd t11 t13 []).length:Int),0)).bind λs3=>
 if s3.2.2.2.1 then
 if s3.2.1.length+ [s3.2.2.1].length<=lim then
 Ai n ((s3.1.1,s3.1.2),s3.2.1++ [s3.2.2.1],s3.2.2.2.2.1,s3.2.2.2.2.2.1,w64 (s3.2.2.2.2.2.2+1))
 else none
 else
 Ai n ((s3.1.1,s3.1.2),s3.2.1,s3.2.2.2.2.1,s3.2.2.2.2.2.1,w64 (s3.2.2.2.2.2.2+1))
 else none
 else
 some list
def AO (r:Int×(List (List Int))):Option ((List (List Int))):=
 (Ar r.1).bind λr1=>
 (Ai Ac ((r.1,r.2),[],r1,(r1.length:Int),0)).bind λs2=>
 some s2
def Ak:Nat->((List Bool)×(List Int)×Int×(List (List Int))×Int×Int×(List Int)×Int×Int)->Option ((List Bool)×(List Int)×Int×(List (List Int))×Int×Int)
 |0,_=>none
 |n+1,(t4,t6,t7,t16,t17,t18,t22,t23,t24)=>
 if decide (t24<t23)then
 if inb t24 t22 then
 if decide ((gd t22 t24 0)>0)then
 Ak n (t4,t6,w64 (t7+1),t16,t17,t18,t22,t23,w64 (t24+1))
 else
 Ak n (t4,t6,t7,t16,t17,t18,t22,t23,w64 (t24+1))
 else none
 else
 some (t4,t6,t7,t16,t17,t18)
def Aa:Nat->((List Bool)×(List (List Int))×Int×Int)->Option ((List Bool))
 |0,_=>none
 |n+1,(t4,t16,t17,t18)=>
 if decide (t18<t17)then
 if inb t18 t16 then
 (Ak Ac (t4,gd t16 t18 [],0,t16,t17,t18,gd t16 t18 [],((gd t16 t18 []).length:Int),0)).bind λs3=>
 if inb 0 s3.1 then
 if gd s3.1 0 false then
 if inb 0 s3.1 then
 if inb 1 (stt s3.1 0 (decide (s3.2.2.1<=1)))then
 if gd (stt s3.1 0 (decide (s3.2.2.1<=1))) 1 false then
 if inb 1 (stt s3.1 0 (decide (s3.2.2.1<=1)))then
 if inb 2 (stt (stt s3.1 0 (decide (s3.2.2.1<=1))) 1 (decide ((w64 ((s3.2.1.length:Int)-s3.2.2.1))<=1)))then
 if gd (stt (stt s3.1 0 (decide (s3.2.2.1<=1))) 1 (decide ((w64 ((s3.2.1.length:Int)-s3.2.2.1))<=1))) 2 false then
 if inb 2 (stt (stt s3.1 0 (decide (s3.2.2.1<=1))) 1 (decide ((w64 ((s3.2.1.length:Int)-s3.2.2.1))<=1)))then
 Aa n (stt (stt (stt s3.1 0 (decide (s3.2.2.1<=1))) 1 (decide ((w64 ((s3.2.1.length:Int)-s3.2.2.1))<=1))) 2 (decide ((s3.2.1.length:Int)<=2)),s3.2.2.2.1,s3.2.2.2.2.1,w64 (s3.2.2.2.2.2+1))
 else none
 else
 if inb 2 (stt (stt s3.1 0 (decide (s3.2.2.1<=1))) 1 (decide ((w64 ((s3.2.1.length:Int)-s3.2.2.1))<=1)))then
 Aa n (stt (stt (stt s3.1 0 (decide (s3.2.2.1<=1))) 1 (decide ((w64 ((s3.2.1.length:Int)-s3.2.2.1))<=1))) 2 false,s3.2.2.2.1,s3.2.2.2.2.1,w64 (s3.2.2.2.2.2+1))
 else none
 else none
 else none
 else
 if inb 1 (stt s3.1 0 (decide (s3.2.2.1<=1)))then
 if inb 2 (stt (stt s3.1 0 (decide (s3.2.2.1<=1))) 1 false)then
 if gd (stt (stt s3.1 0 (decide (s3.2.2.1<=1))) 1 false) 2 false then
 if inb 2 (stt (stt s3.1 0 (decide (s3.2.2.1<=1))) 1 false)then
 Aa n (stt (stt (stt s3.1 0 (decide (s3.2.2.1<=1))) 1 false) 2 (decide ((s3.2.1.length:Int)<=2)),s3.2.2.2.1,s3.2.2.2.2.1,w64 (s3.2.2.2.2.2+1))
 else none
 else
 if inb 2 (stt (stt s3.1 0 (decide (s3.2.2.1<=1))) 1 false)then
 Aa n (stt (stt (stt s3.1 0 (decide (s3.2.2.1<=1))) 1 false) 2 false,s3.2.2.2.1,s3.2.2.2.2.1,w64 (s3.2.2.2.2.2+1))
 else none
 else none
 else none
 else none
 else none
 else
 if inb 0 s3.1 then
 if inb 1 (stt s3.1 0 false)then
 if gd (stt s3.1 0 false) 1 false then
 if inb 1 (stt s3.1 0 false)then
 if inb 2 (stt (stt s3.1 0 false) 1 (decide ((w64 ((s3.2.1.length:Int)-s3.2.2.1))<=1)))then
 if gd (stt (stt s3.1 0 false) 1 (decide ((w64 ((s3.2.1.length:Int)-s3.2.2.1))<=1))) 2 false then
 if inb 2 (stt (stt s3.1 0 false) 1 (decide ((w64 ((s3.2.1.length:Int)-s3.2.2.1))<=1)))then
 Aa n (stt (stt (stt s3.1 0 false) 1 (decide ((w64 ((s3.2.1.length:Int)-s3.2.2.1))<=1))) 2 (decide ((s3.2.1.length:Int)<=2)),s3.2.2.2.1,s3.2.2.2.2.1,w64 (s3.2.2.2.2.2+1))
 else none
 else
 if inb 2 (stt (stt s3.1 0 false) 1 (decide ((w64 ((s3.2.1.length:Int)-s3.2.2.1))<=1)))then
 Aa n (stt (stt (stt s3.1 0 false) 1 (decide ((w64 ((s3.2.1.length:Int)-s3.2.2.1))<=1))) 2 false,s3.2.2.2.1,s3.2.2.2.2.1,w64 (s3.2.2.2.2.2+1))
 else none
 else none
 else none
 else
 if inb 1 (stt s3.1 0 false)then
 if inb 2 (stt (stt s3.1 0 false) 1 false)then
 if gd (stt (stt s3.1 0 false) 1 false) 2 false then
 if inb 2 (stt (stt s3.1 0 false) 1 false)then
 Aa n (stt (stt (stt s3.1 0 false) 1 false) 2 (decide ((s3.2.1.length:Int)<=2)),s3.2.2.2.1,s3.2.2.2.2.1,w64 (s3.2.2.2.2.2+1))
 else none
 else
 if inb 2 (stt (stt s3.1 0 false) 1 false)then
 Aa n (stt (stt (stt s3.1 0 false) 1 false) 2 false,s3.2.2.2.1,s3.2.2.2.2.1,w64 (s3.2.2.2.2.2+1))
 else none
 else none
 else none
 else none
 else none
 else none
 else none
 else
 some t4
def AE (t0:Int×(List (List Int))):Option ((List Bool)×Bool):=
 (AX 2 (t0.1,t0.2)).bind λr1=>
 if !r1 then
 some ([],false)
 else
 (AO (t0.1,t0.2)).bind λr2=>
 (Aa Ac ([true,true,true],r2,(r2.length:Int),0)).bind λs3=>
 some (s3,true)
def A7 (t0:Int×(List (List Int))):Option (Bool):=
 (Bg (t0.1,t0.2) 1048576).bind λr1=>
 if decide (r1<0)then
 some true
 else
 (As (t0.1,t0.2)).bind λr2=>
 (AW (r2.1,r2.2)).bind λr3=>
 (As (t0.1,t0.2)).bind λr4=>
 (AE (r4.1,r4.2)).bind λr5=>
 (A9 r5.1 r3.1).bind λr6=>
 if !r6 then
 some false
 else
 if r5.2 !=r3.2 then
 some false
 else
 (As (t0.1,t0.2)).bind λr7=>
 (AY (r4.1,r4.2) (r7.1,r7.2)).bind λr8=>
 if !r8 then
 some false
 else
 (AP (r4.1,r4.2) 1).bind λr9=>
 if decide (r9.2<0)then
 some false
 else
 (A9 r5.1 r3.1).bind λr10=>
 if !r10 then
 some false
 else
 if r5.2 !=r3.2 then
 some false
 else
 (Bl r5.1 1).bind λr11=>
 (Ba r11.1 1).bind λr12=>
 if decide (r12<0)then
 some false
 else
 if r12 !=r11.2 then
 some false
 else
 (As (t0.1,t0.2)).bind λr13=>
 (AE (r13.1,r13.2)).bind λr14=>
 (A9 r14.1 r3.1).bind λr15=>
 if !r15 then
 some false
 else
 if r14.2 !=r3.2 then
 some false
 else
 (Ba r11.1 1).bind λr16=>
 if decide (r16<0)then
 some false
 else
 if r16 !=r11.2 then
 some false
 else
 some true
end T
open Go Go.Va
namespace T
def Ec:List (List Int):= [[],[(-1)],[1]]
def Ed:List (List Int):= [[],[(-2)],[(-1)],[1],[2],[(-1),(-2)],[(-1),2],[1,(-2)],[1,2]]
def Ee:List (List Int):= [[],[(-3)],[(-2)],[(-1)],[1],[2],[3],[(-2),(-3)],[(-2),3],[(-1),(-3)],[(-1),(-2)],[(-1),2],[(-1),3],[1,(-3)],[1,(-2)],[1,2],[1,3],[2,(-3)],[2,3],[(-1),(-2),(-3)],[(-1),(-2),3],[(-1),2,(-3)],[(-1),2,3],[1,(-2),(-3)],[1,(-2),3],[1,2,(-3)],[1,2,3]]
theorem DP:AM 1=some Ec:=by kernel_rfl
theorem DQ:AM 2=some Ed:=by kernel_rfl
theorem DS:AM 3=some Ee:=by kernel_rfl
end T
open Go Go.Va
namespace T
theorem DO {out l:List (List Int)} (hi:out.Pairwise (λa b=>cmpT a b<0)) (hp:out.Perm l):Zn cmpT l=out:=by
 have hs:(Zn cmpT l).Pairwise λx y=>(!decide (cmpT y x<0))=true:=by
  unfold Zn
  refine List.pairwise_mergeSort (λa b c h1 h2=>?_) (λa b=>?_) l
  ·simp only[Bool.not_eq_true',decide_eq_false_iff_not]at*
   intro h3
   have q1:=cmpT_symm a b
   have q2:=cmpT_symm b c
   by_cases e:cmpT a b=0
   ·rw[cmpT_eq e]at h3;exact h2 h3
   ·exact h2 (cmpT_trans h3 (by omega))
  ·simp only[Bool.or_eq_true,Bool.not_eq_true',decide_eq_false_iff_not]
   have q1:=cmpT_symm a b
   omega
 have ho:out.Pairwise λx y=>(!decide (cmpT y x<0))=true:=by
  refine hi.imp ?_
  intro a b h
  simp only[Bool.not_eq_true',decide_eq_false_iff_not]
  have q1:=cmpT_symm a b
  omega
 have hpp:(Zn cmpT l).Perm out:=(List.mergeSort_perm l _).trans hp.symm
 refine List.Perm.eq_of_pairwise (λa b _ _ h1 h2=>?_) hs ho hpp
 simp only[Bool.not_eq_true',decide_eq_false_iff_not]at h1 h2
 have:=cmpT_symm a b
 exact cmpT_eq (by omega)
def clT (a:Nat):List (List Int):=if a=1 then Ec else if a=2 then Ed else Ee
theorem CZ {raw T:List (List Int)} {a:Int} (h1:Ao Ac (a,[],0)=some raw) (h2:(decide (List.length raw<=lim)&&raw.all λx=>decide (List.length x<=lim))=true) (h3:T.Pairwise (λa b=>cmpT a b<0)) (h4:T.isPerm raw=true):Ar a=some T:=by
 unfold Ar
 rw[h1]
 simp only[Bool.and_eq_true,decide_eq_true_iff]at h2
 simp only[Option.bind_some,AC]
 rw[if_pos h2,DO h3 (List.isPerm_iff.1 h4)]
 rfl
def Ei (a:Nat):List (List Int):=(List.range (3^a)).map λi=>((List.range a).filterMap fun(k:Nat)=>let d:Nat:=(i/3^(a-1-k))%3;if d=0 then none else some (((k:Int)+1)*(2*(d:Int)-3)))
theorem Dm:Ao Ac (1,[],0)=some (Ei 1):=by kernel_rfl
theorem Dn:Ao Ac (2,[],0)=some (Ei 2):=by kernel_rfl
theorem Do:Ao Ac (3,[],0)=some (Ei 3):=by kernel_rfl
theorem DB:Ar 1=some Ec:=CZ Dm (by decide+kernel) (by decide+kernel) (by decide+kernel)
theorem DC:Ar 2=some Ed:=CZ Dn (by decide+kernel) (by decide+kernel) (by decide+kernel)
theorem DD:Ar 3=some Ee:=CZ Do (by decide+kernel) (by decide+kernel) (by decide+kernel)
theorem Ef: ∀a:Fin 4,1<=a.val->(clT a.val).length<=27/\ ∀c∈clT a.val,c.length<=3/\ ∀x∈c,-(a.val:Int)<=x/\x<=(a.val:Int)/\x≠0:=by decide+kernel
end T
open Go Go.Va
namespace T
section
variable {a:Nat} {ts:List (List Int)} {c:List Int} {q:Int}
def Ca (ts:List (List Int)) (c:List Int):Bool:=ts.all λt=>c.any (Bz t)
def wo (c:List Int) (k:Nat):List Int:=c.take k++c.drop (k+1)
def pk (ts:List (List Int)) (c:List Int) (k:Nat):Bool:=Ca ts c&&(List.range k).all λi=>!Ca ts (wo c i)
def BX (a:Nat) (c:List Int):Prop:=c.length<=3/\ ∀x∈c,-(a:Int)<=x/\x<=(a:Int)/\x≠0
structure TsOk (a:Nat) (ts:List (List Int)):Prop where
 ha:1<=a/\a<=3
 tl: ∀t∈ts,t.length=a
 n:ts.length<=1048576
theorem D9 (h:BX a c) (k:Nat):BX a (wo c k):=by
 refine⟨?_,λx hx=>?_⟩
 ·unfold wo;rw[List.length_append,List.length_take,List.length_drop];have:=h.1;omega
 ·rcases List.mem_append.1 hx with hx|hx
  ·exact h.2 x (List.mem_of_mem_take hx)
  ·exact h.2 x (List.mem_of_mem_drop hx)
theorem Cs (h:TsOk a ts) (hc:BX a c):Bj ts c=some (Ca ts c):=by
 have hn:=h.n
 have hc1:=hc.1
 have ha:=h.ha
 unfold Bj
 have key:=Di ts (λm i=>AH m (c,ts,(ts.length:Int),i)) (λt=>c.any (Bz t)) (.inr false) (.inl ()) (λm k hk=>?_) (λm=>?_) (n:=Ac) (by unfold Ac;omega)
 ·rw[key];unfold Ca
  cases ts.all λt=>c.any (Bz t)<;>rfl
 ·have ho:=Dl (ar:=(a:Int)) (c:=c) (t:=ts[k]) (by omega) (by rw[h.tl _ (List.getElem_mem hk)]) hc.2 (by omega)
  simp only[AH,Ae,hk,Ah hk,ho,Option.bind_some,if_true,Ad (show k<4611686018427387904 by omega)]
  rw[if_pos (by simp;omega)]
  cases c.any (Bz ts[k])<;>simp
 ·simp only[AH]
  rw[if_neg (by simp)]
theorem CA (h:TsOk a ts) (hc:BX a c):Bs (q,ts) c=some (Ca ts c):=by
 have hn:=h.n
 have hc1:=hc.1
 have ha:=h.ha
 unfold Bs
 have key:=Di ts (λm i=>AT m (c,(q,ts),i)) (λt=>c.any (Bz t)) (.inr false) (.inl ()) (λm k hk=>?_) (λm=>?_) (n:=Ac) (by unfold Ac;omega)
 ·rw[key];unfold Ca
  cases ts.all λt=>c.any (Bz t)<;>rfl
 ·have ho:=Dt (ar:=(a:Int)) (c:=c) (t:=ts[k]) (by omega) (by rw[h.tl _ (List.getElem_mem hk)]) hc.2 (by omega)
  simp only[AT,Ae,hk,Ah hk,ho,Option.bind_some,if_true,Ad (show k<4611686018427387904 by omega)]
  rw[if_pos (by simp;omega)]
  cases c.any (Bz ts[k])<;>simp
 ·simp only[AT]
  rw[if_neg (by simp)]
theorem Dc (hc:c.length<=3) {k:Nat} (hk:k<c.length):Bv c (k:Int)=some (wo c k):=by
 have hlim:lim=1099511627776:=rfl
 unfold Bv Cd
 have e1:(c.take (Int.toNat (k:Int))).drop (Int.toNat 0)=c.take k:=by simp
 have e2:(c.take (Int.toNat (c.length:Int))).drop (Int.toNat (w64 ((k:Int)+1)))=c.drop (k+1):=by
  rw[Ad (show k<4611686018427387904 by omega),Int.toNat_natCast,Int.toNat_natCast,List.take_length]
 have t1:(c.take k).length=k:=by rw[List.length_take];omega
 rw[e1,e2,if_pos (by omega),if_pos (by simp;omega)]
 simp only[Option.bind_some,Ad (show k<4611686018427387904 by omega)]
 rw[if_pos (by omega),if_pos (by simp;omega)]
 rfl
theorem B6 (k:Nat):pk ts c (k+1)=(pk ts c k&&!Ca ts (wo c k)):=by
 unfold pk;rw[List.range_succ,List.all_append,←Bool.and_assoc];simp
theorem Dk (h:TsOk a ts) (hc:BX a c) (out T:List (List Int)) (t12 t13:Int):Aj Ac ((q,ts),out,c,Ca ts c,T,t12,t13,(c.length:Int),0)=some ((q,ts),out,c,pk ts c c.length,T,t12,t13):=by
 have hc1:=hc.1
 have:=CM c.length (λm (b:Bool) i=>Aj m ((q,ts),out,c,b,T,t12,t13,(c.length:Int),i)) (λk=>pk ts c k) (r:=some ((q,ts),out,c,pk ts c c.length,T,t12,t13)) (λm k hk=>?_) (λm=>?_) (n:=Ac) (by unfold Ac;omega)
 ·have e:pk ts c 0=Ca ts c:=by simp[pk]
  rw[e]at this;exact this
 ·simp only[Aj,B6,Ad (show k<4611686018427387904 by omega)]
  rw[if_pos (by simp;omega)]
  cases pk ts c k with
  |true=>rw[if_pos rfl,Dc hc1 hk];simp only[Option.bind_some,Cs h (D9 hc k),Bool.true_and]
  |false=>rw[if_neg (by simp),Bool.false_and]
 ·simp only[Aj]
  rw[if_neg (by simp)]
theorem D0 (k m:Nat) (hkm:k<=m) (h:pk ts c k=false):pk ts c m=false:=by
  induction m with
  | zero => have : k = 0 := by omega
            subst this;exact h
  |succ m ih=>
    rw[B6]
    by_cases e:k=m+1
    · subst e;rw[B6]at h;exact h
    · rw[ih (by omega)];rfl
theorem Ds (h:TsOk a ts) {T:List (List Int)} {j:Nat} (hj:j<T.length) (hTj:T[j]=c) (hc:BX a c) (out:List (List Int)):Au Ac ((q,ts),out,T,(j:Int),Ca ts c,0)=some ((q,ts),out,T,(j:Int),pk ts c c.length):=by
 have hc1:=hc.1
 have hlim:lim=1099511627776:=rfl
 have:=Es c.length (λm (b:Bool) i=>Au m ((q,ts),out,T,(j:Int),b,i)) (λk=>pk ts c k) (λk=>pk ts c k) (r:=some ((q,ts),out,T,(j:Int),false)) (e:=some ((q,ts),out,T,(j:Int),pk ts c c.length)) (λm k hk=>?_) (λm=>?_) (n:=Ac) (by unfold Ac;omega)
 ·have e:pk ts c 0=Ca ts c:=by simp[pk]
  rw[e]at this;rw[this]
  by_cases ha:(List.range c.length).all (λk=>pk ts c k)=true
  ·rw[if_pos ha]
  ·rw[if_neg ha]
   have hf: ∃k,k<c.length/\pk ts c k=false:=by
    rw[Bool.not_eq_true,List.all_eq_false]at ha
    obtain⟨k,hk,h2⟩:=ha
    exact⟨k,List.mem_range.1 hk,by simpa using h2⟩
   obtain⟨k,hk,h2⟩:=hf
   rw[D0 k c.length (by omega) h2]
 ·simp only[Au,Ae,hj,Ah hj,hTj,if_true]
  rw[if_pos (by simp;omega)]
  cases hp:pk ts c k with
  |true=>
   rw[if_pos rfl,if_pos rfl]
   have e1:(c.take (Int.toNat (k:Int))).drop (Int.toNat 0)=c.take k:=by simp
   have e2:(c.take (Int.toNat (c.length:Int))).drop (Int.toNat (w64 ((k:Int)+1)))=c.drop (k+1):=by
    rw[Ad (show k<4611686018427387904 by omega),Int.toNat_natCast,Int.toNat_natCast,List.take_length]
   have t1:(c.take k).length=k:=by rw[List.length_take];omega
   rw[e1,e2,Co (by omega)]
   simp only[Option.bind_some,Ad (show k<4611686018427387904 by omega)]
   rw[if_pos (by omega),if_pos (by omega),if_pos (by simp;omega)]
   have:=CA (q:=q) h (D9 hc k)
   unfold wo at this
   rw[this]
   simp only[Option.bind_some,B6,hp,Bool.true_and,wo]
  |false=>rw[if_neg (by simp),if_neg (by simp)]
 ·simp only[Au,Ae,hj,Ah hj,hTj,if_true]
  rw[if_neg (by simp)]
end
end T
open Go Go.Va
namespace T
section
variable {a:Nat} {ts:List (List Int)} {c:List Int} {q:Int}
def Cf (T ts:List (List Int)):List (List Int):=T.filter λc=>pk ts c c.length
theorem B2 {T:List (List Int)} {k:Nat} (hk:k<T.length):(T.take (k+1)).filter (λc=>pk ts c c.length)=(T.take k).filter (λc=>pk ts c c.length)++(if pk ts T[k] T[k].length then [T[k]]else []):=by
 rw[List.take_succ_eq_append_getElem hk,List.filter_append]
 congr 1
 cases h:pk ts T[k] T[k].length<;>simp[h]
theorem CP (h:TsOk a ts) {T:List (List Int)} (hT:T.length<=27) (hc: ∀c∈T,BX a c):Ai Ac ((q,ts),[],T,(T.length:Int),0)=some (Cf T ts):=by
 have hlim:lim=1099511627776:=rfl
 have:=CM T.length (λm o i=>Ai m ((q,ts),o,T,(T.length:Int),i)) (λk=>(T.take k).filter λc=>pk ts c c.length) (r:=some (Cf T ts)) (λm k hk=>?_) (λm=>?_) (n:=Ac) (by unfold Ac;omega)
 ·exact this
 ·have hck:=hc _ (List.getElem_mem hk)
  have hl:((T.take k).filter λc=>pk ts c c.length).length<=27:=Nat.le_trans (List.length_filter_le _ _) (by rw[List.length_take];omega)
  simp only[Ai,Ae,hk,Ah hk,Cs h hck,Option.bind_some,Dk h hck,if_true,Ad (show k<4611686018427387904 by omega),B2 hk]
  rw[if_pos (by simp;omega)]
  cases pk ts T[k] T[k].length with
  |true=>rw[if_pos rfl,if_pos (by simp;omega),if_pos rfl]
  |false=>rw[if_neg (by simp),if_neg (by simp),List.append_nil]
 ·simp only[Ai,List.take_length]
  rw[if_neg (by simp)];rfl
theorem CV (h:TsOk a ts) {T:List (List Int)} (hT:T.length<=27) (hc: ∀c∈T,BX a c):Aq Ac ((q,ts),[],T,0)=some (Cf T ts):=by
 have hlim:lim=1099511627776:=rfl
 have:=CM T.length (λm o i=>Aq m ((q,ts),o,T,i)) (λk=>(T.take k).filter λc=>pk ts c c.length) (r:=some (Cf T ts)) (λm k hk=>?_) (λm=>?_) (n:=Ac) (by unfold Ac;omega)
 ·exact this
 ·have hck:=hc _ (List.getElem_mem hk)
  have hl:((T.take k).filter λc=>pk ts c c.length).length<=27:=Nat.le_trans (List.length_filter_le _ _) (by rw[List.length_take];omega)
  simp only[Aq,Ae,hk,Ah hk,CA h hck,Option.bind_some,Ds h hk rfl hck,if_true,Ad (show k<4611686018427387904 by omega),B2 hk]
  rw[if_pos (by simp;omega)]
  cases pk ts T[k] T[k].length with
  |true=>rw[if_pos rfl,if_pos (by simp;omega),if_pos rfl]
  |false=>rw[if_neg (by simp),if_neg (by simp),List.append_nil]
 ·simp only[Aq,List.take_length]
  rw[if_neg (by simp)];rfl
def Bf (c:List Int):Int:=((c.filter λx=>decide (x>0)).length:Int)
theorem Cy {k:Nat} (hk:k<c.length):Bf (c.take (k+1))=Bf (c.take k)+if c[k]>0 then 1 else 0:=by
 unfold Bf
 rw[List.take_succ_eq_append_getElem hk,List.filter_append,List.length_append]
 by_cases h:c[k]>0
 ·rw[if_pos h,List.filter_cons_of_pos (by simpa using h)];simp
 ·rw[if_neg h,List.filter_cons_of_neg (by simpa using h)];simp
theorem B7:0<=Bf c/\Bf c<=c.length:=by
 unfold Bf;have:=List.length_filter_le (λx=>decide (x>0)) c;omega
def BN (P:List (List Int)):List Bool:= [P.all λc=>decide (Bf c<=1),P.all λc=>decide ((c.length:Int)-Bf c<=1),P.all λc=>decide ((c.length:Int)<=2)]
theorem Ck {P:List (List Int)} {k:Nat} (hk:k<P.length):BN (P.take (k+1))= [((P.take k).all λc=>decide (Bf c<=1))&&decide (Bf P[k]<=1),((P.take k).all λc=>decide ((c.length:Int)-Bf c<=1))&&decide ((P[k].length:Int)-Bf P[k]<=1),((P.take k).all λc=>decide ((c.length:Int)<=2))&&decide ((P[k].length:Int)<=2)]:=by
 unfold BN
 rw[List.take_succ_eq_append_getElem hk,List.all_append,List.all_append,List.all_append]
 simp
theorem DE (hc:c.length<=3) (t4:List Bool) (P:List (List Int)) (t17 t18:Int):Ak Ac (t4,c,0,P,t17,t18,c,(c.length:Int),0)=some (t4,c,Bf c,P,t17,t18):=by
 have:=CM c.length (λm (o:Int) i=>Ak m (t4,c,o,P,t17,t18,c,(c.length:Int),i)) (λk=>Bf (c.take k)) (r:=some (t4,c,Bf c,P,t17,t18)) (λm k hk=>?_) (λm=>?_) (n:=Ac) (by unfold Ac;omega)
 ·exact this
 ·have hb:=B7 (c:=c.take k)
  rw[List.length_take]at hb
  simp only[Ak,Ae,hk,Ah hk,if_true,Ad (show k<4611686018427387904 by omega),Cy hk,AN (x:=Bf (c.take k)+1) (by omega) (by omega)]
  rw[if_pos (by simp;omega)]
  by_cases h:c[k]>0
  ·rw[if_pos (by simpa using h),if_pos h]
  ·rw[if_neg (by simpa using h),if_neg h,Int.add_zero]
 ·simp only[Ak,List.take_length]
  rw[if_neg (by simp)]
theorem DT {P:List (List Int)} {j:Nat} (hj:j<P.length) (hP:P[j]=c) (hc:c.length<=3) (t4:List Bool):Al Ac (t4,P,(j:Int),0,0)=some (t4,P,(j:Int),Bf c):=by
 have:=CM c.length (λm (o:Int) i=>Al m (t4,P,(j:Int),o,i)) (λk=>Bf (c.take k)) (r:=some (t4,P,(j:Int),Bf c)) (λm k hk=>?_) (λm=>?_) (n:=Ac) (by unfold Ac;omega)
 ·exact this
 ·have hb:=B7 (c:=c.take k)
  rw[List.length_take]at hb
  simp only[Al,Ae,hj,Ah hj,hP,hk,Ah hk,if_true,Ad (show k<4611686018427387904 by omega),Cy hk,AN (x:=Bf (c.take k)+1) (by omega) (by omega)]
  rw[if_pos (by simp;omega)]
  by_cases h:c[k]>0
  ·rw[if_pos (by simpa using h),if_pos h]
  ·rw[if_neg (by simpa using h),if_neg h,Int.add_zero]
 ·simp only[Al,Ae,hj,Ah hj,hP,if_true,List.take_length]
  rw[if_neg (by simp)]
theorem CX (x y z:Bool):(inb 0 [x,y,z])/\(inb 1 [x,y,z])/\(inb 2 [x,y,z])/\gd [x,y,z] 0 false=x/\gd [x,y,z] 1 false=y/\gd [x,y,z] 2 false=z:=by
 refine⟨by decide+revert,by decide+revert,by decide+revert,rfl,rfl,rfl⟩
theorem CY (x y z v:Bool):stt [x,y,z] 0 v= [v,y,z]/\stt [x,y,z] 1 v= [x,v,z]/\stt [x,y,z] 2 v= [x,y,v]:=⟨rfl,rfl,rfl⟩
theorem Dp {P:List (List Int)} (hP:P.length<=27) (hc: ∀c∈P,c.length<=3):Aa Ac ([true,true,true],P,(P.length:Int),0)=some (BN P):=by
 have:=CM P.length (λm o i=>Aa m (o,P,(P.length:Int),i)) (λk=>BN (P.take k)) (r:=some (BN P)) (λm k hk=>?_) (λm=>?_) (n:=Ac) (by unfold Ac;omega)
 ·exact this
 ·have hck:=hc _ (List.getElem_mem hk)
  have hb:=B7 (c:=P[k])
  rw[Ck hk]
  unfold BN
  generalize (P.take k).all (λc=>decide (Bf c<=1))=x
  generalize (P.take k).all (λc=>decide ((c.length:Int)-Bf c<=1))=y
  generalize (P.take k).all (λc=>decide ((c.length:Int)<=2))=z
  simp only[Aa,Ae,hk,Ah hk,DE hck,Option.bind_some,if_true,Ad (show k<4611686018427387904 by omega),AN (x:=(P[k].length:Int)-Bf P[k]) (by omega) (by omega),CX,CY]
  rw[if_pos (by simp;omega)]
  cases x<;>cases y<;>cases z<;>simp only[Bool.false_eq_true,if_true,if_false,Bool.true_and,Bool.false_and]
 ·simp only[Aa,List.take_length]
  rw[if_neg (by simp)]
theorem Du {P:List (List Int)} (hP:P.length<=27) (hc: ∀c∈P,c.length<=3):Ab Ac ([true,true,true],P,0)=some (BN P):=by
 have:=CM P.length (λm o i=>Ab m (o,P,i)) (λk=>BN (P.take k)) (r:=some (BN P)) (λm k hk=>?_) (λm=>?_) (n:=Ac) (by unfold Ac;omega)
 ·exact this
 ·have hck:=hc _ (List.getElem_mem hk)
  have hb:=B7 (c:=P[k])
  rw[Ck hk]
  unfold BN
  generalize (P.take k).all (λc=>decide (Bf c<=1))=x
  generalize (P.take k).all (λc=>decide ((c.length:Int)-Bf c<=1))=y
  generalize (P.take k).all (λc=>decide ((c.length:Int)<=2))=z
  simp only[Ab,Ae,hk,Ah hk,DT hk rfl hck,Option.bind_some,if_true,Ad (show k<4611686018427387904 by omega),AN (x:=(P[k].length:Int)-Bf P[k]) (by omega) (by omega),CX,CY]
  rw[if_pos (by simp;omega)]
  cases x<;>cases y<;>cases z<;>simp only[Bool.false_eq_true,if_true,if_false,Bool.true_and,Bool.false_and]
 ·simp only[Ab,List.take_length]
  rw[if_neg (by simp)]
end
end T
open Go Go.Va
namespace T
section
variable {r:CC}
theorem Cj (ha:r.2.length<=9223372036854775807) (hr: ∀t∈r.2,t.length<=9223372036854775807):Bg r 1048576=some (szR (BT r.2) 1048576):=by
 unfold Bg
 rw[Da (by omega) (by omega) ha hr]
 unfold szR
 split
 ·simp only[Option.bind_some];rw[if_neg (by simp;omega)]
 ·rfl
theorem B1 (h:Cg r.2) (ht:BT r.2<=1048576): ∃b k,AP r 1=some (b,k)/\0<=k:=by
 unfold AP
 have hs:((r.2.map List.length).sum:Nat)<=1048576:=by unfold BT at ht;omega
 rw[CK h.1 h.2 (by omega) (by unfold BM;omega)]
 refine⟨_,_,rfl,?_⟩
 show 0<=(CI r.2 1).2
 rw[C7];omega
theorem Cn {m:Nat} (h:ROk 2 m r) (hn:r.2.length<=1048576): ∃P,AO r=some P/\Bd r=some P/\P.length<=27/\ ∀c∈P,c.length<=3:=by
 obtain⟨q,ts⟩:=r
 have har:=h.ar
 have hm:=h.hm
 dsimp only at har
 subst har
 have hts:TsOk m ts:=⟨hm,h.tl,hn⟩
 have hT:=Ef ⟨m,by omega⟩ hm.1
 have hT1:(clT m).length<=27:=hT.1
 have hT2: ∀c∈clT m,BX m c:=λc hc=>hT.2 c hc
 have e1:Ar (m:Int)=some (clT m):=by
  have h3:m=1∨m=2∨m=3:=by omega
  rcases h3 with rfl|rfl|rfl
  ·exact DB
  ·exact DC
  ·exact DD
 have e2:AM (m:Int)=some (clT m):=by
  have h3:m=1∨m=2∨m=3:=by omega
  rcases h3 with rfl|rfl|rfl
  ·exact DP
  ·exact DQ
  ·exact DS
 refine⟨Cf (clT m) ts,?_,?_,Nat.le_trans (List.length_filter_le _ _) hT1,λc hc=>(hT2 c (List.mem_filter.1 hc).1).1⟩
 ·unfold AO
  simp only[e1,Option.bind_some,CP hts hT1 hT2]
 ·unfold Bd
  simp only[e2,Option.bind_some,CV hts hT1 hT2]
theorem B9 (h:Cg r.2): ∃R:List Bool×Bool,AE r=some R/\AW r=some R/\R.1.length<=3:=by
 have g1:AX 2 (r.1,r.2)=_:=BU (n:=2) h
 have g2:Bk 2 (r.1,r.2)=_:=B4 (n:=2) h (by omega)
 unfold AE AW
 rw[g1,g2]
 simp only[Option.bind_some]
 cases hg:C9 2 r with
 |false=>exact⟨_,rfl,rfl,by simp⟩
 |true=>
  have hr:=Ej (n:=2) (r:=r) (by omega) hg
  obtain⟨P,p1,p2,p3,p4⟩:=Cn hr h.1
  have p1:AO (r.1,r.2)=_:=p1
  have p2:Bd (r.1,r.2)=_:=p2
  simp only[p1,p2,Option.bind_some,Dp p3 p4,Du p3 p4,Bool.not_true,Bool.false_eq_true,if_false]
  exact⟨_,rfl,rfl,by simp[BN]⟩
theorem FnExactClausesTell_law (h:wfT (.pair .int (.slice (.slice .int))) r):A7 r=some true:=by
 unfold A7
 rw[Cj (r:=(r.1,r.2)) h.2.1 λt ht=>(h.2.2 t ht).1]
 simp only[Option.bind_some]
 by_cases hz:szR (BT r.2) 1048576<0
 ·rw[if_pos (by simpa using hz)]
 ·have hs:Cg r.2:=Dw hz
  rw[if_neg (by simpa using hz)]
  obtain⟨R,e1,e2,hl⟩:=B9 hs
  have e1:AE (r.1,r.2)=_:=e1
  have e2:AW (r.1,r.2)=_:=e2
  have et:As (r.1,r.2)=some r:=Cr hs
  have eq:AY (r.1,r.2) (r.1,r.2)=some (decide (r=r)):=Cm hs
  obtain⟨b,k,hm,hk0⟩:=B1 hs (Em hz)
  have hm:AP (r.1,r.2) 1=_:=hm
  have e3:=C6 R.1 1
  have e4: ¬(Bn R.1 1).2<0:=by omega
  simp only[et,e1,e2,eq,Option.bind_some,C2 (x:=R.1) (by omega),hm,CJ (l:=R.1) (k:=1) (by omega) (by omega) (by unfold BM;omega),CD (l:=R.1) (k:=1) (by omega) (by omega) (by unfold BM;omega)]
  simp[show¬k<0 by omega,e4]
end
end T
open Go Go.Va
namespace T
section
variable {n:Int} {k:Nat} {ts:List (List Int)}
def D3 (ts:List (List Int)) (i j:Nat):List Int:=(ts.getD j []).take i
def D5 (ts:List (List Int)) (i j:Nat):Int:=(ts.getD j []).getD i 0
end
end T
open Go Go.Va
namespace T
section
variable {n:Int} {k:Nat} {ts:List (List Int)}
def D7 (ts:List (List Int)) (i:Nat) (x y:Int) (a b:Nat):Bool:=D5 ts i a==x&&(D5 ts i b==y&&decide (D3 ts i a=D3 ts i b))
def bO (ts:List (List Int)) (i:Nat) (x y:Int) (a:Nat):Option Nat:=(List.range ts.length).find? (D7 ts i x y a)
def DK (ts:List (List Int)) (i:Nat) (x y:Int):Option (Nat×Nat):=(List.range ts.length).findSome? λa=>(bO ts i x y a).map λb=>(a,b)
theorem C8 {i:Nat} {x y:Int} {a b:Nat} (h:DK ts i x y=some (a,b)):a<ts.length/\b<ts.length/\D5 ts i a=x/\D5 ts i b=y/\D3 ts i a=D3 ts i b:=by
 unfold DK at h
 obtain⟨a',ha,h⟩:=List.exists_of_findSome?_eq_some h
 obtain⟨b',hb,h⟩:=Option.map_eq_some_iff.1 h
 obtain⟨rfl,rfl⟩:=Prod.mk.inj h
 have h1:=List.find?_some hb
 have h2:=List.mem_of_find?_eq_some hb
 unfold D7 at h1
 simp only[Bool.and_eq_true,beq_iff_eq,decide_eq_true_eq]at h1
 exact⟨List.mem_range.1 ha,List.mem_range.1 h2,h1.1,h1.2.1,h1.2.2⟩
end
end T
open Go Go.Va
namespace T
section
variable {n:Nat} {t:List Int}
def DX (n:Nat) (t:List Int) (x y:Nat):Nat:=(t.getD (x*n+y) 0).toNat
structure TabOk (n:Nat) (t:List Int):Prop where
 hn:1<=n/\n<=4
 len:t.length=n*n
 val: ∀x∈t,0<=x/\x<(n:Int)
theorem ix2 (hn:n<=4) {x y:Nat} (hx:x<n) (hy:y<n):w64 (w64 ((x:Int)*(n:Int))+(y:Int))=((x*n+y:Nat):Int)/\x*n+y<n*n:=by
 have h1:x*n+y<n*n:=by
  calc x*n+y<x*n+n:=by omega
   _=(x+1)*n:=by rw[Nat.succ_mul]
   _<=n*n:=Nat.mul_le_mul_right _ hx
 have h2:n*n<=4*4:=Nat.mul_le_mul hn hn
 have e:(x:Int)*(n:Int)=((x*n:Nat):Int):=by simp
 have a1:w64 ((x*n:Nat):Int)=((x*n:Nat):Int):=Bb (by omega) (by omega)
 rw[e,a1,Bb (by omega) (by omega)]
 exact⟨by omega,h1⟩
theorem TabOk.at (h:TabOk n t) {x y:Nat} (hx:x<n) (hy:y<n):w64 (w64 ((x:Int)*(n:Int))+(y:Int))=((x*n+y:Nat):Int)/\inb ((x*n+y:Nat):Int) t/\gd t ((x*n+y:Nat):Int) 0=((DX n t x y:Nat):Int)/\DX n t x y<n:=by
 obtain⟨h1,h2⟩:=ix2 h.hn.2 hx hy
 have hl:x*n+y<t.length:=by rw[h.len];exact h2
 have hv:=h.val _ (List.getElem_mem hl)
 refine⟨h1,by rw[Ae];exact hl,?_,?_⟩
 ·rw[Ah hl];unfold DX;rw[AG hl];omega
 ·unfold DX;rw[AG hl];omega
end
end T
open Go Go.Va
namespace T
section
variable {a:Net} {K:Nat} {c:Con} {i p n:Nat} {st:ASt}
def DU (d:Dom) (V:Nat) (t:List Int):Prop:= ∀u,u<V->d2 d u (t.getD u 0).toNat=true
end
end T
open Go Go.Va
namespace T
section
variable {a:Net} {n s:Nat} {t:T4} {u:T3}
def Eo (a:Net) (i j k x y z:Nat):Prop:= ∀c∈a.2.2,(∀v∈c.1,v=(i:Int)∨v=(j:Int)∨v=(k:Int))-> ∀vs:List Int,D4 vs (i:Int)=(x:Int)->D4 vs (j:Int)=(y:Int)->D4 vs (k:Int)=(z:Int)->Ep vs c=true
structure Fam (a:Net) (n s:Nat) (S:Nat->Nat->Nat->Nat->Prop):Prop where
 sym: ∀i j x y,S i j x y->S j i y x
 first: ∀i j x y,i<j->j<n->x<s->y<s->S i j x y->fB a n i j x y=true
 path: ∀i j k x y,i<n->j<n->k<n->i≠j->k≠i->k≠j->x<s->y<s->S i j x y-> ∃z,z<s/\S i k x z/\S j k y z/\Eo a i j k x y z
structure MinP (a:Net) (n s:Nat) (t:T4) (u:T3):Prop where
 rel:Rel34 n s t u
 sym: ∀i j x y,i<n->j<n->i≠j->x<s->y<s->r4 t i j x y=r4 t j i y x
 first: ∀i j x y,i<n->j<n->i≠j->x<s->y<s->r4 t i j x y=true->fB a n i j x y=true
 path: ∀i j k x y,i<n->j<n->k<n->i≠j->k≠i->k≠j->x<s->y<s->r4 t i j x y=true-> ∃z,z<s/\r4 t i k x z=true/\r4 t j k y z=true/\Eo a i j k x y z
 all: ∀S,Fam a n s S-> ∀i j x y,i<n->j<n->i≠j->x<s->y<s->S i j x y->r4 t i j x y=true
end
end T
open Go Go.Va
namespace T
section
variable {a:Net} {n s:Nat} {t:T4} {u:T3} {F:Nat->Nat->Nat->Nat}
theorem Ex (hM:MinP a n s t u) {w w' v x y:Nat} (hw:w<n) (hw':w'<n) (hv:v<n) (h1:w≠w') (h2:w≠v) (h3:w'≠v) (hx:x<s) (hy:y<s) (h:r4 t w' v y x=true): ∃z,z<s/\r4 t w v z x=true:=by
 obtain⟨z,hz,_,q,_⟩:=hM.path w' v w y x hw' hv hw h3 h1 h2 hy hx h
 exact⟨z,hz,by rw[hM.sym w v z x hw hv h2 hz hx];exact q⟩
theorem ED (p q:Nat): ∃w,w<3/\w≠p/\w≠q:=by
 by_cases h0:0≠p/\0≠q
 ·exact⟨0,by omega,h0.1,h0.2⟩
 ·by_cases h1:1≠p/\1≠q
  ·exact⟨1,by omega,h1.1,h1.2⟩
  ·exact⟨2,by omega,by omega,by omega⟩
end
end T
open Go Go.Va
namespace T
section
variable {n:Int} {k:Nat} {ts W:List (List Int)}
def WitOf (ts:List (List Int)) (k:Nat) (W:List (List Int)):Prop:= ∀w,w∈W↔ ∃(i:Nat) (x y:Int) (p q:Nat),i<k/\DK ts i x y=some (p,q)/\(w=ts.getD p []∨w=ts.getD q [])
theorem WitOf.sub (h:WitOf ts k W) {w:List Int} (hw:w∈W):w∈ts:=by
 obtain⟨i,x,y,p,q,_,h2,h3⟩:=(h w).1 hw
 obtain⟨g1,g2,_⟩:=C8 h2
 rcases h3 with rfl|rfl
 ·exact CN g1
 ·exact CN g2
theorem WitOf.set {N:Int} {kk:Int} (h:WitOf ts kk.toNat W) (hs:Ek N kk ts=true) (hi:BD W=true):Ek N kk W=true:=by
 unfold Ek at hs⊢
 simp only[Bool.and_eq_true,List.all_eq_true]at hs⊢
 exact⟨⟨hs.1.1,λw hw=>hs.1.2 w (h.sub hw)⟩,hi⟩
end
end T
