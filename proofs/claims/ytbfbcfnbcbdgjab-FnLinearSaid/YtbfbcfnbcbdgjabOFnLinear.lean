/- Plain lemmas on the typed functions of the program, the first part; no conditions. -/
import Derived.Test.YtbfbcfnbcbdgjabV1
import Derived.Test.YtbfbcfnbcbdgjabV5
import Derived.KernelRfl
set_option linter.all false
namespace Go.Va
theorem Ff (x:Int):w64 x=(x+9223372036854775808)%18446744073709551616-9223372036854775808:=by
 simp[w64,IntKind.wrap,IntKind.bits,IntKind.signed]
 split<;>omega
theorem A8 {x:Int} (h1: -9223372036854775808<=x) (h2:x<=9223372036854775807):w64 x=x:=by
 rw[Ff];omega
theorem Ac {k:Nat} (h:k<4611686018427387904):w64 ((k:Int)+1)=((k+1:Nat):Int):=by
 rw[A8 (by omega) (by omega)];rfl
theorem Ae {α:Type} {k:Nat} {xs:List α}:inb (k:Int) xs↔k<xs.length:=by
 unfold inb;omega
theorem AJ {α:Type} {k:Nat} {xs:List α} {d:α} (h:k<xs.length):gd xs (k:Int) d=xs[k]:=by
 unfold gd;simp[h]
theorem Bk {α:Type} {k:Nat} {xs:List α} {x:α}:stt xs (k:Int) x=xs.set k x:=by
 unfold stt;simp
def Ge {α σ β:Type} (step:σ->α->Option (σ⊕β)) (fin:σ->Option β):List α->σ->Option β
 | [],s=>fin s
 |a::l,s=>match step s a with|some (.inl s')=>Ge step fin l s'|some (.inr r)=>some r|none=>none
theorem HP {α σ β:Type} (xs:List α) (L:Nat->σ->Int->Option β) (step:σ->α->Option (σ⊕β)) (fin:σ->Option β)
  (hs: ∀n s (k:Nat) (hk:k<xs.length),L (n+1) s k=match step s xs[k]with|some (.inl s')=>L n s' ((k+1:Nat):Int)|some (.inr r)=>some r|none=>none)
  (he: ∀n s,L (n+1) s (xs.length:Nat)=fin s): ∀(n k:Nat) (s:σ),k<=xs.length->xs.length-k<n->L n s k=Ge step fin (xs.drop k) s:=by
 intro n
 induction n with
 |zero=>intro k s _ h;omega
 |succ n ih=>
  intro k s hk hn
  rcases Nat.lt_or_ge k xs.length with hlt|hge
  ·rw[hs n s k hlt,List.drop_eq_getElem_cons hlt]
   simp only[Ge]
   cases step s xs[k]with
   |none=>rfl
   |some q=>
    cases q with
    |inl s'=>exact ih (k+1) s' hlt (by omega)
    |inr r=>rfl
  ·have:k=xs.length:=by omega
   subst this
   rw[he,List.drop_length];rfl
theorem HA {α σ β:Type} (xs:List α) (L:Nat->σ->Int->Option β) (step:σ->α->Option (σ⊕β)) (fin:σ->Option β)
  (hs: ∀n s (k:Nat) (hk:k<xs.length),L (n+1) s k=match step s xs[k]with|some (.inl s')=>L n s' ((k+1:Nat):Int)|some (.inr r)=>some r|none=>none)
  (he: ∀n s,L (n+1) s (xs.length:Nat)=fin s) {n:Nat} (hn:xs.length<n) (s:σ):L n s 0=Ge step fin xs s:=by
 have:=HP xs L step fin hs he n 0 s (Nat.zero_le _) (by omega)
 simpa using this
theorem Fm {α β:Type} {p:α->Bool} {step:Unit->α->Option (Unit⊕β)} {fin:Unit->Option β} {r:β}: ∀ {l:List α},(∀a∈l,step () a=if p a then some (.inl ())else some (.inr r))->Ge step fin l ()=if l.all p then fin ()else some r
 | [],_=>rfl
 |a::l,h=>by
  simp only[Ge]
  rw[h a (by simp)]
  cases hp:p a with
  |true=>simp only[if_true,List.all_cons,hp,Bool.true_and];exact Fm λb hb=>h b (List.mem_cons_of_mem _ hb)
  |false=>simp[List.all_cons,hp]
theorem eqX {α:Type} [DecidableEq α] (a b:List α) (hl:a.length=b.length) (L:Nat->Int->Option (Unit⊕Bool))
  (hs: ∀n (k:Nat) (h1:k<a.length) (h2:k<b.length),L (n+1) k=if a[k]=b[k]then L n ((k+1:Nat):Int)else some (.inr false)) (he: ∀n,L (n+1) (a.length:Nat)=some (.inl ())) {n:Nat} (hn:a.length<n):
  L n 0=some (if a=b then .inl ()else .inr false):=by
 have key: ∀(n k:Nat),k<=a.length->a.length-k<n->L n k=some (if a.drop k=b.drop k then .inl ()else .inr false):=by
  intro n
  induction n with
  |zero=>intro k _ h;omega
  |succ n ih=>
   intro k hk hn
   rcases Nat.lt_or_ge k a.length with hlt|hge
   ·have h2:k<b.length:=by omega
    have e:(a.drop k=b.drop k)↔(a[k]=b[k]/\a.drop (k+1)=b.drop (k+1)):=by
     rw[List.drop_eq_getElem_cons hlt,List.drop_eq_getElem_cons h2];exact List.cons_eq_cons
    rw[hs n k hlt h2]
    by_cases h:a[k]=b[k]
    ·rw[if_pos h,ih (k+1) hlt (by omega)]
     by_cases h3:a.drop (k+1)=b.drop (k+1)
     ·rw[if_pos h3,if_pos (e.2 ⟨h,h3⟩)]
     ·rw[if_neg h3,if_neg λh'=>h3 (e.1 h').2]
    ·rw[if_neg h,if_neg λh'=>h (e.1 h').1]
   ·have:k=a.length:=by omega
    subst this
    rw[he,List.drop_length,hl,List.drop_length];rfl
 have:=key n 0 (Nat.zero_le _) (by omega)
 simpa using this
theorem Fh {α β:Type} (xs:List α) (L:Nat->Int->Option β) (p:α->Bool) (r e:β)
  (hs: ∀n (k:Nat) (hk:k<xs.length),L (n+1) k=if p xs[k]then L n ((k+1:Nat):Int)else some r) (he: ∀n,L (n+1) (xs.length:Nat)=some e) {n:Nat} (hn:xs.length<n):
  L n 0=some (if xs.all p then e else r):=by
 have:=HA xs (λn (_:Unit) i=>L n i) (λ_ a=>if p a then some (.inl ())else some (.inr r)) (λ_=>some e) (λn s k hk=>by rw[hs n k hk];cases p xs[k]<;>simp) (λn s=>he n) hn ()
 rw[this,Fm (p:=p) (r:=r) λa _=>by cases p a<;>simp]
 cases xs.all p<;>simp
theorem BW {σ β:Type} (N:Nat) (L:Nat->σ->Int->Option β) (S:Nat->σ) {r:Option β}
  (hs: ∀n (k:Nat),k<N->L (n+1) (S k) k=L n (S (k+1)) ((k+1:Nat):Int)) (he: ∀n,L (n+1) (S N) (N:Nat)=r) {n:Nat} (hn:N<n):L n (S 0) 0=r:=by
 have key: ∀(n k:Nat),k<=N->N-k<n->L n (S k) k=r:=by
  intro n
  induction n with
  |zero=>intro k _ h;omega
  |succ n ih=>
   intro k hk hn
   rcases Nat.lt_or_ge k N with hlt|hge
   ·rw[hs n k hlt];exact ih (k+1) hlt (by omega)
   ·have:k=N:=by omega
    subst this;exact he n
 exact key n 0 (Nat.zero_le _) (by omega)
end Go.Va
set_option linter.unusedVariables false
open Go Go.Va
namespace T
def Aa:Nat:=1099511627776
def Dj (p:Int):Option (Bool):=
 if p==2 then
 some true
 else
 if p==3 then
 some true
 else
 if p==5 then
 some true
 else
 some (p==7)
def DJ (x:Int) (a:Int) (b:Int):Option (Bool):=
 if decide (x≥a)then
 some (decide (x<=b))
 else
 some false
def BK:Nat->(Int×(List Int)×Int)->Option ((Unit)⊕(Bool))
 |0,_=>none
 |n+1,(n_,list,i)=>
 if decide (i<(list.length:Int))then
 if inb i list then
 (DJ (gd list i 0) 0 (w64 (n_-1))).bind λr1=>
 if !r1 then
 some (.inr false)
 else
 BK n (n_,list,w64 (i+1))
 else none
 else
 some (.inl ())
def C6 (n_:Int) (list:List Int):Option (Bool):=
 (BK Aa (n_,list,0)).bind λs1=>
  match s1 with
  | .inl s2=>
   some true
  | .inr s3=>
   some s3
def Dt (n_:Int) (k:Int) (t:List Int):Option (Bool):=
 if(t.length:Int)==k then
 (C6 n_ t).bind λr1=>
 some r1
 else
 some false
def Cb:Nat->(Int×Int×(List (List Int))×Int)->Option ((Unit)⊕(Bool))
 |0,_=>none
 |n+1,(p,vars,rows,i)=>
 if decide (i<(rows.length:Int))then
 if inb i rows then
 (Dt p (w64 (vars+1)) (gd rows i [])).bind λr1=>
 if !r1 then
 some (.inr false)
 else
 Cb n (p,vars,rows,w64 (i+1))
 else none
 else
 some (.inl ())
def Ds (p:Int) (vars:Int) (rows:List (List Int)):Option (Bool):=
 (Cb Aa (p,vars,rows,0)).bind λs1=>
  match s1 with
  | .inl s2=>
   some true
  | .inr s3=>
   some s3
def Bj (l:Int×Int×(List (List Int))):Option (Bool):=
 (Dj l.1).bind λr1=>
 if r1 then
 (DJ l.2.1 0 8).bind λr2=>
 if r2 then
 if decide ((l.2.2.length:Int)<=8)then
 (Ds l.1 l.2.1 l.2.2).bind λr3=>
 some r3
 else
 some false
 else
 some false
 else
 some false
def Di (l:Int×Int×(List (List Int))):Option (Bool):=
 (Bj (l.1,(l.2.1,l.2.2))).bind λr1=>
 some r1
def Do (p:Int):Option (Bool):=
 if p==2 then
 some true
 else
 if p==3 then
 some true
 else
 if p==5 then
 some true
 else
 some (p==7)
def Ck:Nat->(Int×(List Int)×Int×Int)->Option ((Unit)⊕(Bool))
 |0,_=>none
 |n+1,(n_,t7,t8,t9)=>
 if decide (t9<t8)then
 if inb t9 t7 then
 if decide ((gd t7 t9 0)<0)then
 some (.inr false)
 else
 if decide ((gd t7 t9 0)≥n_)then
 some (.inr false)
 else
 Ck n (n_,t7,t8,w64 (t9+1))
 else none
 else
 some (.inl ())
def DA (list:List Int) (n_:Int):Option (Bool):=
 (Ck Aa (n_,list,(list.length:Int),0)).bind λs1=>
  match s1 with
  | .inl s2=>
   some true
  | .inr s3=>
   some s3
def BY:Nat->((Int×Int×(List (List Int)))×(List (List Int))×Int×Int)->Option ((Unit)⊕(Bool))
 |0,_=>none
 |n+1,(l,t26,t27,t28)=>
 if decide (t28<t27)then
 if inb t28 t26 then
 if((gd t26 t28 []).length:Int) !=(w64 (l.2.1+1))then
 some (.inr false)
 else
 (DA (gd t26 t28 []) l.1).bind λr2=>
 if !r2 then
 some (.inr false)
 else
 BY n ((l.1,(l.2.1,l.2.2)),t26,t27,w64 (t28+1))
 else none
 else
 some (.inl ())
def Bp (l:Int×Int×(List (List Int))):Option (Bool):=
 (Do l.1).bind λr1=>
  if !r1 then
   some false
  else
   if decide (l.2.1<0)then
    some false
   else
    if decide (l.2.1>8)then
     some false
    else
     if decide ((l.2.2.length:Int)>8)then
      some false
     else
      (BY Aa ((l.1,(l.2.1,l.2.2)),l.2.2,(l.2.2.length:Int),0)).bind λs2=>
       match s2 with
       | .inl s3=>
        some true
       | .inr s4=>
        some s4
def CY:Nat->(Int×Int×Int)->Option (Int)
 |0,_=>none
 |n+1,(n_,k,out)=>
 if decide (k>0)then
 CY n (n_,w64 (k-1),w64 (out*n_))
 else
 some out
def D0 (n_:Int) (k:Int):Option (Int):=
 (CY Aa (n_,k,1)).bind λs1=>
 some s1
def Cq:Nat->((List Int)×(List Int)×Int)->Option ((Unit)⊕(Bool))
 |0,_=>none
 |n+1,(a,b,i)=>
 if decide (i<(a.length:Int))then
 if inb i a then
 if inb i b then
 if(gd a i 0) !=(gd b i 0)then
 if inb i a then
 if inb i b then
 some (.inr (decide ((gd a i 0)<(gd b i 0))))
 else none
 else none
 else
 Cq n (a,b,w64 (i+1))
 else none
 else none
 else
 some (.inl ())
def Em (a:List Int) (b:List Int):Option (Bool):=
 (Cq Aa (a,b,0)).bind λs1=>
  match s1 with
  | .inl s2=>
   some false
  | .inr s3=>
   some s3
def AW:Nat->(Int×(List Int)×(List Int)×Int×(List Int)×Int)->Option ((List Int))
 |0,_=>none
 |n+1,(p,row,DO,by_,out,i)=>
 if decide (i<(row.length:Int))then
 if inb i row then
 if inb i DO then
 if p≠0 then
 if out.length+ [Int.tmod (w64 ((gd row i 0)+(w64 ((w64 (p-by_))*(gd DO i 0))))) p].length<=lim then
 AW n (p,row,DO,by_,out++ [Int.tmod (w64 ((gd row i 0)+(w64 ((w64 (p-by_))*(gd DO i 0))))) p],w64 (i+1))
 else none
 else none
 else none
 else none
 else
 some out
def BQ (p:Int) (row:List Int) (DO:List Int) (by_:Int):Option ((List Int)):=
 (AW Aa (p,row,DO,by_,[],0)).bind λs1=>
 some s1
def Co:Nat->((List Int)×(List Int)×Int)->Option ((Unit)⊕(Bool))
 |0,_=>none
 |n+1,(a,b,i)=>
 if decide (i<(a.length:Int))then
 if inb i a then
 if inb i b then
 if(gd a i 0) !=(gd b i 0)then
 some (.inr false)
 else
 Co n (a,b,w64 (i+1))
 else none
 else none
 else
 some (.inl ())
def DD (a:List Int) (b:List Int):Option (Bool):=
 if(a.length:Int) !=(b.length:Int)then
  some false
 else
  (Co Aa (a,b,0)).bind λs1=>
   match s1 with
   | .inl s2=>
    some true
   | .inr s3=>
    some s3
def B4:Nat->((List (List Int))×(List Int)×Int×Int)->Option ((List (List Int))×(List Int)×Int)
 |0,_=>none
 |n+1,(list,t,from_,to)=>
 if decide (from_<to)then
 if(2:Int)≠0 then
 if inb (w64 (Int.tdiv (w64 (from_+to)) 2)) list then
 (Em (gd list (w64 (Int.tdiv (w64 (from_+to)) 2)) []) t).bind λr1=>
 if r1 then
 B4 n (list,t,w64 ((w64 (Int.tdiv (w64 (from_+to)) 2))+1),to)
 else
 B4 n (list,t,from_,w64 (Int.tdiv (w64 (from_+to)) 2))
 else none
 else none
 else
 some (list,t,from_)
def DG (list:List (List Int)) (t:List Int):Option (Int×Bool):=
 (B4 Aa (list,t,0,(list.length:Int))).bind λs1=>
 if decide (s1.2.2<(s1.1.length:Int))then
 if inb s1.2.2 s1.1 then
 (DD (gd s1.1 s1.2.2 []) s1.2.1).bind λr2=>
 some (s1.2.2,r2)
 else none
 else
 some (s1.2.2,false)
def CT:Nat->(Int×Int×Int)->Option (Int)
 |0,_=>none
 |n+1,(n_,k,p)=>
 if decide (k>0)then
 CT n (n_,w64 (k-1),w64 (p*n_))
 else
 some p
def DU (n_:Int) (k:Int):Option (Int):=
 (CT Aa (n_,k,1)).bind λs1=>
 some s1
end T
open Go Go.Va
namespace T
abbrev Lin:=Int×Int×List (List Int)
def DW (a:Lin):Prop:=a.2.2.length<=1048576/\ ∀r∈a.2.2,r.length<=1048576
def Db (p:Int):Bool:=p==2||p==3||p==5||p==7
theorem Er (p:Int):Do p=some (Db p):=by
 unfold Do Db
 by_cases h2:p=2
 ·simp[h2]
 ·by_cases h3:p=3
  ·simp[h3]
  ·by_cases h5:p=5<;>simp[h2,h3,h5]
theorem Ej (p:Int):Dj p=some (Db p):=by
 unfold Dj Db
 by_cases h2:p=2
 ·simp[h2]
 ·by_cases h3:p=3
  ·simp[h3]
  ·by_cases h5:p=5<;>simp[h2,h3,h5]
theorem D7 (x a b:Int):DJ x a b=some (decide (a<=x/\x<=b)):=by
 unfold DJ
 by_cases h:a<=x<;>simp[h]
def Cv (n:Int) (l:List Int):Bool:=l.all λx=>decide (0<=x/\x<n)
theorem ED {l:List Int} (n:Int) (hl:l.length<=1099511627775):DA l n=some (Cv n l):=by
 unfold DA
 rw[Fh l (λm i=>Ck m (n,l,(l.length:Int),i)) (λx=>decide (0<=x/\x<n)) (.inr false) (.inl ()) ?_ ?_ (by unfold Aa;omega)]
 ·unfold Cv;cases l.all (λx=>decide (0<=x/\x<n))<;>simp
 ·intro m k hk
  simp only[Ck,Ae,AJ hk,Ac (show k<4611686018427387904 by omega)]
  by_cases h1:l[k]<0
  ·simp[hk,h1,show¬0<=l[k] by omega]
  ·by_cases h2:n<=l[k]
   ·simp[hk,h1,h2,show¬l[k]<n by omega]
   ·simp[hk,h1,h2,show 0<=l[k]/\l[k]<n by omega]
 ·intro m
  simp[Ck]
theorem DZ {l:List Int} {n:Int} (hn: -9223372036854775808<n) (hn':n<=9223372036854775807) (hl:l.length<=1099511627775):C6 n l=some (Cv n l):=by
 unfold C6
 rw[Fh l (λm i=>BK m (n,l,i)) (λx=>decide (0<=x/\x<n)) (.inr false) (.inl ()) ?_ ?_ (by unfold Aa;omega)]
 ·unfold Cv;cases l.all (λx=>decide (0<=x/\x<n))<;>simp
 ·intro m k hk
  simp only[BK,Ae,AJ hk,Ac (show k<4611686018427387904 by omega),D7,A8 (show-9223372036854775808<=n-1 by omega) (show n-1<=9223372036854775807 by omega)]
  by_cases h1:0<=l[k]/\l[k]<n
  ·simp[hk,h1,show l[k]<=n-1 by omega]
  ·have: ¬(0<=l[k]/\l[k]<=n-1):=by omega
   simp[hk,h1,this]
 ·intro m
  simp[BK]
theorem Et {l:List Int} {n:Int} (k:Int) (hn: -9223372036854775808<n) (hn':n<=9223372036854775807) (hl:l.length<=1099511627775):Dt n k l=some (decide ((l.length:Int)=k)&&Cv n l):=by
 unfold Dt
 rw[DZ hn hn' hl]
 by_cases h:(l.length:Int)=k<;>simp[h]
def BT (a:Lin):Bool:=Db a.1&&decide (0<=a.2.1/\a.2.1<=8)&&decide (a.2.2.length<=8)&&a.2.2.all λr=>decide ((r.length:Int)=a.2.1+1)&&Cv a.1 r
theorem Gd {p:Int} (h:Db p=true):2<=p/\p<=7:=by
 unfold Db at h;simp at h;omega
theorem Bm {a:Lin} (h:DW a):Bp a=some (BT a):=by
 obtain⟨p,v,rows⟩:=a
 unfold Bp BT
 rw[Er]
 cases hp:Db p with
 |false=>simp[hp]
 |true=>
  by_cases h1:v<0
  ·simp[hp,h1,show¬0<=v by omega]
  ·by_cases h2:v>8
   ·simp[hp,h1,h2,show¬v<=8 by omega]
   ·by_cases h3:rows.length>8
    ·simp[hp,h1,h2,show¬rows.length<=8 by omega,show(rows.length:Int)>8 by omega]
    ·have key:=Fh rows (λm i=>BY m ((p,(v,rows)),rows,(rows.length:Int),i)) (λr=>decide ((r.length:Int)=v+1)&&Cv p r) (.inr false) (.inl ()) ?_ ?_ (n:=Aa) (by unfold Aa;omega)
     ·simp only[Option.bind_some,hp,Bool.not_true,Bool.false_eq_true,if_false]
      rw[if_neg (by simpa using h1),if_neg (by simpa using h2),if_neg (by simp;omega),key]
      cases rows.all (λr=>decide ((r.length:Int)=v+1)&&Cv p r)<;>simp<;>omega
     ·intro m k hk
      have hlen:=h.2 rows[k] (List.getElem_mem hk)
      simp only[BY,Ae,AJ hk,Ac (show k<4611686018427387904 by omega),A8 (show-9223372036854775808<=v+1 by omega) (show v+1<=9223372036854775807 by omega),ED p (show rows[k].length<=1099511627775 by omega)]
      by_cases h4:(rows[k].length:Int)=v+1
      ·cases hb:Cv p rows[k]<;>simp[hk,h4,hb]
      ·simp[hk,h4]
     ·intro m
      simp[BY]
theorem Es {rows:List (List Int)} {p v:Int} (hp:2<=p/\p<=7) (hv:0<=v/\v<=8) (hl:rows.length<=8) (hr: ∀r∈rows,r.length<=1099511627775):Ds p v rows=some (rows.all λr=>decide ((r.length:Int)=v+1)&&Cv p r):=by
 unfold Ds
 rw[Fh rows (λm i=>Cb m (p,v,rows,i)) (λr=>decide ((r.length:Int)=v+1)&&Cv p r) (.inr false) (.inl ()) ?_ ?_ (by unfold Aa;omega)]
 ·cases rows.all (λr=>decide ((r.length:Int)=v+1)&&Cv p r)<;>simp
 ·intro m k hk
  simp only[Cb,Ae,AJ hk,Ac (show k<4611686018427387904 by omega),A8 (show-9223372036854775808<=v+1 by omega) (show v+1<=9223372036854775807 by omega),Et _ (by omega: -9223372036854775808<p) (by omega) (hr _ (List.getElem_mem hk))]
  cases hb:(decide ((rows[k].length:Int)=v+1)&&Cv p rows[k])<;>simp[hk]
 ·intro m
  simp[Cb]
theorem Ei {a:Lin} (h:DW a):Di a=some (BT a):=by
 obtain⟨p,v,rows⟩:=a
 unfold Di Bj BT
 rw[Ej,D7]
 cases hp:Db p with
 |false=>simp[hp]
 |true=>
  have hb:=Gd hp
  by_cases h1:0<=v/\v<=8
  ·by_cases h3:rows.length<=8
   ·rw[Es hb h1 h3 λr hr=>by have:=h.2 r hr;omega]
    simp[hp,h1,h3,show(rows.length:Int)<=8 by omega]
   ·simp[hp,h1,h3,show¬(rows.length:Int)<=8 by omega]
  ·simp[hp,h1]
end T
open Go Go.Va
namespace T
def cmpL:List Int->List Int->Int
 | [],[]=>0
 | [],_::_=> -1
 |_::_,[]=>1
 |a::s,b::t=>if a=b then cmpL s t else if a<b then-1 else 1
theorem EI {s t:List Int} (hs:s.length<=1099511627775) (hl:s.length=t.length):Em s t=some (decide (cmpL s t<0)):=by
 have key: ∀(n k:Nat),k<=s.length->s.length-k<n->(Cq n (s,t,(k:Int))).bind (λs1=>match s1 with| .inl _=>some false| .inr s3=>some s3)=some (decide (cmpL (s.drop k) (t.drop k)<0)):=by
  intro n
  induction n with
  |zero=>intro k _ h;omega
  |succ n ih=>
   intro k h1 hn
   by_cases k1:k<s.length
   ·have k2:k<t.length:=by omega
    rw[List.drop_eq_getElem_cons k1,List.drop_eq_getElem_cons k2]
    simp only[Cq,Ae,AJ k1,AJ k2,Ac (show k<4611686018427387904 by omega),cmpL]
    by_cases he:s[k]=t[k]
    ·have:=ih (k+1) k1 (by omega)
     simp[k1,k2,he]
     simpa using this
    ·by_cases hl:s[k]<t[k]<;>simp[k1,k2,he,hl]
   ·rw[List.drop_of_length_le (show s.length<=k by omega),List.drop_of_length_le (show t.length<=k by omega)]
    simp[Cq,k1,cmpL]
 have:=key Aa 0 (Nat.zero_le _) (by unfold Aa;omega)
 rw[List.drop_zero,List.drop_zero]at this
 exact this
theorem EG {a b:List Int} (ha:a.length<=1099511627775):DD a b=some (decide (a=b)):=by
 unfold DD
 by_cases hl:a.length=b.length
 ·rw[if_neg (by simp[hl]),eqX a b hl (λn i=>Co n (a,b,i)) ?_ ?_ (by unfold Aa;omega)]
  ·by_cases h:a=b<;>simp[h]
  ·intro n k h1 h2
   simp only[Co,Ae,AJ h1,AJ h2,Ac (show k<4611686018427387904 by omega)]
   by_cases h:a[k]=b[k]<;>simp[h1,h2,h]
  ·intro n
   simp[Co]
 ·rw[if_pos (by simp;omega),decide_eq_false (λe=>hl (by rw[e]))]
theorem cmpL_refl: ∀s,cmpL s s=0
 | []=>rfl
 |a::s=>by simp[cmpL,cmpL_refl s]
theorem cmpL_eq: ∀ {s t},cmpL s t=0↔s=t
 | [],[]=>by simp[cmpL]
 | [],_::_=>by simp[cmpL]
 |_::_,[]=>by simp[cmpL]
 |a::s,b::t=>by
  simp only[cmpL]
  by_cases h:a=b
  ·rw[if_pos h,cmpL_eq];simp[h]
  ·rw[if_neg h];split<;>simp[h]
theorem cmpL_symm: ∀s t,cmpL t s= -cmpL s t
 | [],[]=>by simp[cmpL]
 | [],_::_=>by simp[cmpL]
 |_::_,[]=>by simp[cmpL]
 |a::s,b::t=>by
  simp only[cmpL]
  by_cases h:a=b
  ·rw[if_pos h,if_pos h.symm,cmpL_symm s t]
  ·rw[if_neg h,if_neg (Ne.symm h)]
   by_cases h2:a<b
   ·rw[if_pos h2,if_neg (by omega)];rfl
   ·rw[if_neg h2,if_pos (by omega)]
theorem cmpL_trans: ∀ {s t u},cmpL s t<0->cmpL t u<0->cmpL s u<0
 | [],[],_,h,_=>by simp[cmpL]at h
 | [],_::_,[],_,h=>by simp[cmpL]at h
 | [],_::_,_::_,_,_=>by simp[cmpL]
 |_::_,[],_,h,_=>by simp[cmpL]at h
 |_::_,_::_,[],_,h=>by simp[cmpL]at h
 |a::s,b::t,c::u,h1,h2=>by
  simp only[cmpL]at*
  by_cases e1:a=b
  ·rw[if_pos e1]at h1
   by_cases e2:b=c
   ·rw[if_pos e2]at h2;rw[if_pos (e1.trans e2)];exact cmpL_trans h1 h2
   ·rw[if_neg e2]at h2;rw[e1,if_neg e2];exact h2
  ·rw[if_neg e1]at h1
   have l1:a<b:=by
    by_cases h:a<b
    ·exact h
    ·rw[if_neg h]at h1;omega
   by_cases e2:b=c
   ·rw[←e2,if_neg e1,if_pos l1];omega
   ·rw[if_neg e2]at h2
    have l2:b<c:=by
     by_cases h:b<c
     ·exact h
     ·rw[if_neg h]at h2;omega
    rw[if_neg (by omega),if_pos (by omega)];omega
def Dx:List (List Int)->Bool
 |a::b::l=>decide (cmpL a b<0)&&Dx (b::l)
 |_=>true
theorem F8 {a:List Int} {l:List (List Int)} (h:Dx (a::l)=true):Dx l=true:=by
 cases l with
 |nil=>rfl
 |cons b l=>simp only[Dx,Bool.and_eq_true]at h;exact h.2
theorem EY: ∀ {a:List Int} {l:List (List Int)},Dx (a::l)=true-> ∀b∈l,cmpL a b<0
 |a,[],_,b,hb=>by cases hb
 |a,c::l,h,b,hb=>by
  simp only[Dx,Bool.and_eq_true,decide_eq_true_eq]at h
  rcases List.mem_cons.1 hb with rfl|hb
  ·exact h.1
  ·exact cmpL_trans h.1 (EY h.2 b hb)
theorem DH: ∀ {l:List (List Int)},Dx l=true-> ∀(i j:Nat) (hi:i<j) (hj:j<l.length),cmpL (l[i]'(by omega)) l[j]<0
 | [],_,i,j,_,hj=>by simp at hj
 |a::l,h,0,j+1,_,hj=>by
  simp only[List.getElem_cons_zero,List.getElem_cons_succ]
  exact EY h _ (List.getElem_mem _)
 |a::l,h,i+1,j+1,hi,hj=>by
  simp only[List.getElem_cons_succ]
  exact DH (F8 h) i j (by omega) (by simpa using hj)
theorem Gy {l:List (List Int)}:Dx l=true↔ ∀(i:Nat) (hi:i+1<l.length),cmpL (l[i]'(by omega)) l[i+1]<0:=by
 constructor
 ·exact λh i hi=>DH h i (i+1) (by omega) hi
 ·induction l with
  |nil=>intro _;rfl
  |cons a l ih=>
   intro h
   cases l with
   |nil=>rfl
   |cons b l=>
    simp only[Dx,Bool.and_eq_true,decide_eq_true_eq]
    exact⟨h 0 (by simp),ih λi hi=>by have:=h (i+1) (by simpa using hi);simpa using this⟩
end T
open Go Go.Va
namespace T
theorem E1 {n:Int} (h0:0<=n) (h8:n<=8): ∀k:Nat,0<=n^k/\n^k<=8^k
 |0=>by simp
 |k+1=>by
  obtain⟨h1,h2⟩:=E1 h0 h8 k
  rw[Int.pow_succ,Int.pow_succ]
  exact⟨Int.mul_nonneg h1 h0,Int.mul_le_mul h2 h8 h0 (by have:(0:Int)<=8^k:=Int.le_trans h1 h2;exact this)⟩
theorem G8: ∀k:Nat,k<=20->(8:Int)^k<=8^20:=by
 intro k hk
 have:((8^k:Nat):Int)<=((8^20:Nat):Int):=Int.ofNat_le.2 (Nat.pow_le_pow_right (by omega) hk)
 simpa using this
theorem GJ {n:Int} (h0:0<=n) (h8:n<=8) {k:Nat} (hk:k<=20):0<=n^k/\n^k<=1152921504606846976:=by
  obtain⟨h1,h2⟩:=E1 h0 h8 k
  have:=G8 k hk
  exact ⟨h1, by have e : (8 : Int) ^ 20 = 1152921504606846976 := by decide
                omega⟩
theorem GK {n:Int} (h0:0<=n) (h8:n<=8): ∀(m k j:Nat),j+k<=20->k<m->CT m (n,(k:Int),n^j)=some (n^(j+k)):=by
 intro m
 induction m with
 |zero=>intro k j _ h;omega
 |succ m ih=>
  intro k j hj hk
  simp only[CT]
  cases k with
  |zero=>simp
  |succ k=>
   have e:w64 (((k+1:Nat):Int)-1)=(k:Int):=by rw[A8 (by omega) (by omega)];omega
   have hb:=GJ h0 h8 (k:=j+1) (by omega)
   rw[Int.pow_succ]at hb
   rw[e,A8 (by omega) (by omega),←Int.pow_succ,if_pos (by simp),ih k (j+1) (by omega) (by omega)]
   congr 2<;>omega
theorem DM {n:Int} (h0:0<=n) (h8:n<=8) {k:Nat} (hk:k<=20):DU n (k:Int)=some (n^k):=by
 unfold DU
 have:=GK h0 h8 Aa k 0 (by omega) (by unfold Aa;omega)
 rw[Int.pow_zero]at this
 rw[this];simp
theorem GC {n:Int} (h0:0<=n) (h8:n<=8): ∀(m k j:Nat),j+k<=20->k<m->CY m (n,(k:Int),n^j)=some (n^(j+k)):=by
 intro m
 induction m with
 |zero=>intro k j _ h;omega
 |succ m ih=>
  intro k j hj hk
  simp only[CY]
  cases k with
  |zero=>simp
  |succ k=>
   have e:w64 (((k+1:Nat):Int)-1)=(k:Int):=by rw[A8 (by omega) (by omega)];omega
   have hb:=GJ h0 h8 (k:=j+1) (by omega)
   rw[Int.pow_succ]at hb
   rw[e,A8 (by omega) (by omega),←Int.pow_succ,if_pos (by simp),ih k (j+1) (by omega) (by omega)]
   congr 2<;>omega
theorem EO {n:Int} (h0:0<=n) (h8:n<=8) {k:Nat} (hk:k<=20):D0 n (k:Int)=some (n^k):=by
 unfold D0
 have:=GC h0 h8 Aa k 0 (by omega) (by unfold Aa;omega)
 rw[Int.pow_zero]at this
 rw[this];simp
theorem G1 {list:List (List Int)} {t:List Int} {k:Nat} (hl:list.length<=1099511627775) (hk:k<=1099511627775) (hv: ∀u∈list,u.length=k) (ht:t.length=k) (hi:Dx list=true): ∀(m a b:Nat),a<=b->b<=list.length->b-a<m->
  (∀i (h:i<list.length),i<a->cmpL list[i] t<0)->(∀i (h:i<list.length),b<=i-> ¬cmpL list[i] t<0)->
  ∃c:Nat,B4 m (list,t,(a:Int),(b:Int))=some (list,t,(c:Int))/\c<=list.length/\(∀i (h:i<list.length),i<c->cmpL list[i] t<0)/\(∀i (h:i<list.length),c<=i-> ¬cmpL list[i] t<0):=by
 intro m
 induction m with
 |zero=>intro a b _ _ h;omega
 |succ m ih=>
  intro a b hab hb hm h1 h2
  simp only[B4]
  by_cases hlt:a<b
  ·have emid:w64 (Int.tdiv (w64 ((a:Int)+b)) 2)=(((a+b)/2:Nat):Int):=by
    rw[A8 (x:=(a:Int)+b) (by omega) (by omega),Int.tdiv_eq_ediv_of_nonneg (by omega),A8 (by omega) (by omega)];omega
   have hmid:(a+b)/2<list.length:=by omega
   rw[emid]
   have hless:=EI (s:=list[(a+b)/2]) (t:=t) (by rw[hv _ (List.getElem_mem hmid)];omega) (by rw[hv _ (List.getElem_mem hmid),ht])
   simp only[Ae,AJ hmid,hless,Option.bind_some,Ac (show(a+b)/2<4611686018427387904 by omega)]
   by_cases hc:cmpL list[(a+b)/2] t<0
   ·obtain⟨c,e,k1,k2,k3⟩:=ih ((a+b)/2+1) b (by omega) hb (by omega) (λi h hi'=>by
     rcases Nat.lt_or_ge i ((a+b)/2)with h'|h'
     ·exact cmpL_trans (DH hi i ((a+b)/2) h' hmid) hc
     ·have:i=(a+b)/2:=by omega
      subst this;exact hc) h2
    exact⟨c,by simpa[hlt,hmid,hc]using e,k1,k2,k3⟩
   ·obtain⟨c,e,k1,k2,k3⟩:=ih a ((a+b)/2) (by omega) (by omega) (by omega) h1 (λi h hi' hneg=>by
     rcases Nat.lt_or_ge ((a+b)/2) i with h'|h'
     ·exact hc (cmpL_trans (DH hi ((a+b)/2) i h' h) hneg)
     ·have:i=(a+b)/2:=by omega
      subst this;exact hc hneg)
    exact⟨c,by simpa[hlt,hmid,hc]using e,k1,k2,k3⟩
  ·have:a=b:=by omega
   subst this
   exact⟨a,by simp,hb,h1,h2⟩
theorem EJ {list:List (List Int)} {t:List Int} {k:Nat} (hl:list.length<=1099511627774) (hk:k<=1099511627775) (hv: ∀u∈list,u.length=k) (ht:t.length=k) (hi:Dx list=true):
  ∃c:Nat,DG list t=some ((c:Int),decide (t∈list))/\c<=list.length/\(∀i (h:i<list.length),i<c->cmpL list[i] t<0)/\(∀i (h:i<list.length),c<=i-> ¬cmpL list[i] t<0):=by
 obtain⟨c,e,k1,k2,k3⟩:=G1 (by omega) hk hv ht hi Aa 0 list.length (Nat.zero_le _) (Nat.le_refl _) (by unfold Aa;omega) (λi _ h=>by omega) (λi h h'=>by omega)
 refine⟨c,?_,k1,k2,k3⟩
 unfold DG
 have e':B4 Aa (list,t,0,(list.length:Int))=some (list,t,(c:Int)):=e
 rw[e']
 simp only[Option.bind_some]
 by_cases hc:c<list.length
 ·have hs:=EG (a:=list[c]) (b:=t) (by rw[hv _ (List.getElem_mem hc)];omega)
  simp only[Ae,AJ hc,hs,Option.bind_some]
  have:decide (list[c]=t)=decide (t∈list):=by
   by_cases h:list[c]=t
   ·rw[decide_eq_true h,decide_eq_true (h▸List.getElem_mem hc)]
   ·rw[decide_eq_false h]
    symm;rw[decide_eq_false_iff_not]
    intro hm
    obtain⟨j,hj,rfl⟩:=List.mem_iff_getElem.1 hm
    have hne:j≠c:=λe=>h (by subst e;rfl)
    rcases Nat.lt_or_ge j c with hlt|hge
    ·have:=k2 j hj hlt;rw[cmpL_refl]at this;omega
    ·exact k3 c hc (Nat.le_refl _) (DH hi c j (by omega) hj)
  simp[hc,this]
 ·have:decide (t∈list)=false:=by
   rw[decide_eq_false_iff_not]
   intro hm
   obtain⟨j,hj,rfl⟩:=List.mem_iff_getElem.1 hm
   have:=k2 j hj (by omega);rw[cmpL_refl]at this;omega
  rw[if_neg (by simp;omega),this]
end T
open Go Go.Va
namespace T
def HT (n:Int):Bool:=decide (1<=n/\n<=8)
def HZ (n k:Int) (t:List Int):Bool:=decide ((t.length:Int)=k)&&Cv n t
def HC (n k:Int) (ts:List (List Int)):Bool:=HT n&&decide (1<=k/\k<=4)&&ts.all (HZ n k)&&Dx ts
end T
set_option linter.unusedVariables false
open Go Go.Va
namespace T
def Dr (l:List Int):Option ((List Int)):=
 if([]:List Int).length+l.length<=lim then
 some ([]++l)
 else none
def Cy:Nat->((List Int)×Int×Int)->Option ((Unit)⊕(Bool))
 |0,_=>none
 |n+1,(l,n_,i)=>
 if decide (i<(l.length:Int))then
 if inb i l then
 if(gd l i 0)==n_ then
 some (.inr true)
 else
 Cy n (l,n_,w64 (i+1))
 else none
 else
 some (.inl ())
def DY (l:List Int) (n_:Int):Option (Bool):=
 (Cy Aa (l,n_,0)).bind λs1=>
  match s1 with
  | .inl s2=>
   some false
  | .inr s3=>
   some s3
end T
open Go Go.Va
namespace T
abbrev Con:=List Int×Int×List (List Int)
abbrev Net:=Int×Int×List Con
theorem Ab {α:Type} {l:List α} {k:Nat} {d:α} (h:k<l.length):l.getD k d=l[k]:=by simp[List.getD_eq_getElem?_getD,h]
end T
open Go Go.Va
namespace T
def g0 (l:List Int) (i:Nat):Int:=l.getD i 0
section
variable {v n up:Int} {c:Con} {vals:List Int}
theorem DP {l:List Int} (h:l.length<=1099511627775):Dr l=some l:=by
 unfold Dr
 rw[if_pos (by unfold lim;simp;omega)];simp
end
end T
open Go Go.Va
namespace T
abbrev Dom:=List (List Bool)
def mk (bs:List Bool):List Int:=((List.range bs.length).filter λi=>bs.getD i false).map λi:Nat=>(i:Int)
def d2 (d:Dom) (v x:Nat):Bool:=(d.getD v []).getD x false
theorem AL {α:Type} {l:List α} {i j:Nat} {y d:α}:(l.set i y).getD j d=if i=j/\j<l.length then y else l.getD j d:=by
 simp only[List.getD_eq_getElem?_getD,List.getElem?_set]
 by_cases h:i=j
 ·subst h
  by_cases h2:i<l.length
  ·simp[h2]
  ·simp[h2]
 ·simp[h]
theorem EN {l:List Int} {x:Int} (h:l.length<=1048576):DY l x=some (decide (x∈l)):=by
 unfold DY
 rw[Fh l (λn i=>Cy n (l,x,i)) (λy=>!decide (y=x)) (.inr true) (.inl ()) ?_ ?_ (by unfold Aa;omega)]
 ·by_cases hx:x∈l
  ·rw[if_neg]
   ·simp[hx]
   ·rw[List.all_eq_true];intro h;have:=h x hx;simp at this
  ·rw[if_pos]
   ·simp[hx]
   ·rw[List.all_eq_true];intro y hy;have:y≠x:=λe=>hx (e▸hy)
    simp[this]
 ·intro n k hk
  simp only[Cy,Ae,AJ hk,Ac (show k<4611686018427387904 by omega)]
  by_cases e:l[k]=x<;>simp[hk,e]
 ·intro n;simp[Cy]
end T
open Go Go.Va
namespace T
abbrev ASt:=Dom×List (Int×Int×Int)
section
variable {a:Net} {K:Nat} {c:Con}
end
end T
open Go Go.Va
namespace T
theorem w1:w64 1=1:=by rw[Ff];rfl
theorem w2:w64 2=2:=by rw[Ff];rfl
section
variable {a:Net}
end
end T
set_option linter.unusedVariables false
open Go Go.Va
namespace T
def Dv:Nat->((List Int)×(List Int)×(List Int)×Int×Int)->Option ((List Int))
 |0,_=>none
 |n+1,(g,h,t11,t12,t13)=>
 if decide (t13<t12)then
 if inb t13 t11 then
 if inb (gd t11 t13 0) g then
 if inb t13 h then
 Dv n (g,stt h t13 (gd g (gd t11 t13 0) 0),t11,t12,w64 (t13+1))
 else none
 else none
 else none
 else
 some h
def E6 (f:List Int) (g:List Int):Option ((List Int)):=
 if 0<=(f.length:Int)/\(f.length:Int)<=(f.length:Int)/\(f.length:Int)<=lim then
 (Dv Aa (g,List.replicate (Int.toNat (f.length:Int)) (0:Int),f,(f.length:Int),0)).bind λs1=>
 some s1
 else none
end T
open Go Go.Va
namespace T
def Hg (vs:List Int) (v:Int):Int:=vs.getD v.toNat 0
def HK (vs:List Int) (c:Con):Bool:=decide (c.1.map (Hg vs)∈c.2.2)
def HS (l:List Con) (vs:List Int):Bool:=l.all (HK vs)
def HW (vars:List Int) (c:Con):Bool:=c.1.all λv=>decide (v∈vars)
def HN (a:Net) (vars:List Int):List Con:=a.2.2.filter (HW vars)
section
variable {a:Net}
end
end T
open Go Go.Va
namespace T
theorem BR {α:Type} {k:Nat} {xs:List α} {d:α}:gd xs (k:Int) d=xs.getD k d:=rfl
abbrev T3:=List (List (List Bool))
abbrev T4:=List (List (List (List Bool)))
def Hi (s:Nat) (c:List (List Bool)):Prop:=c.length=s/\ ∀x,x<s->(c.getD x []).length=s
def HG (n s:Nat) (r:T3):Prop:=r.length=n/\ ∀j,j<n->Hi s (r.getD j [])
def Ok4 (n s:Nat) (t:T4):Prop:=t.length=n/\ ∀i,i<n->HG n s (t.getD i [])
def r4 (t:T4) (i j x y:Nat):Bool:=(((t.getD i []).getD j []).getD x []).getD y false
def s4 (t:T4) (i j x y:Nat) (b:Bool):T4:=t.set i ((t.getD i []).set j (((t.getD i []).getD j []).set x ((((t.getD i []).getD j []).getD x []).set y b)))
def Ok3 (n m:Nat) (u:T3):Prop:=u.length=n/\ ∀i,i<n->(u.getD i []).length=n/\ ∀j,j<n->((u.getD i []).getD j []).length=m
def r3 (u:T3) (i j p:Nat):Bool:=((u.getD i []).getD j []).getD p false
def s3 (u:T3) (i j p:Nat) (b:Bool):T3:=u.set i ((u.getD i []).set j (((u.getD i []).getD j []).set p b))
section
variable {n s m:Nat} {t:T4} {u:T3}
theorem Ok4.at (h:Ok4 n s t) {i j x:Nat} (hi:i<n) (hj:j<n) (hx:x<s):i<t.length/\j<(t.getD i []).length/\x<((t.getD i []).getD j []).length/\(((t.getD i []).getD j []).getD x []).length=s:=
 ⟨by rw[h.1];exact hi,by rw[(h.2 i hi).1];exact hj,by rw[((h.2 i hi).2 j hj).1];exact hx,((h.2 i hi).2 j hj).2 x hx⟩
theorem Ok3.at (h:Ok3 n m u) {i j:Nat} (hi:i<n) (hj:j<n):i<u.length/\j<(u.getD i []).length/\((u.getD i []).getD j []).length=m:=
 ⟨by rw[h.1];exact hi,by rw[(h.2 i hi).1];exact hj,(h.2 i hi).2 j hj⟩
theorem FV (h:Ok4 n s t) {i j x y:Nat} {b:Bool}:Ok4 n s (s4 t i j x y b):=by
 unfold s4
 refine⟨by rw[List.length_set];exact h.1,λi' hi'=>?_⟩
 rw[AL]
 split
 ·rename_i hc
  obtain⟨rfl,_⟩:=hc
  have hr:=h.2 i hi'
  refine⟨by rw[List.length_set];exact hr.1,λj' hj'=>?_⟩
  rw[AL]
  split
  ·rename_i hc
   obtain⟨rfl,_⟩:=hc
   have hcl:=hr.2 j hj'
   refine⟨by rw[List.length_set];exact hcl.1,λx' hx'=>?_⟩
   rw[AL]
   split
   ·rename_i hc
    obtain⟨rfl,_⟩:=hc
    rw[List.length_set];exact hcl.2 x hx'
   ·exact hcl.2 x' hx'
  ·exact hr.2 j' hj'
 ·exact h.2 i' hi'
theorem HR (h:Ok3 n m u) {i j p:Nat} {b:Bool}:Ok3 n m (s3 u i j p b):=by
 unfold s3
 refine⟨by rw[List.length_set];exact h.1,λi' hi'=>?_⟩
 rw[AL]
 split
 ·rename_i hc
  obtain⟨rfl,_⟩:=hc
  have hr:=h.2 i hi'
  refine⟨by rw[List.length_set];exact hr.1,λj' hj'=>?_⟩
  rw[AL]
  split
  ·rename_i hc
   obtain⟨rfl,_⟩:=hc
   rw[List.length_set];exact hr.2 j hj'
  ·exact hr.2 j' hj'
 ·exact h.2 i' hi'
theorem FT (h:Ok4 n s t) {i j x y:Nat} {b:Bool} (hi:i<n) (hj:j<n) (hx:x<s) (hy:y<s) (i' j' x' y':Nat):
  r4 (s4 t i j x y b) i' j' x' y'=if i=i'/\j=j'/\x=x'/\y=y' then b else r4 t i' j' x' y':=by
 obtain⟨h1,h2,h3,h4⟩:=h.at hi hj hx
 unfold r4 s4
 rw[AL]
 by_cases e1:i=i'
 ·subst e1
  rw[if_pos ⟨rfl,h1⟩,AL]
  by_cases e2:j=j'
  ·subst e2
   rw[if_pos ⟨rfl,h2⟩,AL]
   by_cases e3:x=x'
   ·subst e3
    rw[if_pos ⟨rfl,h3⟩,AL]
    by_cases e4:y=y'
    ·subst e4;rw[if_pos ⟨rfl,by omega⟩,if_pos ⟨rfl,rfl,rfl,rfl⟩]
    ·rw[if_neg (by omega),if_neg (by omega)]
   ·rw[if_neg (by omega),if_neg (by omega)]
  ·rw[if_neg (by omega),if_neg (by omega)]
 ·rw[if_neg (by omega),if_neg (by omega)]
theorem HQ (h:Ok3 n m u) {i j p:Nat} {b:Bool} (hi:i<n) (hj:j<n) (hp:p<m) (i' j' p':Nat):
  r3 (s3 u i j p b) i' j' p'=if i=i'/\j=j'/\p=p' then b else r3 u i' j' p':=by
 obtain⟨h1,h2,h3⟩:=h.at hi hj
 unfold r3 s3
 rw[AL]
 by_cases e1:i=i'
 ·subst e1
  rw[if_pos ⟨rfl,h1⟩,AL]
  by_cases e2:j=j'
  ·subst e2
   rw[if_pos ⟨rfl,h2⟩,AL]
   by_cases e3:p=p'
   ·subst e3;rw[if_pos ⟨rfl,by omega⟩,if_pos ⟨rfl,rfl,rfl⟩]
   ·rw[if_neg (by omega),if_neg (by omega)]
  ·rw[if_neg (by omega),if_neg (by omega)]
 ·rw[if_neg (by omega),if_neg (by omega)]
end
structure Rel34 (n s:Nat) (t:T4) (u:T3):Prop where
 o4:Ok4 n s t
 o3:Ok3 n (s*s) u
 eq: ∀i j x y,i<j->j<n->x<s->y<s->r4 t i j x y=r3 u i j (x*s+y)/\r4 t j i y x=r3 u i j (x*s+y)
theorem GY {s x y:Nat} (hx:x<s) (hy:y<s):x*s+y<s*s:=by
 have:(x+1)*s<=s*s:=Nat.mul_le_mul_right _ hx
 rw[Nat.succ_mul]at this;omega
theorem Gl {s x y x' y':Nat} (hy:y<s) (hy':y'<s) (h:x*s+y=x'*s+y'):x=x'/\y=y':=by
 have h1:(x*s+y)/s=x:=by rw[Nat.mul_comm,Nat.mul_add_div (by omega),Nat.div_eq_of_lt hy];omega
 have h2:(x'*s+y')/s=x':=by rw[Nat.mul_comm,Nat.mul_add_div (by omega),Nat.div_eq_of_lt hy'];omega
 have:x=x':=by rw[←h1,←h2,h]
 subst this
 exact⟨rfl,by omega⟩
theorem Rel34.drop {n s:Nat} {t:T4} {u:T3} (h:Rel34 n s t u) {i j x y:Nat} (hij:i<j) (hj:j<n) (hx:x<s) (hy:y<s):
  Rel34 n s (s4 (s4 t i j x y false) j i y x false) (s3 u i j (x*s+y) false):=by
 refine⟨FV (FV h.o4),HR h.o3,λi' j' x' y' h1 h2 h3 h4=>?_⟩
 have hi:i<n:=by omega
 rw[FT (FV h.o4) hj hi hy hx,FT h.o4 hi hj hx hy,FT (FV h.o4) hj hi hy hx,FT h.o4 hi hj hx hy,HQ h.o3 hi hj (GY hx hy)]
 obtain⟨e1,e2⟩:=h.eq i' j' x' y' h1 h2 h3 h4
 by_cases e:i=i'/\j=j'/\x=x'/\y=y'
 ·obtain⟨rfl,rfl,rfl,rfl⟩:=e
  simp
 ·have e3: ¬(i=i'/\j=j'/\x*s+y=x'*s+y'):=λ⟨q1,q2,q3⟩=>by
   have:=Gl hy h4 q3
   exact e ⟨q1,q2,this.1,this.2⟩
  have e4: ¬(j=i'/\i=j'/\y=x'/\x=y'):=by omega
  have e5: ¬(i=j'/\j=i'/\x=y'/\y=x'):=by omega
  have e6: ¬(j=j'/\i=i'/\y=y'/\x=x'):=by omega
  simp only[if_neg e,if_neg e3,if_neg e4,if_neg e5,if_neg e6]
  exact⟨e1,e2⟩
end T
open Go Go.Va
namespace T
def V3 (n i j k x y z:Nat):List Int:=(((List.replicate n (0:Int)).set i (x:Int)).set j (y:Int)).set k (z:Int)
section
variable {a:Net} {n s:Nat} {t:T4} {u:T3}
def hP (a:Net) (n:Nat) (t:T4) (i j k x y z:Nat):Bool:=r4 t i k x z&&r4 t j k y z&&HS (HN a [(i:Int),(j:Int),(k:Int)]) (V3 n i j k x y z)
end
end T
open Go Go.Va
namespace T
section
variable {a:Net} {n s:Nat} {t:T4} {u:T3}
def V2 (n i j x y:Nat):List Int:=((List.replicate n (0:Int)).set i (x:Int)).set j (y:Int)
def fB (a:Net) (n i j x y:Nat):Bool:=HS (HN a [(i:Int),(j:Int)]) (V2 n i j x y)
end
end T
open Go Go.Va
namespace T
section
variable {a:Net} {n s:Nat} {t:T4} {u:T3}
def PA (n s i:Nat) (t:T4):Prop:=t.length=n/\ ∀i',i'<i->HG n s (t.getD i' [])
def PB (n s i j:Nat) (t:T4):Prop:=PA n s i t/\(t.getD i []).length=n/\ ∀j',j'<j->Hi s ((t.getD i []).getD j' [])
theorem PA.set {i:Nat} (h:PA n s i t) (r:T3):PA n s i (t.set i r):=by
 refine⟨by rw[List.length_set];exact h.1,λi' hi'=>?_⟩
 rw[AL,if_neg (by omega)];exact h.2 i' hi'
theorem PB.set {i j:Nat} (h:PB n s i j t) (hi:i<n) (c:List (List Bool)):PB n s i j (t.set i ((t.getD i []).set j c)):=by
 have hl:=h.1.1
 refine⟨h.1.set _,?_,λj' hj'=>?_⟩
 ·rw[AL,if_pos ⟨rfl,by omega⟩,List.length_set];exact h.2.1
 ·rw[AL,if_pos ⟨rfl,by omega⟩,AL,if_neg (by omega)];exact h.2.2 j' hj'
end
end T
open Go Go.Va
namespace T
section
variable {a:Net} {n s:Nat} {t:T4} {u:T3}
def cI (o:List Nat):List Int:=o.map λx:Nat=>(x:Int)
end
end T
set_option linter.unusedVariables false
open Go Go.Va
namespace T
def DL:Nat->((List Int)×(List Int)×Int×Int)->Option ((List Int))
 |0,_=>none
 |n+1,(b,t10,t11,t12)=>
 if decide (t12<t11)then
 if inb t12 t10 then
 if(0:Int)<=8 then
 if b.length+ [IntKind.wrap .u8 (YiD .i64 (gd t10 t12 0) 8),IntKind.wrap .u8 (gd t10 t12 0)].length<=lim then
 DL n (b++ [IntKind.wrap .u8 (YiD .i64 (gd t10 t12 0) 8),IntKind.wrap .u8 (gd t10 t12 0)],t10,t11,w64 (t12+1))
 else none
 else none
 else none
 else
 some b
def FC (list:List Int):Option (ByteArray):=
 if(0:Int)<=0/\(0:Int)<=(w64 (2*(list.length:Int)))/\(w64 (2*(list.length:Int)))<=lim then
 (DL Aa (List.replicate (Int.toNat 0) (0:Int),list,(list.length:Int),0)).bind λs1=>
 some (Ybp s1)
 else none
end T
open Go Go.Va
namespace T
def dg (b:Nat):Nat->Nat->List Nat
 |0,_=> []
 |k+1,i=>dg b k (i/b)++ [i%b]
theorem Ez {b:Nat}: ∀ {k i:Nat},(dg b k i).length=k
 |0,_=>rfl
 |k+1,i=>by simp[dg,Ez (k:=k)]
theorem Hk {b:Nat} (hb:0<b): ∀ {k i:Nat},∀x∈dg b k i,x<b
 |0,_,x,h=>by simp[dg]at h
 |k+1,i,x,h=>by
  simp only[dg]at h
  rcases List.mem_append.1 h with h|h
  ·exact Hk hb x h
  ·simp at h;subst h;exact Nat.mod_lt _ hb
theorem FI {b:Nat}: ∀ {k:Nat},dg b k 0=List.replicate k 0
 |0=>rfl
 |k+1=>by simp[dg,FI (k:=k),List.replicate_succ']
theorem Eb {o:List Nat}:(cI o).length=o.length:=by unfold cI;simp
end T
set_option linter.unusedVariables false
open Go Go.Va
namespace T
def Cp:Nat->(Int×Int×(List Int)×Int)->Option ((List Int))
 |0,_=>none
 |n+1,(n_,at_,out,i)=>
 if decide (i≥0)then
 if n_≠0 then
 if inb i out then
 if n_≠0 then
 Cp n (n_,w64 (Int.tdiv at_ n_),stt out i (Int.tmod at_ n_),w64 (i-1))
 else none
 else none
 else none
 else
 some out
def DE (n_:Int) (arity:Int) (at_:Int):Option ((List Int)):=
 if 0<=arity/\arity<=arity/\arity<=lim then
 (Cp Aa (n_,at_,List.replicate (Int.toNat arity) (0:Int),w64 (arity-1))).bind λs1=>
 some s1
 else none
def By:Nat->((List Int)×Int×Int)->Option ((List Int))
 |0,_=>none
 |n+1,(list,t8,t9)=>
 if decide (t9<t8)then
 if inb t9 list then
 By n (stt list t9 (-1),t8,w64 (t9+1))
 else none
 else
 some list
def Cj (many:Int):Option ((List Int)):=
 if 0<=many/\many<=many/\many<=lim then
 (By Aa (List.replicate (Int.toNat many) (0:Int),((List.replicate (Int.toNat many) (0:Int)).length:Int),0)).bind λs1=>
 some s1
 else none
def Ci:Nat->(Int×Int×(List Int)×Int)->Option ((List Int))
 |0,_=>none
 |n+1,(i,n_,args,j)=>
 if decide (j≥0)then
 if n_≠0 then
 if inb j args then
 if n_≠0 then
 Ci n (w64 (Int.tdiv i n_),n_,stt args j (Int.tmod i n_),w64 (j-1))
 else none
 else none
 else none
 else
 some args
def Dz (i:Int) (k:Int) (n_:Int):Option ((List Int)):=
 if 0<=k/\k<=k/\k<=lim then
 (Ci Aa (i,n_,List.replicate (Int.toNat k) (0:Int),w64 (k-1))).bind λs1=>
 some s1
 else none
def CO (list:List Int):Option ((List Int)):=
 if([]:List Int).length+list.length<=lim then
 some ([]++list)
 else none
end T
open Go Go.Va
namespace T
theorem Hm {a b:Nat} (ha:a<4611686018427387904):w64 (Int.tdiv (a:Int) (b:Int))=((a/b:Nat):Int):=by
 rw[Int.tdiv_eq_ediv_of_nonneg (by omega),←Int.natCast_ediv]
 have:=Nat.div_le_self a b
 generalize a/b=q at this
 exact A8 (by omega) (by omega)
theorem Hn {a b:Nat}:Int.tmod (a:Int) (b:Int)=((a%b:Nat):Int):=by
 rw[Int.tmod_eq_emod_of_nonneg (by omega),←Int.natCast_emod]
section
variable {n:Nat}
end
end T
open Go Go.Va
namespace T
abbrev Fw:=Int×List (List Int)
theorem Gk {l:List Nat} {s:List Nat} {x y:Nat}:(cI (l++x::s)).set l.length (y:Int)=cI (l++y::s):=by
 unfold cI
 rw[List.map_append,List.map_append,List.map_cons,List.map_cons,List.set_append_right _ _ (by simp)]
 simp
theorem GW {b:Nat} (hb:0<b): ∀(j i f:Nat) (s:List Nat),j<f->i<4611686018427387904->j<=1000->
  Ci f ((i:Int),(b:Int),cI (List.replicate j 0++s),(j:Int)-1)=some (cI (dg b j i++s)):=by
 intro j
 induction j with
 |zero=>
  intro i f s hf hi hj
  obtain⟨f,rfl⟩: ∃z,f=z+1:=⟨f-1,by omega⟩
  simp only[Ci]
  rw[if_neg (by simp)];rfl
 |succ j ih=>
  intro i f s hf hi hj
  obtain⟨f,rfl⟩: ∃z,f=z+1:=⟨f-1,by omega⟩
  have e1:((j+1:Nat):Int)-1=(j:Int):=by omega
  have hz:List.replicate (j+1) 0++s=List.replicate j 0++0::s:=by rw[List.replicate_succ'];simp
  have hlen:j<(cI (List.replicate j 0++0::s)).length:=by rw[Eb];simp
  have hset:=Gk (l:=List.replicate j 0) (s:=s) (x:=0) (y:=i%b)
  rw[List.length_replicate]at hset
  have w2:w64 ((j:Int)-1)=(j:Int)-1:=A8 (by omega) (by omega)
  have hle:=Nat.div_le_self i b
  rw[e1,hz]
  simp only[Ci,Hm hi,Hn,Ae,hlen,Bk,hset,w2]
  rw[if_pos (by simp),if_pos (by omega),if_pos trivial,if_pos (by omega),ih (i/b) f _ (by omega) (by omega) (by omega)]
  simp[dg]
theorem EC {b k i:Nat} (hb:0<b) (hk:k<=1000) (hi:i<4611686018427387904):Dz (i:Int) (k:Int) (b:Int)=some (cI (dg b k i)):=by
 have h:=GW hb k i Aa [] (by unfold Aa;omega) hi hk
 have e:cI (List.replicate k 0++ [])=List.replicate (Int.toNat (k:Int)) (0:Int):=by unfold cI;simp
 rw[e,List.append_nil]at h
 unfold Dz
 rw[A8 (x:=(k:Int)-1) (by omega) (by omega),h,if_pos (by unfold lim;omega)];rfl
theorem Ga {b:Nat} (hb:0<b): ∀(j i f:Nat) (s:List Nat),j<f->i<4611686018427387904->j<=1000->
  Cp f ((b:Int),(i:Int),cI (List.replicate j 0++s),(j:Int)-1)=some (cI (dg b j i++s)):=by
 intro j
 induction j with
 |zero=>
  intro i f s hf hi hj
  obtain⟨f,rfl⟩: ∃z,f=z+1:=⟨f-1,by omega⟩
  simp only[Cp]
  rw[if_neg (by simp)];rfl
 |succ j ih=>
  intro i f s hf hi hj
  obtain⟨f,rfl⟩: ∃z,f=z+1:=⟨f-1,by omega⟩
  have e1:((j+1:Nat):Int)-1=(j:Int):=by omega
  have hz:List.replicate (j+1) 0++s=List.replicate j 0++0::s:=by rw[List.replicate_succ'];simp
  have hlen:j<(cI (List.replicate j 0++0::s)).length:=by rw[Eb];simp
  have hset:=Gk (l:=List.replicate j 0) (s:=s) (x:=0) (y:=i%b)
  rw[List.length_replicate]at hset
  have w2:w64 ((j:Int)-1)=(j:Int)-1:=A8 (by omega) (by omega)
  have hle:=Nat.div_le_self i b
  rw[e1,hz]
  simp only[Cp,Hm hi,Hn,Ae,hlen,Bk,hset,w2]
  rw[if_pos (by simp),if_pos (by omega),if_pos trivial,if_pos (by omega),ih (i/b) f _ (by omega) (by omega) (by omega)]
  simp[dg]
theorem EH {b k i:Nat} (hb:0<b) (hk:k<=1000) (hi:i<4611686018427387904):DE (b:Int) (k:Int) (i:Int)=some (cI (dg b k i)):=by
 have h:=Ga hb k i Aa [] (by unfold Aa;omega) hi hk
 have e:cI (List.replicate k 0++ [])=List.replicate (Int.toNat (k:Int)) (0:Int):=by unfold cI;simp
 rw[e,List.append_nil]at h
 unfold DE
 rw[A8 (x:=(k:Int)-1) (by omega) (by omega),h,if_pos (by unfold lim;omega)];rfl
section
variable {n k m:Nat} {r:Fw}
end
end T
open Go Go.Va
namespace T
section
variable {n k m:Nat} {r:Fw}
theorem Cz {α:Type} {f:α->Nat->α} {a:α} {i:Nat}:(List.range (i+1)).foldl f a=f ((List.range i).foldl f a) i:=by rw[List.range_succ,List.foldl_append];rfl
end
end T
open Go Go.Va
namespace T
section
variable {n k m:Nat} {r:Fw} {rels:List Fw}
theorem Hr {a b:List Nat} (h:cI a=cI b):a=b:=by
 unfold cI at h
 exact List.map_inj_right (λx y e=>by exact Int.ofNat_inj.1 e)|>.1 h
end
end T
open Go Go.Va
namespace T
theorem Gt {N:Nat} (h:N<=1000):Cj (N:Int)=some (List.replicate N (-1)):=by
 unfold Cj
 rw[Int.toNat_natCast,if_pos (by unfold lim;omega)]
 have:=BW N (λf o i=>By f (o,((List.replicate N (0:Int)).length:Int),i)) (λj=>List.replicate j (-1)++List.replicate (N-j) (0:Int)) (r:=some (List.replicate N (-1))) (λf j hj=>?_) (λf=>?_) (n:=Aa) (by unfold Aa;omega)
 ·have this:By Aa (List.replicate N (0:Int),((List.replicate N (0:Int)).length:Int),0)=_:=this
  rw[this];rfl
 ·have hin:j<(List.replicate j (-1)++List.replicate (N-j) (0:Int)).length:=by simp;omega
  have e:(List.replicate j (-1)++List.replicate (N-j) (0:Int)).set j (-1)=List.replicate (j+1) (-1)++List.replicate (N-(j+1)) (0:Int):=by
   rw[show N-j=(N-(j+1))+1 by omega,List.replicate_succ,List.set_append_right _ _ (by simp),List.replicate_succ']
   simp
  simp only[By,Ae,hin,Bk,e,if_true,Ac (show j<4611686018427387904 by omega)]
  rw[if_pos (by simp;omega)]
 ·simp only[By]
  rw[if_neg (by simp)];simp
end T
open Go Go.Va
namespace T
section
variable {n:Int} {rels:List Fw}
end
def BE (V:List Int) (x:Nat):Int:=match V.findIdx? (λy=>y==(x:Int))with|some i=>(i:Int)|none=> -1
section
variable {n:Nat} {t:List Int}
end
section
variable {n m:Nat} {t:List Int} {r:Fw} {rels:List Fw}
end
end T
set_option linter.unusedVariables false
open Go Go.Va
namespace T
def Dc:Nat->(Int×Int×Int)->Option (Int)
 |0,_=>none
 |n+1,(p,x,y)=>
 if p≠0 then
 if(Int.tmod (w64 (x*y)) p) !=1 then
 Dc n (p,x,w64 (y+1))
 else
 some y
 else none
def C5 (p:Int) (x:Int):Option (Int):=
 (Dc Aa (p,x,1)).bind λs1=>
 some s1
def BH:Nat->(Int×(List Int)×Int×(List Int)×Int)->Option ((List Int))
 |0,_=>none
 |n+1,(p,row,by_,out,i)=>
 if decide (i<(row.length:Int))then
 if inb i row then
 if p≠0 then
 if out.length+ [Int.tmod (w64 ((gd row i 0)*by_)) p].length<=lim then
 BH n (p,row,by_,out++ [Int.tmod (w64 ((gd row i 0)*by_)) p],w64 (i+1))
 else none
 else none
 else none
 else
 some out
def CV (p:Int) (row:List Int) (by_:Int):Option ((List Int)):=
 (BH Aa (p,row,by_,[],0)).bind λs1=>
 some s1
def Bd:Nat->(Int×Int×(List (List Int))×((List (List Int))×((List Int)×(List (List Int))))×((List (List Int))×((List Int)×(List (List Int))))×Int)->Option (Int×Int×((List (List Int))×((List Int)×(List (List Int))))×((List (List Int))×((List Int)×(List (List Int)))))
 |0,_=>none
 |n+1,(t0,t1,t2,t6,t7,t8)=>
 if decide (t8<(t2.length:Int))then
 if inb t8 t2 then
 (Dr (gd t2 t8 [])).bind λr1=>
 if t7.2.2.length+ [r1].length<=lim then
 Bd n (t0,t1,t2,(t6.1,(t6.2.1,t6.2.2)),(t7.1,(t7.2.1,t7.2.2++ [r1])),w64 (t8+1))
 else none
 else none
 else
 some (t0,t1,(t6.1,(t6.2.1,t6.2.2)),(t7.1,(t7.2.1,t7.2.2)))
def AM:Nat->(Int×Int×((List (List Int))×((List Int)×(List (List Int))))×((List (List Int))×((List Int)×(List (List Int))))×Int×Int)->Option (Int×Int×((List (List Int))×((List Int)×(List (List Int))))×((List (List Int))×((List Int)×(List (List Int))))×Int×Int)
 |0,_=>none
 |n+1,(t0,t1,t6,t7,t9,t10)=>
 if decide (t10<(t7.2.2.length:Int))then
 if inb t10 t7.2.2 then
 if inb t9 (gd t7.2.2 t10 [])then
 if(gd (gd t7.2.2 t10 []) t9 0)==0 then
 AM n (t0,t1,(t6.1,(t6.2.1,t6.2.2)),(t7.1,(t7.2.1,t7.2.2)),t9,w64 (t10+1))
 else
 some (t0,t1,(t6.1,(t6.2.1,t6.2.2)),(t7.1,(t7.2.1,t7.2.2)),t9,t10)
 else none
 else none
 else
 some (t0,t1,(t6.1,(t6.2.1,t6.2.2)),(t7.1,(t7.2.1,t7.2.2)),t9,t10)
def AN:Nat->(Int×Int×((List (List Int))×((List Int)×(List (List Int))))×((List (List Int))×((List Int)×(List (List Int))))×Int×(List Int)×(List (List Int))×Int)->Option (Int×Int×((List (List Int))×((List Int)×(List (List Int))))×((List (List Int))×((List Int)×(List (List Int))))×Int×(List Int)×(List (List Int)))
 |0,_=>none
 |n+1,(t0,t1,t6,t7,t9,t11,t12,t13)=>
 if decide (t13<(t12.length:Int))then
 if inb t13 t12 then
 if inb t13 t12 then
 if inb t9 (gd t12 t13 [])then
 (BQ t0 (gd t12 t13 []) t11 (gd (gd t12 t13 []) t9 0)).bind λr6=>
 if inb t13 t12 then
 AN n (t0,t1,(t6.1,(t6.2.1,t6.2.2)),(t7.1,(t7.2.1,t7.2.2)),t9,t11,stt t12 t13 r6,w64 (t13+1))
 else none
 else none
 else none
 else none
 else
 some (t0,t1,(t6.1,(t6.2.1,t6.2.2)),(t7.1,(t7.2.1,t7.2.2)),t9,t11,t12)
def AO:Nat->(Int×Int×((List (List Int))×((List Int)×(List (List Int))))×((List (List Int))×((List Int)×(List (List Int))))×Int×(List Int)×(List (List Int))×Int)->Option (Int×Int×((List (List Int))×((List Int)×(List (List Int))))×((List (List Int))×((List Int)×(List (List Int))))×Int×(List Int)×(List (List Int)))
 |0,_=>none
 |n+1,(t0,t1,t6,t7,t9,t11,t12,t14)=>
 if decide (t14<(t7.1.length:Int))then
 if inb t14 t7.1 then
 if inb t14 t7.1 then
 if inb t9 (gd t7.1 t14 [])then
 (BQ t0 (gd t7.1 t14 []) t11 (gd (gd t7.1 t14 []) t9 0)).bind λr8=>
 if inb t14 t7.1 then
 AO n (t0,t1,(t6.1,(t6.2.1,t6.2.2)),(stt t7.1 t14 r8,(t7.2.1,t7.2.2)),t9,t11,t12,w64 (t14+1))
 else none
 else none
 else none
 else none
 else
 some (t0,t1,(t6.1,(t6.2.1,t6.2.2)),(t7.1,(t7.2.1,t7.2.2)),t9,t11,t12)
def AU:Nat->(Int×Int×((List (List Int))×((List Int)×(List (List Int))))×((List (List Int))×((List Int)×(List (List Int))))×Int)->Option (((List (List Int))×((List Int)×(List (List Int))))×((List (List Int))×((List Int)×(List (List Int)))))
 |0,_=>none
 |n+1,(t0,t1,t6,t7,t9)=>
 if decide (t9<t1)then
 (AM Aa (t0,t1,(t6.1,(t6.2.1,t6.2.2)),(t7.1,(t7.2.1,t7.2.2)),t9,0)).bind λs3=>
 if s3.2.2.2.2.2==(s3.2.2.2.1.2.2.length:Int)then
 AU n (s3.1,s3.2.1,(s3.2.2.1.1,(s3.2.2.1.2.1,s3.2.2.1.2.2)),(s3.2.2.2.1.1,(s3.2.2.2.1.2.1,s3.2.2.2.1.2.2)),w64 (s3.2.2.2.2.1+1))
 else
 if inb s3.2.2.2.2.2 s3.2.2.2.1.2.2 then
 if inb s3.2.2.2.2.2 s3.2.2.2.1.2.2 then
 if inb s3.2.2.2.2.1 (gd s3.2.2.2.1.2.2 s3.2.2.2.2.2 [])then
 (C5 s3.1 (gd (gd s3.2.2.2.1.2.2 s3.2.2.2.2.2 []) s3.2.2.2.2.1 0)).bind λr4=>
 (CV s3.1 (gd s3.2.2.2.1.2.2 s3.2.2.2.2.2 []) r4).bind λr5=>
 if(0:Int)<=0/\0<=s3.2.2.2.2.2/\s3.2.2.2.2.2<=(s3.2.2.2.1.2.2.length:Int)then
 if([]:List (List Int)).length+((s3.2.2.2.1.2.2.take (Int.toNat s3.2.2.2.2.2)).drop (Int.toNat 0)).length<=lim then
 if(0:Int)<=(w64 (s3.2.2.2.2.2+1))/\(w64 (s3.2.2.2.2.2+1))<=(s3.2.2.2.1.2.2.length:Int)/\(s3.2.2.2.1.2.2.length:Int)<=(s3.2.2.2.1.2.2.length:Int)then
 if([]++((s3.2.2.2.1.2.2.take (Int.toNat s3.2.2.2.2.2)).drop (Int.toNat 0))).length+((s3.2.2.2.1.2.2.take (Int.toNat (s3.2.2.2.1.2.2.length:Int))).drop (Int.toNat (w64 (s3.2.2.2.2.2+1)))).length<=lim then
 (AN Aa (s3.1,s3.2.1,(s3.2.2.1.1,(s3.2.2.1.2.1,s3.2.2.1.2.2)),(s3.2.2.2.1.1,(s3.2.2.2.1.2.1,s3.2.2.2.1.2.2)),s3.2.2.2.2.1,r5,([]++((s3.2.2.2.1.2.2.take (Int.toNat s3.2.2.2.2.2)).drop (Int.toNat 0)))++((s3.2.2.2.1.2.2.take (Int.toNat (s3.2.2.2.1.2.2.length:Int))).drop (Int.toNat (w64 (s3.2.2.2.2.2+1)))),0)).bind λs6=>
 (AO Aa (s6.1,s6.2.1,(s6.2.2.1.1,(s6.2.2.1.2.1,s6.2.2.1.2.2)),(s6.2.2.2.1.1,(s6.2.2.2.1.2.1,s6.2.2.2.1.2.2)),s6.2.2.2.2.1,s6.2.2.2.2.2.1,s6.2.2.2.2.2.2,0)).bind λs7=>
 if s7.2.2.2.1.1.length+ [s7.2.2.2.2.2.1].length<=lim then
 if s7.2.2.2.1.2.1.length+ [s7.2.2.2.2.1].length<=lim then
 AU n (s7.1,s7.2.1,(s7.2.2.1.1,(s7.2.2.1.2.1,s7.2.2.1.2.2)),(s7.2.2.2.1.1++ [s7.2.2.2.2.2.1],(s7.2.2.2.1.2.1++ [s7.2.2.2.2.1],s7.2.2.2.2.2.2)),w64 (s7.2.2.2.2.1+1))
 else none
 else none
 else none
 else none
 else none
 else none
 else none
 else none
 else none
 else
 some ((t6.1,(t6.2.1,t6.2.2)),(t7.1,(t7.2.1,t7.2.2)))
def Ch (t0:Int) (t1:Int) (t2:List (List Int)):Option (((List (List Int))×((List Int)×(List (List Int))))):=
 (Bd Aa (t0,t1,t2,([],([],[])),([],([],[])),0)).bind λs1=>
 (AU Aa (s1.1,s1.2.1,(s1.2.2.1.1,(s1.2.2.1.2.1,s1.2.2.1.2.2)),(s1.2.2.2.1,(s1.2.2.2.2.1,s1.2.2.2.2.2)),0)).bind λs2=>
 some (s2.2.1,(s2.2.2.1,s2.2.2.2))
def BS (l:Int×Int×(List (List Int))):Option (((List (List Int))×((List Int)×(List (List Int))))):=
 (Ch l.1 l.2.1 l.2.2).bind λr1=>
 some (r1.1,(r1.2.1,r1.2.2))
def B2:Nat->(Int×((List (List Int))×(List Int)×(List (List Int)))×Int)->Option ((Unit)⊕(Bool))
 |0,_=>none
 |n+1,(vars,w,i)=>
 if decide (i<(w.2.2.length:Int))then
 if inb i w.2.2 then
 if inb vars (gd w.2.2 i [])then
 if(gd (gd w.2.2 i []) vars 0) !=0 then
 some (.inr true)
 else
 B2 n (vars,(w.1,(w.2.1,w.2.2)),w64 (i+1))
 else none
 else none
 else
 some (.inl ())
def Cc (w:(List (List Int))×(List Int)×(List (List Int))) (vars:Int):Option (Bool):=
 (B2 Aa (vars,(w.1,(w.2.1,w.2.2)),0)).bind λs1=>
  match s1 with
  | .inl s2=>
   some false
  | .inr s3=>
   some s3
def Bn (l:Int×Int×(List (List Int))):Option (Int×Bool):=
 (Bj (l.1,(l.2.1,l.2.2))).bind λr1=>
 if !r1 then
 some (0,false)
 else
 (BS (l.1,(l.2.1,l.2.2))).bind λr2=>
 (Cc (r2.1,(r2.2.1,r2.2.2)) l.2.1).bind λr3=>
 if r3 then
 some (0,true)
 else
 (D0 l.1 (w64 (l.2.1-(r2.2.1.length:Int)))).bind λr4=>
 some (r4,true)
def Bv:Nat->((List (List Int))×(List (List Int))×Int×Int)->Option ((List (List Int)))
 |0,_=>none
 |n+1,(list,t7,t8,t9)=>
 if decide (t9<t8)then
 if inb t9 t7 then
 (CO (gd t7 t9 [])).bind λr1=>
 if list.length+ [r1].length<=lim then
 Bv n (list++ [r1],t7,t8,w64 (t9+1))
 else none
 else none
 else
 some list
def BZ (rows:List (List Int)):Option ((List (List Int))):=
 (Bv Aa ([],rows,(rows.length:Int),0)).bind λs1=>
 some s1
def De:Nat->(Int×Int×Int)->Option ((Unit)⊕(Int))
 |0,_=>none
 |n+1,(x,p,y)=>
 if decide (y<p)then
 if p≠0 then
 if(Int.tmod (w64 (x*y)) p)==1 then
 some (.inr y)
 else
 De n (x,p,w64 (y+1))
 else none
 else
 some (.inl ())
def Cl (x:Int) (p:Int):Option (Int):=
 (De Aa (x,p,1)).bind λs1=>
  match s1 with
  | .inl s2=>
   some 0
  | .inr s3=>
   some s3
def AY:Nat->(Int×Int×(Int×(Int×((List (List Int))×(Int×(List Int)))))×Int×Int)->Option (Int×Int×(Int×(Int×((List (List Int))×(Int×(List Int)))))×Int×Int)
 |0,_=>none
 |n+1,(t0,t1,t7,t8,t9)=>
 if decide (t9<(t7.2.2.1.length:Int))then
 if inb t9 t7.2.2.1 then
 if inb t8 (gd t7.2.2.1 t9 [])then
 if(gd (gd t7.2.2.1 t9 []) t8 0)==0 then
 AY n (t0,t1,(t7.1,(t7.2.1,(t7.2.2.1,(t7.2.2.2.1,t7.2.2.2.2)))),t8,w64 (t9+1))
 else
 some (t0,t1,(t7.1,(t7.2.1,(t7.2.2.1,(t7.2.2.2.1,t7.2.2.2.2)))),t8,t9)
 else none
 else none
 else
 some (t0,t1,(t7.1,(t7.2.1,(t7.2.2.1,(t7.2.2.2.1,t7.2.2.2.2)))),t8,t9)
def AQ:Nat->(Int×Int×Int×(Int×(Int×((List (List Int))×(Int×(List Int)))))×Int×Int×Int×Int)->Option (Int×Int×Int×(Int×(Int×((List (List Int))×(Int×(List Int)))))×Int)
 |0,_=>none
 |n+1,(row10,t0,t1,t7,t8,t11,t110,t111)=>
 if decide (t111<t110)then
 if inb t111 (gd t7.2.2.1 row10 [])then
 if t0≠0 then
 if inb t111 (gd t7.2.2.1 row10 [])then
 AQ n (row10,t0,t1,(t7.1,(t7.2.1,(stt t7.2.2.1 row10 (stt (gd t7.2.2.1 row10 []) t111 (Int.tmod (w64 ((gd (gd t7.2.2.1 row10 []) t111 0)*t11)) t0)),(t7.2.2.2.1,t7.2.2.2.2)))),t8,t11,t110,w64 (t111+1))
 else none
 else none
 else none
 else
 some (row10,t0,t1,(t7.1,(t7.2.1,(t7.2.2.1,(t7.2.2.2.1,t7.2.2.2.2)))),t8)
def AR:Nat->(Int×Int×Unit×Int×Int×(Int×(Int×((List (List Int))×(Int×(List Int)))))×Int×Int×Int×Int×Int×Int)->Option (Int×Unit×Int×Int×(Int×(Int×((List (List Int))×(Int×(List Int)))))×Int×Int×Int)
 |0,_=>none
 |n+1,(row10,row14,al129,t0,t1,t7,t8,t15,t130,t131,t151,t152)=>
 if decide (t152<t151)then
 if inb t152 (gd t7.2.2.1 row14 [])then
 if inb t152 (gd t7.2.2.1 row10 [])then
 if t0≠0 then
 if inb t152 (gd t7.2.2.1 row14 [])then
 AR n (row10,row14,(),t0,t1,(t7.1,(t7.2.1,(stt t7.2.2.1 row14 (stt (gd t7.2.2.1 row14 []) t152 (Int.tmod (w64 ((gd (gd t7.2.2.1 row14 []) t152 0)+(w64 ((w64 (t0-t15))*(gd (gd t7.2.2.1 row10 []) t152 0))))) t0)),(t7.2.2.2.1,t7.2.2.2.2)))),t8,t15,t130,t131,t151,w64 (t152+1))
 else none
 else none
 else none
 else none
 else
 some (row10,(),t0,t1,(t7.1,(t7.2.1,(t7.2.2.1,(t7.2.2.2.1,t7.2.2.2.2)))),t8,t130,t131)
def Az:Nat->(Int×Unit×Int×Int×(Int×(Int×((List (List Int))×(Int×(List Int)))))×Int×Int×Int)->Option (Int×Int×(Int×(Int×((List (List Int))×(Int×(List Int)))))×Int)
 |0,_=>none
 |n+1,(row10,al129,t0,t1,t7,t8,t130,t131)=>
 if decide (t131<t130)then
 if inb t131 t7.2.2.1 then
 if inb t8 (gd t7.2.2.1 t131 [])then
 if t131 !=t7.2.2.2.1 then
 if(gd (gd t7.2.2.1 t131 []) t8 0) !=0 then
 (AR Aa (row10,t131,(),t0,t1,(t7.1,(t7.2.1,(t7.2.2.1,(t7.2.2.2.1,t7.2.2.2.2)))),t8,gd (gd t7.2.2.1 t131 []) t8 0,t130,t131,((gd t7.2.2.1 t131 []).length:Int),0)).bind λs6=>
 Az n (s6.1,(),s6.2.2.1,s6.2.2.2.1,(s6.2.2.2.2.1.1,(s6.2.2.2.2.1.2.1,(s6.2.2.2.2.1.2.2.1,(s6.2.2.2.2.1.2.2.2.1,s6.2.2.2.2.1.2.2.2.2)))),s6.2.2.2.2.2.1,s6.2.2.2.2.2.2.1,w64 (s6.2.2.2.2.2.2.2+1))
 else
 Az n (row10,(),t0,t1,(t7.1,(t7.2.1,(t7.2.2.1,(t7.2.2.2.1,t7.2.2.2.2)))),t8,t130,w64 (t131+1))
 else
 Az n (row10,(),t0,t1,(t7.1,(t7.2.1,(t7.2.2.1,(t7.2.2.2.1,t7.2.2.2.2)))),t8,t130,w64 (t131+1))
 else none
 else none
 else
 some (t0,t1,(t7.1,(t7.2.1,(t7.2.2.1,(t7.2.2.2.1,t7.2.2.2.2)))),t8)
def AG:Nat->(Int×Int×(Int×(Int×((List (List Int))×(Int×(List Int)))))×Int)->Option ((Int×(Int×((List (List Int))×(Int×(List Int))))))
 |0,_=>none
 |n+1,(t0,t1,t7,t8)=>
 if decide (t8<t1)then
 (AY Aa (t0,t1,(t7.1,(t7.2.1,(t7.2.2.1,(t7.2.2.2.1,t7.2.2.2.2)))),t8,t7.2.2.2.1)).bind λs3=>
 if s3.2.2.2.2==(s3.2.2.1.2.2.1.length:Int)then
 AG n (s3.1,s3.2.1,(s3.2.2.1.1,(s3.2.2.1.2.1,(s3.2.2.1.2.2.1,(s3.2.2.1.2.2.2.1,s3.2.2.1.2.2.2.2)))),w64 (s3.2.2.2.1+1))
 else
 if inb s3.2.2.2.2 s3.2.2.1.2.2.1 then
 if(0:Int)<=(w64 (s3.2.2.1.2.2.2.1+1))/\(w64 (s3.2.2.1.2.2.2.1+1))<=(w64 (s3.2.2.2.2+1))/\(w64 (s3.2.2.2.2+1))<=(s3.2.2.1.2.2.1.length:Int)then
 if(0:Int)<=s3.2.2.1.2.2.2.1/\s3.2.2.1.2.2.2.1<=s3.2.2.2.2/\s3.2.2.2.2<=(s3.2.2.1.2.2.1.length:Int)then
 if(w64 (s3.2.2.1.2.2.2.1+1))=s3.2.2.1.2.2.2.1+1/\(w64 (s3.2.2.2.2+1))=s3.2.2.2.2+1/\s3.2.2.2.2=s3.2.2.2.2 then
 if inb s3.2.2.1.2.2.2.1 (upL s3.2.2.1.2.2.1 (Int.toNat s3.2.2.1.2.2.2.1) (Int.toNat s3.2.2.2.2) [])then
 if s3.2.2.1.2.2.2.1=s3.2.2.1.2.2.2.1 then
 if inb s3.2.2.2.1 (gd (stt (upL s3.2.2.1.2.2.1 (Int.toNat s3.2.2.1.2.2.2.1) (Int.toNat s3.2.2.2.2) []) s3.2.2.1.2.2.2.1 (gd s3.2.2.1.2.2.1 s3.2.2.2.2 [])) s3.2.2.1.2.2.2.1 [])then
 (Cl (gd (gd (stt (upL s3.2.2.1.2.2.1 (Int.toNat s3.2.2.1.2.2.2.1) (Int.toNat s3.2.2.2.2) []) s3.2.2.1.2.2.2.1 (gd s3.2.2.1.2.2.1 s3.2.2.2.2 [])) s3.2.2.1.2.2.2.1 []) s3.2.2.2.1 0) s3.1).bind λr4=>
 (AQ Aa (s3.2.2.1.2.2.2.1,s3.1,s3.2.1,(s3.2.2.1.1,(s3.2.2.1.2.1,(stt (upL s3.2.2.1.2.2.1 (Int.toNat s3.2.2.1.2.2.2.1) (Int.toNat s3.2.2.2.2) []) s3.2.2.1.2.2.2.1 (gd s3.2.2.1.2.2.1 s3.2.2.2.2 []),(s3.2.2.1.2.2.2.1,s3.2.2.1.2.2.2.2)))),s3.2.2.2.1,r4,((gd (stt (upL s3.2.2.1.2.2.1 (Int.toNat s3.2.2.1.2.2.2.1) (Int.toNat s3.2.2.2.2) []) s3.2.2.1.2.2.2.1 (gd s3.2.2.1.2.2.1 s3.2.2.2.2 [])) s3.2.2.1.2.2.2.1 []).length:Int),0)).bind λs5=>
 (Az Aa (s5.1,(),s5.2.1,s5.2.2.1,(s5.2.2.2.1.1,(s5.2.2.2.1.2.1,(s5.2.2.2.1.2.2.1,(s5.2.2.2.1.2.2.2.1,s5.2.2.2.1.2.2.2.2)))),s5.2.2.2.2,(s5.2.2.2.1.2.2.1.length:Int),0)).bind λs6=>
 if inb s6.2.2.2 s6.2.2.1.2.2.2.2 then
 AG n (s6.1,s6.2.1,(s6.2.2.1.1,(s6.2.2.1.2.1,(s6.2.2.1.2.2.1,(w64 (s6.2.2.1.2.2.2.1+1),stt s6.2.2.1.2.2.2.2 s6.2.2.2 s6.2.2.1.2.2.2.1)))),w64 (s6.2.2.2+1))
 else none
 else none
 else none
 else none
 else none
 else none
 else none
 else none
 else
 some (t7.1,(t7.2.1,(t7.2.2.1,(t7.2.2.2.1,t7.2.2.2.2))))
def B0 (t0:Int) (t1:Int) (t2:List (List Int)):Option ((Bool×Int×Int×(List (List Int))×Int×(List Int))):=
 (BZ t2).bind λr1=>
 (Cj t1).bind λr2=>
 (AG Aa (t0,t1,(t0,(t1,(r1,(0,r2)))),0)).bind λs3=>
 some (true,(s3.1,(s3.2.1,(s3.2.2.1,(s3.2.2.2.1,s3.2.2.2.2)))))
def Am (l:Int×Int×(List (List Int))):Option ((Bool×Int×Int×(List (List Int))×Int×(List Int))):=
 (B0 l.1 l.2.1 l.2.2).bind λr1=>
 some r1
def Aq:Nat->(Unit×(Int×(Int×((List (List Int))×(Int×(List Int)))))×(List Int)×Int×Int)->Option ((Int×(Int×((List (List Int))×(Int×(List Int)))))×(List Int))
 |0,_=>none
 |n+1,(al10,e,list,t11,t12)=>
 if decide (t12<t11)then
 if inb t12 e.2.2.2.2 then
 if decide ((gd e.2.2.2.2 t12 0)<0)then
 if list.length+ [t12].length<=lim then
 Aq n ((),(e.1,(e.2.1,(e.2.2.1,(e.2.2.2.1,e.2.2.2.2)))),list++ [t12],t11,w64 (t12+1))
 else none
 else
 Aq n ((),(e.1,(e.2.1,(e.2.2.1,(e.2.2.2.1,e.2.2.2.2)))),list,t11,w64 (t12+1))
 else none
 else
 some ((e.1,(e.2.1,(e.2.2.1,(e.2.2.2.1,e.2.2.2.2)))),list)
def AK (e:Int×(Int×((List (List Int))×(Int×(List Int))))):Option ((Int×(Int×((List (List Int))×(Int×(List Int)))))×(List Int)):=
 (Aq Aa ((),(e.1,(e.2.1,(e.2.2.1,(e.2.2.2.1,e.2.2.2.2)))),[],(e.2.2.2.2.length:Int),0)).bind λs1=>
 some ((s1.1.1,(s1.1.2.1,(s1.1.2.2.1,(s1.1.2.2.2.1,s1.1.2.2.2.2)))),s1.2)
def AS:Nat->((Bool×Int×Int×(List (List Int))×Int×(List Int))×(List (List Int))×Int×Int)->Option ((Unit)⊕(Bool))
 |0,_=>none
 |n+1,(e,t13,t14,t15)=>
 if decide (t15<t14)then
 if inb t15 t13 then
 if e.1=true then
 if inb e.2.2.1 (gd t13 t15 [])then
 if(gd (gd t13 t15 []) e.2.2.1 0) !=0 then
 some (.inr true)
 else
 AS n (e,t13,t14,w64 (t15+1))
 else none
 else none
 else none
 else
 some (.inl ())
def Bw (e:Bool×Int×Int×(List (List Int))×Int×(List Int)):Option (Bool):=
 if e.1=true then
  if e.1=true then
   if(0:Int)<=e.2.2.2.2.1/\e.2.2.2.2.1<=(e.2.2.2.1.length:Int)/\(e.2.2.2.1.length:Int)<=(e.2.2.2.1.length:Int)then
    (AS Aa (e,(e.2.2.2.1.take (Int.toNat (e.2.2.2.1.length:Int))).drop (Int.toNat e.2.2.2.2.1),(((e.2.2.2.1.take (Int.toNat (e.2.2.2.1.length:Int))).drop (Int.toNat e.2.2.2.2.1)).length:Int),0)).bind λs1=>
     match s1 with
     | .inl s2=>
      some false
     | .inr s3=>
      some s3
   else none
  else none
 else none
def An:Nat->((List Int)×(List Int)×Int×Int)->Option ((List Int))
 |0,_=>none
 |n+1,(list,t10,t11,t12)=>
 if decide (t12<t11)then
 if inb t12 t10 then
 if decide ((gd t10 t12 0)<0)then
 if list.length+ [t12].length<=lim then
 An n (list++ [t12],t10,t11,w64 (t12+1))
 else none
 else
 An n (list,t10,t11,w64 (t12+1))
 else none
 else
 some list
def Aj (e:Bool×Int×Int×(List (List Int))×Int×(List Int)):Option ((List Int)):=
 if e.1=true then
 (An Aa ([],e.2.2.2.2.2,(e.2.2.2.2.2.length:Int),0)).bind λs1=>
 some s1
 else none
def AX (l:Int×Int×(List (List Int))):Option (Int×Bool):=
 (Bp (l.1,(l.2.1,l.2.2))).bind λr1=>
 if !r1 then
 some (0,false)
 else
 (Am (l.1,(l.2.1,l.2.2))).bind λr2=>
 (Bw r2).bind λr3=>
 if r3 then
 some (0,true)
 else
 (Aj r2).bind λr4=>
 (DU l.1 (r4.length:Int)).bind λr5=>
 some (r5,true)
def BC:Nat->(Int×((List (List Int))×(List Int)×(List (List Int)))×(List Int)×Int)->Option ((List Int))
 |0,_=>none
 |n+1,(vars,w,out,v)=>
 if decide (v<vars)then
 (DY w.2.1 v).bind λr1=>
 if !r1 then
 if out.length+ [v].length<=lim then
 BC n (vars,(w.1,(w.2.1,w.2.2)),out++ [v],w64 (v+1))
 else none
 else
 BC n (vars,(w.1,(w.2.1,w.2.2)),out,w64 (v+1))
 else
 some out
def Cu (w:(List (List Int))×(List Int)×(List (List Int))) (vars:Int):Option ((List Int)):=
 (BC Aa (vars,(w.1,(w.2.1,w.2.2)),[],0)).bind λs1=>
 some s1
def CU (l:Int×Int×(List (List Int))):Option ((List Int)×Bool):=
 (Bj (l.1,(l.2.1,l.2.2))).bind λr1=>
 if !r1 then
 some ([],false)
 else
 (BS (l.1,(l.2.1,l.2.2))).bind λr2=>
 (Cu (r2.1,(r2.2.1,r2.2.2)) l.2.1).bind λr3=>
 some (r3,true)
def CS (l:Int×Int×(List (List Int))):Option ((List Int)×Bool):=
 (Bp (l.1,(l.2.1,l.2.2))).bind λr1=>
 if !r1 then
 some ([],false)
 else
 (Am (l.1,(l.2.1,l.2.2))).bind λr2=>
 (Aj r2).bind λr3=>
 some (r3,true)
def BI:Nat->(Int×((List (List Int))×((List Int)×(List (List Int))))×(List Int)×Int)->Option ((List Int))
 |0,_=>none
 |n+1,(vars,w,out,i)=>
 if decide (i<(w.2.1.length:Int))then
 if inb i w.2.1 then
 if inb i w.1 then
 if inb vars (gd w.1 i [])then
 if inb (gd w.2.1 i 0) out then
 BI n (vars,(w.1,(w.2.1,w.2.2)),stt out (gd w.2.1 i 0) (gd (gd w.1 i []) vars 0),w64 (i+1))
 else none
 else none
 else none
 else none
 else
 some out
def CX (p:Int) (vars:Int) (rows:List (List Int)):Option ((List Int)×Bool):=
 (Ch p vars rows).bind λr1=>
 (Cc (r1.1,(r1.2.1,r1.2.2)) vars).bind λr2=>
 if r2 then
 some ([],false)
 else
 if 0<=vars/\vars<=vars/\vars<=lim then
 (BI Aa (vars,(r1.1,(r1.2.1,r1.2.2)),List.replicate (Int.toNat vars) (0:Int),0)).bind λs3=>
 some (s3,true)
 else none
def Ct (l:Int×Int×(List (List Int))):Option ((List Int)×Bool):=
 (Bj (l.1,(l.2.1,l.2.2))).bind λr1=>
 if !r1 then
 some ([],false)
 else
 (CX l.1 l.2.1 l.2.2).bind λr2=>
 some (r2.1,r2.2)
def AB:Nat->(Unit×(Int×(Int×((List (List Int))×(Int×(List Int)))))×(List Int)×(List Int)×(List Int)×Int×Int)->Option ((Int×(Int×((List (List Int))×(Int×(List Int)))))×(List Int)×(List Int)×(List Int))
 |0,_=>none
 |n+1,(al21,t0,t1,t5,t6,t22,t23)=>
 if decide (t23<t22)then
 if inb t23 t6 then
 if inb t23 t1 then
 if inb (gd t6 t23 0) t5 then
 AB n ((),(t0.1,(t0.2.1,(t0.2.2.1,(t0.2.2.2.1,t0.2.2.2.2)))),t1,stt t5 (gd t6 t23 0) (gd t1 t23 0),t6,t22,w64 (t23+1))
 else none
 else none
 else none
 else
 some ((t0.1,(t0.2.1,(t0.2.2.1,(t0.2.2.2.1,t0.2.2.2.2)))),t1,t5,t6)
def Ax:Nat->(Unit×Unit×(Int×(Int×((List (List Int))×(Int×(List Int)))))×(List Int)×(List Int)×(List Int)×Int×Int×Int×Int×Int×Int×Int)->Option (Unit×(Int×(Int×((List (List Int))×(Int×(List Int)))))×(List Int)×(List Int)×(List Int)×Int×Int×Int×Int)
 |0,_=>none
 |n+1,(al39,al61,t0,t1,t5,t6,t9,t10,t11,t40,t41,t62,t63)=>
 if decide (t63<t62)then
 if inb t63 t6 then
 if inb t10 t0.2.2.1 then
 if inb (gd t6 t63 0) (gd t0.2.2.1 t10 [])then
 if inb t63 t1 then
 Ax n ((),(),(t0.1,(t0.2.1,(t0.2.2.1,(t0.2.2.2.1,t0.2.2.2.2)))),t1,t5,t6,t9,t10,w64 (t11+(w64 ((w64 (t0.1-(gd (gd t0.2.2.1 t10 []) (gd t6 t63 0) 0)))*(gd t1 t63 0)))),t40,t41,t62,w64 (t63+1))
 else none
 else none
 else none
 else none
 else
 some ((),(t0.1,(t0.2.1,(t0.2.2.1,(t0.2.2.2.1,t0.2.2.2.2)))),t1,t5,t6,t9,t11,t40,t41)
def Ar:Nat->(Unit×(Int×(Int×((List (List Int))×(Int×(List Int)))))×(List Int)×(List Int)×(List Int)×Int×Int)->Option ((Int×(Int×((List (List Int))×(Int×(List Int)))))×(List Int))
 |0,_=>none
 |n+1,(al39,t0,t1,t5,t6,t40,t41)=>
 if decide (t41<t40)then
 if inb t41 t0.2.2.2.2 then
 if decide ((gd t0.2.2.2.2 t41 0)<0)then
 Ar n ((),(t0.1,(t0.2.1,(t0.2.2.1,(t0.2.2.2.1,t0.2.2.2.2)))),t1,t5,t6,t40,w64 (t41+1))
 else
 if inb (gd t0.2.2.2.2 t41 0) t0.2.2.1 then
 if inb t0.2.1 (gd t0.2.2.1 (gd t0.2.2.2.2 t41 0) [])then
 (Ax Aa ((),(),(t0.1,(t0.2.1,(t0.2.2.1,(t0.2.2.2.1,t0.2.2.2.2)))),t1,t5,t6,t41,gd t0.2.2.2.2 t41 0,gd (gd t0.2.2.1 (gd t0.2.2.2.2 t41 0) []) t0.2.1 0,t40,t41,(t6.length:Int),0)).bind λs3=>
 if s3.2.1.1≠0 then
 if inb s3.2.2.2.2.2.1 s3.2.2.2.1 then
 Ar n ((),(s3.2.1.1,(s3.2.1.2.1,(s3.2.1.2.2.1,(s3.2.1.2.2.2.1,s3.2.1.2.2.2.2)))),s3.2.2.1,stt s3.2.2.2.1 s3.2.2.2.2.2.1 (Int.tmod s3.2.2.2.2.2.2.1 s3.2.1.1),s3.2.2.2.2.1,s3.2.2.2.2.2.2.2.1,w64 (s3.2.2.2.2.2.2.2.2+1))
 else none
 else none
 else none
 else none
 else none
 else
 some ((t0.1,(t0.2.1,(t0.2.2.1,(t0.2.2.2.1,t0.2.2.2.2)))),t5)
def Bq (t0:Int×(Int×((List (List Int))×(Int×(List Int))))) (t1:List Int):Option ((Int×(Int×((List (List Int))×(Int×(List Int)))))×(List Int)):=
 if 0<=t0.2.1/\t0.2.1<=t0.2.1/\t0.2.1<=lim then
 (AK (t0.1,(t0.2.1,(t0.2.2.1,(t0.2.2.2.1,t0.2.2.2.2))))).bind λr1=>
 (AB Aa ((),(r1.1.1,(r1.1.2.1,(r1.1.2.2.1,(r1.1.2.2.2.1,r1.1.2.2.2.2)))),t1,List.replicate (Int.toNat t0.2.1) (0:Int),r1.2,(r1.2.length:Int),0)).bind λs2=>
 (Ar Aa ((),(s2.1.1,(s2.1.2.1,(s2.1.2.2.1,(s2.1.2.2.2.1,s2.1.2.2.2.2)))),s2.2.1,s2.2.2.1,s2.2.2.2,(s2.1.2.2.2.2.length:Int),0)).bind λs3=>
 some ((s3.1.1,(s3.1.2.1,(s3.1.2.2.1,(s3.1.2.2.2.1,s3.1.2.2.2.2)))),s3.2)
 else none
def Ag:Nat->(Unit×(Bool×Int×Int×(List (List Int))×Int×(List Int))×(List Int)×(List Int)×(List Int)×Int×Int)->Option ((Bool×Int×Int×(List (List Int))×Int×(List Int))×(List Int)×(List Int)×(List Int))
 |0,_=>none
 |n+1,(al21,t0,t1,t5,t6,t22,t23)=>
 if decide (t23<t22)then
 if inb t23 t6 then
 if inb t23 t1 then
 if inb (gd t6 t23 0) t5 then
 Ag n ((),t0,t1,stt t5 (gd t6 t23 0) (gd t1 t23 0),t6,t22,w64 (t23+1))
 else none
 else none
 else none
 else
 some (t0,t1,t5,t6)
def Af:Nat->(Unit×(Bool×Int×Int×(List (List Int))×Int×(List Int))×(List Int)×(List Int)×(List Int)×Int×Int×Int×(List Int)×Int×Int×Int×Int)->Option ((Bool×Int×Int×(List (List Int))×Int×(List Int))×(List Int)×(List Int)×(List Int)×Int×Int×(List Int)×Int×Int)
 |0,_=>none
 |n+1,(al61,t0,t1,t5,t6,t9,t10,t11,t39,t40,t41,t62,t63)=>
 if decide (t63<t62)then
 if inb t63 t6 then
 if t0.1=true then
 if t0.1=true then
 if inb t10 t0.2.2.2.1 then
 if inb (gd t6 t63 0) (gd t0.2.2.2.1 t10 [])then
 if inb t63 t1 then
 Af n ((),t0,t1,t5,t6,t9,t10,w64 (t11+(w64 ((w64 (t0.2.1-(gd (gd t0.2.2.2.1 t10 []) (gd t6 t63 0) 0)))*(gd t1 t63 0)))),t39,t40,t41,t62,w64 (t63+1))
 else none
 else none
 else none
 else none
 else none
 else none
 else
 some (t0,t1,t5,t6,t9,t11,t39,t40,t41)
def Ad:Nat->((Bool×Int×Int×(List (List Int))×Int×(List Int))×(List Int)×(List Int)×(List Int)×(List Int)×Int×Int)->Option ((List Int))
 |0,_=>none
 |n+1,(t0,t1,t5,t6,t39,t40,t41)=>
 if decide (t41<t40)then
 if inb t41 t39 then
 if decide ((gd t39 t41 0)<0)then
 Ad n (t0,t1,t5,t6,t39,t40,w64 (t41+1))
 else
 if t0.1=true then
 if inb (gd t39 t41 0) t0.2.2.2.1 then
 if t0.1=true then
 if inb t0.2.2.1 (gd t0.2.2.2.1 (gd t39 t41 0) [])then
 (Af Aa ((),t0,t1,t5,t6,t41,gd t39 t41 0,gd (gd t0.2.2.2.1 (gd t39 t41 0) []) t0.2.2.1 0,t39,t40,t41,(t6.length:Int),0)).bind λs3=>
 if s3.1.1=true then
 if s3.1.2.1≠0 then
 if inb s3.2.2.2.2.1 s3.2.2.1 then
 Ad n (s3.1,s3.2.1,stt s3.2.2.1 s3.2.2.2.2.1 (Int.tmod s3.2.2.2.2.2.1 s3.1.2.1),s3.2.2.2.1,s3.2.2.2.2.2.2.1,s3.2.2.2.2.2.2.2.1,w64 (s3.2.2.2.2.2.2.2.2+1))
 else none
 else none
 else none
 else none
 else none
 else none
 else none
 else none
 else
 some t5
def AF (t0:Bool×Int×Int×(List (List Int))×Int×(List Int)) (t1:List Int):Option ((List Int)):=
 if t0.1=true then
 if 0<=t0.2.2.1/\t0.2.2.1<=t0.2.2.1/\t0.2.2.1<=lim then
 (Aj t0).bind λr1=>
 (Ag Aa ((),t0,t1,List.replicate (Int.toNat t0.2.2.1) (0:Int),r1,(r1.length:Int),0)).bind λs2=>
 if s2.1.1=true then
 (Ad Aa (s2.1,s2.2.1,s2.2.2.1,s2.2.2.2,s2.1.2.2.2.2.2,(s2.1.2.2.2.2.2.length:Int),0)).bind λs3=>
 some s3
 else none
 else none
 else none
def Bl (e:Bool×Int×Int×(List (List Int))×Int×(List Int)):Option ((List Int)×Bool):=
 (Bw e).bind λr1=>
 if r1 then
 some ([],false)
 else
 if e.1=true then
 if 0<=e.2.2.1/\e.2.2.1<=e.2.2.1/\e.2.2.1<=lim then
 (AF e (List.replicate (Int.toNat e.2.2.1) (0:Int))).bind λr2=>
 some (r2,true)
 else none
 else none
def BG (l:Int×Int×(List (List Int))):Option ((List Int)×Bool):=
 (Bp (l.1,(l.2.1,l.2.2))).bind λr1=>
 if !r1 then
 some ([],false)
 else
 (Am (l.1,(l.2.1,l.2.2))).bind λr2=>
 (Bl r2).bind λr3=>
 some (r3.1,r3.2)
end T
open Go Go.Va
namespace T
def mix {α:Type} (nw old:Nat->α) (N i:Nat):List α:=(List.range N).map λq=>if q<i then nw q else old q
section
variable {α:Type} {nw old:Nat->α} {N i:Nat}
theorem Cf:(mix nw old N i).length=N:=by simp[mix]
theorem Dp {q:Nat} {d:α} (h:q<N):(mix nw old N i).getD q d=if q<i then nw q else old q:=by
 rw[Ab (by rw[Cf];exact h)];simp[mix]
theorem C7 (h:i<N):(mix nw old N i).set i (nw i)=mix nw old N (i+1):=by
 unfold mix
 apply List.ext_getElem
 ·simp
 ·intro q h1 h2
  rw[List.getElem_set]
  simp only[List.getElem_map,List.getElem_range]
  by_cases e:i=q
  ·subst e;rw[if_pos rfl,if_pos (by omega)]
  ·rw[if_neg e]
   by_cases e2:q<i
   ·rw[if_pos e2,if_pos (by omega)]
   ·rw[if_neg e2,if_neg (by omega)]
theorem D4 (h:i<N) (he:nw i=old i):mix nw old N (i+1)=mix nw old N i:=by
 unfold mix
 refine List.map_congr_left λq hq=>?_
 by_cases e:q=i
 ·subst e;rw[if_pos (by omega),if_neg (by omega),he]
 ·by_cases e2:q<i
  ·rw[if_pos e2,if_pos (by omega)]
  ·rw[if_neg e2,if_neg (by omega)]
theorem Dm {l:List α} {d:α} (h:l.length=N):mix nw (λq=>l.getD q d) N 0=l:=by
 apply List.ext_getElem
 ·rw[Cf,h]
 ·intro q h1 h2
  simp only[mix,List.getElem_map,List.getElem_range]
  rw[if_neg (by omega),Ab h2]
theorem CI:mix nw old N N=(List.range N).map nw:=by
 unfold mix
 refine List.map_congr_left λq hq=>?_
 rw[if_pos (List.mem_range.1 hq)]
end
def pr4 (p:Int):Prop:=p=2∨p=3∨p=5∨p=7
def Ak (p:Int) (W:Nat) (r:List Int):Prop:=r.length=W/\ ∀x∈r,0<=x/\x<p
def CM (p x:Int):Int:=(Cl x p).getD 0
theorem G5: ∀p:Fin 8,∀x:Fin 8,(p.val=2∨p.val=3∨p.val=5∨p.val=7)->0<x.val->x.val<p.val->
  Cl (x.val:Int) (p.val:Int)=some (CM (p.val:Int) (x.val:Int))/\C5 (p.val:Int) (x.val:Int)=some (CM (p.val:Int) (x.val:Int))/\1<=CM (p.val:Int) (x.val:Int)/\CM (p.val:Int) (x.val:Int)<(p.val:Int):=by decide+kernel
theorem E7 {p x:Int} (hp:pr4 p) (h0:0<x) (h1:x<p):Cl x p=some (CM p x)/\C5 p x=some (CM p x)/\1<=CM p x/\CM p x<p:=by
 unfold pr4 at hp
 have:=G5 ⟨p.toNat,by omega⟩ ⟨x.toNat,by omega⟩ (by simp;omega) (by simp;omega) (by simp;omega)
 simp only[Int.toNat_of_nonneg (show 0<=p by omega),Int.toNat_of_nonneg (show 0<=x by omega)]at this
 exact this
def Au (p b:Int) (r:List Int):List Int:=(List.range r.length).map λi=>Int.tmod (r.getD i 0*b) p
def Av (p:Int) (row:List Int) (v:Nat) (r:List Int):List Int:=(List.range r.length).map λi=>Int.tmod (r.getD i 0+(p-r.getD v 0)*row.getD i 0) p
section
variable {p:Int} {W:Nat} {r row:List Int}
theorem Be (h:Ak p W r) {i:Nat} (hi:i<W):0<=r.getD i 0/\r.getD i 0<p:=by
 have:i<r.length:=by rw[h.1];exact hi
 rw[Ab this];exact h.2 _ (List.getElem_mem this)
theorem FE (hp:pr4 p) {x:Int} (h:0<=x):0<=Int.tmod x p/\Int.tmod x p<p:=by
 unfold pr4 at hp
 rw[Int.tmod_eq_emod_of_nonneg h]
 exact⟨Int.emod_nonneg _ (by omega),Int.emod_lt_of_pos _ (by omega)⟩
theorem Ev {a b:Int} (h0:0<=a) (h1:a<=8) (g0:0<=b) (g1:b<=8):0<=a*b/\a*b<=64:=by
 have h2:=Int.mul_nonneg h0 g0
 have h3:=Int.mul_le_mul h1 g1 g0 (by omega)
 exact⟨h2,by omega⟩
theorem DC (hp:pr4 p) (h:Ak p W r) {b:Int} (hb:0<=b/\b<p):Ak p W (Au p b r):=by
 refine⟨by unfold Au;simp;exact h.1,λx hx=>?_⟩
 unfold Au at hx
 obtain⟨i,hi,rfl⟩:=List.mem_map.1 hx
 have hi:=List.mem_range.1 hi
 have:=Be h (i:=i) (by rw[←h.1];exact hi)
 exact FE hp (Int.mul_nonneg this.1 hb.1)
theorem FP (hp:pr4 p) (h:Ak p W r) (hr:Ak p W row) {v:Nat} (hv:v<W):Ak p W (Av p row v r):=by
 refine⟨by unfold Av;simp;exact h.1,λx hx=>?_⟩
 unfold Av at hx
 obtain⟨i,hi,rfl⟩:=List.mem_map.1 hx
 have hi:=List.mem_range.1 hi
 have h1:=Be h (i:=i) (by rw[←h.1];exact hi)
 have h2:=Be hr (i:=i) (by rw[←h.1];exact hi)
 have h3:=Be h hv
 exact FE hp (by have:=Int.mul_nonneg (show 0<=p-r.getD v 0 by omega) h2.1;omega)
theorem E0 (hp:pr4 p) (h:Ak p W r) (hr:Ak p W row) {v:Nat} (h0:r.getD v 0=0):Av p row v r=r:=by
 unfold Av
 apply List.ext_getElem
 ·simp
 ·intro i h1 h2
  simp only[List.getElem_map,List.getElem_range]
  have g:=h.2 _ (List.getElem_mem h2)
  have g2:=Be hr (i:=i) (by rw[←h.1];exact h2)
  rw[h0,Int.sub_zero,Ab h2]
  have hnn:=Int.mul_nonneg (show 0<=p by unfold pr4 at hp;omega) g2.1
  rw[Int.tmod_eq_emod_of_nonneg (by omega),Int.add_mul_emod_self_left]
  exact Int.emod_eq_of_lt g.1 g.2
theorem AI {x:Int} (h0: -1000000<=x) (h1:x<=1000000):w64 x=x:=A8 (by omega) (by omega)
theorem GE (hp:pr4 p) (h:Ak p W r) (hr:Ak p W row) {v i:Nat} (hv:v<W) (hi:i<W):
  Int.tmod (w64 (r.getD i 0+w64 (w64 (p-r.getD v 0)*row.getD i 0))) p=Int.tmod (r.getD i 0+(p-r.getD v 0)*row.getD i 0) p:=by
 have h1:=Be h hi
 have h2:=Be hr hi
 have h3:=Be h hv
 unfold pr4 at hp
 have h4:=Ev (a:=p-r.getD v 0) (b:=row.getD i 0) (by omega) (by omega) (by omega) (by omega)
 rw[AI (x:=p-r.getD v 0) (by omega) (by omega),AI (x:=(p-r.getD v 0)*row.getD i 0) (by omega) (by omega),AI (by omega) (by omega)]
theorem D8 (hp:pr4 p) (hW:W<=1000) (h:Ak p W r) (hr:Ak p W row) {v:Nat} (hv:v<W):BQ p r row (r.getD v 0)=some (Av p row v r):=by
 unfold BQ
 have hlr:=h.1
 have hlo:=hr.1
 have hp0:p≠0:=by unfold pr4 at hp;omega
 have:=BW r.length (λf o i=>AW f (p,r,row,r.getD v 0,o,i)) (λj=>(List.range j).map λi=>Int.tmod (r.getD i 0+(p-r.getD v 0)*row.getD i 0) p) (r:=some (Av p row v r)) (λf j hj=>?_) (λf=>?_) (n:=Aa) (by unfold Aa;omega)
 ·have this:AW Aa (p,r,row,r.getD v 0,[],0)=_:=this
  rw[this];rfl
 ·have e:(List.range (j+1)).map (λi=>Int.tmod (r.getD i 0+(p-r.getD v 0)*row.getD i 0) p)=(List.range j).map (λi=>Int.tmod (r.getD i 0+(p-r.getD v 0)*row.getD i 0) p)++ [Int.tmod (r.getD j 0+(p-r.getD v 0)*row.getD j 0) p]:=by rw[List.range_succ,List.map_append];rfl
  have hjo:j<row.length:=by omega
  simp only[AW,Ae,hj,hjo,BR,GE hp h hr hv (show j<W by omega),e,if_true,Ac (show j<4611686018427387904 by omega)]
  rw[if_pos (by simp;omega),if_pos hp0,if_pos (by simp;unfold lim;omega)]
 ·simp only[AW]
  rw[if_neg (by simp)];rfl
theorem DQ (hp:pr4 p) (hW:W<=1000) (h:Ak p W r) {b:Int} (hb:0<=b/\b<p):CV p r b=some (Au p b r):=by
 unfold CV
 have hlr:=h.1
 have hp0:p≠0:=by unfold pr4 at hp;omega
 have:=BW r.length (λf o i=>BH f (p,r,b,o,i)) (λj=>(List.range j).map λi=>Int.tmod (r.getD i 0*b) p) (r:=some (Au p b r)) (λf j hj=>?_) (λf=>?_) (n:=Aa) (by unfold Aa;omega)
 ·have this:BH Aa (p,r,b,[],0)=_:=this
  rw[this];rfl
 ·have e:(List.range (j+1)).map (λi=>Int.tmod (r.getD i 0*b) p)=(List.range j).map (λi=>Int.tmod (r.getD i 0*b) p)++ [Int.tmod (r.getD j 0*b) p]:=by rw[List.range_succ,List.map_append];rfl
  have h1:=Be h (i:=j) (by omega)
  unfold pr4 at hp
  have h4:=Ev (a:=r.getD j 0) (b:=b) (by omega) (by omega) (by omega) (by omega)
  simp only[BH,Ae,hj,BR,AI (x:=r.getD j 0*b) (by omega) (by omega),e,if_true,Ac (show j<4611686018427387904 by omega)]
  rw[if_pos (by simp;omega),if_pos hp0,if_pos (by simp;unfold lim;omega)]
 ·simp only[BH]
  rw[if_neg (by simp)];rfl
end
abbrev ES:=List (List Int)×List Int×List (List Int)
def nzB (v:Nat) (r:List Int):Bool:=r.getD v 0 !=0
def B7 (p:Int) (s:ES) (v:Nat):ES:=
 let at':=s.2.2.findIdx (nzB v)
 if at'<s.2.2.length then
  let row:=Au p (CM p ((s.2.2.getD at' []).getD v 0)) (s.2.2.getD at' [])
  (s.1.map (Av p row v)++ [row],s.2.1++ [(v:Int)],(s.2.2.eraseIdx at').map (Av p row v))
 else s
def Ah (p:Int) (rows:List (List Int)) (V:Nat):ES:=(List.range V).foldl (B7 p) ([],[],rows)
structure ESok (p:Int) (W N v:Nat) (s:ES):Prop where
 t: ∀r∈s.1,Ak p W r
 l: ∀r∈s.2.2,Ak p W r
 bl:s.2.1.length=s.1.length
 n:s.1.length+s.2.2.length=N
 bv: ∀x∈s.2.1,0<=x/\x<(v:Int)
 bn:s.2.1.Nodup
section
variable {p:Int} {W N:Nat}
theorem Eu {l:List (List Int)} {v:Nat} (h:l.findIdx (nzB v)<l.length) (hl: ∀r∈l,Ak p W r) (hv:v<W):0<(l.getD (l.findIdx (nzB v)) []).getD v 0/\(l.getD (l.findIdx (nzB v)) []).getD v 0<p/\Ak p W (l.getD (l.findIdx (nzB v)) []):=by
 have h1:=List.findIdx_getElem (p:=nzB v) (xs:=l) (w:=h)
 have h2:=hl _ (List.getElem_mem h)
 rw[Ab h]
 generalize l[l.findIdx (nzB v)]'h=r at h1 h2⊢
 have h3:=Be h2 hv
 have h4:r.getD v 0≠0:=by unfold nzB at h1;exact bne_iff_ne.1 h1
 exact⟨by omega,h3.2,h2⟩
theorem Gs (hp:pr4 p) {s:ES} {v:Nat} (h:ESok p W N v s) (hv:v<W):ESok p W N (v+1) (B7 p s v):=by
 unfold B7
 by_cases hc:s.2.2.findIdx (nzB v)<s.2.2.length
 ·obtain⟨h1,h2,h3⟩:=Eu hc h.l hv
  obtain⟨_,_,i1,i2⟩:=E7 hp h1 h2
  have hrow:=DC hp h3 (b:=CM p ((s.2.2.getD (s.2.2.findIdx (nzB v)) []).getD v 0)) ⟨by omega,i2⟩
  dsimp only
  rw[if_pos hc]
  refine⟨λr hr=>?_,λr hr=>?_,by simp;exact h.bl,?_,λx hx=>?_,?_⟩
  ·rcases List.mem_append.1 hr with hr|hr
   ·obtain⟨q,hq,rfl⟩:=List.mem_map.1 hr
    exact FP hp (h.t q hq) hrow hv
   ·rw[List.mem_singleton.1 hr];exact hrow
  ·obtain⟨q,hq,rfl⟩:=List.mem_map.1 hr
   exact FP hp (h.l q (List.mem_of_mem_eraseIdx hq)) hrow hv
  ·have:=h.n
   have h9:(s.2.2.eraseIdx (s.2.2.findIdx (nzB v))).length=s.2.2.length-1:=List.length_eraseIdx_of_lt hc
   simp only[List.length_append,List.length_map,List.length_singleton]
   omega
  ·rcases List.mem_append.1 hx with hx|hx
   ·have:=h.bv x hx;omega
   ·rw[List.mem_singleton.1 hx];omega
  ·refine List.nodup_append.2 ⟨h.bn,by simp,λa ha b hb=>?_⟩
   rw[List.mem_singleton.1 hb]
   have:=h.bv a ha
   omega
 ·dsimp only
  rw[if_neg hc]
  exact⟨h.t,h.l,h.bl,h.n,λx hx=>by have:=h.bv x hx;omega,h.bn⟩
theorem Bs (hp:pr4 p) {rows:List (List Int)} (hr: ∀r∈rows,Ak p W r): ∀v,v<=W->ESok p W rows.length v (Ah p rows v):=by
 intro v
 induction v with
 |zero=>intro _;exact⟨λr h=>by simp[Ah]at h,hr,rfl,by simp[Ah],λx h=>by simp[Ah]at h,by simp[Ah]⟩
 |succ v ih=>
  intro hv
  unfold Ah
  rw[Cz]
  exact Gs hp (ih (by omega)) (by omega)
end
end T
open Go Go.Va
namespace T
section
variable {p:Int} {W N:Nat}
theorem DX {α β:Type} (g:α->β) {l:List α} {d:α}:((List.range l.length).map λq=>g (l.getD q d))=l.map g:=by
 apply List.ext_getElem
 ·simp
 ·intro i h1 h2
  simp only[List.getElem_map,List.getElem_range]
  rw[Ab (by simpa using h2)]
theorem Hl {β:Type} (l:List (List Int)) (v:Nat) (L:Nat->Int->Option β) (g:Nat->β)
  (hs: ∀n (k:Nat) (hk:k<l.length),L (n+1) k=if nzB v l[k]then some (g k)else L n ((k+1:Nat):Int)) (he: ∀n,L (n+1) (l.length:Nat)=some (g l.length)):
  ∀(c k n:Nat),k+c=l.length->c<n->L n k=some (g (k+(l.drop k).findIdx (nzB v))):=by
 intro c
 induction c with
 |zero=>
  intro k n hk hn
  obtain⟨n,rfl⟩: ∃z,n=z+1:=⟨n-1,by omega⟩
  have:k=l.length:=by omega
  subst this
  rw[he,List.drop_length];rfl
 |succ c ih=>
  intro k n hk hn
  obtain⟨n,rfl⟩: ∃z,n=z+1:=⟨n-1,by omega⟩
  have hkl:k<l.length:=by omega
  rw[hs n k hkl,List.drop_eq_getElem_cons hkl,List.findIdx_cons]
  cases hb:nzB v l[k]with
  |true=>simp
  |false=>
   simp only[Bool.false_eq_true,if_false]
   rw[ih (k+1) n (by omega) (by omega)]
   simp only[cond_false]
   congr 2;omega
theorem GO {s:ES} {v V:Nat} (h:ESok p W N v s) (hv:v<W) (hN:N<=100000) (t6:ES):
  AM Aa (p,(V:Int),(t6.1,(t6.2.1,t6.2.2)),(s.1,(s.2.1,s.2.2)),(v:Int),0)=some (p,(V:Int),(t6.1,(t6.2.1,t6.2.2)),(s.1,(s.2.1,s.2.2)),(v:Int),((s.2.2.findIdx (nzB v):Nat):Int)):=by
 have hn:=h.n
 have:=Hl s.2.2 v (λf i=>AM f (p,(V:Int),(t6.1,(t6.2.1,t6.2.2)),(s.1,(s.2.1,s.2.2)),(v:Int),i)) (λk=>(p,(V:Int),(t6.1,(t6.2.1,t6.2.2)),(s.1,(s.2.1,s.2.2)),(v:Int),(k:Int))) (λf k hk=>?_) (λf=>?_) s.2.2.length 0 Aa (by omega) (by unfold Aa;omega)
 ·rw[List.drop_zero,Nat.zero_add]at this
  exact this
 ·have hr:=h.l _ (List.getElem_mem hk)
  have hvl:v<s.2.2[k].length:=by rw[hr.1];exact hv
  simp only[AM,Ae,hk,AJ hk,hvl,BR,if_true,Ac (show k<4611686018427387904 by omega)]
  rw[if_pos (by simp;omega)]
  unfold nzB
  by_cases hz:s.2.2[k].getD v 0=0
  ·rw[if_pos (by simpa using hz),if_neg (by simpa using hz)]
  ·rw[if_neg (by simpa using hz),if_pos (by simpa using hz)]
 ·simp only[AM]
  rw[if_neg (by simp)]
theorem GP (hp:pr4 p) (hW:W<=1000) {l:List (List Int)} {row:List Int} (hl: ∀r∈l,Ak p W r) (hlen:l.length<=100000) (hr:Ak p W row) {v:Nat} (hv:v<W) (V:Int) (t6 s:ES):
  AN Aa (p,V,(t6.1,(t6.2.1,t6.2.2)),(s.1,(s.2.1,s.2.2)),(v:Int),row,l,0)=some (p,V,(t6.1,(t6.2.1,t6.2.2)),(s.1,(s.2.1,s.2.2)),(v:Int),row,l.map (Av p row v)):=by
 have:=BW l.length (λf o i=>AN f (p,V,(t6.1,(t6.2.1,t6.2.2)),(s.1,(s.2.1,s.2.2)),(v:Int),row,o,i)) (λk=>mix (λq=>Av p row v (l.getD q [])) (λq=>l.getD q []) l.length k)
  (r:=some (p,V,(t6.1,(t6.2.1,t6.2.2)),(s.1,(s.2.1,s.2.2)),(v:Int),row,l.map (Av p row v))) (λf k hk=>?_) (λf=>?_) (n:=Aa) (by unfold Aa;omega)
 ·rw[Dm rfl]at this;exact this
 ·have hml:(mix (λq=>Av p row v (l.getD q [])) (λq=>l.getD q []) l.length k).length=l.length:=Cf
  have hin:k<(mix (λq=>Av p row v (l.getD q [])) (λq=>l.getD q []) l.length k).length:=by rw[hml];exact hk
  have hg:(mix (λq=>Av p row v (l.getD q [])) (λq=>l.getD q []) l.length k).getD k []=l.getD k []:=by rw[Dp hk,if_neg (by omega)]
  have hrk:Ak p W (l.getD k []):=by rw[Ab hk];exact hl _ (List.getElem_mem hk)
  have hvl:v<(l.getD k []).length:=by rw[hrk.1];exact hv
  have hst:=C7 (nw:=λq=>Av p row v (l.getD q [])) (old:=λq=>l.getD q []) hk
  simp only[AN,Ae,hin,BR,hg,hvl,D8 hp hW hrk hr hv,Option.bind_some,Bk,hst,if_true,Ac (show k<4611686018427387904 by omega)]
  rw[if_pos (by rw[hml];simp;omega)]
 ·simp only[AN,Cf]
  rw[if_neg (by simp),CI]
  rw[DX (Av p row v)]
theorem GQ (hp:pr4 p) (hW:W<=1000) {l:List (List Int)} {row:List Int} (hl: ∀r∈l,Ak p W r) (hlen:l.length<=100000) (hr:Ak p W row) {v:Nat} (hv:v<W) (V:Int) (t6:ES) (b:List Int) (q:List (List Int)) (t12:List (List Int)):
  AO Aa (p,V,(t6.1,(t6.2.1,t6.2.2)),(l,(b,q)),(v:Int),row,t12,0)=some (p,V,(t6.1,(t6.2.1,t6.2.2)),(l.map (Av p row v),(b,q)),(v:Int),row,t12):=by
 have:=BW l.length (λf o i=>AO f (p,V,(t6.1,(t6.2.1,t6.2.2)),(o,(b,q)),(v:Int),row,t12,i)) (λk=>mix (λq=>Av p row v (l.getD q [])) (λq=>l.getD q []) l.length k)
  (r:=some (p,V,(t6.1,(t6.2.1,t6.2.2)),(l.map (Av p row v),(b,q)),(v:Int),row,t12)) (λf k hk=>?_) (λf=>?_) (n:=Aa) (by unfold Aa;omega)
 ·rw[Dm rfl]at this;exact this
 ·have hml:(mix (λq=>Av p row v (l.getD q [])) (λq=>l.getD q []) l.length k).length=l.length:=Cf
  have hin:k<(mix (λq=>Av p row v (l.getD q [])) (λq=>l.getD q []) l.length k).length:=by rw[hml];exact hk
  have hg:(mix (λq=>Av p row v (l.getD q [])) (λq=>l.getD q []) l.length k).getD k []=l.getD k []:=by rw[Dp hk,if_neg (by omega)]
  have hrk:Ak p W (l.getD k []):=by rw[Ab hk];exact hl _ (List.getElem_mem hk)
  have hvl:v<(l.getD k []).length:=by rw[hrk.1];exact hv
  have hst:=C7 (nw:=λq=>Av p row v (l.getD q [])) (old:=λq=>l.getD q []) hk
  simp only[AO,Ae,hin,BR,hg,hvl,D8 hp hW hrk hr hv,Option.bind_some,Bk,hst,if_true,Ac (show k<4611686018427387904 by omega)]
  rw[if_pos (by rw[hml];simp;omega)]
 ·simp only[AO,Cf]
  rw[if_neg (by simp),CI]
  rw[DX (Av p row v)]
theorem EA {l:List (List Int)} {k:Nat}:l.eraseIdx k=l.take k++l.drop (k+1):=List.eraseIdx_eq_take_drop_succ l k
theorem Bz (hp:pr4 p) {V:Nat} (hVW:V<=W) (hW:W<=1000) {rows:List (List Int)} (hr: ∀r∈rows,Ak p W r) (hN:rows.length<=100000):Ch p (V:Int) rows=some (Ah p rows V):=by
 unfold Ch
 have h3:=BW rows.length (λf o i=>Bd f (p,(V:Int),rows,([],([],[])),([],([],o)),i)) (λk=>rows.take k) (r:=some (p,(V:Int),([],([],[])),([],([],rows)))) (λf k hk=>by
  have hrk:=hr _ (List.getElem_mem hk)
  have hlr:=hrk.1
  simp only[Bd,Ae,hk,AJ hk,DP (show rows[k].length<=1099511627775 by omega),Option.bind_some,List.take_succ_eq_append_getElem hk,if_true,Ac (show k<4611686018427387904 by omega)]
  rw[if_pos (by simp;omega),if_pos (by simp;unfold lim;omega)]) (λf=>by
  simp only[Bd,List.take_length]
  rw[if_neg (by simp)]) (n:=Aa) (by unfold Aa;omega)
 have h3:Bd Aa (p,(V:Int),rows,([],([],[])),([],([],[])),0)=_:=h3
 simp only[h3,Option.bind_some]
 have h7:=BW V (λf (s:ES) i=>AU f (p,(V:Int),([],([],[])),(s.1,(s.2.1,s.2.2)),i)) (λv=>Ah p rows v) (r:=some (([],([],[])),Ah p rows V)) (λf v hv=>?_) (λf=>?_) (n:=Aa) (by unfold Aa;omega)
 ·have h7:AU Aa (p,(V:Int),([],([],[])),([],([],rows)),0)=_:=h7
  rw[h7];rfl
 ·have hok:=Bs hp hr v (by omega)
  have hnx:Ah p rows (v+1)=B7 p (Ah p rows v) v:=by unfold Ah;rw[Cz]
  rw[hnx]
  generalize Ah p rows v=s at hok
  have hn:=hok.n
  have hbl:=hok.bl
  have h10:=GO (V:=V) hok (show v<W by omega) hN ([],([],[]))
  have h10:AM Aa (p,(V:Int),([],([],[])),(s.1,(s.2.1,s.2.2)),(v:Int),0)=_:=h10
  simp only[AU,h10,Option.bind_some]
  rw[if_pos (by simp;omega)]
  by_cases hc:s.2.2.findIdx (nzB v)<s.2.2.length
  ·obtain⟨f1,f2,f3⟩:=Eu hc hok.l (show v<W by omega)
   obtain⟨_,i1,i2,i3⟩:=E7 hp f1 f2
   have hsc:=DQ hp hW f3 (b:=CM p ((s.2.2.getD (s.2.2.findIdx (nzB v)) []).getD v 0)) ⟨by omega,i3⟩
   have hrow:=DC hp f3 (b:=CM p ((s.2.2.getD (s.2.2.findIdx (nzB v)) []).getD v 0)) ⟨by omega,i3⟩
   have hS:B7 p s v=(s.1.map (Av p (Au p (CM p ((s.2.2.getD (s.2.2.findIdx (nzB v)) []).getD v 0)) (s.2.2.getD (s.2.2.findIdx (nzB v)) [])) v)++ [Au p (CM p ((s.2.2.getD (s.2.2.findIdx (nzB v)) []).getD v 0)) (s.2.2.getD (s.2.2.findIdx (nzB v)) [])],s.2.1++ [(v:Int)],(s.2.2.eraseIdx (s.2.2.findIdx (nzB v))).map (Av p (Au p (CM p ((s.2.2.getD (s.2.2.findIdx (nzB v)) []).getD v 0)) (s.2.2.getD (s.2.2.findIdx (nzB v)) [])) v)):=by
    unfold B7;dsimp only;rw[if_pos hc]
   rw[hS]
   generalize hK:s.2.2.findIdx (nzB v)=K at*
   generalize hI:CM p ((s.2.2.getD K []).getD v 0)=I at*
   have hvl:v<(s.2.2.getD K []).length:=by rw[f3.1];omega
   have hoth:([]++((s.2.2.take (Int.toNat (K:Int))).drop (Int.toNat 0)))++((s.2.2.take (Int.toNat (s.2.2.length:Int))).drop (Int.toNat (w64 ((K:Int)+1))))=s.2.2.eraseIdx K:=by
    rw[Ac (show K<4611686018427387904 by omega),EA];simp
   have hel:(s.2.2.eraseIdx K).length<=100000:=by have:=List.length_eraseIdx_le s.2.2 K;omega
   have h16:=GP hp hW (l:=s.2.2.eraseIdx K) (λr h=>hok.l r (List.mem_of_mem_eraseIdx h)) hel hrow (show v<W by omega) (V:Int) ([],([],[])) s
   have h16:AN Aa (p,(V:Int),([],([],[])),(s.1,(s.2.1,s.2.2)),(v:Int),Au p I (s.2.2.getD K []),s.2.2.eraseIdx K,0)=_:=h16
   have h20:=GQ hp hW (l:=s.1) hok.t (by omega) hrow (show v<W by omega) (V:Int) ([],([],[])) s.2.1 s.2.2 ((s.2.2.eraseIdx K).map (Av p (Au p I (s.2.2.getD K [])) v))
   have h20:AO Aa (p,(V:Int),([],([],[])),(s.1,(s.2.1,s.2.2)),(v:Int),Au p I (s.2.2.getD K []),(s.2.2.eraseIdx K).map (Av p (Au p I (s.2.2.getD K [])) v),0)=_:=h20
   rw[if_neg (by simp;omega)]
   simp only[Ae,hc,BR,hvl,if_true,i1,hsc,Option.bind_some,hoth,h16,h20,Ac (show v<4611686018427387904 by omega)]
   rw[if_pos (by omega),if_pos (by simp;unfold lim;omega),if_pos (by rw[Ac (show K<4611686018427387904 by omega)];omega),if_pos (by rw[Ac (show K<4611686018427387904 by omega)];simp;unfold lim;omega),if_pos (by simp;unfold lim;omega),if_pos (by simp;unfold lim;omega)]
  ·have hS:B7 p s v=s:=by unfold B7;dsimp only;rw[if_neg hc]
   have hle:=List.findIdx_le_length (xs:=s.2.2) (p:=nzB v)
   rw[hS,if_pos (by simp;omega)]
   simp only[Ac (show v<4611686018427387904 by omega)]
 ·simp only[AU]
  rw[if_neg (by simp)]
end
end T
open Go Go.Va
namespace T
def A9 (V:Nat) (b:List Int):List Int:=(List.range V).map (BE b)
section
variable {p:Int} {W N V:Nat}
theorem Gc {b:List Int} {x:Int} {u:Nat}:BE (b++ [x]) u=if(u:Int)∈b then BE b u else if x=(u:Int)then(b.length:Int)else-1:=by
 unfold BE
 rw[List.findIdx?_append]
 by_cases h:(u:Int)∈b
 ·rw[if_pos h]
  have h1:(b.findIdx? λy=>y==(u:Int)).isSome=true:=by
   rw[List.findIdx?_isSome,List.any_eq_true]
   exact⟨_,h,by simp⟩
  obtain⟨i,hi⟩:=Option.isSome_iff_exists.1 h1
  rw[hi];rfl
 ·rw[if_neg h]
  have h1:(b.findIdx? λy=>y==(u:Int))=none:=by
   rw[List.findIdx?_eq_none_iff]
   intro y hy
   simp only[beq_eq_false_iff_ne]
   intro e;exact h (e▸hy)
  rw[h1]
  by_cases hx:x=(u:Int)
  ·rw[if_pos hx,hx];simp[List.findIdx?_cons]
  ·rw[if_neg hx]
   have:(x==(u:Int))=false:=by simpa using hx
   simp[List.findIdx?_cons,this]
theorem BM {b:List Int}:(A9 V b).length=V:=by simp[A9]
theorem Dy {b:List Int} {u:Nat} (h:u<V):(A9 V b).getD u 0=BE b u:=by rw[Ab (by rw[BM];exact h)];simp[A9]
theorem CC {b:List Int} {u:Nat} (h:(u:Int)∉b):BE b u= -1:=by
 unfold BE
 have h1:(b.findIdx? λy=>y==(u:Int))=none:=by
  rw[List.findIdx?_eq_none_iff]
  intro y hy
  simp only[beq_eq_false_iff_ne]
  intro e;exact h (e▸hy)
 rw[h1]
theorem Cs {b:List Int} {u:Nat} (h:(u:Int)∈b): ∃i,∃hi:i<b.length,BE b u=(i:Int)/\b[i]=(u:Int):=by
 unfold BE
 have h1:(b.findIdx? λy=>y==(u:Int)).isSome=true:=by
  rw[List.findIdx?_isSome,List.any_eq_true]
  exact⟨_,h,by simp⟩
 obtain⟨i,hi⟩:=Option.isSome_iff_exists.1 h1
 rw[hi]
 obtain⟨g1,g2,_⟩:=List.findIdx?_eq_some_iff_getElem.1 hi
 exact⟨i,g1,rfl,by simpa using g2⟩
theorem Gi {b:List Int} {v:Nat} (hv:v<V) (hb:(v:Int)∉b):(A9 V b).set v (b.length:Int)=A9 V (b++ [(v:Int)]):=by
 unfold A9
 apply List.ext_getElem
 ·simp
 ·intro u h1 h2
  rw[List.getElem_set]
  simp only[List.getElem_map,List.getElem_range,Gc]
  by_cases e:v=u
  ·subst e;rw[if_pos rfl,if_neg hb,if_pos rfl]
  ·rw[if_neg e]
   by_cases hu:(u:Int)∈b
   ·rw[if_pos hu]
   ·rw[if_neg hu,if_neg (by omega),CC hu]
theorem D2 {rows:List (List Int)} (hN:rows.length<=100000) (hr: ∀r∈rows,r.length<=100000):BZ rows=some rows:=by
 unfold BZ
 have:=BW rows.length (λf o i=>Bv f (o,rows,(rows.length:Int),i)) (λk=>rows.take k) (r:=some rows) (λf k hk=>by
  have hl:=hr _ (List.getElem_mem hk)
  have hcl:CO rows[k]=some rows[k]:=by
   unfold CO
   rw[if_pos (by simp;unfold lim;omega)];simp
  simp only[Bv,Ae,hk,AJ hk,hcl,Option.bind_some,List.take_succ_eq_append_getElem hk,if_true,Ac (show k<4611686018427387904 by omega)]
  rw[if_pos (by simp;omega),if_pos (by simp;unfold lim;omega)]) (λf=>by
  simp only[Bv,List.take_length]
  rw[if_neg (by simp)]) (n:=Aa) (by unfold Aa;omega)
 have this:Bv Aa ([],rows,(rows.length:Int),0)=_:=this
 rw[this];rfl
theorem G2 {t l:List (List Int)} {v:Nat} (hl: ∀r∈l,Ak p W r) (hv:v<W) (hN:t.length+l.length<=100000) (a b c:Int) (bd:List Int):
  AY Aa (p,(V:Int),(a,(b,(t++l,(c,bd)))),(v:Int),(t.length:Int))=some (p,(V:Int),(a,(b,(t++l,(c,bd)))),(v:Int),((t.length+l.findIdx (nzB v):Nat):Int)):=by
 have hlen:(t++l).length=t.length+l.length:=List.length_append
 have key:=λP=>Hl (l:=l) v (λf i=>AY f (p,(V:Int),(a,(b,(t++l,(c,bd)))),(v:Int),(t.length:Int)+i)) (λk=>(p,(V:Int),(a,(b,(t++l,(c,bd)))),(v:Int),((t.length+k:Nat):Int))) (λf k hk=>?_) (λf=>?_) l.length 0 Aa (by omega) P
 ·have:=key (by unfold Aa;omega)
  rw[List.drop_zero,Nat.zero_add]at this
  have e:((t.length:Nat):Int)+((0:Nat):Int)=(t.length:Int):=by omega
  rw[e]at this
  exact this
 ·have hr:=hl _ (List.getElem_mem hk)
  have hkk:t.length+k<(t++l).length:=by omega
  have hg:(t++l).getD (t.length+k) []=l[k]:=by rw[Ab hkk,List.getElem_append_right (by omega)];simp
  have hvl:v<l[k].length:=by rw[hr.1];exact hv
  have e:(t.length:Int)+(k:Int)=((t.length+k:Nat):Int):=by push_cast;rfl
  have e2:(t.length:Int)+((k+1:Nat):Int)=((t.length+k+1:Nat):Int):=by push_cast;omega
  simp only[AY,e,e2,Ae,hkk,BR,hg,hvl,if_true,Ac (show t.length+k<4611686018427387904 by omega)]
  rw[if_pos (decide_eq_true (Int.ofNat_lt.2 hkk))]
  unfold nzB
  by_cases hz:l[k].getD v 0=0
  ·rw[if_pos (by simpa using hz),if_neg (by simpa using hz)]
  ·rw[if_neg (by simpa using hz),if_pos (by simpa using hz)]
 ·have e:(t.length:Int)+(l.length:Int)=((t.length+l.length:Nat):Int):=by push_cast;rfl
  simp only[AY,hlen,e]
  rw[if_neg (by simp)]
theorem Gv (hp:pr4 p) (hW:W<=1000) {R:List (List Int)} {T:Nat} (hT:T<R.length) (hr:Ak p W (R.getD T [])) {f0:Int} (hf:0<=f0/\f0<p) (a b c:Int) (bd:List Int) (v:Int):
  AQ Aa ((T:Int),p,(V:Int),(a,(b,(R,(c,bd)))),v,f0,((R.getD T []).length:Int),0)=some ((T:Int),p,(V:Int),(a,(b,(R.set T (Au p f0 (R.getD T [])),(c,bd)))),v):=by
 have hp0:p≠0:=by unfold pr4 at hp;omega
 generalize hq:R.getD T []=r at hr
 have hrl:=hr.1
 have:=BW r.length (λf (o:List (List Int)) i=>AQ f ((T:Int),p,(V:Int),(a,(b,(o,(c,bd)))),v,f0,(r.length:Int),i)) (λk=>R.set T (mix (λi=>Int.tmod (r.getD i 0*f0) p) (λi=>r.getD i 0) r.length k))
  (r:=some ((T:Int),p,(V:Int),(a,(b,(R.set T (Au p f0 r),(c,bd)))),v)) (λf k hk=>?_) (λf=>?_) (n:=Aa) (by unfold Aa;omega)
 ·have e:R.set T (mix (λi=>Int.tmod (r.getD i 0*f0) p) (λi=>r.getD i 0) r.length 0)=R:=by
   rw[Dm rfl,←hq,Ab hT,List.set_getElem_self]
  rw[e]at this
  exact this
 ·have hTl:T<(R.set T (mix (λi=>Int.tmod (r.getD i 0*f0) p) (λi=>r.getD i 0) r.length k)).length:=by simpa using hT
  have hg:gd (R.set T (mix (λi=>Int.tmod (r.getD i 0*f0) p) (λi=>r.getD i 0) r.length k)) (T:Int) []=mix (λi=>Int.tmod (r.getD i 0*f0) p) (λi=>r.getD i 0) r.length k:=by
   rw[BR,Ab hTl];simp
  have hkl:k<(mix (λi=>Int.tmod (r.getD i 0*f0) p) (λi=>r.getD i 0) r.length k).length:=by rw[Cf];exact hk
  have hgk:(mix (λi=>Int.tmod (r.getD i 0*f0) p) (λi=>r.getD i 0) r.length k).getD k 0=r.getD k 0:=by rw[Dp hk,if_neg (by omega)]
  have hst:=C7 (nw:=λi=>Int.tmod (r.getD i 0*f0) p) (old:=λi=>r.getD i 0) hk
  have h1:=Be hr (i:=k) (by omega)
  have h4:=Ev (a:=r.getD k 0) (b:=f0) (by omega) (by unfold pr4 at hp;omega) (by omega) (by unfold pr4 at hp;omega)
  simp only[AQ,hg,Ae,hkl,BR,hgk,AI (x:=r.getD k 0*f0) (by omega) (by omega),Bk,List.set_set,hst,if_true,Ac (show k<4611686018427387904 by omega)]
  rw[if_pos (by simp;omega),if_pos hp0]
 ·simp only[AQ,CI]
  rw[if_neg (by simp)];rfl
theorem Gx (hp:pr4 p) (hW:W<=1000) {R:List (List Int)} {T K:Nat} (hT:T<R.length) (hK:K<R.length) (hne:K≠T) (hrT:Ak p W (R.getD T [])) (hrK:Ak p W (R.getD K [])) {v:Nat} (hv:v<W) (a b c:Int) (bd:List Int) (t130 t131:Int):
  AR Aa ((T:Int),(K:Int),(),p,(V:Int),(a,(b,(R,(c,bd)))),(v:Int),(R.getD K []).getD v 0,t130,t131,((R.getD K []).length:Int),0)=some ((T:Int),(),p,(V:Int),(a,(b,(R.set K (Av p (R.getD T []) v (R.getD K [])),(c,bd)))),(v:Int),t130,t131):=by
 have hp0:p≠0:=by unfold pr4 at hp;omega
 generalize hq:R.getD K []=r at hrK
 generalize hq2:R.getD T []=row at hrT
 have hrl:=hrK.1
 have:=BW r.length (λf (o:List (List Int)) i=>AR f ((T:Int),(K:Int),(),p,(V:Int),(a,(b,(o,(c,bd)))),(v:Int),r.getD v 0,t130,t131,(r.length:Int),i)) (λk=>R.set K (mix (λi=>Int.tmod (r.getD i 0+(p-r.getD v 0)*row.getD i 0) p) (λi=>r.getD i 0) r.length k))
  (r:=some ((T:Int),(),p,(V:Int),(a,(b,(R.set K (Av p row v r),(c,bd)))),(v:Int),t130,t131)) (λf k hk=>?_) (λf=>?_) (n:=Aa) (by unfold Aa;omega)
 ·have e:R.set K (mix (λi=>Int.tmod (r.getD i 0+(p-r.getD v 0)*row.getD i 0) p) (λi=>r.getD i 0) r.length 0)=R:=by
   rw[Dm rfl,←hq,Ab hK,List.set_getElem_self]
  rw[e]at this
  exact this
 ·have hKl:K<(R.set K (mix (λi=>Int.tmod (r.getD i 0+(p-r.getD v 0)*row.getD i 0) p) (λi=>r.getD i 0) r.length k)).length:=by simpa using hK
  have hTl:T<(R.set K (mix (λi=>Int.tmod (r.getD i 0+(p-r.getD v 0)*row.getD i 0) p) (λi=>r.getD i 0) r.length k)).length:=by simpa using hT
  have hg:gd (R.set K (mix (λi=>Int.tmod (r.getD i 0+(p-r.getD v 0)*row.getD i 0) p) (λi=>r.getD i 0) r.length k)) (K:Int) []=mix (λi=>Int.tmod (r.getD i 0+(p-r.getD v 0)*row.getD i 0) p) (λi=>r.getD i 0) r.length k:=by
   rw[BR,Ab hKl];simp
  have hg2:gd (R.set K (mix (λi=>Int.tmod (r.getD i 0+(p-r.getD v 0)*row.getD i 0) p) (λi=>r.getD i 0) r.length k)) (T:Int) []=row:=by
   have hRT:R[T]=row:=by rw[Ab hT]at hq2;exact hq2
   rw[BR,Ab hTl,List.getElem_set_ne (by omega)];exact hRT
  have hkl:k<(mix (λi=>Int.tmod (r.getD i 0+(p-r.getD v 0)*row.getD i 0) p) (λi=>r.getD i 0) r.length k).length:=by rw[Cf];exact hk
  have hkr:k<row.length:=by rw[hrT.1];omega
  have hgk:(mix (λi=>Int.tmod (r.getD i 0+(p-r.getD v 0)*row.getD i 0) p) (λi=>r.getD i 0) r.length k).getD k 0=r.getD k 0:=by rw[Dp hk,if_neg (by omega)]
  have hst:=C7 (nw:=λi=>Int.tmod (r.getD i 0+(p-r.getD v 0)*row.getD i 0) p) (old:=λi=>r.getD i 0) hk
  simp only[AR,hg,hg2,Ae,hkl,hkr,BR,hgk,GE hp hrK hrT hv (show k<W by omega),Bk,List.set_set,hst,if_true,Ac (show k<4611686018427387904 by omega)]
  rw[if_pos (by simp;omega),if_pos hp0]
 ·simp only[AR,CI]
  rw[if_neg (by simp)];rfl
def D5 (p:Int) (R:List (List Int)) (T v k:Nat):List Int:=if k=T then R.getD k []else Av p (R.getD T []) v (R.getD k [])
theorem Gw (hp:pr4 p) (hW:W<=1000) {R:List (List Int)} {T:Nat} (hT:T<R.length) (hR: ∀k,k<R.length->Ak p W (R.getD k [])) (hN:R.length<=100000) {v:Nat} (hv:v<W) (a b:Int) (bd:List Int):
  Az Aa ((T:Int),(),p,(V:Int),(a,(b,(R,((T:Int),bd)))),(v:Int),(R.length:Int),0)=some (p,(V:Int),(a,(b,((List.range R.length).map (D5 p R T v),((T:Int),bd)))),(v:Int)):=by
 have:=BW R.length (λf (o:List (List Int)) i=>Az f ((T:Int),(),p,(V:Int),(a,(b,(o,((T:Int),bd)))),(v:Int),(R.length:Int),i)) (λk=>mix (D5 p R T v) (λk=>R.getD k []) R.length k)
  (r:=some (p,(V:Int),(a,(b,((List.range R.length).map (D5 p R T v),((T:Int),bd)))),(v:Int))) (λf k hk=>?_) (λf=>?_) (n:=Aa) (by unfold Aa;omega)
 ·rw[Dm rfl]at this
  exact this
 ·generalize hM:mix (D5 p R T v) (λk=>R.getD k []) R.length k=M
  have hMl:M.length=R.length:=by rw[←hM];exact Cf
  have hMk:M.getD k []=R.getD k []:=by rw[←hM,Dp hk,if_neg (by omega)]
  have hMT:M.getD T []=R.getD T []:=by
   rw[←hM,Dp hT]
   split
   ·unfold D5;rw[if_pos rfl]
   ·rfl
  have hin:k<M.length:=by omega
  have hrk:=hR k hk
  have hvl:v<(R.getD k []).length:=by rw[hrk.1];exact hv
  have hnx:k≠T->M.set k (Av p (R.getD T []) v (R.getD k []))=mix (D5 p R T v) (λk=>R.getD k []) R.length (k+1):=λhne=>by
   have:=C7 (nw:=D5 p R T v) (old:=λk=>R.getD k []) hk
   rw[←this,hM]
   unfold D5;rw[if_neg hne]
  have hsame:D5 p R T v k=R.getD k []->mix (D5 p R T v) (λk=>R.getD k []) R.length (k+1)=M:=λh=>by rw[D4 hk h,hM]
  simp only[Az,Ae,hin,BR,hMk,hvl,if_true,Ac (show k<4611686018427387904 by omega)]
  rw[if_pos (by simp;omega)]
  by_cases hkT:k=T
  ·rw[if_neg (by simp[hkT]),hsame (by unfold D5;rw[if_pos hkT])]
  ·rw[if_pos (by simp;omega)]
   by_cases hz:(R.getD k []).getD v 0=0
   ·rw[if_neg (by simpa using hz),hsame (by unfold D5;rw[if_neg hkT,E0 hp hrk (hR T hT) hz])]
   ·rw[if_pos (by simpa using hz)]
    have h24:=Gx (V:=V) hp hW (R:=M) (T:=T) (K:=k) (by omega) hin hkT (by rw[hMT];exact hR T hT) (by rw[hMk];exact hrk) hv a b (T:Int) bd (R.length:Int) (k:Int)
    rw[hMk,hMT]at h24
    simp only[h24,Option.bind_some,hnx hkT,Ac (show k<4611686018427387904 by omega)]
 ·simp only[Az,CI]
  rw[if_neg (by simp)]
theorem Hf {t l:List (List Int)} {K:Nat} (hK:K<l.length):upL (t++l) t.length (t.length+K) []=t++l.getD K []::l.eraseIdx K:=by
 unfold upL
 have e1:(t++l).take t.length=t:=by simp
 have e2:(t++l).getD (t.length+K) []=l.getD K []:=by
  rw[Ab (by simp;omega),Ab hK,List.getElem_append_right (by omega)];simp
 have e3:(t++l).drop t.length=l:=by simp
 have e4:(t++l).drop (t.length+K+1)=l.drop (K+1):=by
  rw[List.drop_append,List.drop_of_length_le (by omega),show t.length+K+1-t.length=K+1 by omega];rfl
 rw[e1,e2,e3,e4,Nat.add_sub_cancel_left,EA]
theorem D3 (hp:pr4 p) (hVW:V<=W) (hW:W<=1000) {rows:List (List Int)} (hr: ∀r∈rows,Ak p W r) (hN:rows.length<=100000):
  B0 p (V:Int) rows=some (true,(p,((V:Int),((Ah p rows V).1++(Ah p rows V).2.2,(((Ah p rows V).1.length:Int),A9 V (Ah p rows V).2.1))))):=by
 unfold B0
 rw[D2 hN λr h=>by have:=(hr r h).1;omega,Gt (N:=V) (by omega)]
 simp only[Option.bind_some]
 have h3:=BW V (λf (s:List (List Int)×(Int×List Int)) i=>AG f (p,(V:Int),(p,((V:Int),(s.1,(s.2.1,s.2.2)))),i)) (λv=>((Ah p rows v).1++(Ah p rows v).2.2,(((Ah p rows v).1.length:Int),A9 V (Ah p rows v).2.1)))
  (r:=some (p,((V:Int),((Ah p rows V).1++(Ah p rows V).2.2,(((Ah p rows V).1.length:Int),A9 V (Ah p rows V).2.1))))) (λf v hv=>?_) (λf=>?_) (n:=Aa) (by unfold Aa;omega)
 ·have e0:A9 V (Ah p rows 0).2.1=List.replicate V (-1):=by
   apply List.ext_getElem
   ·simp[A9]
   ·intro i h1 h2
    have:BE ([]:List Int) i= -1:=CC (by simp)
    simp only[A9,Ah,List.range_zero,List.foldl_nil,List.getElem_map,List.getElem_range,this,List.getElem_replicate]
  have h3:AG Aa (p,(V:Int),(p,((V:Int),(([]:List (List Int))++rows,(0,A9 V (Ah p rows 0).2.1)))),0)=_:=h3
  rw[e0]at h3
  rw[List.nil_append]at h3
  rw[h3];rfl
 ·have hok:=Bs hp hr v (by omega)
  have hnx:Ah p rows (v+1)=B7 p (Ah p rows v) v:=by unfold Ah;rw[Cz]
  rw[hnx]
  generalize Ah p rows v=s at hok
  have hn:=hok.n
  have hbl:=hok.bl
  obtain⟨t,bo,l⟩:=s
  dsimp only at hn hbl hok⊢
  have h6:=G2 (V:=V) (p:=p) (W:=W) (t:=t) (l:=l) (v:=v) hok.l (show v<W by omega) (by omega) p (V:Int) (t.length:Int) (A9 V bo)
  simp only[AG,h6,Option.bind_some]
  rw[if_pos (by simp;omega)]
  have hlen:(t++l).length=t.length+l.length:=List.length_append
  by_cases hc:l.findIdx (nzB v)<l.length
  ·obtain⟨f1,f2,f3⟩:=Eu hc hok.l (show v<W by omega)
   obtain⟨i0,i1,i2,i3⟩:=E7 hp f1 f2
   have hrow:=DC hp f3 (b:=CM p ((l.getD (l.findIdx (nzB v)) []).getD v 0)) ⟨by omega,i3⟩
   have hS:B7 p (t,bo,l) v=(t.map (Av p (Au p (CM p ((l.getD (l.findIdx (nzB v)) []).getD v 0)) (l.getD (l.findIdx (nzB v)) [])) v)++ [Au p (CM p ((l.getD (l.findIdx (nzB v)) []).getD v 0)) (l.getD (l.findIdx (nzB v)) [])],bo++ [(v:Int)],(l.eraseIdx (l.findIdx (nzB v))).map (Av p (Au p (CM p ((l.getD (l.findIdx (nzB v)) []).getD v 0)) (l.getD (l.findIdx (nzB v)) [])) v)):=by
    unfold B7;dsimp only;rw[if_pos hc]
   rw[hS]
   generalize hK:l.findIdx (nzB v)=K at*
   generalize hx:l.getD K []=x at*
   generalize hI:CM p (x.getD v 0)=I at*
   have hvx:v<x.length:=by rw[f3.1];omega
   have hup:upL (t++l) (Int.toNat (t.length:Int)) (Int.toNat ((t.length+K:Nat):Int)) []=t++x::l.eraseIdx K:=by
    rw[Int.toNat_natCast,Int.toNat_natCast,Hf hc,hx]
   have hgx:gd (t++l) ((t.length+K:Nat):Int) []=x:=by
    rw[BR,Ab (by omega),List.getElem_append_right (by omega),←hx,Ab hc];simp
   have hTl:t.length<(t++x::l.eraseIdx K).length:=by simp
   have hsx:stt (t++x::l.eraseIdx K) (t.length:Int) x=t++x::l.eraseIdx K:=by
    rw[Bk];simp
   have hgT:gd (t++x::l.eraseIdx K) (t.length:Int) []=x:=by rw[BR,Ab hTl];simp
   have hgTD:(t++x::l.eraseIdx K).getD t.length []=x:=hgT
   have w1:w64 ((t.length:Int)+1)=((t.length+1:Nat):Int):=Ac (by omega)
   have w2:w64 (((t.length+K:Nat):Int)+1)=((t.length+K+1:Nat):Int):=Ac (by omega)
   have hR0l:(t++x::l.eraseIdx K).length=rows.length:=by
    have h9:(l.eraseIdx K).length=l.length-1:=List.length_eraseIdx_of_lt hc
    simp only[List.length_append,List.length_cons];omega
   have h14:=Gv (V:=V) hp hW (R:=t++x::l.eraseIdx K) (T:=t.length) hTl (by rw[hgTD];exact f3) (f0:=I) ⟨by omega,i3⟩ p (V:Int) (t.length:Int) (A9 V bo) (v:Int)
   rw[hgTD]at h14
   have hset:(t++x::l.eraseIdx K).set t.length (Au p I x)=t++Au p I x::l.eraseIdx K:=by simp
   rw[hset]at h14
   have hR1: ∀k,k<(t++Au p I x::l.eraseIdx K).length->Ak p W ((t++Au p I x::l.eraseIdx K).getD k []):=λk hk=>by
    have hm:(t++Au p I x::l.eraseIdx K).getD k []∈t++Au p I x::l.eraseIdx K:=by rw[Ab hk];exact List.getElem_mem hk
    rcases List.mem_append.1 hm with h|h
    ·exact hok.t _ h
    ·rcases List.mem_cons.1 h with h|h
     ·rw[h];exact hrow
     ·exact hok.l _ (List.mem_of_mem_eraseIdx h)
   have hR1l:(t++Au p I x::l.eraseIdx K).length=rows.length:=by rw[←hR0l];simp
   have h19:=Gw (V:=V) hp hW (R:=t++Au p I x::l.eraseIdx K) (T:=t.length) (by simp) hR1 (by omega) (show v<W by omega) p (V:Int) (A9 V bo)
   have hfin:(List.range (t++Au p I x::l.eraseIdx K).length).map (D5 p (t++Au p I x::l.eraseIdx K) t.length v)=(t.map (Av p (Au p I x) v)++ [Au p I x])++(l.eraseIdx K).map (Av p (Au p I x) v):=by
    have hgt:(t++Au p I x::l.eraseIdx K).getD t.length []=Au p I x:=by rw[Ab (by simp)];simp
    rw[List.append_assoc,List.singleton_append]
    apply List.ext_getElem
    ·simp
    ·intro k h1 h2
     simp only[List.getElem_map,List.getElem_range]
     unfold D5
     rw[hgt]
     have hk:k<(t++Au p I x::l.eraseIdx K).length:=by simpa using h1
     by_cases c1:k<t.length
     ·rw[if_neg (by omega),Ab hk,List.getElem_append_left c1,List.getElem_append_left (by simpa using c1),List.getElem_map]
     ·by_cases c2:k=t.length
      ·subst c2
       rw[if_pos rfl,hgt,List.getElem_append_right (by simp)];simp
      ·rw[if_neg c2,Ab hk,List.getElem_append_right (by omega),List.getElem_append_right (by simp;omega)]
       simp only[List.length_map]
       rw[List.getElem_cons,dif_neg (by omega),List.getElem_cons,dif_neg (by omega),List.getElem_map]
   rw[hfin]at h19
   have hvb:v<(A9 V bo).length:=by rw[BM];exact hv
   have hnb:(v:Int)∉bo:=λh=>by have:=hok.bv _ h;omega
   have hbs:(A9 V bo).set v (t.length:Int)=A9 V (bo++ [(v:Int)]):=by
    have:=Gi hv hnb
    rw[hbl]at this
    exact this
   rw[if_neg (by rw[hlen];simp;omega),if_pos (by rw[Ae];omega)]
   simp only[hup,hgx,hsx,hgT,Ae,hTl,hvx,i0,Option.bind_some,h14,h19,hvb,Bk,hbs,if_true,w1,w2,Ac (show v<4611686018427387904 by omega)]
   rw[if_pos (by rw[hlen];omega),if_pos (by rw[hlen];omega)]
   have hgv:gd x (v:Int) 0=x.getD v 0:=BR
   simp only[hgv,i0,Option.bind_some,h14]
   rw[if_pos ⟨by omega,by omega,trivial⟩]
   rw[h19]
   simp only[Option.bind_some,Ae,hvb,Bk,hbs,if_true,w1,Ac (show v<4611686018427387904 by omega)]
   rw[show(List.map (Av p (Au p I x) v) t++ [Au p I x]).length=t.length+1 by simp]
  ·have hS:B7 p (t,bo,l) v=(t,bo,l):=by unfold B7;dsimp only;rw[if_neg hc]
   have hle:=List.findIdx_le_length (xs:=l) (p:=nzB v)
   rw[hS,if_pos (by rw[hlen];simp;omega)]
   simp only[Ac (show v<4611686018427387904 by omega)]
 ·simp only[AG]
  rw[if_neg (by simp)]
end
end T
open Go Go.Va
namespace T
def Ai (N:Nat) (b:List Int):List Int:=((List.range N).filter λv:Nat=>!decide ((v:Int)∈b)).map λv:Nat=>(v:Int)
theorem C9 {N:Nat} {b:List Int}:Ai (N+1) b=Ai N b++(if(N:Int)∈b then []else [(N:Int)]):=by
 unfold Ai
 rw[List.range_succ,List.filter_append,List.map_append]
 congr 1
 by_cases h:(N:Int)∈b<;>simp[h]
theorem C8 {N:Nat} {b:List Int} {x:Int} (h:x∈Ai N b): ∃u:Nat,u<N/\x=(u:Int):=by
 unfold Ai at h
 obtain⟨u,hu,rfl⟩:=List.mem_map.1 h
 exact⟨u,List.mem_range.1 (List.mem_filter.1 hu).1,rfl⟩
theorem BJ {N:Nat} {b:List Int}:(Ai N b).length<=N:=by
 unfold Ai
 rw[List.length_map]
 have:=List.length_filter_le (λv:Nat=>!decide ((v:Int)∈b)) (List.range N)
 rw[List.length_range]at this
 exact this
theorem FB {N:Nat} {b:List Int} {x:Int} (h:(N:Int)<=x):Ai N (b++ [x])=Ai N b:=by
 unfold Ai
 congr 1
 refine List.filter_congr λu hu=>?_
 have:=List.mem_range.1 hu
 have e:((u:Int)∈b++ [x])↔(u:Int)∈b:=by
  rw[List.mem_append,List.mem_singleton]
  exact⟨λh=>h.resolve_right (by omega),Or.inl⟩
 simp only[e]
section
variable {p:Int} {W N V:Nat}
theorem Gu (hp:pr4 p) {rows:List (List Int)} (hr: ∀r∈rows,Ak p W r): ∀v,v<=W->(Ai v (Ah p rows v).2.1).length+(Ah p rows v).2.1.length=v:=by
 intro v
 induction v with
 |zero=>intro _;simp[Ai,Ah]
 |succ v ih=>
  intro hv
  have h1:=ih (by omega)
  have hok:=Bs hp hr v (by omega)
  have hnx:Ah p rows (v+1)=B7 p (Ah p rows v) v:=by unfold Ah;rw[Cz]
  rw[hnx]
  generalize Ah p rows v=s at hok h1
  unfold B7
  dsimp only
  split
  ·rw[C9,if_pos (by simp),FB (by omega)]
   simp only[List.append_nil,List.length_append,List.length_singleton]
   omega
  ·have:(v:Int)∉s.2.1:=λh=>by have:=hok.bv _ h;omega
   rw[C9,if_neg this]
   simp only[List.length_append,List.length_singleton]
   omega
theorem DI {b:List Int} (hb:b.Nodup) {i:Nat} (hi:i<b.length) {u:Nat} (h:b[i]=(u:Int)):BE b u=(i:Int):=by
 obtain⟨j,hj,h1,h2⟩:=Cs (b:=b) (u:=u) (h▸List.getElem_mem hi)
 rw[h1]
 rcases Nat.lt_trichotomy i j with h3|h3|h3
 ·exact absurd (h.trans h2.symm) (List.pairwise_iff_getElem.1 hb i j hi hj h3)
 ·rw[h3]
 ·exact absurd (h2.trans h.symm) (List.pairwise_iff_getElem.1 hb j i hj hi h3)
theorem Bt {b:List Int} {u:Nat}:BE b u<0↔(u:Int)∉b:=by
 by_cases h:(u:Int)∈b
 ·obtain⟨i,hi,h1,_⟩:=Cs h
  rw[h1];simp[h]
 ·rw[CC h];simp[h]
def Ce (p:Int) (V:Nat) (s:ES):Bool×Int×Int×List (List Int)×Int×List Int:=(true,(p,((V:Int),(s.1++s.2.2,((s.1.length:Int),A9 V s.2.1)))))
def BV (V:Nat) (s:ES):Bool:=s.2.2.any (nzB V)
theorem EB {s:ES} (hs:ESok p W N V s) (hV:V<W) (hN:N<=100000):Bw (Ce p V s)=some (BV V s):=by
 obtain⟨t,b,l⟩:=s
 have hn:=hs.n
 dsimp only at hn
 unfold Bw
 have e1:(((t++l).take (Int.toNat ((t++l).length:Int))).drop (Int.toNat (t.length:Int)))=l:=by rw[Int.toNat_natCast,Int.toNat_natCast,List.take_length];simp
 have key:=Fh l (λm i=>AS m (Ce p V (t,b,l),l,(l.length:Int),i)) (λr=>!nzB V r) (.inr true) (.inl ()) (λm k hk=>?_) (λm=>?_) (n:=Aa) (by unfold Aa;omega)
 ·have h1:(Ce p V (t,b,l)).1=true:=rfl
  have h2:(Ce p V (t,b,l)).2.2.2.1=t++l:=rfl
  have h3:(Ce p V (t,b,l)).2.2.2.2.1=(t.length:Int):=rfl
  rw[if_pos h1,if_pos h1,h2,h3,if_pos ⟨by omega,by rw[List.length_append];omega,by omega⟩,e1,key]
  unfold BV
  have e:(l.all λr=>!nzB V r)=!(l.any (nzB V)):=by rw[List.not_any_eq_all_not]
  rw[e]
  cases l.any (nzB V)<;>simp
 ·have hr:=hs.l _ (List.getElem_mem hk)
  have hvl:V<l[k].length:=by rw[hr.1];exact hV
  have h1:(Ce p V (t,b,l)).1=true:=rfl
  have h2:(Ce p V (t,b,l)).2.2.1=(V:Int):=rfl
  simp only[AS,Ae,hk,AJ hk,h1,h2,hvl,BR,if_true,Ac (show k<4611686018427387904 by omega)]
  rw[if_pos (by simp;omega)]
  unfold nzB
  by_cases hz:l[k].getD V 0=0
  ·rw[if_neg (by simpa using hz),if_pos (by simpa using hz)]
  ·rw[if_pos (by simpa using hz),if_neg (by simpa using hz)]
 ·simp only[AS]
  rw[if_neg (by simp)]
theorem Fj {s:ES} (hs:ESok p W N V s) (hV:V<W) (hN:N<=100000):Cc s (V:Int)=some (BV V s):=by
 obtain⟨t,b,l⟩:=s
 have hn:=hs.n
 dsimp only at hn
 unfold Cc
 have key:=Fh l (λm i=>B2 m ((V:Int),(t,(b,l)),i)) (λr=>!nzB V r) (.inr true) (.inl ()) (λm k hk=>?_) (λm=>?_) (n:=Aa) (by unfold Aa;omega)
 ·dsimp only
  rw[key]
  unfold BV
  have e:(l.all λr=>!nzB V r)=!(l.any (nzB V)):=by rw[List.not_any_eq_all_not]
  rw[e]
  cases l.any (nzB V)<;>simp
 ·have hr:=hs.l _ (List.getElem_mem hk)
  have hvl:V<l[k].length:=by rw[hr.1];exact hV
  simp only[B2,Ae,hk,AJ hk,hvl,BR,if_true,Ac (show k<4611686018427387904 by omega)]
  rw[if_pos (by simp;omega)]
  unfold nzB
  by_cases hz:l[k].getD V 0=0
  ·rw[if_neg (by simpa using hz),if_pos (by simpa using hz)]
  ·rw[if_pos (by simpa using hz),if_neg (by simpa using hz)]
 ·simp only[B2]
  rw[if_neg (by simp)]
theorem CB {s:ES} (hV:V<=1000):Aj (Ce p V s)=some (Ai V s.2.1):=by
 unfold Aj
 have h1:(Ce p V s).1=true:=rfl
 have h2:(Ce p V s).2.2.2.2.2=A9 V s.2.1:=rfl
 have:=BW V (λf o i=>An f (o,A9 V s.2.1,(V:Int),i)) (λk=>Ai k s.2.1) (r:=some (Ai V s.2.1)) (λf k hk=>?_) (λf=>?_) (n:=Aa) (by unfold Aa;omega)
 ·have this:An Aa ([],A9 V s.2.1,(V:Int),0)=_:=this
  rw[if_pos h1,h2,BM,this];rfl
 ·have hl:k<(A9 V s.2.1).length:=by rw[BM];exact hk
  have hle:=BJ (N:=k) (b:=s.2.1)
  simp only[An,Ae,hl,BR,Dy hk,if_true,Ac (show k<4611686018427387904 by omega),C9]
  rw[if_pos (by simp;omega)]
  by_cases hm:(k:Int)∈s.2.1
  ·rw[if_neg (by rw[decide_eq_true_iff,Bt];exact λh=>h hm),if_pos hm,List.append_nil]
  ·rw[if_pos (by rw[decide_eq_true_iff,Bt];exact hm),if_neg hm,if_pos (by simp;unfold lim;omega)]
 ·simp only[An]
  rw[if_neg (by simp)]
theorem FN {s:ES} (hs:ESok p W N V s) (hN:N<=100000) (hV:V<=1000):Cu s (V:Int)=some (Ai V s.2.1):=by
 unfold Cu
 have hb:=hs.bl
 have hn:=hs.n
 have:=BW V (λf o i=>BC f ((V:Int),(s.1,(s.2.1,s.2.2)),o,i)) (λk=>Ai k s.2.1) (r:=some (Ai V s.2.1)) (λf k hk=>?_) (λf=>?_) (n:=Aa) (by unfold Aa;omega)
 ·have this:BC Aa ((V:Int),(s.1,(s.2.1,s.2.2)),[],0)=_:=this
  rw[this];rfl
 ·have hle:=BJ (N:=k) (b:=s.2.1)
  simp only[BC,EN (show s.2.1.length<=1048576 by omega),Option.bind_some,Ac (show k<4611686018427387904 by omega),C9]
  rw[if_pos (by simp;omega)]
  by_cases hm:(k:Int)∈s.2.1
  ·rw[if_neg (by simpa using hm),if_pos hm,List.append_nil]
  ·rw[if_pos (by simpa using hm),if_neg hm,if_pos (by simp;unfold lim;omega)]
 ·simp only[BC]
  rw[if_neg (by simp)]
def CE (V:Nat) (s:ES) (u:Nat):Int:=if BE s.2.1 u<0 then 0 else(s.1.getD (BE s.2.1 u).toNat []).getD V 0
def CD (V:Nat) (s:ES):List Int:=(List.range V).map (CE V s)
theorem EW {V k:Nat}:(List.replicate V (0:Int)).getD k 0=0:=by
 rw[List.getD_eq_getElem?_getD,List.getElem?_replicate];split<;>rfl
theorem Fo (hp:pr4 p) {s:ES} (hs:ESok p W N V s) (hV:V<W) (hN:N<=100000) (hW:W<=1000):AF (Ce p V s) (List.replicate V 0)=some (CD V s):=by
 have hp0:p≠0:=by unfold pr4 at hp;omega
 have hpb:2<=p/\p<=7:=by unfold pr4 at hp;omega
 obtain⟨t,b,l⟩:=s
 have hn:=hs.n
 have hbl:=hs.bl
 dsimp only at hn hbl
 generalize hE:Ce p V (t,b,l)=E
 have h1:E.1=true:=by rw[←hE];rfl
 have h2:E.2.1=p:=by rw[←hE];rfl
 have h3:E.2.2.1=(V:Int):=by rw[←hE];rfl
 have h4:E.2.2.2.1=t++l:=by rw[←hE];rfl
 have h5:E.2.2.2.2.2=A9 V b:=by rw[←hE];rfl
 have hfr:Aj E=some (Ai V b):=by rw[←hE];exact CB (by omega)
 generalize hF:Ai V b=F at hfr
 have hFl:F.length<=V:=by rw[←hF];exact BJ
 have hFm: ∀k (hk:k<F.length),∃u:Nat,u<V/\F[k]=(u:Int):=λk hk=>C8 (b:=b) (by rw[hF];exact List.getElem_mem hk)
 have l4:=BW F.length (λf (_:Unit) i=>Ag f ((),E,List.replicate V (0:Int),List.replicate V (0:Int),F,(F.length:Int),i)) (λ_=>()) (r:=some (E,List.replicate V (0:Int),List.replicate V (0:Int),F)) (λf k hk=>by
  obtain⟨u,hu,e⟩:=hFm k hk
  have hk2:k<(List.replicate V (0:Int)).length:=by simp;omega
  have hu2:u<(List.replicate V (0:Int)).length:=by simp;omega
  simp only[Ag,Ae,hk,AJ hk,e,hk2,hu2,BR,EW,Bk,if_true,Ac (show k<4611686018427387904 by omega)]
  rw[if_pos (by simp;omega),List.set_replicate_self]) (λf=>by
  simp only[Ag]
  rw[if_neg (by simp)]) (n:=Aa) (by unfold Aa;omega)
 have l14: ∀(out:List Int) (v i:Nat) (x:Int),i<t.length->0<=x/\x<p->Af Aa ((),E,List.replicate V (0:Int),out,F,(v:Int),(i:Int),x,A9 V b,(V:Int),(v:Int),(F.length:Int),0)=some (E,List.replicate V (0:Int),out,F,(v:Int),x,A9 V b,(V:Int),(v:Int)):=by
  intro out v i x hi hx
  refine BW F.length (λf (_:Unit) j=>Af f ((),E,List.replicate V (0:Int),out,F,(v:Int),(i:Int),x,A9 V b,(V:Int),(v:Int),(F.length:Int),j)) (λ_=>()) (r:=some (E,List.replicate V (0:Int),out,F,(v:Int),x,A9 V b,(V:Int),(v:Int))) (λf k hk=>?_) (λf=>?_) (n:=Aa) (by unfold Aa;omega)
  ·obtain⟨u,hu,e⟩:=hFm k hk
   have hil:i<(t++l).length:=by rw[List.length_append];omega
   have hrow:Ak p W ((t++l).getD i []):=by rw[Ab hil,List.getElem_append_left hi];exact hs.t _ (List.getElem_mem hi)
   have hk2:k<(List.replicate V (0:Int)).length:=by simp;omega
   have hul:u<((t++l).getD i []).length:=by rw[hrow.1];omega
   simp only[Af,Ae,hk,AJ hk,e,h1,h2,h4,hil,hul,hk2,BR,EW,Int.mul_zero,if_true,Ac (show k<4611686018427387904 by omega)]
   rw[if_pos (by simp;omega),AI (x:=0) (by omega) (by omega),Int.add_zero,AI (x:=x) (by omega) (by omega)]
  ·simp only[Af]
   rw[if_neg (by simp)]
 have l9:=BW V (λf (o:List Int) i=>Ad f (E,List.replicate V (0:Int),o,F,A9 V b,(V:Int),i)) (λv=>mix (CE V (t,b,l)) (λ_=>0) V v) (r:=some (CD V (t,b,l))) (λf v hv=>?_) (λf=>?_) (n:=Aa) (by unfold Aa;omega)
 ·have e0:mix (CE V (t,b,l)) (λ_=>0) V 0=List.replicate V (0:Int):=by
   apply List.ext_getElem
   ·rw[Cf];simp
   ·intro i _ _;simp[mix]
  rw[e0]at l9
  have l9:Ad Aa (E,List.replicate V (0:Int),List.replicate V (0:Int),F,A9 V b,(V:Int),0)=_:=l9
  have l4:Ag Aa ((),E,List.replicate V (0:Int),List.replicate V (0:Int),F,(F.length:Int),0)=_:=l4
  unfold AF
  rw[if_pos h1,h3,if_pos (by unfold lim;omega),hfr]
  simp only[Option.bind_some,Int.toNat_natCast,l4]
  rw[if_pos h1,h5,BM,l9];rfl
 ·have hvl:v<(A9 V b).length:=by rw[BM];exact hv
  simp only[Ad,Ae,hvl,BR,Dy hv,h1,h3,h4,if_true]
  rw[if_pos (by simp;omega)]
  by_cases hm:(v:Int)∈b
  ·obtain⟨i,hi,g1,_⟩:=Cs hm
   have hit:i<t.length:=by omega
   have hil:i<(t++l).length:=by rw[List.length_append];omega
   have hg:(t++l).getD i []=t.getD i []:=by rw[Ab hil,List.getElem_append_left hit,Ab hit]
   have hrow:Ak p W (t.getD i []):=by rw[Ab hit];exact hs.t _ (List.getElem_mem hit)
   have hx:=Be hrow hV
   have hVl:V<(t.getD i []).length:=by rw[hrow.1];exact hV
   have hml:v<(mix (CE V (t,b,l)) (λ_=>0) V v).length:=by rw[Cf];exact hv
   have hsv:CE V (t,b,l) v=(t.getD i []).getD V 0:=by
    unfold CE;dsimp only;rw[g1,if_neg (by omega),Int.toNat_natCast]
   have hst:=C7 (nw:=CE V (t,b,l)) (old:=λ_=>(0:Int)) hv
   rw[hsv]at hst
   rw[g1,if_neg (by simp)]
   simp only[Ae,hil,hg,BR,hVl,if_true,BM]
   rw[l14 _ v i _ hit hx]
   simp only[Option.bind_some,h1,h2,Ae,hml,if_true,Bk,Ac (show v<4611686018427387904 by omega)]
   rw[if_pos hp0,Int.tmod_eq_of_lt hx.1 hx.2,hst]
  ·rw[if_pos (by rw[decide_eq_true_iff,Bt];exact hm),D4 hv (by unfold CE;rw[if_pos (Bt.2 hm)]),Ac (show v<4611686018427387904 by omega)]
 ·simp only[Ad,CI]
  rw[if_neg (by simp)];rfl
theorem GD (hp:pr4 p) {s:ES} (hs:ESok p W N V s) (hV:V<W) (hN:N<=100000) (hW:W<=1000):Bl (Ce p V s)=some (if BV V s then([],false)else(CD V s,true)):=by
 unfold Bl
 rw[EB hs hV hN]
 simp only[Option.bind_some]
 cases BV V s with
 |true=>rfl
 |false=>
  have h1:(Ce p V s).1=true:=rfl
  have h3:(Ce p V s).2.2.1=(V:Int):=rfl
  simp only[Bool.false_eq_true,if_false]
  rw[if_pos h1,h3,if_pos (by unfold lim;omega),Int.toNat_natCast,Fo hp hs hV hN hW];rfl
theorem Fq (hp:pr4 p) (hV:V<W) (hW:W<=1000) {rows:List (List Int)} (hr: ∀r∈rows,Ak p W r) (hN:rows.length<=100000):CX p (V:Int) rows=some (if BV V (Ah p rows V)then([],false)else(CD V (Ah p rows V),true)):=by
 unfold CX
 have hs:=Bs hp hr V (by omega)
 rw[Bz hp (by omega) hW hr hN]
 simp only[Option.bind_some]
 generalize Ah p rows V=s at hs
 have he:=Fj hs hV hN
 have he:Cc (s.1,(s.2.1,s.2.2)) (V:Int)=_:=he
 rw[he]
 simp only[Option.bind_some]
 cases BV V s with
 |true=>rfl
 |false=>
  simp only[Bool.false_eq_true,if_false]
  rw[if_pos (by unfold lim;omega),Int.toNat_natCast]
  have hbl:=hs.bl
  have hn:=hs.n
  have l6:=BW s.2.1.length (λf (o:List Int) i=>BI f ((V:Int),(s.1,(s.2.1,s.2.2)),o,i)) (λj=>(List.range V).map λu=>if 0<=BE s.2.1 u/\BE s.2.1 u<(j:Int)then(s.1.getD (BE s.2.1 u).toNat []).getD V 0 else 0) (r:=some (CD V s)) (λf j hj=>?_) (λf=>?_) (n:=Aa) (by unfold Aa;omega)
  ·have e0:((List.range V).map λu=>if 0<=BE s.2.1 u/\BE s.2.1 u<((0:Nat):Int)then(s.1.getD (BE s.2.1 u).toNat []).getD V 0 else 0)=List.replicate V (0:Int):=by
    apply List.ext_getElem
    ·simp
    ·intro i _ _
     simp only[List.getElem_map,List.getElem_range,List.getElem_replicate]
     rw[if_neg (by omega)]
   rw[e0]at l6
   have l6:BI Aa ((V:Int),(s.1,(s.2.1,s.2.2)),List.replicate V (0:Int),0)=_:=l6
   rw[l6];rfl
  ·have hbv:=hs.bv _ (List.getElem_mem hj)
   obtain⟨u,hu⟩: ∃u:Nat,s.2.1[j]=(u:Int):=⟨s.2.1[j].toNat,by omega⟩
   have hpu:=DI hs.bn hj hu
   have hj1:j<s.1.length:=by omega
   have hrow:Ak p W (s.1.getD j []):=by rw[Ab hj1];exact hs.t _ (List.getElem_mem hj1)
   have hVl:V<(s.1.getD j []).length:=by rw[hrow.1];exact hV
   have huV:u<V:=by omega
   simp only[BI,Ae,hj,hj1,AJ hj,hu,BR,hVl,if_true,Bk,Ac (show j<4611686018427387904 by omega)]
   rw[if_pos (by simp;omega),if_pos (by simp;omega)]
   congr 1
   refine congrArg (λo=>((V:Int),(s.1,(s.2.1,s.2.2)),o,((j+1:Nat):Int))) ?_
   apply List.ext_getElem
   ·simp
   ·intro w h1 h2
    rw[List.getElem_set]
    simp only[List.getElem_map,List.getElem_range]
    by_cases e:u=w
    ·subst e
     rw[if_pos rfl,hpu,if_pos (by omega),Int.toNat_natCast]
    ·rw[if_neg e]
     have hne:BE s.2.1 w≠(j:Int):=λh=>by
      have hm:(w:Int)∈s.2.1:=by
       by_cases hm:(w:Int)∈s.2.1
       ·exact hm
       ·rw[CC hm]at h;omega
      obtain⟨i,hi,g1,g2⟩:=Cs hm
      have:i=j:=by omega
      subst this
      rw[hu]at g2;omega
     by_cases c:0<=BE s.2.1 w/\BE s.2.1 w<(j:Int)
     ·rw[if_pos c,if_pos (by omega)]
     ·rw[if_neg c,if_neg (by omega)]
  ·simp only[BI]
   rw[if_neg (by simp)]
   unfold CD
   congr 1
   refine List.map_congr_left λu _=>?_
   unfold CE
   by_cases hm:(u:Int)∈s.2.1
   ·obtain⟨i,hi,g1,_⟩:=Cs hm
    rw[g1,if_pos (by omega),if_neg (by omega)]
   ·rw[CC hm,if_neg (by omega),if_pos (by omega)]
end
end T
open Go Go.Va
namespace T
section
variable {a:Lin}
theorem Ca (h:DW a):Bj a=some (BT a):=by
 have:=Ei h
 unfold Di at this
 have e:Bj (a.1,(a.2.1,a.2.2))=Bj a:=rfl
 rw[e]at this
 cases hg:Bj a with
 |none=>rw[hg]at this;cases this
 |some b=>rw[hg]at this;exact this
theorem DB (h:BT a=true):pr4 a.1/\ ∃V:Nat,a.2.1=(V:Int)/\V<=8/\a.2.2.length<=8/\ ∀r∈a.2.2,Ak a.1 (V+1) r:=by
 unfold BT at h
 simp only[Bool.and_eq_true,decide_eq_true_eq,List.all_eq_true]at h
 obtain⟨⟨⟨h1,h2⟩,h3⟩,h4⟩:=h
 refine⟨by unfold Db at h1;simp at h1;unfold pr4;omega,a.2.1.toNat,by omega,by omega,h3,λr hr=>?_⟩
 obtain⟨g1,g2⟩:=h4 r hr
 unfold Cv at g2
 exact⟨by omega,λx hx=>by simpa using List.all_eq_true.1 g2 x hx⟩
theorem CN {p:Int} {W V:Nat} (hp:pr4 p) (hV:V<=W) (hW:W<=1000) {rows:List (List Int)} (hr: ∀r∈rows,Ak p W r) (hN:rows.length<=100000):B0 p (V:Int) rows=some (Ce p V (Ah p rows V)):=D3 hp hV hW hr hN
theorem Ex (h:DW a): ∃R:Int×Bool,AX a=some R/\Bn a=some R:=by
 obtain⟨p,v,rows⟩:=a
 unfold AX Bn
 rw[Bm h,Ca h]
 cases hg:BT (p,v,rows)with
 |false=>exact⟨_,rfl,rfl⟩
 |true=>
  obtain⟨hp,V,hv,hV,hN,hr⟩:=DB hg
  dsimp only at hp hv hN hr
  subst hv
  have hs:=Bs hp hr V (by omega)
  unfold Am BS
  have e1:=CN hp (show V<=V+1 by omega) (by omega) hr (by omega)
  have e2:=Bz hp (show V<=V+1 by omega) (by omega) hr (by omega)
  have e3:=Gu hp hr V (by omega)
  simp only[e1,e2,Option.bind_some,Bool.not_true,Bool.false_eq_true,if_false]
  generalize Ah p rows V=s at hs e3
  have e4:=EB hs (by omega) (by omega)
  have e5:=Fj hs (by omega) (by omega)
  have e5:Cc (s.1,(s.2.1,s.2.2)) (V:Int)=_:=e5
  have e6:=CB (p:=p) (V:=V) (s:=s) (by omega)
  have hpb:2<=p/\p<=7:=by unfold pr4 at hp;omega
  have e7:w64 ((V:Int)-(s.2.1.length:Int))=((Ai V s.2.1).length:Int):=by
   rw[AI (by omega) (by omega)];omega
  simp only[e4,e5,Option.bind_some]
  cases BV V s with
  |true=>exact⟨_,rfl,rfl⟩
  |false=>
   simp only[Bool.false_eq_true,if_false,e6,Option.bind_some,e7,DM (show 0<=p by omega) (show p<=8 by omega) (show(Ai V s.2.1).length<=20 by omega),EO (show 0<=p by omega) (show p<=8 by omega) (show(Ai V s.2.1).length<=20 by omega)]
   exact⟨_,rfl,rfl⟩
end
end T
set_option linter.unusedVariables false
open Go Go.Va
namespace T
def Bi:Nat->((Int×Int×(List (List Int)))×(Int×(Int×(List (List Int))))×(Unit×((List Int)×(List (List Int))))×(Int×(Int×(List (List Int))))×Int)->Option ((Int×(Int×(List (List Int))))×(Int×(Int×(List (List Int)))))
 |0,_=>none
 |n+1,(l,t2,w,out,i)=>
 if decide (i<(w.2.2.length:Int))then
 if inb i w.2.2 then
 if inb l.2.1 (gd w.2.2 i [])then
 if(gd (gd w.2.2 i []) l.2.1 0) !=0 then
 if inb i w.2.2 then
 if out.2.2.length+ [gd w.2.2 i []].length<=lim then
 Bi n ((l.1,(l.2.1,l.2.2)),(t2.1,(t2.2.1,t2.2.2)),((),(w.2.1,w.2.2)),(out.1,(out.2.1,out.2.2++ [gd w.2.2 i []])),w64 (i+1))
 else none
 else none
 else
 Bi n ((l.1,(l.2.1,l.2.2)),(t2.1,(t2.2.1,t2.2.2)),((),(w.2.1,w.2.2)),(out.1,(out.2.1,out.2.2)),w64 (i+1))
 else none
 else none
 else
 some ((t2.1,(t2.2.1,t2.2.2)),(out.1,(out.2.1,out.2.2)))
def CJ (l:Int×Int×(List (List Int))):Option ((Int×(Int×(List (List Int))))×Bool):=
 (Bj (l.1,(l.2.1,l.2.2))).bind λr1=>
 if !r1 then
 some ((0,(0,[])),false)
 else
 (BS (l.1,(l.2.1,l.2.2))).bind λr2=>
 (Bi Aa ((l.1,(l.2.1,l.2.2)),(0,(0,[])),((),(r2.2.1,r2.2.2)),(l.1,(l.2.1,r2.1)),0)).bind λs3=>
 some ((s3.2.1,(s3.2.2.1,s3.2.2.2)),true)
def Ba:Nat->((Bool×Int×Int×(List (List Int))×Int×(List Int))×(Int×(Int×(List (List Int))))×(Int×(Int×(List (List Int))))×(List (List Int))×Int×Int)->Option ((Int×(Int×(List (List Int))))×(Int×(Int×(List (List Int)))))
 |0,_=>none
 |n+1,(e,t2,l,t33,t34,t35)=>
 if decide (t35<t34)then
 if inb t35 t33 then
 if e.1=true then
 if inb e.2.2.1 (gd t33 t35 [])then
 if(gd (gd t33 t35 []) e.2.2.1 0) !=0 then
 (CO (gd t33 t35 [])).bind λr2=>
 if l.2.2.length+ [r2].length<=lim then
 Ba n (e,(t2.1,(t2.2.1,t2.2.2)),(l.1,(l.2.1,l.2.2++ [r2])),t33,t34,w64 (t35+1))
 else none
 else
 Ba n (e,(t2.1,(t2.2.1,t2.2.2)),(l.1,(l.2.1,l.2.2)),t33,t34,w64 (t35+1))
 else none
 else none
 else none
 else
 some ((t2.1,(t2.2.1,t2.2.2)),(l.1,(l.2.1,l.2.2)))
def C4 (e:Bool×Int×Int×(List (List Int))×Int×(List Int)):Option ((Int×(Int×(List (List Int))))):=
 if e.1=true then
 if e.1=true then
 if e.1=true then
 if e.1=true then
 if(0:Int)<=0/\0<=e.2.2.2.2.1/\e.2.2.2.2.1<=(e.2.2.2.1.length:Int)then
 (BZ ((e.2.2.2.1.take (Int.toNat e.2.2.2.2.1)).drop (Int.toNat 0))).bind λr1=>
 if e.1=true then
 if e.1=true then
 if(0:Int)<=e.2.2.2.2.1/\e.2.2.2.2.1<=(e.2.2.2.1.length:Int)/\(e.2.2.2.1.length:Int)<=(e.2.2.2.1.length:Int)then
 (Ba Aa (e,(0,(0,[])),(e.2.1,(e.2.2.1,r1)),(e.2.2.2.1.take (Int.toNat (e.2.2.2.1.length:Int))).drop (Int.toNat e.2.2.2.2.1),(((e.2.2.2.1.take (Int.toNat (e.2.2.2.1.length:Int))).drop (Int.toNat e.2.2.2.2.1)).length:Int),0)).bind λs2=>
 some (s2.2.1,(s2.2.2.1,s2.2.2.2))
 else none
 else none
 else none
 else none
 else none
 else none
 else none
 else none
def BX (l:Int×Int×(List (List Int))):Option ((Int×(Int×(List (List Int))))×Bool):=
 (Bp (l.1,(l.2.1,l.2.2))).bind λr1=>
 if !r1 then
 some ((0,(0,[])),false)
 else
 (Am (l.1,(l.2.1,l.2.2))).bind λr2=>
 (C4 r2).bind λr3=>
 some ((r3.1,(r3.2.1,r3.2.2)),true)
end T
open Go Go.Va
namespace T
section
variable {a:Lin} {p:Int} {W N V:Nat}
theorem Ek {α:Type} {q:α->Bool} {l:List α} {x:α}:(l++ [x]).filter q=l.filter q++(if q x then [x]else []):=by
 rw[List.filter_append];congr 1;cases h:q x<;>simp[h]
theorem Fl {s:ES} (hs:ESok p W N V s) (hV:V<W) (hN:N<=100000) (hW:W<=1000):C4 (Ce p V s)=some (p,((V:Int),s.1++s.2.2.filter (nzB V))):=by
 obtain⟨t,b,l⟩:=s
 have hn:=hs.n
 dsimp only at hn
 generalize hE:Ce p V (t,b,l)=E
 have h1:E.1=true:=by rw[←hE];rfl
 have h2:E.2.1=p:=by rw[←hE];rfl
 have h3:E.2.2.1=(V:Int):=by rw[←hE];rfl
 have h4:E.2.2.2.1=t++l:=by rw[←hE];rfl
 have h5:E.2.2.2.2.1=(t.length:Int):=by rw[←hE];rfl
 have e1:(((t++l).take (Int.toNat ((t++l).length:Int))).drop (Int.toNat (t.length:Int)))=l:=by rw[Int.toNat_natCast,Int.toNat_natCast,List.take_length];simp
 have e2:(((t++l).take (Int.toNat (t.length:Int))).drop (Int.toNat 0))=t:=by simp
 have l3:=BW l.length (λf (o:List (List Int)) i=>Ba f (E,(0,(0,[])),(p,((V:Int),o)),l,(l.length:Int),i)) (λk=>t++(l.take k).filter (nzB V)) (r:=some ((0,(0,[])),(p,((V:Int),t++l.filter (nzB V))))) (λf k hk=>?_) (λf=>?_) (n:=Aa) (by unfold Aa;omega)
 ·rw[List.take_zero,List.filter_nil,List.append_nil]at l3
  have l3:Ba Aa (E,(0,(0,[])),(p,((V:Int),t)),l,(l.length:Int),0)=_:=l3
  unfold C4
  simp only[h1,h2,h3,h4,h5,if_true,e1,e2]
  rw[if_pos ⟨by omega,by omega,by rw[List.length_append];omega⟩,D2 (by omega) λr h=>by have:=(hs.t r h).1;omega]
  simp only[Option.bind_some]
  rw[if_pos ⟨by omega,by rw[List.length_append];omega,by omega⟩,l3]
  rfl
 ·have hrk:=hs.l _ (List.getElem_mem hk)
  have hvl:V<l[k].length:=by rw[hrk.1];exact hV
  have hcl:CO l[k]=some l[k]:=by
   unfold CO
   rw[if_pos (by have:=hrk.1;simp;unfold lim;omega)];simp
  simp only[Ba,Ae,hk,AJ hk,h1,h3,hvl,BR,hcl,Option.bind_some,if_true,List.take_succ_eq_append_getElem hk,Ek,Ac (show k<4611686018427387904 by omega)]
  rw[if_pos (by simp;omega)]
  have hfl:=List.length_filter_le (nzB V) (l.take k)
  rw[List.length_take]at hfl
  have hnz:nzB V l[k]=(l[k].getD V 0 !=0):=rfl
  rw[hnz]
  by_cases hz:l[k].getD V 0=0
  ·rw[if_neg (by simpa using hz),if_neg (by simpa using hz),List.append_nil]
  ·rw[if_pos (by simpa using hz),if_pos (by simp only[List.length_append,List.length_singleton];unfold lim;omega),if_pos (by simpa using hz),List.append_assoc]
 ·simp only[Ba,List.take_length]
  rw[if_neg (by simp)]
theorem Fa {s:ES} (hs:ESok p W N V s) (hV:V<W) (hN:N<=100000) (rows:List (List Int)):Bi Aa ((p,((V:Int),rows)),(0,(0,[])),((),(s.2.1,s.2.2)),(p,((V:Int),s.1)),0)=some ((0,(0,[])),(p,((V:Int),s.1++s.2.2.filter (nzB V)))):=by
 obtain⟨t,b,l⟩:=s
 have hn:=hs.n
 dsimp only at hn⊢
 have l3:=BW l.length (λf (o:List (List Int)) i=>Bi f ((p,((V:Int),rows)),(0,(0,[])),((),(b,l)),(p,((V:Int),o)),i)) (λk=>t++(l.take k).filter (nzB V)) (r:=some ((0,(0,[])),(p,((V:Int),t++l.filter (nzB V))))) (λf k hk=>?_) (λf=>?_) (n:=Aa) (by unfold Aa;omega)
 ·rw[List.take_zero,List.filter_nil,List.append_nil]at l3
  exact l3
 ·have hrk:=hs.l _ (List.getElem_mem hk)
  have hvl:V<l[k].length:=by rw[hrk.1];exact hV
  simp only[Bi,Ae,hk,AJ hk,hvl,BR,if_true,List.take_succ_eq_append_getElem hk,Ek,Ac (show k<4611686018427387904 by omega)]
  rw[if_pos (by simp;omega)]
  have hfl:=List.length_filter_le (nzB V) (l.take k)
  rw[List.length_take]at hfl
  have hnz:nzB V l[k]=(l[k].getD V 0 !=0):=rfl
  rw[hnz]
  by_cases hz:l[k].getD V 0=0
  ·rw[if_neg (by simpa using hz),if_neg (by simpa using hz),List.append_nil]
  ·rw[if_pos (by simpa using hz),if_pos (by simp only[List.length_append,List.length_singleton];unfold lim;omega),if_pos (by simpa using hz),List.append_assoc]
 ·simp only[Bi,List.take_length]
  rw[if_neg (by simp)]
end
end T
set_option linter.unusedVariables false
open Go Go.Va
namespace T
def BB:Nat->(Int×Int×((List (List Int))×(List Int)×(List (List Int)))×(List (List Int))×(List Int)×Int×(List Int)×Int)->Option (Int×Int×((List (List Int))×(List Int)×(List (List Int)))×(List (List Int))×(List Int)×Int×(List Int))
 |0,_=>none
 |n+1,(p,vars,w,out,free,i,values,k)=>
 if decide (k<(w.2.1.length:Int))then
 if inb k w.2.1 then
 if inb k w.1 then
 if inb i free then
 if inb (gd free i 0) (gd w.1 k [])then
 if p≠0 then
 if inb (gd w.2.1 k 0) values then
 BB n (p,vars,(w.1,(w.2.1,w.2.2)),out,free,i,stt values (gd w.2.1 k 0) (Int.tmod (w64 (p-(gd (gd w.1 k []) (gd free i 0) 0))) p),w64 (k+1))
 else none
 else none
 else none
 else none
 else none
 else none
 else
 some (p,vars,(w.1,(w.2.1,w.2.2)),out,free,i,values)
def BA:Nat->(Int×Int×((List (List Int))×(List Int)×(List (List Int)))×(List (List Int))×(List Int)×Int)->Option ((List (List Int)))
 |0,_=>none
 |n+1,(p,vars,w,out,free,i)=>
 if decide (i<(free.length:Int))then
 if 0<=vars/\vars<=vars/\vars<=lim then
 if inb i free then
 if inb (gd free i 0) (List.replicate (Int.toNat vars) (0:Int))then
 (BB Aa (p,vars,(w.1,(w.2.1,w.2.2)),out,free,i,stt (List.replicate (Int.toNat vars) (0:Int)) (gd free i 0) 1,0)).bind λs2=>
 if s2.2.2.2.1.length+ [s2.2.2.2.2.2.2].length<=lim then
 BA n (s2.1,s2.2.1,(s2.2.2.1.1,(s2.2.2.1.2.1,s2.2.2.1.2.2)),s2.2.2.2.1++ [s2.2.2.2.2.2.2],s2.2.2.2.2.1,w64 (s2.2.2.2.2.2.1+1))
 else none
 else none
 else none
 else none
 else
 some out
def B3 (w:(List (List Int))×(List Int)×(List (List Int))) (p:Int) (vars:Int):Option ((List (List Int))):=
 (Cu (w.1,(w.2.1,w.2.2)) vars).bind λr1=>
 (BA Aa (p,vars,(w.1,(w.2.1,w.2.2)),[],r1,0)).bind λs2=>
 some s2
def Cg (l:Int×Int×(List (List Int))):Option ((List (List Int))×Bool):=
 (Bj (l.1,(l.2.1,l.2.2))).bind λr1=>
 if !r1 then
 some ([],false)
 else
 (BS (l.1,(l.2.1,l.2.2))).bind λr2=>
 (B3 (r2.1,(r2.2.1,r2.2.2)) l.1 l.2.1).bind λr3=>
 some (r3,true)
def BU:Nat->(Int×Int×(Int×(Int×((List (List Int))×(Int×(List Int)))))×Int×Int)->Option (Int×Int×(Int×(Int×((List (List Int))×(Int×(List Int)))))×Int×Int)
 |0,_=>none
 |n+1,(t0,t1,t7,t8,t9)=>
 if decide (t9<(t7.2.2.1.length:Int))then
 if inb t9 t7.2.2.1 then
 if inb t8 (gd t7.2.2.1 t9 [])then
 if(gd (gd t7.2.2.1 t9 []) t8 0)==0 then
 BU n (t0,t1,(t7.1,(t7.2.1,(t7.2.2.1,(t7.2.2.2.1,t7.2.2.2.2)))),t8,w64 (t9+1))
 else
 some (t0,t1,(t7.1,(t7.2.1,(t7.2.2.1,(t7.2.2.2.1,t7.2.2.2.2)))),t8,t9)
 else none
 else none
 else
 some (t0,t1,(t7.1,(t7.2.1,(t7.2.2.1,(t7.2.2.2.1,t7.2.2.2.2)))),t8,t9)
def BN:Nat->(Int×Int×Int×(Int×(Int×((List (List Int))×(Int×(List Int)))))×Int×Int×Int×Int)->Option (Int×Int×Int×(Int×(Int×((List (List Int))×(Int×(List Int)))))×Int)
 |0,_=>none
 |n+1,(row10,t0,t1,t7,t8,t11,t110,t111)=>
 if decide (t111<t110)then
 if inb t111 (gd t7.2.2.1 row10 [])then
 if t0≠0 then
 if inb t111 (gd t7.2.2.1 row10 [])then
 BN n (row10,t0,t1,(t7.1,(t7.2.1,(stt t7.2.2.1 row10 (stt (gd t7.2.2.1 row10 []) t111 (Int.tmod (w64 ((gd (gd t7.2.2.1 row10 []) t111 0)*t11)) t0)),(t7.2.2.2.1,t7.2.2.2.2)))),t8,t11,t110,w64 (t111+1))
 else none
 else none
 else none
 else
 some (row10,t0,t1,(t7.1,(t7.2.1,(t7.2.2.1,(t7.2.2.2.1,t7.2.2.2.2)))),t8)
def BO:Nat->(Int×Int×Unit×Int×Int×(Int×(Int×((List (List Int))×(Int×(List Int)))))×Int×Int×Int×Int×Int×Int)->Option (Int×Unit×Int×Int×(Int×(Int×((List (List Int))×(Int×(List Int)))))×Int×Int×Int)
 |0,_=>none
 |n+1,(row10,row14,al129,t0,t1,t7,t8,t15,t130,t131,t151,t152)=>
 if decide (t152<t151)then
 if inb t152 (gd t7.2.2.1 row14 [])then
 if inb t152 (gd t7.2.2.1 row10 [])then
 if t0≠0 then
 if inb t152 (gd t7.2.2.1 row14 [])then
 BO n (row10,row14,(),t0,t1,(t7.1,(t7.2.1,(stt t7.2.2.1 row14 (stt (gd t7.2.2.1 row14 []) t152 (Int.tmod (w64 ((gd (gd t7.2.2.1 row14 []) t152 0)+(w64 ((w64 (t0-t15))*(gd (gd t7.2.2.1 row10 []) t152 0))))) t0)),(t7.2.2.2.1,t7.2.2.2.2)))),t8,t15,t130,t131,t151,w64 (t152+1))
 else none
 else none
 else none
 else none
 else
 some (row10,(),t0,t1,(t7.1,(t7.2.1,(t7.2.2.1,(t7.2.2.2.1,t7.2.2.2.2)))),t8,t130,t131)
def Bb:Nat->(Int×Unit×Int×Int×(Int×(Int×((List (List Int))×(Int×(List Int)))))×Int×Int×Int)->Option (Int×Int×(Int×(Int×((List (List Int))×(Int×(List Int)))))×Int)
 |0,_=>none
 |n+1,(row10,al129,t0,t1,t7,t8,t130,t131)=>
 if decide (t131<t130)then
 if inb t131 t7.2.2.1 then
 if inb t8 (gd t7.2.2.1 t131 [])then
 if t131 !=t7.2.2.2.1 then
 if(gd (gd t7.2.2.1 t131 []) t8 0) !=0 then
 (BO Aa (row10,t131,(),t0,t1,(t7.1,(t7.2.1,(t7.2.2.1,(t7.2.2.2.1,t7.2.2.2.2)))),t8,gd (gd t7.2.2.1 t131 []) t8 0,t130,t131,((gd t7.2.2.1 t131 []).length:Int),0)).bind λs6=>
 Bb n (s6.1,(),s6.2.2.1,s6.2.2.2.1,(s6.2.2.2.2.1.1,(s6.2.2.2.2.1.2.1,(s6.2.2.2.2.1.2.2.1,(s6.2.2.2.2.1.2.2.2.1,s6.2.2.2.2.1.2.2.2.2)))),s6.2.2.2.2.2.1,s6.2.2.2.2.2.2.1,w64 (s6.2.2.2.2.2.2.2+1))
 else
 Bb n (row10,(),t0,t1,(t7.1,(t7.2.1,(t7.2.2.1,(t7.2.2.2.1,t7.2.2.2.2)))),t8,t130,w64 (t131+1))
 else
 Bb n (row10,(),t0,t1,(t7.1,(t7.2.1,(t7.2.2.1,(t7.2.2.2.1,t7.2.2.2.2)))),t8,t130,w64 (t131+1))
 else none
 else none
 else
 some (t0,t1,(t7.1,(t7.2.1,(t7.2.2.1,(t7.2.2.2.1,t7.2.2.2.2)))),t8)
def BD:Nat->(Int×Int×(Int×(Int×((List (List Int))×(Int×(List Int)))))×Int)->Option ((Int×(Int×((List (List Int))×(Int×(List Int))))))
 |0,_=>none
 |n+1,(t0,t1,t7,t8)=>
 if decide (t8<t1)then
 (BU Aa (t0,t1,(t7.1,(t7.2.1,(t7.2.2.1,(t7.2.2.2.1,t7.2.2.2.2)))),t8,t7.2.2.2.1)).bind λs3=>
 if s3.2.2.2.2==(s3.2.2.1.2.2.1.length:Int)then
 BD n (s3.1,s3.2.1,(s3.2.2.1.1,(s3.2.2.1.2.1,(s3.2.2.1.2.2.1,(s3.2.2.1.2.2.2.1,s3.2.2.1.2.2.2.2)))),w64 (s3.2.2.2.1+1))
 else
 if inb s3.2.2.2.2 s3.2.2.1.2.2.1 then
 if(0:Int)<=(w64 (s3.2.2.1.2.2.2.1+1))/\(w64 (s3.2.2.1.2.2.2.1+1))<=(w64 (s3.2.2.2.2+1))/\(w64 (s3.2.2.2.2+1))<=(s3.2.2.1.2.2.1.length:Int)then
 if(0:Int)<=s3.2.2.1.2.2.2.1/\s3.2.2.1.2.2.2.1<=s3.2.2.2.2/\s3.2.2.2.2<=(s3.2.2.1.2.2.1.length:Int)then
 if(w64 (s3.2.2.1.2.2.2.1+1))=s3.2.2.1.2.2.2.1+1/\(w64 (s3.2.2.2.2+1))=s3.2.2.2.2+1/\s3.2.2.2.2=s3.2.2.2.2 then
 if inb s3.2.2.1.2.2.2.1 (upL s3.2.2.1.2.2.1 (Int.toNat s3.2.2.1.2.2.2.1) (Int.toNat s3.2.2.2.2) [])then
 if s3.2.2.1.2.2.2.1=s3.2.2.1.2.2.2.1 then
 if inb s3.2.2.2.1 (gd (stt (upL s3.2.2.1.2.2.1 (Int.toNat s3.2.2.1.2.2.2.1) (Int.toNat s3.2.2.2.2) []) s3.2.2.1.2.2.2.1 (gd s3.2.2.1.2.2.1 s3.2.2.2.2 [])) s3.2.2.1.2.2.2.1 [])then
 (Cl (gd (gd (stt (upL s3.2.2.1.2.2.1 (Int.toNat s3.2.2.1.2.2.2.1) (Int.toNat s3.2.2.2.2) []) s3.2.2.1.2.2.2.1 (gd s3.2.2.1.2.2.1 s3.2.2.2.2 [])) s3.2.2.1.2.2.2.1 []) s3.2.2.2.1 0) s3.1).bind λr4=>
 (BN Aa (s3.2.2.1.2.2.2.1,s3.1,s3.2.1,(s3.2.2.1.1,(s3.2.2.1.2.1,(stt (upL s3.2.2.1.2.2.1 (Int.toNat s3.2.2.1.2.2.2.1) (Int.toNat s3.2.2.2.2) []) s3.2.2.1.2.2.2.1 (gd s3.2.2.1.2.2.1 s3.2.2.2.2 []),(s3.2.2.1.2.2.2.1,s3.2.2.1.2.2.2.2)))),s3.2.2.2.1,r4,((gd (stt (upL s3.2.2.1.2.2.1 (Int.toNat s3.2.2.1.2.2.2.1) (Int.toNat s3.2.2.2.2) []) s3.2.2.1.2.2.2.1 (gd s3.2.2.1.2.2.1 s3.2.2.2.2 [])) s3.2.2.1.2.2.2.1 []).length:Int),0)).bind λs5=>
 (Bb Aa (s5.1,(),s5.2.1,s5.2.2.1,(s5.2.2.2.1.1,(s5.2.2.2.1.2.1,(s5.2.2.2.1.2.2.1,(s5.2.2.2.1.2.2.2.1,s5.2.2.2.1.2.2.2.2)))),s5.2.2.2.2,(s5.2.2.2.1.2.2.1.length:Int),0)).bind λs6=>
 if inb s6.2.2.2 s6.2.2.1.2.2.2.2 then
 BD n (s6.1,s6.2.1,(s6.2.2.1.1,(s6.2.2.1.2.1,(s6.2.2.1.2.2.1,(w64 (s6.2.2.1.2.2.2.1+1),stt s6.2.2.1.2.2.2.2 s6.2.2.2 s6.2.2.1.2.2.2.1)))),w64 (s6.2.2.2+1))
 else none
 else none
 else none
 else none
 else none
 else none
 else none
 else none
 else
 some (t7.1,(t7.2.1,(t7.2.2.1,(t7.2.2.2.1,t7.2.2.2.2))))
def Cr (t0:Int) (t1:Int) (t2:List (List Int)):Option ((Int×(Int×((List (List Int))×(Int×(List Int)))))):=
 (BZ t2).bind λr1=>
 (Cj t1).bind λr2=>
 (BD Aa (t0,t1,(t0,(t1,(r1,(0,r2)))),0)).bind λs3=>
 some (s3.1,(s3.2.1,(s3.2.2.1,(s3.2.2.2.1,s3.2.2.2.2))))
def CG (l:Int×Int×(List (List Int))):Option ((Int×(Int×((List (List Int))×(Int×(List Int)))))):=
 (Cr l.1 l.2.1 l.2.2).bind λr1=>
 some (r1.1,(r1.2.1,(r1.2.2.1,(r1.2.2.2.1,r1.2.2.2.2))))
def Aw:Nat->(Unit×(Int×(Int×((List (List Int))×(Int×(List Int)))))×Int×Int)->Option ((Int×(Int×((List (List Int))×(Int×(List Int))))))
 |0,_=>none
 |n+1,(al12,e,t13,t14)=>
 if decide (t14<t13)then
 if inb t14 e.2.2.1 then
 if inb e.2.1 (gd e.2.2.1 t14 [])then
 Aw n ((),(e.1,(e.2.1,(stt e.2.2.1 t14 (stt (gd e.2.2.1 t14 []) e.2.1 0),(e.2.2.2.1,e.2.2.2.2)))),t13,w64 (t14+1))
 else none
 else none
 else
 some (e.1,(e.2.1,(e.2.2.1,(e.2.2.2.1,e.2.2.2.2))))
def AH:Nat->((Int×(Int×((List (List Int))×(Int×(List Int)))))×(List (List Int))×(List Int)×Int×Int)->Option ((Int×(Int×((List (List Int))×(Int×(List Int)))))×(List (List Int)))
 |0,_=>none
 |n+1,(e,list,free,t29,t30)=>
 if decide (t30<t29)then
 if 0<=(free.length:Int)/\(free.length:Int)<=(free.length:Int)/\(free.length:Int)<=lim then
 if inb t30 (List.replicate (Int.toNat (free.length:Int)) (0:Int))then
 (Bq (e.1,(e.2.1,(e.2.2.1,(e.2.2.2.1,e.2.2.2.2)))) (stt (List.replicate (Int.toNat (free.length:Int)) (0:Int)) t30 1)).bind λr3=>
 if list.length+ [r3.2].length<=lim then
 AH n ((r3.1.1,(r3.1.2.1,(r3.1.2.2.1,(r3.1.2.2.2.1,r3.1.2.2.2.2)))),list++ [r3.2],free,t29,w64 (t30+1))
 else none
 else none
 else none
 else
 some ((e.1,(e.2.1,(e.2.2.1,(e.2.2.2.1,e.2.2.2.2)))),list)
def BF (e:Int×(Int×((List (List Int))×(Int×(List Int))))):Option ((Int×(Int×((List (List Int))×(Int×(List Int)))))×(List (List Int))):=
 (Aw Aa ((),(e.1,(e.2.1,(e.2.2.1,(e.2.2.2.1,e.2.2.2.2)))),(e.2.2.1.length:Int),0)).bind λs1=>
 (AK (s1.1,(s1.2.1,(s1.2.2.1,(s1.2.2.2.1,s1.2.2.2.2))))).bind λr2=>
 (AH Aa ((r2.1.1,(r2.1.2.1,(r2.1.2.2.1,(r2.1.2.2.2.1,r2.1.2.2.2.2)))),[],r2.2,(r2.2.length:Int),0)).bind λs3=>
 some ((s3.1.1,(s3.1.2.1,(s3.1.2.2.1,(s3.1.2.2.2.1,s3.1.2.2.2.2)))),s3.2)
def Cd (l:Int×Int×(List (List Int))):Option ((List (List Int))×Bool):=
 (Bp (l.1,(l.2.1,l.2.2))).bind λr1=>
 if !r1 then
 some ([],false)
 else
 (CG (l.1,(l.2.1,l.2.2))).bind λr2=>
 (BF (r2.1,(r2.2.1,(r2.2.2.1,(r2.2.2.2.1,r2.2.2.2.2))))).bind λr3=>
 some (r3.2,true)
end T
open Go Go.Va
namespace T
theorem Gr: ∀n x,BU n x=AY n x
 |0,_=>rfl
 |n+1,x=>by obtain⟨t0,t1,t7,t8,t9⟩:=x;simp only[BU,AY,Gr n]
theorem FJ: ∀n x,BN n x=AQ n x
 |0,_=>rfl
 |n+1,x=>by obtain⟨a,t0,t1,t7,t8,t9,b,c⟩:=x;simp only[BN,AQ,FJ n]
theorem FL: ∀n x,BO n x=AR n x
 |0,_=>rfl
 |n+1,x=>by obtain⟨a,b,c,t0,t1,t7,t8,t9,d,e,f,g⟩:=x;simp only[BO,AR,FL n]
theorem FK: ∀n x,Bb n x=Az n x
 |0,_=>rfl
 |n+1,x=>by obtain⟨a,c,t0,t1,t7,t8,d,e⟩:=x;simp only[Bb,Az,FK n,FL]
theorem Gq: ∀n x,BD n x=AG n x
 |0,_=>rfl
 |n+1,x=>by obtain⟨t0,t1,t7,t8⟩:=x;simp only[BD,AG,Gq n,Gr,FJ,FK]
abbrev Bx:=Int×(Int×(List (List Int)×(Int×List Int)))
theorem Hs {p v:Int} {rows:List (List Int)} {q:Bx} (h:B0 p v rows=some (true,q)):Cr p v rows=some q:=by
 unfold B0 at h
 unfold Cr
 simp only[Gq]
 cases h1:BZ rows with
 |none=>rw[h1]at h;cases h
 |some r1=>
  cases h2:Cj v with
  |none=>rw[h1,h2]at h;cases h
  |some r2=>
   rw[h1,h2]at h
   simp only[Option.bind_some]at h⊢
   cases h3:AG Aa (p,v,(p,(v,(r1,(0,r2)))),0)with
   |none=>rw[h3]at h;cases h
   |some s3=>rw[h3]at h;simp only[Option.bind_some,Option.some.injEq,Prod.mk.injEq,true_and]at h⊢;exact h
theorem F6 {N:Nat} {b:List Int} {i j:Nat} (hi:i<(Ai N b).length) (hj:j<(Ai N b).length) (h:i≠j):(Ai N b)[i]≠(Ai N b)[j]:=by
 have hp:(Ai N b).Pairwise (· ≠ ·):=by
  unfold Ai
  rw[List.pairwise_map]
  refine List.Pairwise.imp (R:=λa b=>a<b) (λh=>by omega) (List.Pairwise.filter _ List.pairwise_lt_range)
 rcases Nat.lt_or_ge i j with h1|h1
 ·exact List.pairwise_iff_getElem.1 hp i j hi hj h1
 ·exact λe=>List.pairwise_iff_getElem.1 hp j i hj hi (by omega) e.symm
theorem EU {N:Nat} {b:List Int} {x:Int} (h:x∈Ai N b):x∉b:=by
 unfold Ai at h
 obtain⟨u,hu,rfl⟩:=List.mem_map.1 h
 have:=(List.mem_filter.1 hu).2
 simpa using this
section
variable {a:Lin} {p:Int} {W N V:Nat}
def CP (p:Int) (s:ES) (f u:Nat):Int:=if BE s.2.1 u<0 then(if u=f then 1 else 0)else Int.tmod (p-(s.1.getD (BE s.2.1 u).toNat []).getD f 0) p
def C2 (p:Int) (V:Nat) (s:ES) (f:Nat):List Int:=(List.range V).map (CP p s f)
def En (m i:Nat):List Int:=(List.replicate m (0:Int)).set i 1
theorem Fu {m i:Nat}:(En m i).length=m:=by simp[En]
theorem GS {m i k:Nat} (hk:k<m):(En m i).getD k 0=if k=i then 1 else 0:=by
 rw[Ab (by rw[Fu];exact hk)]
 unfold En
 rw[List.getElem_set]
 by_cases e:i=k
 ·rw[if_pos e,if_pos e.symm]
 ·rw[if_neg e,if_neg (λh=>e h.symm)];simp
def D9 (V:Nat) (R:List (List Int)):List (List Int):=R.map λr=>r.set V 0
def DS (p:Int) (V:Nat) (s:ES):Bx:=(p,((V:Int),(s.1++s.2.2,((s.1.length:Int),A9 V s.2.1))))
def CZ (p:Int) (V:Nat) (s:ES):Bx:=(p,((V:Int),(D9 V (s.1++s.2.2),((s.1.length:Int),A9 V s.2.1))))
theorem Hy {s:ES} (hs:ESok p W N V s) (hV:V<W) (hN:N<=100000):Aw Aa ((),DS p V s,((s.1++s.2.2).length:Int),0)=some (CZ p V s):=by
 have hn:=hs.n
 have hlen:(s.1++s.2.2).length=N:=by rw[List.length_append];exact hn
 have hrow: ∀k,k<(s.1++s.2.2).length->Ak p W ((s.1++s.2.2).getD k []):=λk hk=>by
  have hm:(s.1++s.2.2).getD k []∈s.1++s.2.2:=by rw[Ab hk];exact List.getElem_mem hk
  rcases List.mem_append.1 hm with h|h
  ·exact hs.t _ h
  ·exact hs.l _ h
 unfold DS CZ D9
 generalize s.1++s.2.2=R at*
 have:=BW R.length (λf o i=>Aw f ((),(p,((V:Int),(o,((s.1.length:Int),A9 V s.2.1)))),(R.length:Int),i)) (λk=>mix (λk=>(R.getD k []).set V 0) (λk=>R.getD k []) R.length k) (r:=some (p,((V:Int),(R.map λr=>r.set V 0,((s.1.length:Int),A9 V s.2.1))))) (λf k hk=>?_) (λf=>?_) (n:=Aa) (by unfold Aa;omega)
 ·rw[Dm rfl]at this;exact this
 ·have hml:(mix (λk=>(R.getD k []).set V 0) (λk=>R.getD k []) R.length k).length=R.length:=Cf
  have hin:k<(mix (λk=>(R.getD k []).set V 0) (λk=>R.getD k []) R.length k).length:=by omega
  have hg:(mix (λk=>(R.getD k []).set V 0) (λk=>R.getD k []) R.length k).getD k []=R.getD k []:=by rw[Dp hk,if_neg (by omega)]
  have hvl:V<(R.getD k []).length:=by rw[(hrow k hk).1];exact hV
  have hst:=C7 (nw:=λk=>(R.getD k []).set V 0) (old:=λk=>R.getD k []) hk
  simp only[Aw,Ae,hin,BR,hg,hvl,Bk,hst,if_true,Ac (show k<4611686018427387904 by omega)]
  rw[if_pos (by simp;omega)]
 ·simp only[Aw,CI]
  rw[if_neg (by simp),DX (λr:List Int=>r.set V 0)]
theorem Fk {q:Int×List (List Int)×Int} {b:List Int} (hV:V<=1000):AK (p,(q.1,(q.2.1,(q.2.2,A9 V b))))=some ((p,(q.1,(q.2.1,(q.2.2,A9 V b)))),Ai V b):=by
 unfold AK
 have:=BW V (λf o i=>Aq f ((),(p,(q.1,(q.2.1,(q.2.2,A9 V b)))),o,(V:Int),i)) (λk=>Ai k b) (r:=some ((p,(q.1,(q.2.1,(q.2.2,A9 V b)))),Ai V b)) (λf k hk=>?_) (λf=>?_) (n:=Aa) (by unfold Aa;omega)
 ·have this:Aq Aa ((),(p,(q.1,(q.2.1,(q.2.2,A9 V b)))),[],(V:Int),0)=_:=this
  dsimp only
  rw[BM,this];rfl
 ·have hl:k<(A9 V b).length:=by rw[BM];exact hk
  have hle:=BJ (N:=k) (b:=b)
  simp only[Aq,Ae,hl,BR,Dy hk,if_true,Ac (show k<4611686018427387904 by omega),C9]
  rw[if_pos (by simp;omega)]
  by_cases hm:(k:Int)∈b
  ·rw[if_neg (by rw[decide_eq_true_iff,Bt];exact λh=>h hm),if_pos hm,List.append_nil]
  ·rw[if_pos (by rw[decide_eq_true_iff,Bt];exact hm),if_neg hm,if_pos (by simp;unfold lim;omega)]
 ·simp only[Aq]
  rw[if_neg (by simp)]
theorem Hb (hp:pr4 p) {s:ES} (hs:ESok p W N V s) (hV:V<W) (hN:N<=100000) (hW:W<=1000) {i f:Nat} (hi:i<(Ai V s.2.1).length) (hf:(Ai V s.2.1)[i]=(f:Int)):Bq (CZ p V s) (En (Ai V s.2.1).length i)=some (CZ p V s,C2 p V s f):=by
 have hp0:p≠0:=by unfold pr4 at hp;omega
 have hpb:2<=p/\p<=7:=by unfold pr4 at hp;omega
 obtain⟨t,b,l⟩:=s
 have hn:=hs.n
 have hbl:=hs.bl
 dsimp only at hn hbl hi hf⊢
 have hFl:(Ai V b).length<=V:=BJ
 have hFm: ∀k (hk:k<(Ai V b).length),∃u:Nat,u<V/\(Ai V b)[k]=(u:Int):=λk hk=>C8 (b:=b) (List.getElem_mem hk)
 have hFi: ∀k (hk:k<(Ai V b).length),k≠i->(Ai V b)[k]≠(f:Int):=λk hk e=>by rw[←hf];exact F6 hk hi e
 have hfV:f<V:=by obtain⟨u,h1,h2⟩:=hFm i hi;omega
 have hfr:AK (CZ p V (t,b,l))=some (CZ p V (t,b,l),Ai V b):=Fk (q:=((V:Int),(D9 V (t++l),(t.length:Int)))) (by omega)
 generalize Ai V b=F at*
 have hzl:(D9 V (t++l)).length=t.length+l.length:=by simp[D9]
 have hzg: ∀k,k<t.length->(D9 V (t++l)).getD k []=(t.getD k []).set V 0:=λk hk=>by
  rw[Ab (by omega),Ab hk]
  unfold D9
  rw[List.getElem_map,List.getElem_append_left hk]
 unfold CZ at*
 dsimp only at*
 generalize hZ:D9 V (t++l)=Z at*
 have hul:(En F.length i).length=F.length:=Fu
 have hug: ∀k,k<F.length->(En F.length i).getD k 0=if k=i then 1 else 0:=λk hk=>GS hk
 generalize En F.length i=U at*
 have l4:=BW F.length (λf' o j=>AB f' ((),(p,((V:Int),(Z,((t.length:Int),A9 V b)))),U,o,F,(F.length:Int),j)) (λk=>(List.range V).map λu=>if i<k/\u=f then(1:Int)else 0) (r:=some ((p,((V:Int),(Z,((t.length:Int),A9 V b)))),U,(List.range V).map λu=>if u=f then(1:Int)else 0,F)) (λf' k hk=>?_) (λf'=>?_) (n:=Aa) (by unfold Aa;omega)
 ·have e0:((List.range V).map λu=>if i<0/\u=f then(1:Int)else 0)=List.replicate V (0:Int):=by
   apply List.ext_getElem
   ·simp
   ·intro j _ _;simp
  rw[e0]at l4
  have l4:AB Aa ((),(p,((V:Int),(Z,((t.length:Int),A9 V b)))),U,List.replicate V (0:Int),F,(F.length:Int),0)=_:=l4
  have l14: ∀(out:List Int) (v q:Nat),q<t.length->Ax Aa ((),(),(p,((V:Int),(Z,((t.length:Int),A9 V b)))),U,out,F,(v:Int),(q:Int),0,(V:Int),(v:Int),(F.length:Int),0)=some ((),(p,((V:Int),(Z,((t.length:Int),A9 V b)))),U,out,F,(v:Int),p-(t.getD q []).getD f 0,(V:Int),(v:Int)):=by
   intro out v q hq
   have hrow:Ak p W (t.getD q []):=by rw[Ab hq];exact hs.t _ (List.getElem_mem hq)
   have hx:=Be hrow (show f<W by omega)
   have key:=BW F.length (λf' x j=>Ax f' ((),(),(p,((V:Int),(Z,((t.length:Int),A9 V b)))),U,out,F,(v:Int),(q:Int),x,(V:Int),(v:Int),(F.length:Int),j)) (λk=>if i<k then p-(t.getD q []).getD f 0 else 0) (r:=some ((),(p,((V:Int),(Z,((t.length:Int),A9 V b)))),U,out,F,(v:Int),p-(t.getD q []).getD f 0,(V:Int),(v:Int))) (λf' k hk=>?_) (λf'=>?_) (n:=Aa) (by unfold Aa;omega)
   ·rw[if_neg (by omega)]at key;exact key
   ·obtain⟨u,hu,e⟩:=hFm k hk
    have hqz:q<Z.length:=by omega
    have hul2:u<(Z.getD q []).length:=by rw[hzg q hq,List.length_set,hrow.1];omega
    have hgu:(Z.getD q []).getD u 0=(t.getD q []).getD u 0:=by
     rw[hzg q hq,List.getD_eq_getElem?_getD,List.getElem?_set_ne (by omega),←List.getD_eq_getElem?_getD]
    have hku:k<U.length:=by omega
    have hxu:=Be hrow (show u<W by omega)
    simp only[Ax,Ae,hk,AJ hk,e,hqz,hul2,hku,BR,hgu,hug k hk,if_true,Ac (show k<4611686018427387904 by omega)]
    rw[if_pos (by simp;omega)]
    congr 1
    by_cases c:k=i
    ·have huf:u=f:=by subst c;omega
     subst huf
     rw[if_neg (show¬i<k by omega),if_pos c,if_pos (show i<k+1 by omega),Int.mul_one,AI (x:=p-(t.getD q []).getD u 0) (by omega) (by omega),AI (x:=p-(t.getD q []).getD u 0) (by omega) (by omega),Int.zero_add,AI (x:=p-(t.getD q []).getD u 0) (by omega) (by omega)]
    ·rw[if_neg c,Int.mul_zero,AI (x:=0) (by omega) (by omega),Int.add_zero]
     by_cases c2:i<k
     ·rw[if_pos c2,if_pos (show i<k+1 by omega),AI (x:=p-(t.getD q []).getD f 0) (by omega) (by omega)]
     ·rw[if_neg c2,if_neg (show¬i<k+1 by omega),AI (x:=0) (by omega) (by omega)]
   ·simp only[Ax]
    rw[if_neg (by simp),if_pos hi]
  have l9:=BW V (λf' (o:List Int) j=>Ar f' ((),(p,((V:Int),(Z,((t.length:Int),A9 V b)))),U,o,F,(V:Int),j)) (λv=>mix (CP p (t,b,l) f) (λu=>if u=f then 1 else 0) V v) (r:=some ((p,((V:Int),(Z,((t.length:Int),A9 V b)))),C2 p V (t,b,l) f)) (λf' v hv=>?_) (λf'=>?_) (n:=Aa) (by unfold Aa;omega)
  ·have e1:mix (CP p (t,b,l) f) (λu=>if u=f then 1 else 0) V 0=(List.range V).map λu=>if u=f then(1:Int)else 0:=by
    unfold mix;refine List.map_congr_left λq _=>?_;rw[if_neg (by omega)]
   rw[e1]at l9
   have l9:Ar Aa ((),(p,((V:Int),(Z,((t.length:Int),A9 V b)))),U,(List.range V).map λu=>if u=f then(1:Int)else 0,F,(V:Int),0)=_:=l9
   unfold Bq
   rw[if_pos (by unfold lim;dsimp only;omega),hfr]
   simp only[Option.bind_some,Int.toNat_natCast,l4,BM,l9]
  ·have hvl:v<(A9 V b).length:=by rw[BM];exact hv
   simp only[Ar,Ae,hvl,BR,Dy hv,if_true]
   rw[if_pos (by simp;omega)]
   by_cases hm:(v:Int)∈b
   ·obtain⟨q,hq,g1,_⟩:=Cs hm
    have hqt:q<t.length:=by omega
    have hqz:q<Z.length:=by omega
    have hrow:Ak p W (t.getD q []):=by rw[Ab hqt];exact hs.t _ (List.getElem_mem hqt)
    have hVl:V<(Z.getD q []).length:=by rw[hzg q hqt,List.length_set,hrow.1];exact hV
    have hV0:(Z.getD q []).getD V 0=0:=by
     rw[hzg q hqt,List.getD_eq_getElem?_getD,List.getElem?_set_self (by rw[hrow.1];exact hV)];rfl
    have hml:v<(mix (CP p (t,b,l) f) (λu=>if u=f then 1 else 0) V v).length:=by rw[Cf];exact hv
    have hsv:CP p (t,b,l) f v=Int.tmod (p-(t.getD q []).getD f 0) p:=by
     unfold CP;dsimp only;rw[g1,if_neg (by omega),Int.toNat_natCast]
    have hst:=C7 (nw:=CP p (t,b,l) f) (old:=λu=>if u=f then(1:Int)else 0) hv
    rw[hsv]at hst
    rw[g1,if_neg (by simp)]
    simp only[Ae,hqz,BR,hVl,if_true,hV0]
    rw[l14 _ v q hqt]
    simp only[Option.bind_some,Ae,hml,if_true,Bk,Ac (show v<4611686018427387904 by omega)]
    rw[if_pos hp0,hst]
   ·rw[if_pos (by rw[decide_eq_true_iff,Bt];exact hm),D4 hv (by unfold CP;dsimp only;rw[if_pos (Bt.2 hm)]),Ac (show v<4611686018427387904 by omega)]
  ·simp only[Ar,CI]
   rw[if_neg (by simp)];rfl
 ·obtain⟨u,hu,e⟩:=hFm k hk
  have hku:k<U.length:=by omega
  have hu2:u<((List.range V).map λu=>if i<k/\u=f then(1:Int)else 0).length:=by simp;omega
  simp only[AB,Ae,hk,AJ hk,e,hku,hu2,BR,hug k hk,Bk,if_true,Ac (show k<4611686018427387904 by omega)]
  rw[if_pos (by simp;omega)]
  congr 1
  refine congrArg (λo=>((),(p,((V:Int),(Z,((t.length:Int),A9 V b)))),U,o,F,(F.length:Int),((k+1:Nat):Int))) ?_
  apply List.ext_getElem
  ·simp
  ·intro w h1 h2
   rw[List.getElem_set]
   simp only[List.getElem_map,List.getElem_range]
   by_cases c:k=i
   ·have huf:u=f:=by subst c;omega
    subst huf
    rw[if_pos c]
    by_cases cw:u=w
    ·rw[if_pos cw,if_pos ⟨by omega,cw.symm⟩]
    ·rw[if_neg cw,if_neg (λh=>cw h.2.symm),if_neg (λh=>cw h.2.symm)]
   ·have hne:=hFi k hk c
    rw[if_neg c]
    by_cases cw:u=w
    ·rw[if_pos cw,if_neg (λh=>by omega)]
    ·rw[if_neg cw]
     by_cases c2:i<k/\w=f
     ·rw[if_pos c2,if_pos ⟨by omega,c2.2⟩]
     ·rw[if_neg c2,if_neg (λh=>c2 ⟨by omega,h.2⟩)]
 ·simp only[AB]
  rw[if_neg (by simp)]
  congr 1
  refine congrArg (λo=>((p,((V:Int),(Z,((t.length:Int),A9 V b)))),U,o,F)) ?_
  refine List.map_congr_left λu _=>?_
  by_cases c:u=f
  ·rw[if_pos ⟨hi,c⟩,if_pos c]
  ·rw[if_neg (λh=>c h.2),if_neg c]
end
end T
