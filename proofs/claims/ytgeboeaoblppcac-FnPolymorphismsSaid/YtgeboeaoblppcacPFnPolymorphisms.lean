/- Plain lemmas on the typed functions of the program, and the plain law of FnPolymorphisms; no conditions. -/
import Derived.Test.YtgeboeaoblppcacV1
import Derived.Test.YtgeboeaoblppcacV5
import Derived.KernelRfl
import Derived.Test.YtgeboeaoblppcacOFnPolymorphisms
set_option linter.all false
open Go Go.Va
namespace T
theorem Gy (rec): ∀f x,Af rec f x=gL rec f x
 |0,_=>rfl
 |f+1,(a,b,c,d,e,g,x)=>by simp only[Af,gL,Gy rec f]
def GV (t:List Int) (s:List Opn×Int):Option ((List Opn×Int)×Bool):=(Co t s.1 s.2).bind λr=>some ((r.1,r.2.1),r.2.2)
theorem HM: ∀d x,An d x=gF GV d x
 |0,_=>rfl
 |d+1,(a,t,(s1,s2),ps,g,u)=>by
  have e:An d=gF GV d:=funext λx=>HM d x
  simp only[An,gF,FR,Bb,Gy,e]
  split
  ·unfold GV;cases Co t s1 s2<;>rfl
  ·congr 1;funext z;cases z<;>rfl
theorem Gx (rec): ∀f x,Ab rec f x=gL rec f x
 |0,_=>rfl
 |f+1,(a,b,c,d,e,g,x)=>by simp only[Ab,gL,Gx rec f]
abbrev FpS:=Unit×(Int×(Opn×Bool))
def Ho (t:List Int) (s:FpS):Option (FpS×Bool):=(Cn t s.1 s.2.1 s.2.2.1 s.2.2.2).bind λr=>some (((),(r.1,(r.2.1,r.2.2.1))),r.2.2.2)
theorem HL: ∀d x,Aj d x=gF Ho d x
 |0,_=>rfl
 |d+1,(a,t,(s1,(s2,(s3,s4))),ps,g,u)=>by
  have e:Aj d=gF Ho d:=funext λx=>HL d x
  simp only[Aj,gF,FR,Ay,Gx,e]
  split
  ·unfold Ho;cases Cn t s1 s2 s3 s4<;>rfl
  ·congr 1;funext z;cases z<;>rfl
section
variable {n k:Nat} {rels:List Ba} {given:List Int}
theorem G6 {ok:List Int->Bool}: ∀(m:Nat) (pre:List Int),(C8 n given ok m pre).length<=n^m
 |0,pre=>by simp[C8]
 |m+1,pre=>by
  simp only[C8]
  have key: ∀(l:List Nat),(l.flatMap λx=>if Dq given pre.length x&&ok (pre++ [(x:Int)])then C8 n given ok m (pre++ [(x:Int)])else []).length<=l.length*n^m:=by
   intro l
   induction l with
   |nil=>simp
   |cons x l ih=>
    rw[List.flatMap_cons,List.length_append,List.length_cons,Nat.succ_mul]
    have:(if Dq given pre.length x&&ok (pre++ [(x:Int)])then C8 n given ok m (pre++ [(x:Int)])else []).length<=n^m:=by
     split
     ·exact G6 m _
     ·simp
    omega
  have:=key (List.range n)
  rw[List.length_range]at this
  rw[Nat.pow_succ,Nat.mul_comm]
  exact this
theorem G7 {ok:List Int->Bool}: ∀(m:Nat) (pre t:List Int),t∈C8 n given ok m pre->t.length=pre.length+m/\((∀x∈pre,0<=x/\x<(n:Int))-> ∀x∈t,0<=x/\x<(n:Int))
 |0,pre,t,h=>by simp only[C8,List.mem_singleton]at h;subst h;exact⟨rfl,λh=>h⟩
 |m+1,pre,t,h=>by
  simp only[C8,List.mem_flatMap]at h
  obtain⟨x,hx,h⟩:=h
  have hx:=List.mem_range.1 hx
  split at h
  ·obtain⟨h1,h2⟩:=G7 m _ t h
   refine⟨by rw[h1];simp;omega,λhp=>h2 λy hy=>?_⟩
   rcases List.mem_append.1 hy with h3|h3
   ·exact hp y h3
   ·rw[List.mem_singleton.1 h3];omega
  ·simp at h
def Yik (n k:Nat) (rels:List Ba) (given:List Int):List (List Int):=C8 n given (okB n k rels) (n^k) []
theorem D5 {t:List Int} (h:t∈Yik n k rels given):t.length=n^k/\ ∀x∈t,0<=x/\x<(n:Int):=by
 obtain⟨h1,h2⟩:=G7 _ _ _ h
 exact⟨by rw[h1];simp,h2 λx hx=>by simp at hx⟩
theorem Gn:(Yik n k rels given).length<=n^n^k:=G6 _ _
theorem DO {most:Int} (h1:most≠1): ∀(l:List (List Int)) (f:List (List Int)) (c:Int),Bs sCb l (f,c,most)=some ((f++l.take (most-f.length).toNat,c+l.length,most),true)
 | [],f,c=>by simp[Bs]
 |t::l,f,c=>by
  have hns: ∀(f':List (List Int)) (c':Int),Dk (f',c',most)=false:=λf' c'=>by unfold Dk;simp[h1]
  simp only[Bs,sCb,hns,Bool.not_false]
  rw[DO h1 l]
  by_cases hc:(f.length:Int)<most
  ·rw[if_pos (by simpa using hc)]
   have e1:(most-(f.length:Int)).toNat=(most-((f++ [t]).length:Int)).toNat+1:=by rw[List.length_append,List.length_singleton];omega
   rw[e1,List.take_succ_cons]
   simp;omega
  ·rw[if_neg (by simpa using hc)]
   have e1:(most-(f.length:Int)).toNat=0:=by omega
   rw[e1];simp;omega
theorem Hn (l:List (List Int)):Bs sCb l ([],0,1)=some (match l with| []=>(([],0,1),true)|t::_=>(([t],1,1),false)):=by
 cases l with
 |nil=>rfl
 |cons t l=>rfl
theorem CR (h:RelsOk n k rels) (hg:given.length=n^k) (hz:n^n^k<=4611686018427387904) {most:Int} (hm:most<=1000000):
  ∃s b,Bs sCb (Yik n k rels given) ([],0,most)=some (s,b)/\BV (n:Int) rels (k:Int) given most=some s:=by
 obtain⟨⟨s,b⟩,hf⟩:=EV (Yik n k rels given) ([],0,most)
 refine⟨s,b,hf,?_⟩
 have:=Js h hg (n^k) Aa [] ([],0,most) (by simp) (by have:=Bv (n:=n) (k:=k) h.hn.2 h.hk.2;unfold Aa;omega) (by unfold Dk;simp) (by simp) hm (by have:=Gn (n:=n) (k:=k) (rels:=rels) (given:=given);unfold Yik at this;simp;omega) s b hf
 unfold BV
 rw[E4 h]
 simp only[Option.bind_some,this]
theorem F9 (h:RelsOk n k rels) (hg:given.length=n^k) {σ:Type} (cb:List Int->σ->Option (σ×Bool)) {s s':σ} {b:Bool} (hf:Bs cb (Yik n k rels given) s=some (s',b)):
  ∃r:HC σ,gF cb Aa (0,List.replicate (Int.toNat (given.length:Int)) (0:Int),s,(true,(n:Int),(k:Int),C7 n k rels),given,())=some r/\r.2.1=s':=by
 have hp:=Bv (n:=n) (k:=k) h.hn.2 h.hk.2
 obtain⟨tab',h1,h2,h3,h4⟩:=Jr h hg cb (n^k) Aa 0 (List.replicate (Int.toNat (given.length:Int)) (0:Int)) s (by omega) (by unfold Aa;omega) (by rw[List.length_replicate,hg,Int.toNat_natCast]) (λx hx=>by rw[(List.mem_replicate.1 hx).2];omega) s' b hf
 exact⟨_,h4,rfl⟩
theorem HP {k:Int}: ∀(l:List (List Int)) (f:List Opn),(∀t∈l,t.length<=1000)->f.length<=300-> ∃s b,Bs GV l (f,k)=some (s,b)/\(f.length+l.length<=300->s=(f++l.map λt=>(k,t),k))/\(300<f.length+l.length->300<s.1.length)
 | [],f,_,hf=>⟨(f,k),true,rfl,λ_=>by simp,λh=>by simp at h;omega⟩
 |t::l,f,ht,hf=>by
  have hcl:CY t=some t:=by
   unfold CY
   have:=ht t (by simp)
   rw[if_pos (by simp;unfold lim;omega)];simp
  have hcb:GV t (f,k)=some ((f++ [(k,t)],k),decide (((f++ [(k,t)]).length:Int)<=300)):=by
   unfold GV Co
   simp only[hcl,Option.bind_some]
   rw[if_pos (by rw[List.length_singleton];unfold lim;omega)];rfl
  simp only[Bs,hcb]
  by_cases hc:f.length+1<=300
  ·rw[decide_eq_true (by simp;omega)]
   obtain⟨s,b,h1,h2,h3⟩:=HP l (f++ [(k,t)]) (λt ht'=>ht t (List.mem_cons_of_mem _ ht')) (by simp;omega)
   refine⟨s,b,h1,λh=>?_,λh=>h3 (by simp at h⊢;omega)⟩
   rw[h2 (by simp at h⊢;omega)];simp
  ·rw[decide_eq_false (by simp;omega)]
   refine⟨_,_,rfl,λh=>?_,λh=>?_⟩
   ·simp at h;omega
   ·show 300<(f++ [(k,t)]).length
    simp;omega
def Et (k:Nat) (l:List (List Int)):List Opn×Bool:=if l.length<=300 then(l.map λt=>((k:Int),t),true)else([],false)
theorem EJ (h:RelsOk n k rels) (hg:given.length=n^k):CQ (n:Int) rels (k:Int) given=some (Et k (Yik n k rels given)):=by
 have hp:=Bv (n:=n) (k:=k) h.hn.2 h.hk.2
 obtain⟨s,b,h1,h2,h3⟩:=HP (k:=(k:Int)) (Yik n k rels given) [] (λt ht=>by rw[(D5 ht).1];omega) (by simp)
 obtain⟨r,h4,h5⟩:=F9 h hg GV h1
 unfold CQ Bt
 rw[Cm h]
 simp only[Option.bind_some,HM,h4]
 rw[if_pos (by unfold lim;omega)]
 simp only[Option.bind_some,h5]
 unfold Et
 by_cases hc:(Yik n k rels given).length<=300
 ·have:=h2 (by simpa using hc)
  rw[this,if_pos hc,if_neg (by simp;omega)];simp
 ·have:=h3 (by simp;omega)
  rw[if_pos (by simp;omega),if_neg hc]
theorem FD {l:List (List Int)} (hl:l.length<=1000) (ht: ∀t∈l,t.length<=1000):Dz (k:Int) l=some (l.map λt=>((k:Int),t)):=by
 unfold Dz
 have:=CX l.length (λf o i=>B8 f ((k:Int),l,o,i)) (λq=>(l.take q).map λt=>((k:Int),t)) (r:=some (l.map λt=>((k:Int),t))) (λf q hq=>?_) (λf=>?_) (n:=Aa) (by unfold Aa;omega)
 ·have this:B8 Aa ((k:Int),l,[],0)=_:=this
  rw[this];rfl
 ·have:=ht _ (List.getElem_mem hq)
  have e:(l.take (q+1)).map (λt=>((k:Int),t))=(l.take q).map (λt=>((k:Int),t))++ [((k:Int),l[q])]:=by rw[List.take_succ_eq_append_getElem hq,List.map_append];rfl
  simp only[B8,Ai,hq,Ap hq,Ck (show l[q].length<=1099511627775 by omega),Option.bind_some,e,if_true,Ag (show q<4611686018427387904 by omega)]
  rw[if_pos (by simp;omega),if_pos (by simp;unfold lim;omega)]
 ·simp only[B8,List.take_length]
  rw[if_neg (by simp)]
theorem Gl (h:RelsOk n k rels) (hg:given.length=n^k) (hz:n^n^k<=4611686018427387904): ∃s:SS,BV (n:Int) rels (k:Int) given 300=some s/\s.2.1=((Yik n k rels given).length:Int)/\((Yik n k rels given).length<=300->s.1=Yik n k rels given):=by
 obtain⟨s,b,h1,h2⟩:=CR h hg hz (most:=300) (by omega)
 rw[DO (by omega)]at h1
 have:=(Option.some.inj h1).symm
 simp only[Prod.mk.injEq]at this
 obtain⟨rfl,rfl⟩:=this
 exact⟨_,h2,by simp,λh=>by
  show []++(Yik n k rels given).take _=_
  rw[List.nil_append,List.take_of_length_le (by simp;omega)]⟩
def DB (k:Nat) (l:List (List Int)):Opn×Bool:=match l with| []=>((0,[]),false)|t::_=>(((k:Int),t),true)
theorem EI (h:RelsOk n k rels) (hg:given.length=n^k):Bf (n:Int) rels (k:Int) given ()=some (DB k (Yik n k rels given)):=by
 have hp:=Bv (n:=n) (k:=k) h.hn.2 h.hk.2
 have hf: ∃s b,Bs Ho (Yik n k rels given) ((),((k:Int),((0,[]),false)))=some (s,b)/\s=((),((k:Int),((DB k (Yik n k rels given)).1,(DB k (Yik n k rels given)).2))):=by
  have hlen: ∀t∈Yik n k rels given,t.length<=1000:=λt ht=>by rw[(D5 ht).1];omega
  generalize Yik n k rels given=l at hlen
  cases l with
  |nil=>exact⟨_,_,rfl,rfl⟩
  |cons t l=>
   have hcl:CY t=some t:=by
    unfold CY
    have:=hlen t (by simp)
    rw[if_pos (by simp;unfold lim;omega)];simp
   simp only[Bs,Ho,Cn,hcl,E6,Option.bind_some]
   exact⟨_,_,rfl,rfl⟩
 obtain⟨s,b,h1,h2⟩:=hf
 obtain⟨r,h4,h5⟩:=F9 h hg Ho h1
 unfold Bf AR
 rw[Cm h]
 simp only[Option.bind_some,HL,h4]
 rw[if_pos (by unfold lim;omega)]
 simp only[Option.bind_some,h5,h2]
theorem GL (h:RelsOk n k rels) (hg:given.length=n^k) (hz:n^n^k<=4611686018427387904): ∃s:SS,BV (n:Int) rels (k:Int) given 1=some s/\(match Yik n k rels given with| []=>s.2.1=0|t::_=>s.2.1=1/\s.1= [t]):=by
 obtain⟨s,b,h1,h2⟩:=CR h hg hz (most:=1) (by omega)
 rw[Hn]at h1
 refine⟨s,h2,?_⟩
 cases hc:Yik n k rels given with
 |nil=>rw[hc]at h1;simp at h1;rw[←h1.1]
 |cons t l=>rw[hc]at h1;simp at h1;rw[←h1.1];exact⟨rfl,rfl⟩
end
end T
open Go Go.Va
namespace T
def Dr (a:List Ba):Prop:=a.length<=1048576/\ ∀r∈a,Ii r.2
def I8 (l:List Opn):Prop:=l.length<=1000/\ ∀f∈l,f.2.length<=1000
def CA (n:Int) (rels:List Ba):Bool:=decide (1<=n/\n<=4)&&decide (rels.length<=4)&&rels.all (D3 n)
def Er (k:Int) (rels:List Ba):Bool:=rels.all λr=>!(k==3&&decide ((r.2.length:Int)>12))
theorem BJ {n k:Int} {rels:List Ba} (h:Dr rels):CK n rels k=some (CA n rels&&Er k rels):=by
 have hl:=h.1
 unfold CK Di DZ CA
 by_cases h1:1<=n/\n<=4
 ·rw[if_pos (by simp;omega)]
  simp only[Option.bind_some]
  rw[if_neg (by simp;omega)]
  by_cases h2:rels.length<=4
  ·rw[if_neg (by simp;omega)]
   have e1:=EU rels (λf i=>BK f (n,rels,(rels.length:Int),i)) (D3 n) (.inr false) (.inl ()) (λf i hi=>by
    have:=h.2 _ (List.getElem_mem hi)
    simp only[BK,Ai,hi,Ap hi,EC (r:=(rels[i].1,rels[i].2)) this,Option.bind_some,Ag (show i<4611686018427387904 by omega)]
    rw[if_pos (by simp;omega)]
    cases D3 n rels[i]<;>simp) (λf=>by simp[BK]) (n:=Aa) (by unfold Aa;omega)
   have e2:=EU rels (λf i=>B3 f (k,rels,(rels.length:Int),i)) (λr=>!(k==3&&decide ((r.2.length:Int)>12))) (.inr false) (.inl ()) (λf i hi=>by
    simp only[B3,Ai,hi,Ap hi,Ag (show i<4611686018427387904 by omega)]
    rw[if_pos (by simp;omega)]
    by_cases c1:k=3
    ·by_cases c2:(rels[i].2.length:Int)>12
     ·simp[c1,c2]
     ·simp[c1,c2]
    ·simp[c1]) (λf=>by simp[B3]) (n:=Aa) (by unfold Aa;omega)
   rw[e1]
   unfold Er
   cases hr:rels.all (D3 n)with
   |false=>simp
   |true=>
    simp only[Option.bind_some,if_true,Bool.not_true,Bool.false_eq_true,if_false]
    rw[e2]
    cases rels.all λr=>!(k==3&&decide ((r.2.length:Int)>12))<;>simp[h1,h2]
  ·rw[if_pos (by simp;omega)]
   simp[h2]
 ·by_cases h2:n≥1
  ·rw[if_pos (by simpa using h2)]
   have: ¬n<=4:=by omega
   simp[this]
  ·rw[if_neg (by simpa using h2)]
   have: ¬1<=n:=by omega
   simp[this]
theorem DK {n k:Int} {rels:List Ba} (h:Dr rels):C4 n rels k=some (CA n rels&&decide (1<=k/\k<=3)&&Er k rels):=by
 have hl:=h.1
 unfold C4 Dm CT CA
 rw[BB,BB]
 by_cases h1:1<=n/\n<=4
 ·simp only[Option.bind_some]
  rw[if_neg (by simp;omega)]
  by_cases h2:rels.length<=4
  ·rw[if_neg (by simp;omega)]
   have e1:=EU rels (λf i=>Bi f (n,rels,i)) (D3 n) (.inr false) (.inl ()) (λf i hi=>by
    have:=h.2 _ (List.getElem_mem hi)
    simp only[Bi,Ai,hi,Ap hi,D0 (n:=n) this (by omega),Option.bind_some,Ag (show i<4611686018427387904 by omega)]
    rw[if_pos (by simp;omega)]
    cases D3 n rels[i]<;>simp) (λf=>by simp[Bi]) (n:=Aa) (by unfold Aa;omega)
   have e2:=EU rels (λf i=>BH f (rels,k,i)) (λr=>!(k==3&&decide ((r.2.length:Int)>12))) (.inr false) (.inl ()) (λf i hi=>by
    simp only[BH,Ai,hi,Ap hi,Ag (show i<4611686018427387904 by omega)]
    rw[if_pos (by simp;omega)]
    by_cases c1:k=3
    ·by_cases c2:(rels[i].2.length:Int)>12
     ·simp[c1,c2]
     ·simp[c1,c2]
    ·simp[c1]) (λf=>by simp[BH]) (n:=Aa) (by unfold Aa;omega)
   rw[e1]
   unfold Er
   cases hr:rels.all (D3 n)with
   |false=>simp
   |true=>
    simp only[Option.bind_some,if_true,Bool.not_true,Bool.false_eq_true,if_false]
    rw[e2]
    by_cases hk:1<=k/\k<=3
    ·rw[if_neg (by simp;omega)]
     cases rels.all λr=>!(k==3&&decide ((r.2.length:Int)>12))<;>simp[h1,h2,hk]
    ·rw[if_pos (by simp;omega)];simp[hk]
  ·rw[if_pos (by simp;omega)]
   simp[h2]
 ·simp[h1]
theorem Dn {n:Int} {rels:List Ba} (h:CA n rels=true):(1<=n/\n<=4)/\rels.length<=4/\ ∀r∈rels,ROk n.toNat r.1.toNat r:=by
 unfold CA at h
 simp only[Bool.and_eq_true,decide_eq_true_eq,List.all_eq_true]at h
 obtain⟨⟨h1,h2⟩,h3⟩:=h
 refine⟨h1,h2,λr hr=>Jb (by omega) ?_⟩
 rw[Int.toNat_of_nonneg (by omega)];exact h3 r hr
theorem Gi {n:Int} {rels:List Ba} {k:Nat} (h:CA n rels=true) (hk:1<=k/\k<=3):RelsOk n.toNat k rels:=by
 obtain⟨h1,h2,h3⟩:=Dn h
 exact⟨by omega,hk,by omega,h3⟩
def BO (n:Int) (rels:List Ba) (k:Int):Bool:=CA n rels&&Er k rels&&(decide (1<=k/\k<=3)&&decide (n.toNat^k.toNat<=9))
theorem CZ {n k:Int} {rels:List Ba} (h:Dr rels):CE n rels k=some (BO n rels k):=by
 unfold CE BO
 rw[DK h]
 simp only[Option.bind_some]
 cases ht:CA n rels with
 |false=>simp
 |true=>
  obtain⟨h1,_⟩:=Dn ht
  by_cases hk:1<=k/\k<=3
  ·have e:=Cd (b:=n.toNat) (k:=k.toNat) (by omega) (by omega)
   rw[Int.toNat_of_nonneg (by omega),Int.toNat_of_nonneg (by omega)]at e
   have h9:(((n.toNat^k.toNat:Nat):Int)<=9)↔n.toNat^k.toNat<=9:=by omega
   rw[decide_eq_true hk,Bool.true_and,Bool.true_and,Bool.true_and]
   cases Er k rels with
   |false=>simp
   |true=>
    rw[if_pos rfl,e]
    simp only[Option.bind_some,decide_eq_decide.2 h9,Bool.true_and]
  ·simp[hk]
theorem BC {n k:Int} (h1:1<=n/\n<=4):B4 n k=some (decide (1<=k/\k<=3)&&decide (n.toNat^k.toNat<=9)):=by
 unfold B4
 by_cases hk:1<=k/\k<=3
 ·have e:=Cb (b:=n.toNat) (k:=k.toNat) (by omega) (by omega)
  rw[Int.toNat_of_nonneg (by omega),Int.toNat_of_nonneg (by omega)]at e
  have h9:(((n.toNat^k.toNat:Nat):Int)<=9)↔n.toNat^k.toNat<=9:=by omega
  rw[decide_eq_true hk,Bool.true_and,if_pos (by simp;omega),if_pos (by simp;omega),e]
  simp only[Option.bind_some,decide_eq_decide.2 h9]
 ·by_cases h2:k≥1
  ·rw[if_pos (by simpa using h2),if_neg (by simp;omega)];simp[hk]
  ·rw[if_neg (by simpa using h2)];simp[hk]
theorem Fo {N:Nat} (h:N<=1000):CP (N:Int)=some (List.replicate N (-1)):=by
 unfold CP
 rw[Int.toNat_natCast,if_pos (by unfold lim;omega)]
 have:=CX N (λf o i=>Bu f (o,((List.replicate N (0:Int)).length:Int),i)) (λj=>List.replicate j (-1)++List.replicate (N-j) (0:Int)) (r:=some (List.replicate N (-1))) (λf j hj=>?_) (λf=>?_) (n:=Aa) (by unfold Aa;omega)
 ·have this:Bu Aa (List.replicate N (0:Int),((List.replicate N (0:Int)).length:Int),0)=_:=this
  rw[this];rfl
 ·have hin:j<(List.replicate j (-1)++List.replicate (N-j) (0:Int)).length:=by simp;omega
  have e:(List.replicate j (-1)++List.replicate (N-j) (0:Int)).set j (-1)=List.replicate (j+1) (-1)++List.replicate (N-(j+1)) (0:Int):=by
   rw[show N-j=(N-(j+1))+1 by omega,List.replicate_succ,List.set_append_right _ _ (by simp),List.replicate_succ']
   simp
  simp only[Bu,Ai,hin,CH,e,if_true,Ag (show j<4611686018427387904 by omega)]
  rw[if_pos (by simp;omega)]
 ·simp only[Bu]
  rw[if_neg (by simp)];simp
theorem Fq {N:Nat} (h:N<=1000):CS (N:Int)=some (List.replicate N (-1)):=by
 unfold CS
 have:=CX N (λf o i=>BR f ((N:Int),o,i)) (λj=>List.replicate j (-1)) (r:=some (List.replicate N (-1))) (λf j hj=>?_) (λf=>?_) (n:=Aa) (by unfold Aa;omega)
 ·have this:BR Aa ((N:Int),[],0)=_:=this
  rw[this];rfl
 ·simp only[BR,List.replicate_succ',Ag (show j<4611686018427387904 by omega)]
  rw[if_pos (by simp;omega),if_pos (by simp;unfold lim;omega)]
 ·simp only[BR]
  rw[if_neg (by simp)]
theorem FC {n k:Nat} (hn:1<=n/\n<=4) (hz:n^k<=9):n^n^k<=4611686018427387904:=by
 have h1:n^n^k<=4^n^k:=Nat.pow_le_pow_left hn.2 _
 have h2:4^n^k<=4^9:=Nat.pow_le_pow_right (by omega) hz
 have:(4:Nat)^9=262144:=by decide
 omega
end T
open Go Go.Va
namespace T
section
variable {n k:Int} {rels:List Ba}
theorem HZ {n k:Nat} {l:List (List Int)} (h: ∀t∈l,t.length<=1000):I8 (Et k l).1:=by
 unfold Et
 split
 ·refine⟨by simp;omega,λf hf=>?_⟩
  obtain⟨t,ht,rfl⟩:=List.mem_map.1 hf
  exact h t ht
 ·exact⟨by simp,λf hf=>by simp at hf⟩
theorem FX {n k:Nat} {rels:List Ba} {given:List Int} (h:RelsOk n k rels) (hg:given.length=n^k) (h9:n^k<=9):
  CQ (n:Int) rels (k:Int) given=some (Et k (Yik n k rels given))/\
  ((BV (n:Int) rels (k:Int) given 300).bind λr4=>if decide (r4.2.1>300)then some ([],false)else(Dz (k:Int) r4.1).bind λr5=>some (r5,true))=some (Et k (Yik n k rels given))/\I8 (Et k (Yik n k rels given)).1:=by
 have hlen: ∀t∈Yik n k rels given,t.length<=1000:=λt ht=>by rw[(D5 ht).1];omega
 obtain⟨s,h1,h2,h3⟩:=Gl h hg (FC h.hn h9)
 refine⟨EJ h hg,?_,HZ (n:=n) hlen⟩
 rw[h1]
 simp only[Option.bind_some,h2]
 unfold Et
 by_cases hc:(Yik n k rels given).length<=300
 ·rw[if_neg (by simp;omega),if_pos hc,h3 hc,FD (by omega) hlen];rfl
 ·rw[if_pos (by simp;omega),if_neg hc]
theorem Em {n k:Int} (hn:1<=n/\n<=4) (hk:1<=k/\k<=3):Bd n k=some ((n.toNat^k.toNat:Nat):Int)/\AS n k=some ((n.toNat^k.toNat:Nat):Int):=by
 have e1:=Cb (b:=n.toNat) (k:=k.toNat) (by omega) (by omega)
 have e2:=Cd (b:=n.toNat) (k:=k.toNat) (by omega) (by omega)
 rw[Int.toNat_of_nonneg (by omega),Int.toNat_of_nonneg (by omega)]at e1 e2
 exact⟨e1,e2⟩
theorem CC (h:BO n rels k=true):(1<=n/\n<=4)/\(1<=k/\k<=3)/\n.toNat^k.toNat<=9/\RelsOk n.toNat k.toNat rels:=by
 unfold BO at h
 simp only[Bool.and_eq_true,decide_eq_true_eq]at h
 obtain⟨⟨h1,_⟩,h2,h3⟩:=h
 exact⟨(Dn h1).1,h2,h3,Gi h1 (by omega)⟩
theorem Ew (h:Dr rels): ∃R:List Opn×Bool,AQ n rels k=some R/\Cs n rels k=some R/\I8 R.1:=by
 unfold AQ Cs
 rw[BJ h,CZ h]
 cases hb:BO n rels k with
 |false=>
  refine⟨([],false),?_,by simp,by simp,λf hf=>by simp at hf⟩
  cases hc:CA n rels&&Er k rels with
  |false=>simp
  |true=>
   unfold BO at hb
   rw[hc,Bool.true_and]at hb
   rw[Bool.and_eq_true]at hc
   simp only[Option.bind_some,Bool.not_true,Bool.false_eq_true,if_false,BC (k:=k) (Dn hc.1).1,hb]
   rfl
 |true=>
  obtain⟨hn,hk,h9,hR⟩:=CC hb
  have hb':=hb
  unfold BO at hb'
  simp only[Bool.and_eq_true]at hb'
  obtain⟨⟨ht,hf⟩,hr⟩:=hb'
  obtain⟨p1,p2⟩:=Em hn hk
  obtain⟨q1,q2,q3⟩:=FX hR (given:=List.replicate (n.toNat^k.toNat) (-1)) (by simp) h9
  rw[Int.toNat_of_nonneg (by omega),Int.toNat_of_nonneg (by omega)]at q1 q2
  refine⟨_,?_,?_,q3⟩
  ·rw[ht,hf]
   simp only[Option.bind_some,Bool.and_self,Bool.not_true,Bool.false_eq_true,if_false,BC (k:=k) hn,hr.1,hr.2,p1,Fo (show n.toNat^k.toNat<=1000 by omega),q1]
  ·simp only[Option.bind_some,Bool.not_true,Bool.false_eq_true,if_false,p2,Fq (show n.toNat^k.toNat<=1000 by omega),q2]
end
end T
open Go Go.Va
namespace T
section
variable {n k:Int} {rels:List Ba}
theorem Hk {k:Nat} {l:List (List Int)} (h: ∀t∈l,t.length<=1000):(DB k l).1.2.length<=1000:=by
 unfold DB
 cases l with
 |nil=>simp
 |cons t l=>exact h t (by simp)
theorem H8 {n k:Nat} {rels:List Ba} {given:List Int} (h:RelsOk n k rels) (hg:given.length=n^k) (h9:n^n^k<=4611686018427387904):
  Bf (n:Int) rels (k:Int) given ()=some (DB k (Yik n k rels given))/\
  ((BV (n:Int) rels (k:Int) given 1).bind λr6=>if r6.2.1==0 then some ((0,[]),false)else if inb 0 r6.1 then some (((k:Int),gd r6.1 0 []),true)else none)=some (DB k (Yik n k rels given))/\(DB k (Yik n k rels given)).1.2.length<=1000:=by
 have hp:=Bv h.hn.2 h.hk.2
 have hlen: ∀t∈Yik n k rels given,t.length<=1000:=λt ht=>by rw[(D5 ht).1];omega
 obtain⟨s,h1,h2⟩:=GL h hg h9
 refine⟨EI h hg,?_,Hk hlen⟩
 rw[h1]
 simp only[Option.bind_some]
 cases hc:Yik n k rels given with
 |nil=>rw[hc]at h2;rw[if_pos (by simp[h2])];rfl
 |cons t l=>
  rw[hc]at h2
  obtain⟨h3,h4⟩:=h2
  have hi:inb (0:Int) [t]:=⟨by omega,by simp⟩
  rw[if_neg (by simp[h3]),h4,if_pos hi];rfl
end
end T
open Go Go.Va
namespace T
section
variable {n:Int} {rels:List Ba}
end
def Fa (V:List Int) (x:Nat):Int:=match V.findIdx? (λy=>y==(x:Int))with|some i=>(i:Int)|none=> -1
section
variable {n:Nat} {t:List Int}
end
section
variable {n m:Nat} {t:List Int} {r:Ba} {rels:List Ba}
end
end T
open Go Go.Va
namespace T
section
variable {α:Type} {nw old:Nat->α} {N i:Nat}
end
def pr4 (p:Int):Prop:=p=2∨p=3∨p=5∨p=7
def Ha (p:Int) (W:Nat) (r:List Int):Prop:=r.length=W/\ ∀x∈r,0<=x/\x<p
section
variable {p:Int} {W:Nat} {r row:List Int}
theorem I7 (h:Ha p W r) {i:Nat} (hi:i<W):0<=r.getD i 0/\r.getD i 0<p:=by
 have:i<r.length:=by rw[h.1];exact hi
 rw[Ah this];exact h.2 _ (List.getElem_mem this)
end
abbrev ES:=List (List Int)×List Int×List (List Int)
structure ESok (p:Int) (W N v:Nat) (s:ES):Prop where
 t: ∀r∈s.1,Ha p W r
 l: ∀r∈s.2.2,Ha p W r
 bl:s.2.1.length=s.1.length
 n:s.1.length+s.2.2.length=N
 bv: ∀x∈s.2.1,0<=x/\x<(v:Int)
 bn:s.2.1.Nodup
section
variable {p:Int} {W N:Nat}
end
end T
open Go Go.Va
namespace T
section
variable {p:Int} {W N V:Nat}
theorem Hv {b:List Int} {u:Nat} (h:(u:Int)∉b):Fa b u= -1:=by
 unfold Fa
 have h1:(b.findIdx? λy=>y==(u:Int))=none:=by
  rw[List.findIdx?_eq_none_iff]
  intro y hy
  simp only[beq_eq_false_iff_ne]
  intro e;exact h (e▸hy)
 rw[h1]
theorem Hd {b:List Int} {u:Nat} (h:(u:Int)∈b): ∃i,∃hi:i<b.length,Fa b u=(i:Int)/\b[i]=(u:Int):=by
 unfold Fa
 have h1:(b.findIdx? λy=>y==(u:Int)).isSome=true:=by
  rw[List.findIdx?_isSome,List.any_eq_true]
  exact⟨_,h,by simp⟩
 obtain⟨i,hi⟩:=Option.isSome_iff_exists.1 h1
 rw[hi]
 obtain⟨g1,g2,_⟩:=List.findIdx?_eq_some_iff_getElem.1 hi
 exact⟨i,g1,rfl,by simpa using g2⟩
end
end T
open Go Go.Va
namespace T
def Jq (N:Nat) (b:List Int):List Int:=((List.range N).filter λv:Nat=>!decide ((v:Int)∈b)).map λv:Nat=>(v:Int)
section
variable {p:Int} {W N V:Nat}
theorem Ia {b:List Int} {u:Nat}:Fa b u<0↔(u:Int)∉b:=by
 by_cases h:(u:Int)∈b
 ·obtain⟨i,hi,h1,_⟩:=Hd h
  rw[h1];simp[h]
 ·rw[Hv h];simp[h]
def Ij (V:Nat) (s:ES) (u:Nat):Int:=if Fa s.2.1 u<0 then 0 else(s.1.getD (Fa s.2.1 u).toNat []).getD V 0
def JA (V:Nat) (s:ES):List Int:=(List.range V).map (Ij V s)
end
end T
open Go Go.Va
namespace T
def cg (p a b:Int):Prop:= ∃k,a=b+p*k
section
variable {p a b c d:Int}
theorem G4 (h:a=b):cg p a b:=⟨0,by rw[h];simp⟩
theorem IT (h:cg p a b) (g:cg p c d):cg p (a+c) (b+d):=by obtain⟨k,h⟩:=h;obtain⟨m,g⟩:=g;exact⟨k+m,by grind⟩
theorem IU (x:Int) (h:cg p a b):cg p (x*a) (x*b):=by obtain⟨k,h⟩:=h;exact⟨x*k,by grind⟩
end
inductive Sp (p:Int) (V:Nat) (A:List (List Int)):(Nat->Int)->Prop
 |zero:Sp p V A λ_=>0
 |add {f:Nat->Int} (r:List Int) (c:Int):r∈A->Sp p V A f->Sp p V A λi=>f i+c*r.getD i 0
 |cgr {f g:Nat->Int}:Sp p V A f->(∀i,i<V->cg p (g i) (f i))->Sp p V A g
section
variable {p:Int} {V W N:Nat} {A B:List (List Int)} {f g:Nat->Int}
theorem Sp.lin (hf:Sp p V A f) (hg:Sp p V A g) (c:Int):Sp p V A λi=>f i+c*g i:=by
 induction hg with
 |zero=>exact hf.cgr λi _=>G4 (by simp)
 |add r d hr _ ih=>exact(ih.add r (c*d) hr).cgr λi _=>G4 (by grind)
 |cgr _ h ih=>exact ih.cgr λi hi=>IT (G4 rfl) (IU c (h i hi))
theorem Sp.mem {r:List Int} (h:r∈A):Sp p V A λi=>r.getD i 0:=(Sp.add r 1 h .zero).cgr λi _=>G4 (by simp)
theorem Sp.sub (h: ∀r∈A,Sp p V B λi=>r.getD i 0) (hf:Sp p V A f):Sp p V B f:=by
 induction hf with
 |zero=>exact .zero
 |add r c hr _ ih=>exact ih.lin (h r hr) c
 |cgr _ h ih=>exact ih.cgr h
def eqSp (p:Int) (V:Nat) (A B:List (List Int)):Prop:= ∀f,Sp p V A f↔Sp p V B f
theorem Ix (h: ∀r∈A,Sp p V B λi=>r.getD i 0) (g: ∀r∈B,Sp p V A λi=>r.getD i 0):eqSp p V A B:=λ_=>⟨Sp.sub h,Sp.sub g⟩
end
end T
open Go Go.Va
namespace T
section
variable {p:Int} {V W N:Nat} {A B:List (List Int)} {f g:Nat->Int}
theorem Fs {α:Type} {l:List α} {i:Nat} {d:α} (hi:i<l.length):l.getD i d∈l:=by rw[Ah hi];exact List.getElem_mem hi
end
end T
open Go Go.Va
namespace T
section
variable {p:Int} {V W N:Nat} {A B C D:List (List Int)} {f g:Nat->Int}
theorem eqSp.symm (h:eqSp p V A B):eqSp p V B A:=λf=>(h f).symm
theorem eqSp.trans (h:eqSp p V A B) (g:eqSp p V B C):eqSp p V A C:=λf=>(h f).trans (g f)
theorem eqSp.app (h:eqSp p V A B):eqSp p V (A++C) (B++C):=by
 have key: ∀ {A B:List (List Int)},eqSp p V A B-> ∀r∈A++C,Sp p V (B++C) λi=>r.getD i 0:=fun {A B} h r hr=>by
  rcases List.mem_append.1 hr with hr|hr
  ·exact Sp.sub (λq hq=>Sp.mem (List.mem_append_left _ hq)) ((h _).1 (Sp.mem hr))
  ·exact Sp.mem (List.mem_append_right _ hr)
 exact Ix (key h) (key h.symm)
end
end T
open Go Go.Va
namespace T
def i64 (x:Int):Prop:= -9223372036854775808<=x/\x<=9223372036854775807
section
variable {c:List Int} {ar:Int}
end
end T
open Go Go.Va
namespace T
abbrev NS:=Bool×Int×List (List (List Int))×List (List (List ByteArray))
abbrev NIn (σ:Type):=Int×List Int×σ×NS×List Int×Unit
abbrev Il (σ:Type):=List Int×σ×NS×List Int×Bool
def hM {σ:Type}:Nat->(Int×List Int×σ×NS×List Int×Unit×Int×Bool×List (List Int)×Int×Int)->Option (Int×List Int×σ×NS×List Int×Unit×Int×Bool)
 |0,_=>none
 |n+1,(t0,t1,t2,t3,t4,t5,t8,t9,t50,t51,t52)=>
 if decide (t52<t51)then
 if inb t52 t50 then
 if t9 then
 if t3.1=true then
 if inb t0 t3.2.2.2 then
 if inb t52 (gd t3.2.2.2 t0 [])then
 (CO (gd t50 t52 []) t1).bind λr2=>
 (Cr r2).bind λr3=>
 hM n (t0,t1,t2,t3,t4,(),t8,Xs (gd (gd t3.2.2.2 t0 []) t52 []) r3,t50,t51,w64 (t52+1))
 else none
 else none
 else none
 else
 hM n (t0,t1,t2,t3,t4,(),t8,false,t50,t51,w64 (t52+1))
 else none
 else
 some (t0,t1,t2,t3,t4,(),t8,t9)
def hL {σ:Type} (rec:NIn σ->Option (Il σ)):Nat->(Int×List Int×σ×NS×List Int×Unit×Int)->Option ((List Int×σ×NS×List Int×Unit)⊕(List Int×σ×NS×List Int×Unit×Bool))
 |0,_=>none
 |n+1,(t0,t1,t2,t3,t4,t5,t8)=>
 if t3.1=true then
 if decide (t8<t3.2.1)then
 if inb t0 t4 then
 if decide ((gd t4 t0 0)≥0)then
 if inb t0 t4 then
 if(gd t4 t0 0) !=t8 then
 hL rec n (t0,t1,t2,t3,t4,(),w64 (t8+1))
 else
 if inb t0 t1 then
 if t3.1=true then
 if inb t0 t3.2.2.1 then
 (hM Aa (t0,stt t1 t0 t8,t2,t3,t4,(),t8,true,gd t3.2.2.1 t0 [],((gd t3.2.2.1 t0 []).length:Int),0)).bind λs2=>
 if s2.2.2.2.2.2.2.2 then
 (rec (w64 (s2.1+1),s2.2.1,s2.2.2.1,s2.2.2.2.1,s2.2.2.2.2.1,())).bind λr3=>
 if !r3.2.2.2.2 then
 some (.inr (r3.1,r3.2.1,r3.2.2.1,r3.2.2.2.1,(),false))
 else
 hL rec n (s2.1,r3.1,r3.2.1,r3.2.2.1,r3.2.2.2.1,(),w64 (s2.2.2.2.2.2.2.1+1))
 else
 hL rec n (s2.1,s2.2.1,s2.2.2.1,s2.2.2.2.1,s2.2.2.2.2.1,(),w64 (s2.2.2.2.2.2.2.1+1))
 else none
 else none
 else none
 else none
 else
 if inb t0 t1 then
 if t3.1=true then
 if inb t0 t3.2.2.1 then
 (hM Aa (t0,stt t1 t0 t8,t2,t3,t4,(),t8,true,gd t3.2.2.1 t0 [],((gd t3.2.2.1 t0 []).length:Int),0)).bind λs4=>
 if s4.2.2.2.2.2.2.2 then
 (rec (w64 (s4.1+1),s4.2.1,s4.2.2.1,s4.2.2.2.1,s4.2.2.2.2.1,())).bind λr5=>
 if !r5.2.2.2.2 then
 some (.inr (r5.1,r5.2.1,r5.2.2.1,r5.2.2.2.1,(),false))
 else
 hL rec n (s4.1,r5.1,r5.2.1,r5.2.2.1,r5.2.2.2.1,(),w64 (s4.2.2.2.2.2.2.1+1))
 else
 hL rec n (s4.1,s4.2.1,s4.2.2.1,s4.2.2.2.1,s4.2.2.2.2.1,(),w64 (s4.2.2.2.2.2.2.1+1))
 else none
 else none
 else none
 else none
 else
 some (.inl (t1,t2,t3,t4,()))
 else none
def Jt {σ:Type} (cb:List Int->σ->Option (σ×Bool)) (rec:NIn σ->Option (Il σ)) (x:NIn σ):Option (Il σ):=
 if x.1==(x.2.1.length:Int)then
  (cb x.2.1 x.2.2.1).bind λr1=>some (x.2.1,r1.1,x.2.2.2.1,x.2.2.2.2.1,r1.2)
 else
  (hL rec Aa (x.1,x.2.1,x.2.2.1,x.2.2.2.1,x.2.2.2.2.1,(),0)).bind λs2=>
   match s2 with
   | .inl s3=>some (s3.1,s3.2.1,s3.2.2.1,s3.2.2.2.1,true)
   | .inr s4=>some (s4.1,s4.2.1,s4.2.2.1,s4.2.2.2.1,s4.2.2.2.2.2)
def hF {σ:Type} (cb:List Int->σ->Option (σ×Bool)):Nat->NIn σ->Option (Il σ)
 |0,_=>none
 |d+1,x=>Jt cb (hF cb d) x
section
variable {V n:Nat} {cs:List Con} {given:List Int}
end
end T
set_option linter.unusedVariables false
open Go Go.Va
namespace T
def BS (c:(List Int)×Int×Int):Option (((List Int)×Int×Int)×Int):=
 if decide (c.2.1<(c.1.length:Int))then
 if inb c.2.1 c.1 then
 if decide ((w64 (c.2.1+1))<=(c.1.length:Int))then
 some ((c.1,(w64 (c.2.1+1),IntKind.wrap .u64 ((IntKind.wrap .u64 ((IntKind.wrap .u64 (c.2.2*6364136223846793005))+(IntKind.wrap .u64 (w64 (gd c.1 c.2.1 0)))))+550289))),w64 (gd c.1 c.2.1 0))
 else
 if(0:Int)<=40 then
 some ((c.1,(w64 (c.2.1+1),IntKind.wrap .u64 ((IntKind.wrap .u64 ((IntKind.wrap .u64 (c.2.2*6364136223846793005))+(IntKind.wrap .u64 (w64 (gd c.1 c.2.1 0)))))+550289))),w64 (Yil .u64 (YiD .u64 (IntKind.wrap .u64 ((IntKind.wrap .u64 ((IntKind.wrap .u64 (c.2.2*6364136223846793005))+(IntKind.wrap .u64 (w64 (gd c.1 c.2.1 0)))))+550289)) 40) 255))
 else none
 else none
 else
 if decide ((w64 (c.2.1+1))<=(c.1.length:Int))then
 some ((c.1,(w64 (c.2.1+1),IntKind.wrap .u64 ((IntKind.wrap .u64 ((IntKind.wrap .u64 (c.2.2*6364136223846793005))+(IntKind.wrap .u64 (0))))+550289))),0)
 else
 if(0:Int)<=40 then
 some ((c.1,(w64 (c.2.1+1),IntKind.wrap .u64 ((IntKind.wrap .u64 ((IntKind.wrap .u64 (c.2.2*6364136223846793005))+(IntKind.wrap .u64 (0))))+550289))),w64 (Yil .u64 (YiD .u64 (IntKind.wrap .u64 ((IntKind.wrap .u64 ((IntKind.wrap .u64 (c.2.2*6364136223846793005))+(IntKind.wrap .u64 (0))))+550289)) 40) 255))
 else none
def Ae (c:(List Int)×Int×Int) (n_:Int):Option (((List Int)×Int×Int)×Int):=
 if decide (n_<=1)then
 some ((c.1,(c.2.1,c.2.2)),0)
 else
 (BS (c.1,(c.2.1,c.2.2))).bind λr1=>
 if decide (n_>200)then
 (BS (r1.1.1,(r1.1.2.1,r1.1.2.2))).bind λr2=>
 if n_≠0 then
 some ((r2.1.1,(r2.1.2.1,r2.1.2.2)),Int.tmod (w64 ((w64 (r1.2*256))+r2.2)) n_)
 else none
 else
 if n_≠0 then
 some ((r1.1.1,(r1.1.2.1,r1.1.2.2)),Int.tmod r1.2 n_)
 else none
def Ac (c:(List Int)×Int×Int) (list:List Int):Option (((List Int)×Int×Int)×Int):=
 (Ae (c.1,(c.2.1,c.2.2)) (list.length:Int)).bind λr1=>
 if inb r1.2 list then
 some ((r1.1.1,(r1.1.2.1,r1.1.2.2)),gd list r1.2 0)
 else none
def AA (c:(List Int)×Int×Int) (n_:Int):Option (((List Int)×Int×Int)×Bool):=
 (Ae (c.1,(c.2.1,c.2.2)) n_).bind λr1=>
 some ((r1.1.1,(r1.1.2.1,r1.1.2.2)),r1.2==0)
def DX (a:Int) (b:Int):Option (Int):=
 if decide (a<b)then
 some a
 else
 some b
end T
open Go Go.Va
namespace T
abbrev C6:=List Int×Int×Int
def Cur (k:Nat) (c:C6):Prop:=c.1.length<=65536/\(∀x∈c.1,0<=x/\x<256)/\0<=c.2.1/\c.2.1<=(k:Int)
theorem IQ (x:Int):0<=w64 (Yil .u64 x 255)/\w64 (Yil .u64 x 255)<256:=by
 have h1:(BitVec.ofInt 64 x&&&BitVec.ofInt 64 255).toNat<=255:=by
  rw[BitVec.toNat_and]
  have:(BitVec.ofInt 64 255).toNat=255:=by decide
  rw[this]
  exact Nat.and_le_right
 have h2:Yil .u64 x 255=((BitVec.ofInt 64 x&&&BitVec.ofInt 64 255).toNat:Int):=by
  unfold Yil
  have e: ∀n:Nat,n<=255->IntKind.wrap .u64 (n:Int)=(n:Int):=λn hn=>by
   simp[IntKind.wrap,IntKind.bits,IntKind.signed]
   omega
  exact e _ h1
 rw[h2,Ax (by omega) (by omega)]
 omega
theorem G9 {k:Nat} {c:C6} (h:Cur k c) (hk:k<=1000000000): ∃c' x,BS c=some (c',x)/\Cur (k+1) c'/\0<=x/\x<256:=by
 obtain⟨code,at',seed⟩:=c
 obtain⟨h1,h2,h3,h4⟩:=h
 dsimp only at h1 h2 h3 h4
 have hw:w64 (at'+1)=at'+1:=Ax (by omega) (by omega)
 have hC: ∀s,Cur (k+1) (code,(at'+1,s)):=λs=>⟨h1,h2,by dsimp only;omega,by dsimp only;omega⟩
 unfold BS
 simp only[hw]
 by_cases hc:at'<(code.length:Int)
 ·have hin:inb at' code:=⟨h3,hc⟩
  have hle:at'+1<=(code.length:Int):=by omega
  have hb:0<=gd code at' 0/\gd code at' 0<256:=by
   have:gd code at' 0=code.getD at'.toNat 0:=rfl
   rw[this,Ah (by omega)]
   exact h2 _ (List.getElem_mem _)
  rw[if_pos (decide_eq_true hc),if_pos hin,if_pos (decide_eq_true hle)]
  exact⟨_,_,rfl,hC _,by rw[Ax (by omega) (by omega)];exact hb⟩
 ·have hle: ¬at'+1<=(code.length:Int):=by omega
  rw[if_neg (by simpa using hc),if_neg (by simpa using hle),if_pos (by decide)]
  exact⟨_,_,rfl,hC _,IQ _⟩
theorem CG {k:Nat} {c:C6} (h:Cur k c) (hk:k<=100000000) (n:Int) (hn:n<=1000000): ∃c' x,Ae c n=some (c',x)/\Cur (k+2) c'/\0<=x/\(1<=n->x<n)/\(n<=1->x=0):=by
 have mono: ∀ {c:C6} {i j:Nat},i<=j->Cur i c->Cur j c:=λhij ⟨a,b,d,e⟩=>⟨a,b,d,by omega⟩
 unfold Ae
 by_cases h1:n<=1
 ·rw[if_pos (decide_eq_true h1)]
  exact⟨_,_,rfl,mono (by omega) h,by omega,λ_=>by omega,λ_=>rfl⟩
 ·rw[if_neg (by simpa using h1)]
  obtain⟨c1,x1,e1,g1,a1,b1⟩:=G9 h (by omega)
  have e1:BS (c.1,(c.2.1,c.2.2))=_:=e1
  simp only[e1,Option.bind_some]
  by_cases h2:n>200
  ·obtain⟨c2,x2,e2,g2,a2,b2⟩:=G9 g1 (by omega)
   have e2:BS (c1.1,(c1.2.1,c1.2.2))=_:=e2
   rw[if_pos (decide_eq_true h2)]
   simp only[e2,Option.bind_some]
   rw[if_pos (by omega)]
   have w1:w64 (x1*256)=x1*256:=Ax (by omega) (by omega)
   have w2:w64 (x1*256+x2)=x1*256+x2:=Ax (by omega) (by omega)
   refine⟨_,_,rfl,g2,?_,λ_=>?_,λh=>absurd h h1⟩
   ·rw[w1,w2,Int.tmod_eq_emod_of_nonneg (by omega)];exact Int.emod_nonneg _ (by omega)
   ·rw[w1,w2,Int.tmod_eq_emod_of_nonneg (by omega)];exact Int.emod_lt_of_pos _ (by omega)
  ·rw[if_neg (by simpa using h2),if_pos (by omega)]
   refine⟨_,_,rfl,mono (by omega) g1,?_,λ_=>?_,λh=>absurd h h1⟩
   ·rw[Int.tmod_eq_emod_of_nonneg a1];exact Int.emod_nonneg _ (by omega)
   ·rw[Int.tmod_eq_emod_of_nonneg a1];exact Int.emod_lt_of_pos _ (by omega)
theorem Dp {k:Nat} {c:C6} (h:Cur k c) (hk:k<=100000000) {l:List Int} (h0:0<l.length) (hl:l.length<=1000): ∃c' x,Ac c l=some (c',x)/\Cur (k+2) c'/\x∈l:=by
 obtain⟨c1,x1,e1,g1,a1,b1,_⟩:=CG h hk (l.length:Int) (by omega)
 have b1:=b1 (by omega)
 unfold Ac
 have e1:Ae (c.1,(c.2.1,c.2.2)) (l.length:Int)=_:=e1
 simp only[e1,Option.bind_some]
 have hin:inb x1 l:=⟨a1,b1⟩
 rw[if_pos hin]
 refine⟨_,_,rfl,g1,?_⟩
 have:gd l x1 0=l.getD x1.toNat 0:=rfl
 rw[this]
 exact Fs (by omega)
theorem Ge {k:Nat} {c:C6} (h:Cur k c) (hk:k<=100000000) (n:Int) (hn:n<=1000000): ∃c' x,AA c n=some (c',x)/\Cur (k+2) c':=by
 obtain⟨c1,x1,e1,g1,_⟩:=CG h hk n hn
 unfold AA
 have e1:Ae (c.1,(c.2.1,c.2.2)) n=_:=e1
 simp only[e1,Option.bind_some]
 exact⟨_,_,rfl,g1⟩
theorem Cur.mono {c:C6} {i j:Nat} (hij:i<=j):Cur i c->Cur j c:=λ⟨a,b,d,e⟩=>⟨a,b,d,by omega⟩
end T
set_option linter.unusedVariables false
open Go Go.Va
namespace T
def EG (list:List (List Int)) (t:List Int):Option ((List (List Int))):=
 (Dc list t).bind λr1=>
 if r1.2 then
 some list
 else
 if(0:Int)<=0/\0<=r1.1/\r1.1<=(list.length:Int)then
 if([]:List (List Int)).length+((list.take (Int.toNat r1.1)).drop (Int.toNat 0)).length<=lim then
 if([]++((list.take (Int.toNat r1.1)).drop (Int.toNat 0))).length+ [t].length<=lim then
 if(0:Int)<=r1.1/\r1.1<=(list.length:Int)/\(list.length:Int)<=(list.length:Int)then
 if(([]++((list.take (Int.toNat r1.1)).drop (Int.toNat 0)))++ [t]).length+((list.take (Int.toNat (list.length:Int))).drop (Int.toNat r1.1)).length<=lim then
 some ((([]++((list.take (Int.toNat r1.1)).drop (Int.toNat 0)))++ [t])++((list.take (Int.toNat (list.length:Int))).drop (Int.toNat r1.1)))
 else none
 else none
 else none
 else none
 else none
end T
open Go Go.Va
namespace T
def Zn (cmp:List Int->List Int->Int) (rows:List (List Int)):List (List Int):=rows.mergeSort (λx y=>!decide (cmp y x<0))
end T
open Go Go.Va
namespace T
theorem El {l:List (List Int)}:CJ l=true↔l.Pairwise (λa b=>cmpL a b<0):=by
 constructor
 ·intro h
  rw[List.pairwise_iff_getElem]
  exact λi j hi hj hij=>DS h i j hij hj
 ·intro h
  rw[Gz]
  rw[List.pairwise_iff_getElem]at h
  exact λi hi=>h i (i+1) (by omega) hi (by omega)
theorem FN {list:List (List Int)} {t:List Int} {k:Nat} (hl:list.length<=1000000) (hk:k<=1000000) (hv: ∀u∈list,u.length=k) (ht:t.length=k) (hi:CJ list=true):
  ∃out,EG list t=some out/\CJ out=true/\(∀u,u∈out↔u=t∨u∈list)/\(t∉list->out.Perm (t::list)):=by
 obtain⟨c,e,k1,k2,k3⟩:=CV (by omega) (by omega) hv ht hi
 unfold EG
 rw[e]
 simp only[Option.bind_some]
 by_cases hm:t∈list
 ·rw[decide_eq_true hm,if_pos rfl]
  exact⟨list,rfl,hi,λu=>⟨Or.inr,λh=>h.elim (λh=>h▸hm) id⟩,λh=>absurd hm h⟩
 ·rw[decide_eq_false hm,if_neg (by simp)]
  have e1:(list.take (Int.toNat (c:Int))).drop (Int.toNat 0)=list.take c:=by simp
  have e2:(list.take (Int.toNat (list.length:Int))).drop (Int.toNat (c:Int))=list.drop c:=by simp
  have hlim:lim=1099511627776:=rfl
  have t1:(list.take c).length=c:=by rw[List.length_take];omega
  rw[e1,e2,if_pos (by omega),if_pos (by simp;omega),if_pos (by simp;omega),if_pos (by omega),if_pos (by simp;omega)]
  refine⟨_,rfl,?_,λu=>?_,λ_=>?_⟩
  ·rw[El]at hi⊢
   simp only[List.nil_append]
   have hsp:list=list.take c++list.drop c:=(List.take_append_drop c list).symm
   rw[hsp,List.pairwise_append]at hi
   have h4: ∀u∈list.take c,cmpL u t<0:=λu hu=>by
    obtain⟨i,hi',rfl⟩:=List.mem_iff_getElem.1 hu
    rw[List.getElem_take]
    exact k2 i _ (by omega)
   have h5: ∀u∈list.drop c,cmpL t u<0:=λu hu=>by
    obtain⟨i,hi',rfl⟩:=List.mem_iff_getElem.1 hu
    rw[List.length_drop]at hi'
    rw[List.getElem_drop]
    have h6:=k3 (c+i) (by omega) (by omega)
    have h7:=cmpL_symm (list[c+i]'(by omega)) t
    have h8:cmpL (list[c+i]'(by omega)) t≠0:=λh=>hm (by rw[←cmpL_eq.1 h];exact List.getElem_mem _)
    omega
   rw[List.pairwise_append,List.pairwise_append]
   refine⟨⟨hi.1,List.pairwise_singleton _ _,λa ha b hb=>by rw[List.mem_singleton.1 hb];exact h4 a ha⟩,hi.2.1,λa ha b hb=>?_⟩
   rcases List.mem_append.1 ha with ha|ha
   ·exact hi.2.2 a ha b hb
   ·rw[List.mem_singleton.1 ha];exact h5 b hb
  ·have hsp:u∈list↔u∈list.take c∨u∈list.drop c:=by rw[←List.mem_append,List.take_append_drop]
   simp only[List.nil_append,List.mem_append,List.mem_singleton,hsp]
   constructor
   ·rintro ((h|h)|h)
    ·exact Or.inr (Or.inl h)
    ·exact Or.inl h
    ·exact Or.inr (Or.inr h)
   ·rintro (h|h|h)
    ·exact Or.inl (Or.inr h)
    ·exact Or.inl (Or.inl h)
    ·exact Or.inr h
  ·simp only[List.nil_append]
   refine(List.Perm.append_right _ (List.perm_append_comm)).trans ?_
   rw[List.append_assoc,List.take_append_drop]
   exact List.Perm.refl _
theorem Hj {x y:List Int} (h1: ¬cmpL y x<0) (h2: ¬cmpL x y<0):x=y:=by
 have:=cmpL_symm x y
 exact cmpL_eq.1 (by omega)
theorem Ec {out l:List (List Int)} (hi:CJ out=true) (hp:out.Perm l):Zn cmpL l=out:=by
 have hs:(Zn cmpL l).Pairwise λx y=>(!decide (cmpL y x<0))=true:=by
  unfold Zn
  refine List.pairwise_mergeSort (λa b c h1 h2=>?_) (λa b=>?_) l
  ·simp only[Bool.not_eq_true',decide_eq_false_iff_not]at*
   intro h3
   have q1:=cmpL_symm a b
   have q2:=cmpL_symm b c
   by_cases e:cmpL a b=0
   ·rw[cmpL_eq.1 e]at h3;exact h2 h3
   ·exact h2 (cmpL_trans h3 (by omega))
  ·simp only[Bool.or_eq_true,Bool.not_eq_true',decide_eq_false_iff_not]
   have q1:=cmpL_symm a b
   omega
 have ho:out.Pairwise λx y=>(!decide (cmpL y x<0))=true:=by
  refine(El.1 hi).imp ?_
  intro a b h
  simp only[Bool.not_eq_true',decide_eq_false_iff_not]
  have q1:=cmpL_symm a b
  omega
 have hpp:(Zn cmpL l).Perm out:=(List.mergeSort_perm l _).trans hp.symm
 refine List.Perm.eq_of_pairwise (λa b _ _ h1 h2=>?_) hs ho hpp
 simp only[Bool.not_eq_true',decide_eq_false_iff_not]at h1 h2
 exact Hj h1 h2
end T
open Go Go.Va
namespace T
section
variable {p:Int} {W N V:Nat}
def coG (p:Int) (s:ES) (u:Nat) (f:Int):Int:=if Fa s.2.1 u<0 then(if f=(u:Int)then 1 else 0)else p-(s.1.getD (Fa s.2.1 u).toNat []).getD f.toNat 0
def Jd (p:Int) (V:Nat) (s:ES) (F x:List Int) (u:Nat):Nat->Int
 |0=>Ij V s u
 |k+1=>Jd p V s F x u k+coG p s u (F.getD k 0)*x.getD k 0
def JC (p:Int) (V:Nat) (s:ES) (F x:List Int) (k:Nat):List Int:=(List.range V).map λu=>Jd p V s F x u k%p
structure GenOk (p:Int) (W N V:Nat) (s:ES) (F x:List Int):Prop where
 hp:pr4 p
 hs:ESok p W N V s
 hV:V<W
 hW:W<=1000
 hN:N<=100000
 hF:F=Jq V s.2.1
 hx:x.length=F.length
 xb: ∀v∈x,0<=v/\v<p
variable {s:ES} {F x:List Int}
theorem GenOk.pb (g:GenOk p W N V s F x):2<=p/\p<=7:=by have:=g.hp;unfold pr4 at this;omega
theorem GenOk.row (g:GenOk p W N V s F x) {u:Nat} (hu: ¬Fa s.2.1 u<0):(Fa s.2.1 u).toNat<s.1.length/\Ha p W (s.1.getD (Fa s.2.1 u).toNat []):=by
 have hm:(u:Int)∈s.2.1:=by
  rcases Decidable.em ((u:Int)∈s.2.1)with h|h
  ·exact h
  ·exact absurd (Ia.2 h) hu
 obtain⟨i,hi,g1,_⟩:=Hd hm
 rw[g1,Int.toNat_natCast]
 have:=g.hs.bl
 exact⟨by omega,by rw[Ah (by omega)];exact g.hs.t _ (List.getElem_mem _)⟩
theorem GenOk.base (g:GenOk p W N V s F x) (u:Nat):0<=Ij V s u/\Ij V s u<p:=by
 have:=g.pb
 unfold Ij
 split
 ·omega
 ·rename_i h
  exact I7 (g.row h).2 g.hV
end
end T
open Go Go.Va
namespace T
section
variable {p:Int} {W N V:Nat} {s:ES} {F x:List Int}
theorem GenOk.zero (g:GenOk p W N V s F x):JC p V s F x 0=JA V s:=by
 unfold JC JA
 refine List.map_congr_left λu _=>?_
 have:=g.base u
 simp only[Jd]
 exact Int.emod_eq_of_lt this.1 this.2
end
end T
open Go Go.Va
namespace T
theorem HS: ∀ {a b:List (List Int)},CJ a=true->CJ b=true->(∀u,u∈a↔u∈b)->a=b:=by
 intro a b ha hb h
 have pa:=El.1 ha
 have pb:=El.1 hb
 have na:a.Nodup:=pa.imp fun {x y} h e=>by rw[e,cmpL_refl]at h;omega
 have nb:b.Nodup:=pb.imp fun {x y} h e=>by rw[e,cmpL_refl]at h;omega
 have hp:a.Perm b:=(List.perm_ext_iff_of_nodup na nb).2 h
 rw[←Ec ha (List.Perm.refl _),←Ec hb (List.Perm.refl _)]
 have h1:=Ec ha hp
 have h2:=Ec hb (List.Perm.refl b)
 have h3:=Ec ha (List.Perm.refl a)
 rw[h2,h3,←h1,h2]
end T
open Go Go.Va
namespace T
section
variable {n:Int} {k:Nat} {ts:List (List Int)}
def ID (ts:List (List Int)) (i j:Nat):List Int:=(ts.getD j []).take i
def II (ts:List (List Int)) (i j:Nat):Int:=(ts.getD j []).getD i 0
end
end T
open Go Go.Va
namespace T
section
variable {n:Int} {k:Nat} {ts:List (List Int)}
def IK (ts:List (List Int)) (i:Nat) (x y:Int) (a b:Nat):Bool:=II ts i a==x&&(II ts i b==y&&decide (ID ts i a=ID ts i b))
def bO (ts:List (List Int)) (i:Nat) (x y:Int) (a:Nat):Option Nat:=(List.range ts.length).find? (IK ts i x y a)
def H9 (ts:List (List Int)) (i:Nat) (x y:Int):Option (Nat×Nat):=(List.range ts.length).findSome? λa=>(bO ts i x y a).map λb=>(a,b)
theorem GY {i:Nat} {x y:Int} {a b:Nat} (h:H9 ts i x y=some (a,b)):a<ts.length/\b<ts.length/\II ts i a=x/\II ts i b=y/\ID ts i a=ID ts i b:=by
 unfold H9 at h
 obtain⟨a',ha,h⟩:=List.exists_of_findSome?_eq_some h
 obtain⟨b',hb,h⟩:=Option.map_eq_some_iff.1 h
 obtain⟨rfl,rfl⟩:=Prod.mk.inj h
 have h1:=List.find?_some hb
 have h2:=List.mem_of_find?_eq_some hb
 unfold IK at h1
 simp only[Bool.and_eq_true,beq_iff_eq,decide_eq_true_eq]at h1
 exact⟨List.mem_range.1 ha,List.mem_range.1 h2,h1.1,h1.2.1,h1.2.2⟩
theorem IE {out list:List (List Int)} {t:List Int} (h1:CJ out=true) (h0:CJ list=true) (h2: ∀u,u∈out↔u=t∨u∈list) (h3:t∉list->out.Perm (t::list)):out.length<=list.length+1:=by
 by_cases hm:t∈list
 ·have:out=list:=HS h1 h0 λu=>(h2 u).trans ⟨λh=>h.elim (λh=>h▸hm) id,Or.inr⟩
  rw[this];omega
 ·rw[(h3 hm).length_eq];simp
end
end T
set_option linter.unusedVariables false
open Go Go.Va
namespace T
def FW (code:List Int):Option (Bool):=
 some (decide ((code.length:Int)>65536))
def C3 (t0:Int):Option (Int×(List (Int×(List (List Int))))):=
 if t0==0 then
 some (2,[(2,[[0,0],[0,1],[1,1]])])
 else
 if t0==1 then
 some (2,[(2,[[0,1],[1,0],[1,1]]),(2,[[0,0],[0,1],[1,0]])])
 else
 if t0==2 then
 some (2,[(3,[[0,0,0],[0,1,1],[1,0,1],[1,1,0]])])
 else
 if t0==3 then
 some (2,[(3,[[0,0,1],[0,1,0],[1,0,0]])])
 else
 if t0==4 then
 some (2,[(3,[[0,0,0],[0,0,1],[0,1,0],[0,1,1],[1,0,0],[1,0,1],[1,1,1]]),(1,[[1]])])
 else
 if t0==5 then
 some (3,[(2,[[0,1],[0,2],[1,0],[1,2],[2,0],[2,1]])])
 else
 if t0==6 then
 some (3,[(2,[[0,0],[0,1],[0,2],[1,1],[1,2],[2,2]])])
 else
 if t0==7 then
 some (3,[(2,[[0,1],[1,2],[2,0]])])
 else
 if t0==8 then
 some (2,[(2,[[0,1],[1,0]])])
 else
 if t0==9 then
 some (4,[(2,[[0,1],[1,0],[1,2],[2,1],[2,3],[3,2]])])
 else
 some (2,[])
def Ar:Nat->(((List Int)×Int×Int)×Int×(List Int)×Int)->Option (((List Int)×Int×Int)×(List Int))
 |0,_=>none
 |n+1,(c,n_,out,x)=>
 if decide (x<n_)then
 (Ae (c.1,(c.2.1,c.2.2)) (w64 (x+1))).bind λr1=>
 if decide (r1.2<x)then
 if inb r1.2 out then
 if out.length+ [gd out r1.2 0].length<=lim then
 Ar n ((r1.1.1,(r1.1.2.1,r1.1.2.2)),n_,out++ [gd out r1.2 0],w64 (x+1))
 else none
 else none
 else
 if out.length+ [r1.2].length<=lim then
 Ar n ((r1.1.1,(r1.1.2.1,r1.1.2.2)),n_,out++ [r1.2],w64 (x+1))
 else none
 else
 some ((c.1,(c.2.1,c.2.2)),out)
def BA (c:(List Int)×Int×Int) (n_:Int):Option (((List Int)×Int×Int)×(List Int)):=
 (Ar Aa ((c.1,(c.2.1,c.2.2)),n_,[],0)).bind λs1=>
 some ((s1.1.1,(s1.1.2.1,s1.1.2.2)),s1.2)
def AC:Nat->((List Int)×(Int×(List (List Int)))×(Int×(List (List Int)))×Int×Int)->Option ((List Int)×(Int×(List (List Int)))×(Int×(List (List Int)))×Int)
 |0,_=>none
 |n+1,(p,t2,out,x,y)=>
 if decide (y<(p.length:Int))then
 if inb x p then
 if inb y p then
 if(gd p x 0)==(gd p y 0)then
 if out.2.length+ [[x,y]].length<=lim then
 AC n (p,(t2.1,t2.2),(out.1,out.2++ [[x,y]]),x,w64 (y+1))
 else none
 else
 AC n (p,(t2.1,t2.2),(out.1,out.2),x,w64 (y+1))
 else none
 else none
 else
 some (p,(t2.1,t2.2),(out.1,out.2),x)
def AW:Nat->((List Int)×(Int×(List (List Int)))×(Int×(List (List Int)))×Int)->Option ((Int×(List (List Int)))×(Int×(List (List Int))))
 |0,_=>none
 |n+1,(p,t2,out,x)=>
 if decide (x<(p.length:Int))then
 (AC Aa (p,(t2.1,t2.2),(out.1,out.2),x,0)).bind λs1=>
 AW n (s1.1,(s1.2.1.1,s1.2.1.2),(s1.2.2.1.1,s1.2.2.1.2),w64 (s1.2.2.2+1))
 else
 some ((t2.1,t2.2),(out.1,out.2))
def CB (p:List Int):Option ((Int×(List (List Int)))):=
 (AW Aa (p,(0,[]),(2,[]),0)).bind λs1=>
 some (s1.2.1,s1.2.2)
def BP:Nat->(Int×Int×(Int×(List (List Int)))×(Int×(List (List Int)))×Int)->Option ((Int×(List (List Int)))×(Int×(List (List Int))))
 |0,_=>none
 |n+1,(n_,arity,t4,out,at_)=>
 (AS n_ arity).bind λr1=>
 if decide (at_<r1)then
 (Db n_ arity at_).bind λr2=>
 if out.2.length+ [r2].length<=lim then
 BP n (n_,arity,(t4.1,t4.2),(out.1,out.2++ [r2]),w64 (at_+1))
 else none
 else
 some ((t4.1,t4.2),(out.1,out.2))
def Cz (n_:Int) (arity:Int):Option ((Int×(List (List Int)))):=
 (BP Aa (n_,arity,(0,[]),(arity,[]),0)).bind λs1=>
 some (s1.2.1,s1.2.2)
def ER (list:List (List Int)) (t:List Int):Option ((List (List Int))):=
 (Dc list t).bind λr1=>
 if r1.2 then
 some list
 else
 if(0:Int)<=0/\0<=r1.1/\r1.1<=(list.length:Int)then
 if([]:List (List Int)).length+((list.take (Int.toNat r1.1)).drop (Int.toNat 0)).length<=lim then
 if([]++((list.take (Int.toNat r1.1)).drop (Int.toNat 0))).length+ [t].length<=lim then
 if(0:Int)<=r1.1/\r1.1<=(list.length:Int)/\(list.length:Int)<=(list.length:Int)then
 if(([]++((list.take (Int.toNat r1.1)).drop (Int.toNat 0)))++ [t]).length+((list.take (Int.toNat (list.length:Int))).drop (Int.toNat r1.1)).length<=lim then
 some ((([]++((list.take (Int.toNat r1.1)).drop (Int.toNat 0)))++ [t])++((list.take (Int.toNat (list.length:Int))).drop (Int.toNat r1.1)))
 else none
 else none
 else none
 else none
 else none
def AY:Nat->(((List Int)×Int×Int)×Int×Int×(Int×(List (List Int)))×(Int×(List (List Int)))×Int×(List Int)×Int)->Option (((List Int)×Int×Int)×Int×Int×(Int×(List (List Int)))×(Int×(List (List Int)))×Int×(List Int))
 |0,_=>none
 |n+1,(t0,t1,t2,t6,t7,t8,t9,t10)=>
 if decide (t10<t2)then
 (Ae (t0.1,(t0.2.1,t0.2.2)) t1).bind λr4=>
 if t9.length+ [r4.2].length<=lim then
 AY n ((r4.1.1,(r4.1.2.1,r4.1.2.2)),t1,t2,(t6.1,t6.2),(t7.1,t7.2),t8,t9++ [r4.2],w64 (t10+1))
 else none
 else
 some ((t0.1,(t0.2.1,t0.2.2)),t1,t2,(t6.1,t6.2),(t7.1,t7.2),t8,t9)
def AX:Nat->(((List Int)×Int×Int)×Int×Int×(Int×(List (List Int)))×(Int×(List (List Int)))×Int)->Option (((List Int)×Int×Int)×Int×Int×(Int×(List (List Int)))×(Int×(List (List Int))))
 |0,_=>none
 |n+1,(t0,t1,t2,t6,t7,t8)=>
 if decide (t8>0)then
 (AY Aa ((t0.1,(t0.2.1,t0.2.2)),t1,t2,(t6.1,t6.2),(t7.1,t7.2),t8,[],0)).bind λs4=>
 (ER s4.2.2.2.2.1.2 s4.2.2.2.2.2.2).bind λr5=>
 AX n ((s4.1.1,(s4.1.2.1,s4.1.2.2)),s4.2.1,s4.2.2.1,(s4.2.2.2.1.1,s4.2.2.2.1.2),(s4.2.2.2.2.1.1,r5),w64 (s4.2.2.2.2.2.1-1))
 else
 some ((t0.1,(t0.2.1,t0.2.2)),t1,t2,(t6.1,t6.2),(t7.1,t7.2))
def B0 (t0:(List Int)×Int×Int) (t1:Int) (t2:Int):Option (((List Int)×Int×Int)×(Int×(List (List Int)))):=
 (Eg t1).bind λr1=>
 if !r1 then
 some ((t0.1,(t0.2.1,t0.2.2)),(t2,[]))
 else
 (Cj t2 1 3).bind λr2=>
 if !r2 then
 some ((t0.1,(t0.2.1,t0.2.2)),(t2,[]))
 else
 (Ac (t0.1,(t0.2.1,t0.2.2)) [0,1,2,3,4,6,9]).bind λr3=>
 (AX Aa ((r3.1.1,(r3.1.2.1,r3.1.2.2)),t1,t2,(0,[]),(t2,[]),r3.2)).bind λs4=>
 if s4.2.2.1==2 then
 (AA (s4.1.1,(s4.1.2.1,s4.1.2.2)) 3).bind λr5=>
 if r5.2 then
 (BA (r5.1.1,(r5.1.2.1,r5.1.2.2)) s4.2.1).bind λr6=>
 (CB r6.2).bind λr7=>
 (AA (r6.1.1,(r6.1.2.1,r6.1.2.2)) 12).bind λr8=>
 if r8.2 then
 (Cz s4.2.1 s4.2.2.1).bind λr9=>
 (Ae (r8.1.1,(r8.1.2.1,r8.1.2.2)) 40).bind λr10=>
 if r10.2==0 then
 (Ac (r10.1.1,(r10.1.2.1,r10.1.2.2)) [0,4,(-1)]).bind λr11=>
 some ((r11.1.1,(r11.1.2.1,r11.1.2.2)),(r11.2,r9.2))
 else
 if r10.2==1 then
 if 0<=s4.2.2.1/\s4.2.2.1<=s4.2.2.1/\s4.2.2.1<=lim then
 if r9.2.length+ [List.replicate (Int.toNat s4.2.2.1) (0:Int)].length<=lim then
 some ((r10.1.1,(r10.1.2.1,r10.1.2.2)),(r9.1,r9.2++ [List.replicate (Int.toNat s4.2.2.1) (0:Int)]))
 else none
 else none
 else
 if r10.2==2 then
 if decide ((r9.2.length:Int)>0)then
 (Ac (r10.1.1,(r10.1.2.1,r10.1.2.2)) [(-1),s4.2.1,0]).bind λr12=>
 if inb 0 r9.2 then
 some ((r12.1.1,(r12.1.2.1,r12.1.2.2)),(r9.1,stt r9.2 0 [r12.2]))
 else none
 else
 some ((r10.1.1,(r10.1.2.1,r10.1.2.2)),(r9.1,r9.2))
 else
 some ((r10.1.1,(r10.1.2.1,r10.1.2.2)),(r9.1,r9.2))
 else
 (Ae (r8.1.1,(r8.1.2.1,r8.1.2.2)) 40).bind λr13=>
 if r13.2==0 then
 (Ac (r13.1.1,(r13.1.2.1,r13.1.2.2)) [0,4,(-1)]).bind λr14=>
 some ((r14.1.1,(r14.1.2.1,r14.1.2.2)),(r14.2,r7.2))
 else
 if r13.2==1 then
 if 0<=s4.2.2.1/\s4.2.2.1<=s4.2.2.1/\s4.2.2.1<=lim then
 if r7.2.length+ [List.replicate (Int.toNat s4.2.2.1) (0:Int)].length<=lim then
 some ((r13.1.1,(r13.1.2.1,r13.1.2.2)),(r7.1,r7.2++ [List.replicate (Int.toNat s4.2.2.1) (0:Int)]))
 else none
 else none
 else
 if r13.2==2 then
 if decide ((r7.2.length:Int)>0)then
 (Ac (r13.1.1,(r13.1.2.1,r13.1.2.2)) [(-1),s4.2.1,0]).bind λr15=>
 if inb 0 r7.2 then
 some ((r15.1.1,(r15.1.2.1,r15.1.2.2)),(r7.1,stt r7.2 0 [r15.2]))
 else none
 else
 some ((r13.1.1,(r13.1.2.1,r13.1.2.2)),(r7.1,r7.2))
 else
 some ((r13.1.1,(r13.1.2.1,r13.1.2.2)),(r7.1,r7.2))
 else
 (AA (r5.1.1,(r5.1.2.1,r5.1.2.2)) 12).bind λr16=>
 if r16.2 then
 (Cz s4.2.1 s4.2.2.1).bind λr17=>
 (Ae (r16.1.1,(r16.1.2.1,r16.1.2.2)) 40).bind λr18=>
 if r18.2==0 then
 (Ac (r18.1.1,(r18.1.2.1,r18.1.2.2)) [0,4,(-1)]).bind λr19=>
 some ((r19.1.1,(r19.1.2.1,r19.1.2.2)),(r19.2,r17.2))
 else
 if r18.2==1 then
 if 0<=s4.2.2.1/\s4.2.2.1<=s4.2.2.1/\s4.2.2.1<=lim then
 if r17.2.length+ [List.replicate (Int.toNat s4.2.2.1) (0:Int)].length<=lim then
 some ((r18.1.1,(r18.1.2.1,r18.1.2.2)),(r17.1,r17.2++ [List.replicate (Int.toNat s4.2.2.1) (0:Int)]))
 else none
 else none
 else
 if r18.2==2 then
 if decide ((r17.2.length:Int)>0)then
 (Ac (r18.1.1,(r18.1.2.1,r18.1.2.2)) [(-1),s4.2.1,0]).bind λr20=>
 if inb 0 r17.2 then
 some ((r20.1.1,(r20.1.2.1,r20.1.2.2)),(r17.1,stt r17.2 0 [r20.2]))
 else none
 else
 some ((r18.1.1,(r18.1.2.1,r18.1.2.2)),(r17.1,r17.2))
 else
 some ((r18.1.1,(r18.1.2.1,r18.1.2.2)),(r17.1,r17.2))
 else
 (Ae (r16.1.1,(r16.1.2.1,r16.1.2.2)) 40).bind λr21=>
 if r21.2==0 then
 (Ac (r21.1.1,(r21.1.2.1,r21.1.2.2)) [0,4,(-1)]).bind λr22=>
 some ((r22.1.1,(r22.1.2.1,r22.1.2.2)),(r22.2,s4.2.2.2.2.2))
 else
 if r21.2==1 then
 if 0<=s4.2.2.1/\s4.2.2.1<=s4.2.2.1/\s4.2.2.1<=lim then
 if s4.2.2.2.2.2.length+ [List.replicate (Int.toNat s4.2.2.1) (0:Int)].length<=lim then
 some ((r21.1.1,(r21.1.2.1,r21.1.2.2)),(s4.2.2.2.2.1,s4.2.2.2.2.2++ [List.replicate (Int.toNat s4.2.2.1) (0:Int)]))
 else none
 else none
 else
 if r21.2==2 then
 if decide ((s4.2.2.2.2.2.length:Int)>0)then
 (Ac (r21.1.1,(r21.1.2.1,r21.1.2.2)) [(-1),s4.2.1,0]).bind λr23=>
 if inb 0 s4.2.2.2.2.2 then
 some ((r23.1.1,(r23.1.2.1,r23.1.2.2)),(s4.2.2.2.2.1,stt s4.2.2.2.2.2 0 [r23.2]))
 else none
 else
 some ((r21.1.1,(r21.1.2.1,r21.1.2.2)),(s4.2.2.2.2.1,s4.2.2.2.2.2))
 else
 some ((r21.1.1,(r21.1.2.1,r21.1.2.2)),(s4.2.2.2.2.1,s4.2.2.2.2.2))
 else
 (AA (s4.1.1,(s4.1.2.1,s4.1.2.2)) 12).bind λr24=>
 if r24.2 then
 (Cz s4.2.1 s4.2.2.1).bind λr25=>
 (Ae (r24.1.1,(r24.1.2.1,r24.1.2.2)) 40).bind λr26=>
 if r26.2==0 then
 (Ac (r26.1.1,(r26.1.2.1,r26.1.2.2)) [0,4,(-1)]).bind λr27=>
 some ((r27.1.1,(r27.1.2.1,r27.1.2.2)),(r27.2,r25.2))
 else
 if r26.2==1 then
 if 0<=s4.2.2.1/\s4.2.2.1<=s4.2.2.1/\s4.2.2.1<=lim then
 if r25.2.length+ [List.replicate (Int.toNat s4.2.2.1) (0:Int)].length<=lim then
 some ((r26.1.1,(r26.1.2.1,r26.1.2.2)),(r25.1,r25.2++ [List.replicate (Int.toNat s4.2.2.1) (0:Int)]))
 else none
 else none
 else
 if r26.2==2 then
 if decide ((r25.2.length:Int)>0)then
 (Ac (r26.1.1,(r26.1.2.1,r26.1.2.2)) [(-1),s4.2.1,0]).bind λr28=>
 if inb 0 r25.2 then
 some ((r28.1.1,(r28.1.2.1,r28.1.2.2)),(r25.1,stt r25.2 0 [r28.2]))
 else none
 else
 some ((r26.1.1,(r26.1.2.1,r26.1.2.2)),(r25.1,r25.2))
 else
 some ((r26.1.1,(r26.1.2.1,r26.1.2.2)),(r25.1,r25.2))
 else
 (Ae (r24.1.1,(r24.1.2.1,r24.1.2.2)) 40).bind λr29=>
 if r29.2==0 then
 (Ac (r29.1.1,(r29.1.2.1,r29.1.2.2)) [0,4,(-1)]).bind λr30=>
 some ((r30.1.1,(r30.1.2.1,r30.1.2.2)),(r30.2,s4.2.2.2.2.2))
 else
 if r29.2==1 then
 if 0<=s4.2.2.1/\s4.2.2.1<=s4.2.2.1/\s4.2.2.1<=lim then
 if s4.2.2.2.2.2.length+ [List.replicate (Int.toNat s4.2.2.1) (0:Int)].length<=lim then
 some ((r29.1.1,(r29.1.2.1,r29.1.2.2)),(s4.2.2.2.2.1,s4.2.2.2.2.2++ [List.replicate (Int.toNat s4.2.2.1) (0:Int)]))
 else none
 else none
 else
 if r29.2==2 then
 if decide ((s4.2.2.2.2.2.length:Int)>0)then
 (Ac (r29.1.1,(r29.1.2.1,r29.1.2.2)) [(-1),s4.2.1,0]).bind λr31=>
 if inb 0 s4.2.2.2.2.2 then
 some ((r31.1.1,(r31.1.2.1,r31.1.2.2)),(s4.2.2.2.2.1,stt s4.2.2.2.2.2 0 [r31.2]))
 else none
 else
 some ((r29.1.1,(r29.1.2.1,r29.1.2.2)),(s4.2.2.2.2.1,s4.2.2.2.2.2))
 else
 some ((r29.1.1,(r29.1.2.1,r29.1.2.2)),(s4.2.2.2.2.1,s4.2.2.2.2.2))
def AF:Nat->(((List Int)×Int×Int)×Int×(List (Int×(List (List Int))))×(List (Int×(List (List Int))))×Int×(Int×(List (List Int)))×Int)->Option (((List Int)×Int×Int)×Int×(List (Int×(List (List Int))))×(List (Int×(List (List Int))))×Int×(Int×(List (List Int))))
 |0,_=>none
 |n+1,(t0,t4,t5,t6,t7,t8,t9)=>
 if inb t7 t5 then
 if decide (t9<(((gd t5 t7 (0,[])).2).length:Int))then
 if inb t7 t5 then
 if inb t9 ((gd t5 t7 (0,[])).2)then
 (Cc (gd ((gd t5 t7 (0,[])).2) t9 [])).bind λr4=>
 if t8.2.length+ [r4].length<=lim then
 AF n ((t0.1,(t0.2.1,t0.2.2)),t4,t5,t6,t7,(t8.1,t8.2++ [r4]),w64 (t9+1))
 else none
 else none
 else none
 else
 some ((t0.1,(t0.2.1,t0.2.2)),t4,t5,t6,t7,(t8.1,t8.2))
 else none
def AE:Nat->(((List Int)×Int×Int)×Int×(List (Int×(List (List Int))))×(List (Int×(List (List Int))))×Int)->Option (((List Int)×Int×Int)×Int×(List (Int×(List (List Int)))))
 |0,_=>none
 |n+1,(t0,t4,t5,t6,t7)=>
 if decide (t7<(t5.length:Int))then
 if inb t7 t5 then
 (AF Aa ((t0.1,(t0.2.1,t0.2.2)),t4,t5,t6,t7,((gd t5 t7 (0,[])).1,[]),0)).bind λs4=>
 if s4.2.2.2.1.length+ [(s4.2.2.2.2.2.1,s4.2.2.2.2.2.2)].length<=lim then
 AE n ((s4.1.1,(s4.1.2.1,s4.1.2.2)),s4.2.1,s4.2.2.1,s4.2.2.2.1++ [(s4.2.2.2.2.2.1,s4.2.2.2.2.2.2)],w64 (s4.2.2.2.2.1+1))
 else none
 else none
 else
 some ((t0.1,(t0.2.1,t0.2.2)),t4,t6)
def AO:Nat->(((List Int)×Int×Int)×Int×(List (Int×(List (List Int))))×Int)->Option (((List Int)×Int×Int)×Int×(List (Int×(List (List Int)))))
 |0,_=>none
 |n+1,(t0,t10,t11,t12)=>
 if decide (t12>0)then
 (Ac (t0.1,(t0.2.1,t0.2.2)) [1,2,2,3]).bind λr10=>
 (B0 (r10.1.1,(r10.1.2.1,r10.1.2.2)) t10 r10.2).bind λr11=>
 if t11.length+ [r11.2].length<=lim then
 AO n ((r11.1.1,(r11.1.2.1,r11.1.2.2)),t10,t11++ [r11.2],w64 (t12-1))
 else none
 else
 some ((t0.1,(t0.2.1,t0.2.2)),t10,t11)
def B1 (t0:(List Int)×Int×Int):Option (((List Int)×Int×Int)×Int×(List (Int×(List (List Int))))):=
 (AA (t0.1,(t0.2.1,t0.2.2)) 3).bind λr1=>
 if !r1.2 then
 (Ae (r1.1.1,(r1.1.2.1,r1.1.2.2)) 11).bind λr2=>
 (C3 r2.2).bind λr3=>
 (AE Aa ((r2.1.1,(r2.1.2.1,r2.1.2.2)),r3.1,r3.2,[],0)).bind λs4=>
 some ((s4.1.1,(s4.1.2.1,s4.1.2.2)),s4.2.1,s4.2.2)
 else
 (Ae (r1.1.1,(r1.1.2.1,r1.1.2.2)) 24).bind λr5=>
 if(11:Int)≠0 then
 if(0:Int)<=0/\0<=(w64 (7+(w64 (Int.tdiv r5.2 11))))/\(w64 (7+(w64 (Int.tdiv r5.2 11))))<=([1,2,2,2,3,3,4,0,5].length:Int)then
 (Ac (r5.1.1,(r5.1.2.1,r5.1.2.2)) (([1,2,2,2,3,3,4,0,5].take (Int.toNat (w64 (7+(w64 (Int.tdiv r5.2 11)))))).drop (Int.toNat 0))).bind λr6=>
 (Ae (r6.1.1,(r6.1.2.1,r6.1.2.2)) 24).bind λr7=>
 if(23:Int)≠0 then
 if(0:Int)<=0/\0<=(w64 (5+(w64 (Int.tdiv r7.2 23))))/\(w64 (5+(w64 (Int.tdiv r7.2 23))))<=([0,1,1,2,4,5].length:Int)then
 (Ac (r7.1.1,(r7.1.2.1,r7.1.2.2)) (([0,1,1,2,4,5].take (Int.toNat (w64 (5+(w64 (Int.tdiv r7.2 23)))))).drop (Int.toNat 0))).bind λr8=>
 (AO Aa ((r8.1.1,(r8.1.2.1,r8.1.2.2)),r6.2,[],r8.2)).bind λs9=>
 some ((s9.1.1,(s9.1.2.1,s9.1.2.2)),s9.2.1,s9.2.2)
 else none
 else none
 else none
 else none
def Bq (c:(List Int)×Int×Int):Option (((List Int)×Int×Int)×Int):=
 (Ae (c.1,(c.2.1,c.2.2)) 24).bind λr1=>
 if(11:Int)≠0 then
 if(0:Int)<=0/\0<=(w64 (6+(w64 (Int.tdiv r1.2 11))))/\(w64 (6+(w64 (Int.tdiv r1.2 11))))<=([1,1,2,2,2,3,0,4].length:Int)then
 (Ac (r1.1.1,(r1.1.2.1,r1.1.2.2)) (([1,1,2,2,2,3,0,4].take (Int.toNat (w64 (6+(w64 (Int.tdiv r1.2 11)))))).drop (Int.toNat 0))).bind λr2=>
 some ((r2.1.1,(r2.1.2.1,r2.1.2.2)),r2.2)
 else none
 else none
def BX (code:List Int):Option (Int×(List (Int×(List (List Int))))×Int):=
 (B1 (code,(0,0))).bind λr1=>
 (Bq (r1.1.1,(r1.1.2.1,r1.1.2.2))).bind λr2=>
 some (r1.2.1,r1.2.2,r2.2)
def Ci:Nat->((List Int)×(List Int)×Int)->Option ((Unit)⊕(Bool))
 |0,_=>none
 |n+1,(a,b,i)=>
 if decide (i<(a.length:Int))then
 if inb i a then
 if inb i b then
 if(gd a i 0) !=(gd b i 0)then
 some (.inr false)
 else
 Ci n (a,b,w64 (i+1))
 else none
 else none
 else
 some (.inl ())
def ED (a:List Int) (b:List Int):Option (Bool):=
 if(a.length:Int) !=(b.length:Int)then
  some false
 else
  (Ci Aa (a,b,0)).bind λs1=>
   match s1 with
   | .inl s2=>
    some true
   | .inr s3=>
    some s3
def BI (t0:List Int) (t1:Int):Option (Int×Bool):=
 some (w64 (t1+1),true)
def Ad (rec:(Int×(List Int)×Int×(Bool×Int×Int×(List (List ((List Int)×(List ByteArray)))))×(List Int)×Unit)->Option ((List Int)×Int×(Bool×Int×Int×(List (List ((List Int)×(List ByteArray)))))×(List Int)×Bool)):Nat->(Int×(List Int)×Int×(Bool×Int×Int×(List (List ((List Int)×(List ByteArray)))))×(List Int)×Unit×Int)->Option (((List Int)×Int×(Bool×Int×Int×(List (List ((List Int)×(List ByteArray)))))×(List Int)×Unit)⊕((List Int)×Int×(Bool×Int×Int×(List (List ((List Int)×(List ByteArray)))))×(List Int)×Unit×Bool))
 |0,_=>none
 |n+1,(at_,t1,t2,t3,t4,t5,x)=>
 if t3.1=true then
 if decide (x<t3.2.1)then
 if inb at_ t4 then
 if decide ((gd t4 at_ 0)≥0)then
 if inb at_ t4 then
 if(gd t4 at_ 0) !=x then
 Ad rec n (at_,t1,t2,t3,t4,(),w64 (x+1))
 else
 if inb at_ t1 then
 (Am t3 (stt t1 at_ x) at_).bind λr2=>
 if r2 then
 (rec (w64 (at_+1),stt t1 at_ x,t2,t3,t4,())).bind λr3=>
 if !r3.2.2.2.2 then
 some (.inr (r3.1,r3.2.1,r3.2.2.1,r3.2.2.2.1,(),false))
 else
 Ad rec n (at_,r3.1,r3.2.1,r3.2.2.1,r3.2.2.2.1,(),w64 (x+1))
 else
 Ad rec n (at_,stt t1 at_ x,t2,t3,t4,(),w64 (x+1))
 else none
 else none
 else
 if inb at_ t1 then
 (Am t3 (stt t1 at_ x) at_).bind λr4=>
 if r4 then
 (rec (w64 (at_+1),stt t1 at_ x,t2,t3,t4,())).bind λr5=>
 if !r5.2.2.2.2 then
 some (.inr (r5.1,r5.2.1,r5.2.2.1,r5.2.2.2.1,(),false))
 else
 Ad rec n (at_,r5.1,r5.2.1,r5.2.2.1,r5.2.2.2.1,(),w64 (x+1))
 else
 Ad rec n (at_,stt t1 at_ x,t2,t3,t4,(),w64 (x+1))
 else none
 else none
 else
 some (.inl (t1,t2,t3,t4,()))
 else none
def AG (rec:(Int×(List Int)×Int×(Bool×Int×Int×(List (List ((List Int)×(List ByteArray)))))×(List Int)×Unit)->Option ((List Int)×Int×(Bool×Int×Int×(List (List ((List Int)×(List ByteArray)))))×(List Int)×Bool)) (at_:Int) (t1:List Int) (t2:Int) (t3:Bool×Int×Int×(List (List ((List Int)×(List ByteArray))))) (t4:List Int) (t5:Unit):Option ((List Int)×Int×(Bool×Int×Int×(List (List ((List Int)×(List ByteArray)))))×(List Int)×Bool):=
 if at_==(t1.length:Int)then
  (BI t1 t2).bind λr1=>
   some (t1,r1.1,t3,t4,r1.2)
 else
  (Ad rec Aa (at_,t1,t2,t3,t4,(),0)).bind λs2=>
   match s2 with
   | .inl s3=>
    some (s3.1,s3.2.1,s3.2.2.1,s3.2.2.2.1,true)
   | .inr s4=>
    some (s4.1,s4.2.1,s4.2.2.1,s4.2.2.2.1,s4.2.2.2.2.2)
def Ak:Nat->(Int×(List Int)×Int×(Bool×Int×Int×(List (List ((List Int)×(List ByteArray)))))×(List Int)×Unit)->Option ((List Int)×Int×(Bool×Int×Int×(List (List ((List Int)×(List ByteArray)))))×(List Int)×Bool)
 |0,_=>none
 |d+1,x=>AG (Ak d) x.1 x.2.1 x.2.2.1 x.2.2.2.1 x.2.2.2.2.1 x.2.2.2.2.2
def As (s:Bool×Int×Int×(List (List ((List Int)×(List ByteArray))))) (given:List Int) (found:Int):Option (Int):=
 if 0<=(given.length:Int)/\(given.length:Int)<=(given.length:Int)/\(given.length:Int)<=lim then
 (Ak Aa (0,List.replicate (Int.toNat (given.length:Int)) (0:Int),found,s,given,())).bind λr1=>
 some r1.2.1
 else none
def B2 (n_:Int) (rels:List (Int×(List (List Int)))) (k:Int):Option (Int×Bool):=
 (CK n_ rels k).bind λr1=>
 if !r1 then
 some (0,false)
 else
 (B4 n_ k).bind λr2=>
 if !r2 then
 some (0,false)
 else
 (BL n_ rels k).bind λr3=>
 (Bd n_ k).bind λr4=>
 (CP r4).bind λr5=>
 (As r3 r5 0).bind λr6=>
 some (r6,true)
end T
set_option linter.unusedVariables false
open Go Go.Va
namespace T
def BM (a:Int×(List Int)) (b:Int×(List Int)):Option (Bool):=
 if a.1==b.1 then
 (ED a.2 b.2).bind λr1=>
 some r1
 else
 some false
def Cy:Nat->((List (Int×(List Int)))×(List (Int×(List Int)))×Int)->Option ((Unit)⊕(Bool))
 |0,_=>none
 |n+1,(a,b,i)=>
 if decide (i<(a.length:Int))then
 if inb i a then
 if inb i b then
 (BM (gd a i (0,[])) (gd b i (0,[]))).bind λr1=>
 if !r1 then
 some (.inr false)
 else
 Cy n (a,b,w64 (i+1))
 else none
 else none
 else
 some (.inl ())
def EW (a:List (Int×(List Int))) (b:List (Int×(List Int))):Option (Bool):=
 if(a.length:Int) !=(b.length:Int)then
  some false
 else
  (Cy Aa (a,b,0)).bind λs1=>
   match s1 with
   | .inl s2=>
    some true
   | .inr s3=>
    some s3
def B7 (n_:Int) (rels:List (Int×(List (List Int)))) (k:Int):Option (Int×Bool):=
 (CE n_ rels k).bind λr1=>
 if !r1 then
 some (0,false)
 else
 (AS n_ k).bind λr2=>
 (CS r2).bind λr3=>
 (BV n_ rels k r3 0).bind λr4=>
 some (r4.2.1,true)
def Aq (n_:Int) (rels:List (Int×(List (List Int)))) (op:Int×(List Int)):Option (Bool×Bool):=
 (CK n_ rels op.1).bind λr1=>
 if !r1 then
 some (false,false)
 else
 (Do (op.1,op.2) n_).bind λr2=>
 if !r2 then
 some (false,false)
 else
 if decide (op.1>0)then
 (C0 n_ rels (op.1,op.2)).bind λr3=>
 some (r3,true)
 else
 some (false,true)
def A7:Nat->(Int×(List (List Int))×(Int×(List Int))×(List Int)×Int×Int×Int×Int×(List (List Int))×Int×Int)->Option (Int×(List (List Int))×(Int×(List Int))×(List Int)×Int×Int×Int×Int)
 |0,_=>none
 |n+1,(n_,tables,f,table,i,at_,t17,t18,t21,t22,t23)=>
 if decide (t23<t22)then
 if inb t23 t21 then
 if inb i (gd t21 t23 [])then
 A7 n (n_,tables,(f.1,f.2),table,i,w64 ((w64 (at_*n_))+(gd (gd t21 t23 []) i 0)),t17,t18,t21,t22,w64 (t23+1))
 else none
 else none
 else
 some (n_,tables,(f.1,f.2),table,i,at_,t17,t18)
def AZ:Nat->(Int×(List (List Int))×(Int×(List Int))×(List Int)×Int×Int)->Option ((List Int))
 |0,_=>none
 |n+1,(n_,tables,f,table,t17,t18)=>
 if decide (t18<t17)then
 (A7 Aa (n_,tables,(f.1,f.2),table,t18,0,t17,t18,tables,(tables.length:Int),0)).bind λs1=>
 if inb s1.2.2.2.2.2.1 s1.2.2.1.2 then
 if inb s1.2.2.2.2.1 s1.2.2.2.1 then
 AZ n (s1.1,s1.2.1,(s1.2.2.1.1,s1.2.2.1.2),stt s1.2.2.2.1 s1.2.2.2.2.1 (gd s1.2.2.1.2 s1.2.2.2.2.2.1 0),s1.2.2.2.2.2.2.1,w64 (s1.2.2.2.2.2.2.2+1))
 else none
 else none
 else
 some table
def CI (n_:Int) (f:Int×(List Int)) (tables:List (List Int)) (places:Int):Option ((List Int)):=
 if 0<=places/\places<=places/\places<=lim then
 (AZ Aa (n_,tables,(f.1,f.2),List.replicate (Int.toNat places) (0:Int),((List.replicate (Int.toNat places) (0:Int)).length:Int),0)).bind λs1=>
 some s1
 else none
def AH:Nat->(Int×(Int×(List Int))×(Int×(List Int))×Int×(List (List Int))×(List (Int×(List Int)))×Int×Int)->Option ((Int×(Int×(List Int))×(Int×(List Int))×Int×(List (List Int)))⊕((Int×(List Int))×Bool))
 |0,_=>none
 |n+1,(t0,t4,t6,t8,t9,t39,t40,t41)=>
 if decide (t41<t40)then
 if inb t41 t39 then
 if((gd t39 t41 (0,[])).1) !=t8 then
 some (.inr ((0,[]),false))
 else
 if decide (t8<1)then
 some (.inr ((0,[]),false))
 else
 (Do ((gd t39 t41 (0,[])).1,(gd t39 t41 (0,[])).2) t0).bind λr3=>
 if !r3 then
 some (.inr ((0,[]),false))
 else
 if t9.length+ [(gd t39 t41 (0,[])).2].length<=lim then
 AH n (t0,(t4.1,t4.2),(t6.1,t6.2),t8,t9++ [(gd t39 t41 (0,[])).2],t39,t40,w64 (t41+1))
 else none
 else none
 else
 some (.inl (t0,(t4.1,t4.2),(t6.1,t6.2),t8,t9))
def Cl (t0:Int) (t1:Int×(List Int)) (t2:List (Int×(List Int))):Option ((Int×(List Int))×Bool):=
 (Ea t0).bind λr1=>
  if !r1 then
   some ((0,[]),false)
  else
   (Do (t1.1,t1.2) t0).bind λr2=>
    if !r2 then
     some ((0,[]),false)
    else
     if decide (t1.1<1)then
      some ((0,[]),false)
     else
      if(t2.length:Int) !=t1.1 then
       some ((0,[]),false)
      else
       if inb 0 t2 then
        (AH Aa (t0,(t1.1,t1.2),(0,[]),(gd t2 0 (0,[])).1,[],t2,(t2.length:Int),0)).bind λs3=>
         match s3 with
         | .inl s4=>
          (Bd s4.1 s4.2.2.2.1).bind λr6=>
           (CI s4.1 (s4.2.1.1,s4.2.1.2) s4.2.2.2.2 r6).bind λr7=>
            some ((s4.2.2.2.1,r7),true)
         | .inr s5=>
          some ((s5.1.1,s5.1.2),s5.2)
       else none
def A9:Nat->(Int×Int×Int×(List Int)×Int)->Option ((List Int))
 |0,_=>none
 |n+1,(n_,k,place,out,at_)=>
 (AS n_ k).bind λr1=>
 if decide (at_<r1)then
 (Db n_ k at_).bind λr2=>
 if inb place r2 then
 if out.length+ [gd r2 place 0].length<=lim then
 A9 n (n_,k,place,out++ [gd r2 place 0],w64 (at_+1))
 else none
 else none
 else
 some out
def Ds (n_:Int) (k:Int) (place:Int):Option ((List Int)):=
 (A9 Aa (n_,k,place,[],0)).bind λs1=>
 some s1
def AJ:Nat->(((List Int)×Int×Int)×Int×(Int×(List Int))×(Int×(List Int))×Int)->Option (((List Int)×Int×Int)×Int×(Int×(List Int))×(Int×(List Int)))
 |0,_=>none
 |n+1,(t0,t1,t4,t5,t6)=>
 if decide (t6>0)then
 (Ae (t0.1,(t0.2.1,t0.2.2)) t1).bind λr5=>
 if t5.2.length+ [r5.2].length<=lim then
 AJ n ((r5.1.1,(r5.1.2.1,r5.1.2.2)),t1,(t4.1,t4.2),(t5.1,t5.2++ [r5.2]),w64 (t6-1))
 else none
 else
 some ((t0.1,(t0.2.1,t0.2.2)),t1,(t4.1,t4.2),(t5.1,t5.2))
def AN (t0:(List Int)×Int×Int) (t1:Int):Option (((List Int)×Int×Int)×(Int×(List Int))):=
 (CL t1 1).bind λr1=>
 (DX r1 4).bind λr2=>
 (Ac (t0.1,(t0.2.1,t0.2.2)) [1,1,2,2,2,3,0]).bind λr3=>
 (AS r2 r3.2).bind λr4=>
 (AJ Aa ((r3.1.1,(r3.1.2.1,r3.1.2.2)),r2,(0,[]),(r3.2,[]),r4)).bind λs5=>
 (Ae (s5.1.1,(s5.1.2.1,s5.1.2.2)) 12).bind λr6=>
 if r6.2==0 then
 if decide (s5.2.2.2.1>0)then
 (Ae (r6.1.1,(r6.1.2.1,r6.1.2.2)) s5.2.2.2.1).bind λr7=>
 (Ds s5.2.1 s5.2.2.2.1 r7.2).bind λr8=>
 some ((r7.1.1,(r7.1.2.1,r7.1.2.2)),(s5.2.2.2.1,r8))
 else
 some ((r6.1.1,(r6.1.2.1,r6.1.2.2)),(s5.2.2.2.1,s5.2.2.2.2))
 else
 if r6.2==1 then
 (Ae (r6.1.1,(r6.1.2.1,r6.1.2.2)) (s5.2.2.2.2.length:Int)).bind λr9=>
 (Ac (r9.1.1,(r9.1.2.1,r9.1.2.2)) [(-1),s5.2.1,0]).bind λr10=>
 if inb r9.2 s5.2.2.2.2 then
 some ((r10.1.1,(r10.1.2.1,r10.1.2.2)),(s5.2.2.2.1,stt s5.2.2.2.2 r9.2 r10.2))
 else none
 else
 if r6.2==2 then
 if s5.2.2.2.2.length+ [0].length<=lim then
 some ((r6.1.1,(r6.1.2.1,r6.1.2.2)),(s5.2.2.2.1,s5.2.2.2.2++ [0]))
 else none
 else
 some ((r6.1.1,(r6.1.2.1,r6.1.2.2)),(s5.2.2.2.1,s5.2.2.2.2))
def Az (code:List Int):Option (Int×(List (Int×(List (List Int))))×(Int×(List Int))):=
 (B1 (code,(0,0))).bind λr1=>
 (Bq (r1.1.1,(r1.1.2.1,r1.1.2.2))).bind λr2=>
 (CE r1.2.1 r1.2.2 r2.2).bind λr3=>
 if r3 then
 (AA (r2.1.1,(r2.1.2.1,r2.1.2.2)) 2).bind λr4=>
 if r4.2 then
 (AS r1.2.1 r2.2).bind λr5=>
 (CS r5).bind λr6=>
 (BV r1.2.1 r1.2.2 r2.2 r6 20).bind λr7=>
 if decide ((r7.1.length:Int)>0)then
 (Ae (r4.1.1,(r4.1.2.1,r4.1.2.2)) (r7.1.length:Int)).bind λr8=>
 if inb r8.2 r7.1 then
 (Cc (gd r7.1 r8.2 [])).bind λr9=>
 some (r1.2.1,r1.2.2,(r2.2,r9))
 else none
 else
 (AN (r4.1.1,(r4.1.2.1,r4.1.2.2)) r1.2.1).bind λr10=>
 some (r1.2.1,r1.2.2,(r10.2.1,r10.2.2))
 else
 (AN (r4.1.1,(r4.1.2.1,r4.1.2.2)) r1.2.1).bind λr11=>
 some (r1.2.1,r1.2.2,(r11.2.1,r11.2.2))
 else
 (AN (r2.1.1,(r2.1.2.1,r2.1.2.2)) r1.2.1).bind λr12=>
 some (r1.2.1,r1.2.2,(r12.2.1,r12.2.2))
def Au:Nat->(Int×(List (Int×(List (List Int))))×(Int×(List Int))×Int)->Option ((Unit)⊕(Bool×Bool))
 |0,_=>none
 |n+1,(n_,rels,op,i)=>
 if decide (i<(rels.length:Int))then
 if inb i rels then
 (C2 n_ (op.1,op.2) (gd rels i (0,[]))).bind λr5=>
 if !r5 then
 some (.inr (false,true))
 else
 Au n (n_,rels,(op.1,op.2),w64 (i+1))
 else none
 else
 some (.inl ())
def AL (n_:Int) (rels:List (Int×(List (List Int)))) (op:Int×(List Int)):Option (Bool×Bool):=
 (Dm n_).bind λr1=>
  if !r1 then
   some (false,false)
  else
   (CT n_ rels).bind λr2=>
    if !r2 then
     some (false,false)
    else
     (En n_ (op.1,op.2)).bind λr3=>
      if !r3 then
       some (false,false)
      else
       if decide (op.1>0)then
        (C4 n_ rels op.1).bind λr4=>
         if !r4 then
          some (false,false)
         else
          if op.1==0 then
           some (false,true)
          else
           (Au Aa (n_,rels,(op.1,op.2),0)).bind λs5=>
            match s5 with
            | .inl s6=>
             some (true,true)
            | .inr s7=>
             some (s7.1,s7.2)
       else
        if op.1==0 then
         some (false,true)
        else
         (Au Aa (n_,rels,(op.1,op.2),0)).bind λs8=>
          match s8 with
          | .inl s9=>
           some (true,true)
          | .inr s10=>
           some (s10.1,s10.2)
def AI:Nat->((List Int)×Int×(List (Int×(List (List Int))))×Int×(List (Int×(List Int)))×Int×(Int×(List Int))×(List (Int×(List Int)))×Int)->Option ((List Int)×Int×(List (Int×(List (List Int))))×Int×(List (Int×(List Int)))×Int×(Int×(List Int))×(List (Int×(List Int))))
 |0,_=>none
 |n+1,(t0,t3,t4,t5,t6,t14,t15,t18,t19)=>
 if decide (t19<t5)then
 if(t6.length:Int)≠0 then
 if inb (Int.tmod (w64 ((w64 (t14*5))+(w64 (t19*3)))) (t6.length:Int)) t6 then
 if t18.length+ [gd t6 (Int.tmod (w64 ((w64 (t14*5))+(w64 (t19*3)))) (t6.length:Int)) (0,[])].length<=lim then
 AI n (t0,t3,t4,t5,t6,t14,(t15.1,t15.2),t18++ [gd t6 (Int.tmod (w64 ((w64 (t14*5))+(w64 (t19*3)))) (t6.length:Int)) (0,[])],w64 (t19+1))
 else none
 else none
 else none
 else
 some (t0,t3,t4,t5,t6,t14,(t15.1,t15.2),t18)
def Av:Nat->((List Int)×Int×(List (Int×(List (List Int))))×Int×(List (Int×(List Int)))×Int)->Option (((List Int)×Int×(List (Int×(List (List Int))))×Int×(List (Int×(List Int))))⊕(Bool))
 |0,_=>none
 |n+1,(t0,t3,t4,t5,t6,t14)=>
 if decide (t14<(t6.length:Int))then
 if decide (t14<8)then
 if(t6.length:Int)≠0 then
 if inb (Int.tmod (w64 (t14*13)) (t6.length:Int)) t6 then
 (Aq t3 t4 ((gd t6 (Int.tmod (w64 (t14*13)) (t6.length:Int)) (0,[])).1,(gd t6 (Int.tmod (w64 (t14*13)) (t6.length:Int)) (0,[])).2)).bind λr8=>
 if !r8.2 then
 some (.inr false)
 else
 if !r8.1 then
 some (.inr false)
 else
 (AI Aa (t0,t3,t4,t5,t6,t14,((gd t6 (Int.tmod (w64 (t14*13)) (t6.length:Int)) (0,[])).1,(gd t6 (Int.tmod (w64 (t14*13)) (t6.length:Int)) (0,[])).2),[],0)).bind λs9=>
 (Cl s9.2.1 (s9.2.2.2.2.2.2.1.1,s9.2.2.2.2.2.2.1.2) s9.2.2.2.2.2.2.2).bind λr10=>
 (Aq s9.2.1 s9.2.2.1 (r10.1.1,r10.1.2)).bind λr11=>
 if !r10.2 then
 some (.inr false)
 else
 if !r11.2 then
 some (.inr false)
 else
 if !r11.1 then
 some (.inr false)
 else
 Av n (s9.1,s9.2.1,s9.2.2.1,s9.2.2.2.1,s9.2.2.2.2.1,w64 (s9.2.2.2.2.2.1+1))
 else none
 else none
 else
 some (.inl (t0,t3,t4,t5,t6))
 else
 some (.inl (t0,t3,t4,t5,t6))
def Aw:Nat->((List Int)×Int×(List (Int×(List (List Int))))×Int×(List (Int×(List Int)))×(List Int))->Option ((List Int)×Int×(List (Int×(List (List Int))))×Int×(List (Int×(List Int)))×(List Int))
 |0,_=>none
 |n+1,(t0,t3,t4,t5,t6,t24)=>
 if inb 0 t6 then
 if decide ((t24.length:Int)<(((gd t6 0 (0,[])).2).length:Int))then
 if t24.length+ [(-1)].length<=lim then
 Aw n (t0,t3,t4,t5,t6,t24++ [(-1)])
 else none
 else
 some (t0,t3,t4,t5,t6,t24)
 else none
def C9 (t0:List Int):Option (Bool):=
 (FW t0).bind λr1=>
  if r1 then
   some true
  else
   (BX t0).bind λr2=>
    (AQ r2.1 r2.2.1 r2.2.2).bind λr3=>
     (Cs r2.1 r2.2.1 r2.2.2).bind λr4=>
      if r3.2 !=r4.2 then
       some false
      else
       (EW r3.1 r4.1).bind λr5=>
        if !r5 then
         some false
        else
         (B2 r2.1 r2.2.1 r2.2.2).bind λr6=>
          (B7 r2.1 r2.2.1 r2.2.2).bind λr7=>
           if r6.1 !=r7.1 then
            some false
           else
            if r6.2 !=r7.2 then
             some false
            else
             if r3.2 then
              if r6.1 !=(r3.1.length:Int)then
               some false
              else
               if r3.2 then
                (Av Aa (t0,r2.1,r2.2.1,r2.2.2,r3.1,0)).bind λs8=>
                 match s8 with
                 | .inl s9=>
                  (Aw Aa (s9.1,s9.2.1,s9.2.2.1,s9.2.2.2.1,s9.2.2.2.2,[])).bind λs11=>
                   (Al s11.2.1 s11.2.2.1 s11.2.2.2.1 s11.2.2.2.2.2).bind λr12=>
                    if !r12.2 then
                     some false
                    else
                     if inb 0 s11.2.2.2.2.1 then
                      (BM (r12.1.1,r12.1.2) (gd s11.2.2.2.2.1 0 (0,[]))).bind λr13=>
                       if !r13 then
                        some false
                       else
                        (Az s11.1).bind λr14=>
                         (Aq r14.1 r14.2.1 (r14.2.2.1,r14.2.2.2)).bind λr15=>
                          (AL r14.1 r14.2.1 (r14.2.2.1,r14.2.2.2)).bind λr16=>
                           if r15.1 !=r16.1 then
                            some false
                           else
                            if r15.2 !=r16.2 then
                             some false
                            else
                             if r15.2 then
                              if decide (r14.2.2.1>0)then
                               (Al r14.1 r14.2.1 r14.2.2.1 r14.2.2.2).bind λr17=>
                                if r15.1 then
                                 if r17.2 !=(decide ((r14.2.2.2.length:Int)<=9))then
                                  some false
                                 else
                                  if r17.2 then
                                   (BM (r17.1.1,r17.1.2) (r14.2.2.1,r14.2.2.2)).bind λr18=>
                                    if !r18 then
                                     some false
                                    else
                                     some true
                                  else
                                   some true
                                else
                                 if r17.2 !=false then
                                  some false
                                 else
                                  if r17.2 then
                                   (BM (r17.1.1,r17.1.2) (r14.2.2.1,r14.2.2.2)).bind λr19=>
                                    if !r19 then
                                     some false
                                    else
                                     some true
                                  else
                                   some true
                              else
                               some true
                             else
                              some true
                     else none
                 | .inr s10=>
                  some s10
               else
                (Az t0).bind λr20=>
                 (Aq r20.1 r20.2.1 (r20.2.2.1,r20.2.2.2)).bind λr21=>
                  (AL r20.1 r20.2.1 (r20.2.2.1,r20.2.2.2)).bind λr22=>
                   if r21.1 !=r22.1 then
                    some false
                   else
                    if r21.2 !=r22.2 then
                     some false
                    else
                     if r21.2 then
                      if decide (r20.2.2.1>0)then
                       (Al r20.1 r20.2.1 r20.2.2.1 r20.2.2.2).bind λr23=>
                        if r21.1 then
                         if r23.2 !=(decide ((r20.2.2.2.length:Int)<=9))then
                          some false
                         else
                          if r23.2 then
                           (BM (r23.1.1,r23.1.2) (r20.2.2.1,r20.2.2.2)).bind λr24=>
                            if !r24 then
                             some false
                            else
                             some true
                          else
                           some true
                        else
                         if r23.2 !=false then
                          some false
                         else
                          if r23.2 then
                           (BM (r23.1.1,r23.1.2) (r20.2.2.1,r20.2.2.2)).bind λr25=>
                            if !r25 then
                             some false
                            else
                             some true
                          else
                           some true
                      else
                       some true
                     else
                      some true
             else
              if r3.2 then
               (Av Aa (t0,r2.1,r2.2.1,r2.2.2,r3.1,0)).bind λs26=>
                match s26 with
                | .inl s27=>
                 (Aw Aa (s27.1,s27.2.1,s27.2.2.1,s27.2.2.2.1,s27.2.2.2.2,[])).bind λs29=>
                  (Al s29.2.1 s29.2.2.1 s29.2.2.2.1 s29.2.2.2.2.2).bind λr30=>
                   if !r30.2 then
                    some false
                   else
                    if inb 0 s29.2.2.2.2.1 then
                     (BM (r30.1.1,r30.1.2) (gd s29.2.2.2.2.1 0 (0,[]))).bind λr31=>
                      if !r31 then
                       some false
                      else
                       (Az s29.1).bind λr32=>
                        (Aq r32.1 r32.2.1 (r32.2.2.1,r32.2.2.2)).bind λr33=>
                         (AL r32.1 r32.2.1 (r32.2.2.1,r32.2.2.2)).bind λr34=>
                          if r33.1 !=r34.1 then
                           some false
                          else
                           if r33.2 !=r34.2 then
                            some false
                           else
                            if r33.2 then
                             if decide (r32.2.2.1>0)then
                              (Al r32.1 r32.2.1 r32.2.2.1 r32.2.2.2).bind λr35=>
                               if r33.1 then
                                if r35.2 !=(decide ((r32.2.2.2.length:Int)<=9))then
                                 some false
                                else
                                 if r35.2 then
                                  (BM (r35.1.1,r35.1.2) (r32.2.2.1,r32.2.2.2)).bind λr36=>
                                   if !r36 then
                                    some false
                                   else
                                    some true
                                 else
                                  some true
                               else
                                if r35.2 !=false then
                                 some false
                                else
                                 if r35.2 then
                                  (BM (r35.1.1,r35.1.2) (r32.2.2.1,r32.2.2.2)).bind λr37=>
                                   if !r37 then
                                    some false
                                   else
                                    some true
                                 else
                                  some true
                             else
                              some true
                            else
                             some true
                    else none
                | .inr s28=>
                 some s28
              else
               (Az t0).bind λr38=>
                (Aq r38.1 r38.2.1 (r38.2.2.1,r38.2.2.2)).bind λr39=>
                 (AL r38.1 r38.2.1 (r38.2.2.1,r38.2.2.2)).bind λr40=>
                  if r39.1 !=r40.1 then
                   some false
                  else
                   if r39.2 !=r40.2 then
                    some false
                   else
                    if r39.2 then
                     if decide (r38.2.2.1>0)then
                      (Al r38.1 r38.2.1 r38.2.2.1 r38.2.2.2).bind λr41=>
                       if r39.1 then
                        if r41.2 !=(decide ((r38.2.2.2.length:Int)<=9))then
                         some false
                        else
                         if r41.2 then
                          (BM (r41.1.1,r41.1.2) (r38.2.2.1,r38.2.2.2)).bind λr42=>
                           if !r42 then
                            some false
                           else
                            some true
                         else
                          some true
                       else
                        if r41.2 !=false then
                         some false
                        else
                         if r41.2 then
                          (BM (r41.1.1,r41.1.2) (r38.2.2.1,r38.2.2.2)).bind λr43=>
                           if !r43 then
                            some false
                           else
                            some true
                         else
                          some true
                     else
                      some true
                    else
                     some true
end T
open Go Go.Va
namespace T
def rowsB (R W:Nat) (l:List (List Int)):Prop:=l.length<=R/\ ∀r∈l,r.length<=W
theorem rowsB.mono {R W R' W':Nat} {l:List (List Int)} (h:rowsB R W l) (h1:R<=R') (h2:W<=W'):rowsB R' W' l:=⟨by have:=h.1;omega,λr hr=>by have:=h.2 r hr;omega⟩
theorem rowsB.app {R W:Nat} {l:List (List Int)} {t:List Int} (h:rowsB R W l) (ht:t.length<=W):rowsB (R+1) W (l++ [t]):=⟨by rw[List.length_append,List.length_singleton];have:=h.1;omega,λr hr=>by
 rcases List.mem_append.1 hr with hr|hr
 ·exact h.2 r hr
 ·rw[List.mem_singleton.1 hr];exact ht⟩
theorem Jx:ER=EG:=rfl
theorem IB {N:Nat} (hN:N<=8): ∀(d f k x:Nat) (c:C6) (o:List Int),x+d=N->d<f->Cur k c->k+2*d<=1000000->o.length=x->
  ∃c' o',Ar f (c,(N:Int),o,(x:Int))=some (c',o')/\Cur (k+2*d) c'/\o'.length=N:=by
 intro d
 induction d with
 |zero=>
  intro f k x c o hx hf hc hk ho
  obtain⟨f,rfl⟩: ∃z,f=z+1:=⟨f-1,by omega⟩
  refine⟨c,o,?_,hc,by omega⟩
  simp only[Ar]
  rw[if_neg (by simp;omega)]
 |succ d ih=>
  intro f k x c o hx hf hc hk ho
  obtain⟨f,rfl⟩: ∃z,f=z+1:=⟨f-1,by omega⟩
  obtain⟨c1,x1,e1,g1,a1,b1,_⟩:=CG hc (by omega) ((x+1:Nat):Int) (by omega)
  have b1:=b1 (by omega)
  have e1:Ae (c.1,(c.2.1,c.2.2)) ((x+1:Nat):Int)=_:=e1
  have ew:=Ag (show x<4611686018427387904 by omega)
  simp only[Ar,ew,e1,Option.bind_some]
  rw[if_pos (by simp;omega)]
  by_cases h:x1<(x:Int)
  ·obtain⟨c',o',e2,g2,l2⟩:=ih f (k+2) (x+1) c1 (o++ [gd o x1 0]) (by omega) (by omega) g1 (by omega) (by simp;omega)
   refine⟨c',o',?_,g2.mono (by omega),l2⟩
   rw[if_pos (by simpa using h),if_pos (by unfold inb;omega),if_pos (by simp;unfold lim;omega)]
   exact e2
  ·obtain⟨c',o',e2,g2,l2⟩:=ih f (k+2) (x+1) c1 (o++ [x1]) (by omega) (by omega) g1 (by omega) (by simp;omega)
   refine⟨c',o',?_,g2.mono (by omega),l2⟩
   rw[if_neg (by simpa using h),if_pos (by simp;unfold lim;omega)]
   exact e2
theorem Gf {N k:Nat} {c:C6} (hN:N<=8) (hc:Cur k c) (hk:k<=500000): ∃c' o,BA c (N:Int)=some (c',o)/\Cur (k+16) c'/\o.length=N:=by
 obtain⟨c',o,e,g,l⟩:=IB hN N Aa k 0 c [] (by omega) (by unfold Aa;omega) hc (by omega) rfl
 refine⟨c',o,?_,g.mono (by omega),l⟩
 unfold BA
 have e:Ar Aa ((c.1,(c.2.1,c.2.2)),(N:Int),[],0)=_:=e
 rw[e];rfl
theorem Hu {p:List Int} (hp:p.length<=8): ∃out,CB p=some (2,out)/\rowsB 64 2 out:=by
 have in6: ∀(x:Nat),x<p.length-> ∀(d f y:Nat) (o:List (List Int)),y+d=p.length->d<f->rowsB (8*x+y) 2 o->
   ∃o',AC f (p,(0,[]),(2,o),(x:Int),(y:Int))=some (p,(0,[]),(2,o'),(x:Int))/\rowsB (8*x+p.length) 2 o':=by
  intro x hx d
  induction d with
  |zero=>
   intro f y o hy hf ho
   obtain⟨f,rfl⟩: ∃z,f=z+1:=⟨f-1,by omega⟩
   refine⟨o,?_,ho.mono (by omega) (by omega)⟩
   simp only[AC]
   rw[if_neg (by simp;omega)]
  |succ d ih=>
   intro f y o hy hf ho
   obtain⟨f,rfl⟩: ∃z,f=z+1:=⟨f-1,by omega⟩
   have hyl:y<p.length:=by omega
   have hol:=ho.1
   simp only[AC,Ai,hx,hyl,if_true,Ag (show y<4611686018427387904 by omega)]
   rw[if_pos (by simp;omega)]
   by_cases h:(gd p (x:Int) 0==gd p (y:Int) 0)=true
   ·obtain⟨o',e,g⟩:=ih f (y+1) (o++ [[(x:Int),(y:Int)]]) (by omega) (by omega) (by rw[←Nat.add_assoc];exact ho.app (by simp))
    refine⟨o',?_,g⟩
    rw[if_pos h,if_pos (by simp;unfold lim;omega)]
    exact e
   ·obtain⟨o',e,g⟩:=ih f (y+1) o (by omega) (by omega) (ho.mono (by omega) (by omega))
    refine⟨o',?_,g⟩
    rw[if_neg h]
    exact e
 have in3: ∀(d f x:Nat) (o:List (List Int)),x+d=p.length->d<f->rowsB (8*x) 2 o->
   ∃o',AW f (p,(0,[]),(2,o),(x:Int))=some ((0,[]),(2,o'))/\rowsB 64 2 o':=by
  intro d
  induction d with
  |zero=>
   intro f x o hx hf ho
   obtain⟨f,rfl⟩: ∃z,f=z+1:=⟨f-1,by omega⟩
   refine⟨o,?_,ho.mono (by omega) (by omega)⟩
   simp only[AW]
   rw[if_neg (by simp;omega)]
  |succ d ih=>
   intro f x o hx hf ho
   obtain⟨f,rfl⟩: ∃z,f=z+1:=⟨f-1,by omega⟩
   obtain⟨o1,e1,g1⟩:=in6 x (by omega) p.length Aa 0 o (by omega) (by unfold Aa;omega) ho
   have e1:AC Aa (p,(0,[]),(2,o),(x:Int),0)=_:=e1
   obtain⟨o',e2,g2⟩:=ih f (x+1) o1 (by omega) (by omega) (g1.mono (by omega) (by omega))
   refine⟨o',?_,g2⟩
   simp only[AW,e1,Option.bind_some,Ag (show x<4611686018427387904 by omega)]
   rw[if_pos (by simp;omega)]
   exact e2
 obtain⟨o,e,g⟩:=in3 p.length Aa 0 [] (by omega) (by unfold Aa;omega) ⟨by simp,by simp⟩
 refine⟨o,?_,g⟩
 unfold CB
 have e:AW Aa (p,(0,[]),(2,[]),0)=_:=e
 rw[e];rfl
theorem Hq {N A:Nat} (hN:1<=N/\N<=8) (hA:1<=A/\A<=3): ∃out,Cz (N:Int) (A:Int)=some ((A:Int),out)/\rowsB 512 3 out:=by
 have hp:N^A<=512:=by
  have:N^A<=8^3:=Nat.le_trans (Nat.pow_le_pow_left hN.2 A) (Nat.pow_le_pow_right (by omega) hA.2)
  omega
 have e1:=DG (n:=(N:Int)) (by omega) (by omega) (k:=A) (by omega)
 have e0:(N:Int)^A=((N^A:Nat):Int):=by rw[Int.natCast_pow]
 rw[e0]at e1
 have key: ∀(d f x:Nat) (o:List (List Int)),x+d=N^A->d<f->rowsB x 3 o->
   ∃o',BP f ((N:Int),(A:Int),(0,[]),((A:Int),o),(x:Int))=some ((0,[]),((A:Int),o'))/\rowsB (N^A) 3 o':=by
  intro d
  induction d with
  |zero=>
   intro f x o hx hf ho
   obtain⟨f,rfl⟩: ∃z,f=z+1:=⟨f-1,by omega⟩
   refine⟨o,?_,ho.mono (by omega) (by omega)⟩
   simp only[BP,e1,Option.bind_some]
   rw[if_neg (by simp only[decide_eq_true_eq];omega)]
  |succ d ih=>
   intro f x o hx hf ho
   obtain⟨f,rfl⟩: ∃z,f=z+1:=⟨f-1,by omega⟩
   have hol:=ho.1
   have e2:=Du (b:=N) (k:=A) (i:=x) (by omega) (by omega) (by omega)
   have hl2:(cI (dg N A x)).length=A:=by rw[Bj,CN]
   obtain⟨o',e3,g3⟩:=ih f (x+1) (o++ [cI (dg N A x)]) (by omega) (by omega) (ho.app (by omega))
   refine⟨o',?_,g3⟩
   simp only[BP,e1,e2,Option.bind_some,Ag (show x<4611686018427387904 by omega)]
   rw[if_pos (by simp only[decide_eq_true_eq];omega),if_pos (by simp;unfold lim;omega)]
   exact e3
 obtain⟨o,e,g⟩:=key (N^A) Aa 0 [] (by omega) (by unfold Aa;omega) ⟨by simp,by simp⟩
 refine⟨o,?_,g.mono hp (by omega)⟩
 unfold Cz
 have e:BP Aa ((N:Int),(A:Int),(0,[]),((A:Int),[]),0)=_:=e
 rw[e];rfl
theorem Ja {N:Int} (hN:N<=100) {A:Nat} (hA:A<=3) (t6 t7:Int×List (List Int)) (t8:Int): ∀(d f k x:Nat) (c:C6) (o:List Int),x+d=A->d<f->Cur k c->k+2*d<=1000000->o.length=x->
  ∃c' o',AY f (c,N,(A:Int),t6,t7,t8,o,(x:Int))=some (c',N,(A:Int),t6,t7,t8,o')/\Cur (k+2*d) c'/\o'.length=A:=by
 intro d
 induction d with
 |zero=>
  intro f k x c o hx hf hc hk ho
  obtain⟨f,rfl⟩: ∃z,f=z+1:=⟨f-1,by omega⟩
  refine⟨c,o,?_,hc,by omega⟩
  simp only[AY]
  rw[if_neg (by simp;omega)]
 |succ d ih=>
  intro f k x c o hx hf hc hk ho
  obtain⟨f,rfl⟩: ∃z,f=z+1:=⟨f-1,by omega⟩
  obtain⟨c1,x1,e1,g1,_⟩:=CG hc (by omega) N (by omega)
  have e1:Ae (c.1,(c.2.1,c.2.2)) N=_:=e1
  obtain⟨c',o',e2,g2,l2⟩:=ih f (k+2) (x+1) c1 (o++ [x1]) (by omega) (by omega) g1 (by omega) (by simp;omega)
  refine⟨c',o',?_,g2.mono (by omega),l2⟩
  simp only[AY,e1,Option.bind_some,Ag (show x<4611686018427387904 by omega)]
  rw[if_pos (by simp;omega),if_pos (by simp;unfold lim;omega)]
  exact e2
theorem I9 {N:Int} (hN:N<=100) {A:Nat} (hA:A<=3) (t6:Int×List (List Int)): ∀(d f k:Nat) (c:C6) (o:List (List Int)),d<f->Cur k c->k+10*d<=500000->o.length+d<=1000->CJ o=true->(∀u∈o,u.length=A)->
  ∃c' o',AX f (c,N,(A:Int),t6,((A:Int),o),(d:Int))=some (c',N,(A:Int),t6,((A:Int),o'))/\Cur (k+10*d) c'/\rowsB (o.length+d) A o':=by
 intro d
 induction d with
 |zero=>
  intro f k c o hf hc hk ho hi hl
  obtain⟨f,rfl⟩: ∃z,f=z+1:=⟨f-1,by omega⟩
  refine⟨c,o,?_,hc,⟨by omega,λu hu=>by rw[hl u hu];exact Nat.le_refl _⟩⟩
  simp only[AX]
  rw[if_neg (by simp)]
 |succ d ih=>
  intro f k c o hf hc hk ho hi hl
  obtain⟨f,rfl⟩: ∃z,f=z+1:=⟨f-1,by omega⟩
  obtain⟨c1,t,e1,g1,l1⟩:=Ja hN hA t6 ((A:Int),o) ((d+1:Nat):Int) A Aa k 0 c [] (by omega) (by unfold Aa;omega) hc (by omega) rfl
  have e1:AY Aa ((c.1,(c.2.1,c.2.2)),N,(A:Int),(t6.1,t6.2),((A:Int),o),((d+1:Nat):Int),[],0)=_:=e1
  obtain⟨o1,p1,p2,p3,p4⟩:=FN (list:=o) (t:=t) (k:=A) (by omega) (by omega) hl l1 hi
  have z1:=IE p2 hi p3 p4
  obtain⟨c',o',e2,g2,l2⟩:=ih f (k+2*A) c1 o1 (by omega) g1 (by omega) (by omega) p2 (λu hu=>((p3 u).1 hu).elim (λh=>by rw[h];exact l1) (hl u))
  refine⟨c',o',?_,g2.mono (by omega),l2.mono (by omega) (by omega)⟩
  have ew:w64 (((d+1:Nat):Int)-1)=(d:Int):=by rw[Ax (by omega) (by omega)];omega
  simp only[AX,e1,Jx,p1,Option.bind_some,ew]
  rw[if_pos (by simp)]
  exact e2
def EN (c:C6) (N A:Int) (out:Int×List (List Int)):Option (C6×(Int×List (List Int))):=
 (Ae (c.1,(c.2.1,c.2.2)) 40).bind λr10=>
 if r10.2==0 then
 (Ac (r10.1.1,(r10.1.2.1,r10.1.2.2)) [0,4,(-1)]).bind λr11=>
 some ((r11.1.1,(r11.1.2.1,r11.1.2.2)),(r11.2,out.2))
 else
 if r10.2==1 then
 if 0<=A/\A<=A/\A<=lim then
 if out.2.length+ [List.replicate (Int.toNat A) (0:Int)].length<=lim then
 some ((r10.1.1,(r10.1.2.1,r10.1.2.2)),(out.1,out.2++ [List.replicate (Int.toNat A) (0:Int)]))
 else none
 else none
 else
 if r10.2==2 then
 if decide ((out.2.length:Int)>0)then
 (Ac (r10.1.1,(r10.1.2.1,r10.1.2.2)) [(-1),N,0]).bind λr12=>
 if inb 0 out.2 then
 some ((r12.1.1,(r12.1.2.1,r12.1.2.2)),(out.1,stt out.2 0 [r12.2]))
 else none
 else
 some ((r10.1.1,(r10.1.2.1,r10.1.2.2)),(out.1,out.2))
 else
 some ((r10.1.1,(r10.1.2.1,r10.1.2.2)),(out.1,out.2))
theorem G2 {k:Nat} {c:C6} (hc:Cur k c) (hk:k<=1000000) {N:Int} {A:Nat} (hA:A<=3) {out:Int×List (List Int)} (ho:rowsB 600 3 out.2): ∃c' r,EN c N (A:Int) out=some (c',r)/\Cur (k+4) c'/\rowsB 601 3 r.2:=by
 obtain⟨c1,x1,e1,g1,_⟩:=CG hc (by omega) 40 (by omega)
 have e1:Ae (c.1,(c.2.1,c.2.2)) 40=_:=e1
 have hol:=ho.1
 unfold EN
 simp only[e1,Option.bind_some]
 by_cases h0:x1=0
 ·rw[if_pos (by simpa using h0)]
  obtain⟨c2,x2,e2,g2,_⟩:=Dp g1 (by omega) (l:= [0,4,(-1)]) (by simp) (by simp)
  have e2:Ac (c1.1,(c1.2.1,c1.2.2)) [0,4,(-1)]=_:=e2
  simp only[e2,Option.bind_some]
  exact⟨_,_,rfl,g2.mono (by omega),ho.mono (by omega) (by omega)⟩
 ·rw[if_neg (by simpa using h0)]
  by_cases h1:x1=1
  ·rw[if_pos (by simpa using h1),if_pos (by unfold lim;omega),if_pos (by simp;unfold lim;omega)]
   exact⟨_,_,rfl,g1.mono (by omega),ho.app (by simp;omega)⟩
  ·rw[if_neg (by simpa using h1)]
   by_cases h2:x1=2
   ·rw[if_pos (by simpa using h2)]
    by_cases h3:(out.2.length:Int)>0
    ·rw[if_pos (by simpa using h3)]
     obtain⟨c2,x2,e2,g2,_⟩:=Dp g1 (by omega) (l:= [(-1),N,0]) (by simp) (by simp)
     have e2:Ac (c1.1,(c1.2.1,c1.2.2)) [(-1),N,0]=_:=e2
     simp only[e2,Option.bind_some]
     rw[if_pos (by unfold inb;omega)]
     refine⟨_,_,rfl,g2.mono (by omega),⟨by show(List.set out.2 _ _).length<=601;rw[List.length_set];omega,λr hr=>?_⟩⟩
     have hr:r∈List.set out.2 (0:Int).toNat [x2]:=hr
     rcases List.mem_or_eq_of_mem_set hr with hr|rfl
     ·exact ho.2 r hr
     ·simp
    ·rw[if_neg (by simpa using h3)]
     exact⟨_,_,rfl,g1.mono (by omega),ho.mono (by omega) (by omega)⟩
   ·rw[if_neg (by simpa using h2)]
    exact⟨_,_,rfl,g1.mono (by omega),ho.mono (by omega) (by omega)⟩
theorem GI {k:Nat} {c:C6} (hc:Cur k c) (hk:k<=100000) {N A:Int} (hN:N<=100): ∃c' r,B0 c N A=some (c',r)/\Cur (k+200) c'/\rowsB 601 3 r.2:=by
 unfold B0
 rw[FG,BB]
 simp only[Option.bind_some]
 cases hs:EO N with
 |false=>exact⟨_,_,rfl,hc.mono (by omega),⟨by simp,by simp⟩⟩
 |true=>
  simp only[Bool.not_true,Bool.false_eq_true,if_false]
  by_cases hA:1<=A/\A<=3
  ·rw[if_neg (by simp;omega)]
   obtain⟨a,rfl⟩: ∃a:Nat,A=(a:Int):=⟨A.toNat,by omega⟩
   have hn:1<=N/\N<=8:=by unfold EO at hs;simpa using hs
   obtain⟨n,rfl⟩: ∃n:Nat,N=(n:Int):=⟨N.toNat,by omega⟩
   obtain⟨c1,x1,e1,g1,m1⟩:=Dp hc (by omega) (l:= [0,1,2,3,4,6,9]) (by simp) (by simp)
   have hx1:0<=x1/\x1<=9:=by simp at m1;omega
   obtain⟨m,rfl⟩: ∃m:Nat,x1=(m:Int):=⟨x1.toNat,by omega⟩
   obtain⟨c2,o,e2,g2,r2⟩:=I9 (N:=(n:Int)) (by omega) (A:=a) (by omega) (0,[]) m Aa (k+2) c1 [] (by unfold Aa;omega) g1 (by omega) (by simp;omega) rfl (by simp)
   have r2:rowsB 600 3 o:=r2.mono (by simp;omega) (by omega)
   have e1:Ac (c.1,(c.2.1,c.2.2)) [0,1,2,3,4,6,9]=_:=e1
   have e2:AX Aa ((c1.1,(c1.2.1,c1.2.2)),(n:Int),(a:Int),(0,[]),((a:Int),[]),(m:Int))=_:=e2
   simp only[e1,e2,Option.bind_some]
   have hn':1<=n/\n<=8:=by omega
   have ha':1<=a/\a<=3:=by omega
   have fin: ∀(c:C6) (out:Int×List (List Int)),Cur (k+150) c->rowsB 600 3 out.2-> ∃c' r,EN c (n:Int) (a:Int) out=some (c',r)/\Cur (k+200) c'/\rowsB 601 3 r.2:=λc out hc ho=>by
    obtain⟨c',r,e,g,h⟩:=G2 hc (by omega) (N:=(n:Int)) (A:=a) (by omega) ho
    exact⟨c',r,e,g.mono (by omega),h⟩
   have mid: ∀(c:C6) (out:Int×List (List Int)),Cur (k+130) c->rowsB 600 3 out.2-> ∃c' r,((AA (c.1,(c.2.1,c.2.2)) 12).bind λr8=>if r8.2 then(Cz (n:Int) (a:Int)).bind λr9=>EN r8.1 (n:Int) (a:Int) r9 else EN r8.1 (n:Int) (a:Int) out)=some (c',r)/\Cur (k+200) c'/\rowsB 601 3 r.2:=λc out hc ho=>by
    obtain⟨c3,b3,e3,g3⟩:=Ge hc (by omega) 12 (by omega)
    have e3:AA (c.1,(c.2.1,c.2.2)) 12=_:=e3
    simp only[e3,Option.bind_some]
    cases b3 with
    |true=>
     obtain⟨w,e4,h4⟩:=Hq hn' ha'
     simp only[if_true,e4,Option.bind_some]
     exact fin c3 ((a:Int),w) (g3.mono (by omega)) (h4.mono (by omega) (by omega))
    |false=>
     simp only[Bool.false_eq_true,if_false]
     exact fin c3 out (g3.mono (by omega)) ho
   by_cases h2:((a:Int)==2)=true
   ·rw[if_pos h2]
    obtain⟨c3,b3,e3,g3⟩:=Ge g2 (by omega) 3 (by omega)
    have e3:AA (c2.1,(c2.2.1,c2.2.2)) 3=_:=e3
    simp only[e3,Option.bind_some]
    cases b3 with
    |true=>
     obtain⟨c4,p,e4,g4,l4⟩:=Gf (N:=n) (by omega) g3 (by omega)
     have e4:BA (c3.1,(c3.2.1,c3.2.2)) (n:Int)=_:=e4
     obtain⟨w,e5,h5⟩:=Hu (p:=p) (by omega)
     simp only[if_true,e4,e5,Option.bind_some]
     exact mid c4 (2,w) (g4.mono (by omega)) (h5.mono (by omega) (by omega))
    |false=>
     simp only[Bool.false_eq_true,if_false]
     exact mid c3 ((a:Int),o) (g3.mono (by omega)) r2
   ·rw[if_neg h2]
    exact mid c2 ((a:Int),o) (g2.mono (by omega)) r2
  ·rw[if_pos (by simp;omega)]
   exact⟨_,_,rfl,hc.mono (by omega),⟨by simp,by simp⟩⟩
end T
open Go Go.Va
namespace T
def E7 (l:List Ba):Prop:=l.length<=5/\ ∀r∈l,rowsB 601 3 r.2
def HV (o:Option (Int×List Ba)):Bool:=match o with
 |some (n,rels)=>decide (0<=n/\n<=5)&&(decide (rels.length<=5)&&rels.all λr=>decide (r.2.length<=601)&&r.2.all λt=>decide (t.length<=3))
 |none=>false
theorem IA (x:Int):HV (C3 x)=true:=by
 unfold C3
 repeat' split
 all_goals rfl
theorem HW (x:Int): ∃n rels,C3 x=some (n,rels)/\0<=n/\n<=5/\E7 rels:=by
 have h:=IA x
 unfold HV at h
 split at h
 ·rename_i n rels e
  simp only[Bool.and_eq_true,decide_eq_true_eq,List.all_eq_true]at h
  exact⟨n,rels,e,h.1.1,h.1.2,h.2.1,λr hr=>h.2.2 r hr⟩
 ·simp at h
theorem Jf {l:List Ba} {i:Nat} (hi:i<l.length) (hr:rowsB 1000 1000 l[i].2) (c:C6) (n:Int) (o:List Ba) (ar:Int):AF Aa (c,n,l,o,(i:Int),(ar,[]),0)=some (c,n,l,o,(i:Int),(ar,l[i].2)):=by
 have h1:=hr.1
 have:=CX l[i].2.length (λm (q:List (List Int)) k=>AF m (c,n,l,o,(i:Int),(ar,q),k)) (λk=>l[i].2.take k) (r:=some (c,n,l,o,(i:Int),(ar,l[i].2))) (λm k hk=>?_) (λm=>?_) (n:=Aa) (by unfold Aa;omega)
 ·exact this
 ·have e:=Ck (l:=l[i].2[k]) (by have:=hr.2 _ (List.getElem_mem hk);omega)
  simp only[AF,Ai,hi,Ap hi,hk,Ap hk,if_true,e,Option.bind_some,Ag (show k<4611686018427387904 by omega)]
  rw[if_pos (by simp;omega),if_pos (by simp;unfold lim;omega),List.take_succ_eq_append_getElem hk]
 ·simp only[AF,Ai,hi,Ap hi,if_true,List.take_length]
  rw[if_neg (by simp)]
theorem Je {l:List Ba} (h:E7 l) (c:C6) (n:Int):AE Aa (c,n,l,[],0)=some (c,n,l):=by
 have h1:=h.1
 have:=CX l.length (λm (q:List Ba) k=>AE m (c,n,l,q,k)) (λk=>l.take k) (r:=some (c,n,l)) (λm k hk=>?_) (λm=>?_) (n:=Aa) (by unfold Aa;omega)
 ·exact this
 ·have e:=Jf hk ((h.2 _ (List.getElem_mem hk)).mono (by omega) (by omega)) c n (l.take k) l[k].1
  have e:AF Aa ((c.1,(c.2.1,c.2.2)),n,l,l.take k,(k:Int),(l[k].1,[]),0)=_:=e
  simp only[AE,Ai,hk,Ap hk,if_true,e,Option.bind_some,Ag (show k<4611686018427387904 by omega)]
  rw[if_pos (by simp;omega),if_pos (by simp;unfold lim;omega),List.take_succ_eq_append_getElem hk]
 ·simp only[AE,List.take_length]
  rw[if_neg (by simp)]
theorem IH {n:Int} (hn:n<=100): ∀(d f k:Nat) (c:C6) (o:List Ba),d<f->Cur k c->k+300*d<=50000->o.length+d<=5->(∀r∈o,rowsB 601 3 r.2)->
  ∃c' o',AO f (c,n,o,(d:Int))=some (c',n,o')/\Cur (k+300*d) c'/\E7 o':=by
 intro d
 induction d with
 |zero=>
  intro f k c o hf hc hk ho hr
  obtain⟨f,rfl⟩: ∃z,f=z+1:=⟨f-1,by omega⟩
  refine⟨c,o,?_,hc,⟨by omega,hr⟩⟩
  simp only[AO]
  rw[if_neg (by simp)]
 |succ d ih=>
  intro f k c o hf hc hk ho hr
  obtain⟨f,rfl⟩: ∃z,f=z+1:=⟨f-1,by omega⟩
  obtain⟨c1,x1,e1,g1,_⟩:=Dp hc (by omega) (l:= [1,2,2,3]) (by simp) (by simp)
  have e1:Ac (c.1,(c.2.1,c.2.2)) [1,2,2,3]=_:=e1
  obtain⟨c2,r,e2,g2,h2⟩:=GI (N:=n) (A:=x1) g1 (by omega) hn
  have e2:B0 (c1.1,(c1.2.1,c1.2.2)) n x1=_:=e2
  obtain⟨c',o',e3,g3,h3⟩:=ih f (k+202) c2 (o++ [r]) (by omega) (g2.mono (by omega)) (by omega) (by simp;omega) (λq hq=>by
   rcases List.mem_append.1 hq with hq|hq
   ·exact hr q hq
   ·rw[List.mem_singleton.1 hq];exact h2)
  refine⟨c',o',?_,g3.mono (by omega),h3⟩
  have ew:w64 (((d+1:Nat):Int)-1)=(d:Int):=by rw[Ax (by omega) (by omega)];omega
  simp only[AO,e1,e2,Option.bind_some,ew]
  rw[if_pos (by simp),if_pos (by simp;unfold lim;omega)]
  exact e3
theorem EZ {k:Nat} {c:C6} (hc:Cur k c) (hk:k<=1000000) (l:List Int) (b m:Nat) (hm:11<=m/\m<=24) (hb:0<b) (hl:b+(23/m)<=l.length) (hl2:l.length<=100):
  ∃c1 x1 c' x,Ae (c.1,(c.2.1,c.2.2)) 24=some (c1,x1)/\((0:Int)<=0/\0<=(w64 ((b:Int)+(w64 (Int.tdiv x1 (m:Int)))))/\(w64 ((b:Int)+(w64 (Int.tdiv x1 (m:Int)))))<=(l.length:Int))/\
   Ac (c1.1,(c1.2.1,c1.2.2)) ((l.take (Int.toNat (w64 ((b:Int)+(w64 (Int.tdiv x1 (m:Int))))))).drop (Int.toNat 0))=some (c',x)/\Cur (k+4) c'/\x∈l:=by
 obtain⟨c1,x1,e1,g1,a1,b1,_⟩:=CG hc (by omega) 24 (by omega)
 have b1:=b1 (by omega)
 obtain⟨y,rfl⟩: ∃y:Nat,x1=(y:Int):=⟨x1.toNat,by omega⟩
 have hqb:y/m<=23/m:=Nat.div_le_div_right (by omega)
 have hq:Int.tdiv (y:Int) (m:Int)=((y/m:Nat):Int):=by rw[Int.tdiv_eq_ediv_of_nonneg (by omega)];rfl
 obtain⟨q,eq⟩: ∃q,q=y/m:=⟨_,rfl⟩
 obtain⟨z,ez⟩: ∃z,z=23/m:=⟨_,rfl⟩
 rw[←ez]at hqb hl
 rw[←eq]at hqb hq
 clear eq ez
 refine⟨c1,(y:Int),?_⟩
 rw[hq]
 clear hq
 have w1:w64 ((q:Nat):Int)=(q:Int):=Ax (by omega) (by omega)
 have w2:w64 ((b:Int)+(q:Int))=((b+q:Nat):Int):=by rw[Ax (by omega) (by omega)];omega
 rw[w1,w2]
 have e0:(l.take (Int.toNat ((b+q:Nat):Int))).drop (Int.toNat 0)=l.take (b+q):=by rw[Int.toNat_natCast];rfl
 rw[e0]
 obtain⟨c2,x2,e2,g2,m2⟩:=Dp g1 (by omega) (l:=l.take (b+q)) (by rw[List.length_take];omega) (by rw[List.length_take];omega)
 exact⟨c2,x2,e1,by omega,e2,g2.mono (by omega),List.mem_of_mem_take m2⟩
theorem E8 {k:Nat} {c:C6} (hc:Cur k c) (hk:k<=10000): ∃c' n rels,B1 c=some (c',n,rels)/\Cur (k+2000) c'/\0<=n/\n<=5/\E7 rels:=by
 obtain⟨c1,b1,e1,g1⟩:=Ge hc (by omega) 3 (by omega)
 have e1:AA (c.1,(c.2.1,c.2.2)) 3=_:=e1
 unfold B1
 simp only[e1,Option.bind_some]
 cases b1 with
 |false=>
  obtain⟨c2,x2,e2,g2,_⟩:=CG g1 (by omega) 11 (by omega)
  have e2:Ae (c1.1,(c1.2.1,c1.2.2)) 11=_:=e2
  obtain⟨n,rels,e3,h1,h2,h3⟩:=HW x2
  have e4:=Je h3 c2 n
  have e4:AE Aa ((c2.1,(c2.2.1,c2.2.2)),n,rels,[],0)=_:=e4
  simp only[Bool.not_false,if_true,e2,e3,e4,Option.bind_some]
  exact⟨_,_,_,rfl,g2.mono (by omega),h1,h2,h3⟩
 |true=>
  simp only[Bool.not_true,Bool.false_eq_true,if_false]
  obtain⟨d1,y1,c2,n,e2,i2,f2,g2,m2⟩:=EZ g1 (by omega) [1,2,2,2,3,3,4,0,5] 7 11 (by omega) (by omega) (by simp) (by simp)
  obtain⟨d2,y2,c3,d,e3,i3,f3,g3,m3⟩:=EZ g2 (by omega) [0,1,1,2,4,5] 5 23 (by omega) (by omega) (by simp) (by simp)
  have hn:0<=n/\n<=5:=by simp at m2;omega
  have hd:0<=d/\d<=5:=by simp at m3;omega
  obtain⟨D,rfl⟩: ∃D:Nat,d=(D:Int):=⟨d.toNat,by omega⟩
  obtain⟨c4,rels,e4,g4,h4⟩:=IH (n:=n) (by omega) D Aa (k+10) c3 [] (by unfold Aa;omega) (g3.mono (by omega)) (by omega) (by simp;omega) (by simp)
  have e4:AO Aa ((c3.1,(c3.2.1,c3.2.2)),n,[],(D:Int))=_:=e4
  simp only[e2,Option.bind_some]
  rw[if_pos (by decide),if_pos (show(0:Int)<=0/\0<=(w64 (7+(w64 (Int.tdiv y1 11))))/\(w64 (7+(w64 (Int.tdiv y1 11))))<=([1,2,2,2,3,3,4,0,5].length:Int) from i2)]
  have f2:Ac (d1.1,(d1.2.1,d1.2.2)) (([1,2,2,2,3,3,4,0,5].take (Int.toNat (w64 (7+(w64 (Int.tdiv y1 11)))))).drop (Int.toNat 0))=_:=f2
  rw[f2]
  simp only[Option.bind_some,e3]
  rw[if_pos (by decide),if_pos (show(0:Int)<=0/\0<=(w64 (5+(w64 (Int.tdiv y2 23))))/\(w64 (5+(w64 (Int.tdiv y2 23))))<=([0,1,1,2,4,5].length:Int) from i3)]
  have f3:Ac (d2.1,(d2.2.1,d2.2.2)) (([0,1,1,2,4,5].take (Int.toNat (w64 (5+(w64 (Int.tdiv y2 23)))))).drop (Int.toNat 0))=_:=f3
  rw[f3]
  simp only[Option.bind_some,e4]
  exact⟨_,_,_,rfl,g4.mono (by omega),hn.1,hn.2,h4⟩
theorem Gq {k:Nat} {c:C6} (hc:Cur k c) (hk:k<=100000): ∃c' x,Bq c=some (c',x)/\Cur (k+4) c'/\0<=x/\x<=4:=by
 obtain⟨d1,y1,c2,n,e2,i2,f2,g2,m2⟩:=EZ hc (by omega) [1,1,2,2,2,3,0,4] 6 11 (by omega) (by omega) (by simp) (by simp)
 unfold Bq
 simp only[e2,Option.bind_some]
 rw[if_pos (by decide),if_pos (show(0:Int)<=0/\0<=(w64 (6+(w64 (Int.tdiv y1 11))))/\(w64 (6+(w64 (Int.tdiv y1 11))))<=([1,1,2,2,2,3,0,4].length:Int) from i2)]
 have f2:Ac (d1.1,(d1.2.1,d1.2.2)) (([1,1,2,2,2,3,0,4].take (Int.toNat (w64 (6+(w64 (Int.tdiv y1 11)))))).drop (Int.toNat 0))=_:=f2
 rw[f2]
 simp only[Option.bind_some]
 exact⟨_,_,rfl,g2,by simp at m2;omega⟩
theorem DM {code:List Int} (h1:code.length<=65536) (h2: ∀x∈code,0<=x/\x<256): ∃n rels k,BX code=some (n,rels,k)/\0<=n/\n<=5/\E7 rels/\0<=k/\k<=4:=by
 obtain⟨c1,n,rels,e1,g1,a,b,c⟩:=E8 (k:=0) (c:=(code,(0,0))) ⟨h1,h2,by simp,by simp⟩ (by omega)
 obtain⟨c2,k,e2,g2,d⟩:=Gq g1 (by omega)
 have e2:Bq (c1.1,(c1.2.1,c1.2.2))=_:=e2
 unfold BX
 simp only[e1,e2,Option.bind_some]
 exact⟨n,rels,k,rfl,a,b,c,d⟩
end T
open Go Go.Va
namespace T
theorem Io {α:Type} [DecidableEq α] {l l':List α} (d:α) (h:l.length=l'.length):(List.range l.length).all (λk=>decide (l.getD k d=l'.getD k d))=decide (l=l'):=by
 rw[Bool.eq_iff_iff]
 simp only[List.all_eq_true,List.mem_range,decide_eq_true_eq]
 constructor
 ·intro hx
  refine List.ext_getElem h λi h1 h2=>?_
  have:=hx i h1
  rwa [Ah h1,Ah h2]at this
 ·rintro rfl _ _;rfl
section
variable {A B:Nat->Nat} {m j:Nat}
end
section
variable {n k m:Nat} {r:Ba} {rels:List Ba}
end
end T
open Go Go.Va
namespace T
def HJ (t:List Int) (s:Int):Option (Int×Bool):=BI t s
theorem Gw (rec): ∀f x,Ad rec f x=gL rec f x
 |0,_=>rfl
 |f+1,(a,b,c,d,e,g,x)=>by simp only[Ad,gL,Gw rec f]
theorem HK: ∀d x,Ak d x=gF HJ d x
 |0,_=>rfl
 |d+1,(a,t,s,ps,g,u)=>by
  have e:Ak d=gF HJ d:=funext λx=>HK d x
  simp only[Ak,gF,FR,AG,Gw,e]
  split
  ·unfold HJ;cases BI t s<;>rfl
  ·congr 1;funext z;cases z<;>rfl
theorem Fm {cb:List Int->Int->Option (Int×Bool)} (hc: ∀t s,cb t s=some (w64 (s+1),true)): ∀(l:List (List Int)) (s:Int),0<=s->s+l.length<=4611686018427387904->Bs cb l s=some (s+l.length,true)
 | [],s,_,_=>by simp[Bs]
 |t::l,s,h0,hl=>by
  simp only[Bs,hc]
  have hl':s+((l.length:Int)+1)<=4611686018427387904:=by simpa using hl
  have ew:w64 (s+1)=s+1:=by rw[C5];omega
  rw[ew,Fm hc l (s+1) (by omega) (by omega)]
  simp only[List.length_cons]
  congr 2;push_cast;omega
section
variable {V n k:Nat} {cs:List Con} {rels:List Ba}
theorem Gm (h:RelsOk n k rels) (hz:(Yik n k rels (List.replicate (n^k) (-1))).length<=4611686018427387904):
  As (true,(n:Int),(k:Int),C7 n k rels) (List.replicate (n^k) (-1)) 0=some ((Yik n k rels (List.replicate (n^k) (-1))).length:Int):=by
 have hp:=Bv (n:=n) (k:=k) h.hn.2 h.hk.2
 have hfold:=Fm (cb:=HJ) (λt s=>rfl) (Yik n k rels (List.replicate (n^k) (-1))) 0 (by omega) (by omega)
 obtain⟨r,h4,h5⟩:=F9 h (by simp) HJ hfold
 unfold As
 rw[if_pos (by rw[List.length_replicate];unfold lim;omega),HK,h4]
 simp only[Option.bind_some,h5,Int.zero_add]
theorem D1 {n k:Int} (h:Dr rels):B2 n rels k=some (if BO n rels k then(((Yik n.toNat k.toNat rels (List.replicate (n.toNat^k.toNat) (-1))).length:Int),true)else(0,false)):=by
 unfold B2
 rw[BJ h]
 cases hb:BO n rels k with
 |false=>
  cases hc:CA n rels&&Er k rels with
  |false=>simp
  |true=>
   unfold BO at hb
   rw[hc,Bool.true_and]at hb
   rw[Bool.and_eq_true]at hc
   simp only[Option.bind_some,Bool.not_true,Bool.false_eq_true,if_false,BC (k:=k) (Dn hc.1).1,hb]
   rfl
 |true=>
  obtain⟨hn,hk,h9,hR⟩:=CC hb
  have hb':=hb
  unfold BO at hb'
  simp only[Bool.and_eq_true]at hb'
  obtain⟨⟨ht,hf⟩,hr⟩:=hb'
  obtain⟨p1,p2⟩:=Em hn hk
  have hz:=FC hR.hn h9
  have hl:=Gn (n:=n.toNat) (k:=k.toNat) (rels:=rels) (given:=List.replicate (n.toNat^k.toNat) (-1))
  have e1:=Cm hR
  have e2:=Gm hR (by omega)
  rw[Int.toNat_of_nonneg (show 0<=n by omega),Int.toNat_of_nonneg (show 0<=k by omega)]at e1 e2
  have hr':(decide (1<=k/\k<=3)&&decide (n.toNat^k.toNat<=9))=true:=by simpa using hr
  rw[ht,hf]
  simp only[Bool.and_self,Option.bind_some,Bool.not_true,Bool.false_eq_true,if_false,BC (k:=k) hn,hr',p1,e1,Fo (show n.toNat^k.toNat<=1000 by omega),e2,if_true]
end
end T
open Go Go.Va
namespace T
section
variable {V n k:Nat} {cs:List Con} {rels:List Ba}
theorem Ep {n k:Int} (h:Dr rels) (hb:BO n rels k=true):AQ n rels k=some (Et k.toNat (Yik n.toNat k.toNat rels (List.replicate (n.toNat^k.toNat) (-1)))):=by
 unfold AQ
 rw[BJ h]
 obtain⟨hn,hk,h9,hR⟩:=CC hb
 have hb':=hb
 unfold BO at hb'
 simp only[Bool.and_eq_true]at hb'
 obtain⟨⟨ht,hf⟩,hr⟩:=hb'
 obtain⟨p1,p2⟩:=Em hn hk
 obtain⟨q1,q2,q3⟩:=FX hR (given:=List.replicate (n.toNat^k.toNat) (-1)) (by simp) h9
 rw[Int.toNat_of_nonneg (by omega),Int.toNat_of_nonneg (by omega)]at q1 q2
 rw[ht,hf]
 simp only[Option.bind_some,Bool.and_self,Bool.not_true,Bool.false_eq_true,if_false,BC (k:=k) hn,hr.1,hr.2,p1,Fo (show n.toNat^k.toNat<=1000 by omega),q1]
theorem Ig {a b:List Int} (h:a.length<=1048576):ED a b=some (decide (a=b)):=by
 unfold ED
 by_cases h2:a.length=b.length
 ·rw[if_neg (by simp[h2])]
  have:=Jp a.length (λn (_:Unit) i=>Ci n (a,b,i)) (λ_=>()) (λk=>decide (a.getD k 0=b.getD k 0)) (r:=some (.inr false)) (e:=some (.inl ())) (λf k hk=>?_) (λf=>?_) (n:=Aa) (by unfold Aa;omega)
  ·rw[Io 0 h2]at this
   have this:Ci Aa (a,b,0)=_:=this
   rw[this]
   by_cases e:a=b
   ·subst e;simp
   ·simp[e]
  ·simp only[Ci,Ai,hk,Ap hk,h2▸hk,Ap (h2▸hk),if_true,Ah hk,Ah (h2▸hk:k<b.length),Ag (show k<4611686018427387904 by omega)]
   rw[if_pos (by simp;omega)]
   by_cases e:a[k]=b[k]<;>simp[e]
  ·simp only[Ci]
   rw[if_neg (by simp)]
 ·rw[if_pos (by simpa using λh=>h2 (by omega))]
  rw[decide_eq_false λh=>h2 (by rw[h])]
theorem Gh (h:E7 rels):Dr rels:=⟨by have:=h.1;omega,λr hr=>by
 have:=h.2 r hr
 exact⟨by have:=this.1;omega,λt ht=>by have:=(this.2 t ht);omega⟩⟩
end
end T
open Go Go.Va
namespace T
section
variable {n k m:Nat} {r:Ba} {rels:List Ba} {given t:List Int}
def Da (n k:Nat) (rels:List Ba) (t:List Int):Bool:=rels.all λr=>kB n k r.1.toNat ((k:Int),t) r
theorem IF {i:Nat}:CM n ((k:Int),t) r.2 r.1.toNat (dg r.2.length k i)=(cI (PL n k r i)).map (BZ t):=by
 unfold CM PL cI
 rw[List.map_map,List.map_map]
 rfl
theorem EM:Da n k rels t=true↔ ∀r∈rels,∀i,i<r.2.length^k->(cI (PL n k r i)).map (BZ t)∈r.2:=by
 unfold Da kB
 simp only[List.all_eq_true,List.mem_range,decide_eq_true_eq,IF]
theorem Ga {ok:List Int->Bool}: ∀(m:Nat) (pre t:List Int),t∈C8 n given ok m pre↔t.length=pre.length+m/\t.take pre.length=pre/\
  ∀q,pre.length<=q->q<t.length->(0<=t.getD q 0/\t.getD q 0<(n:Int))/\Dq given q (t.getD q 0).toNat=true/\ok (t.take (q+1))=true
 |0,pre,t=>by
  simp only[C8,List.mem_singleton,Nat.add_zero]
  constructor
  ·rintro rfl
   exact⟨rfl,by simp,λq h1 h2=>by omega⟩
  ·rintro ⟨h1,h2,_⟩
   rw[←h2,List.take_of_length_le (by omega)]
 |m+1,pre,t=>by
  simp only[C8,List.mem_flatMap,List.mem_range]
  constructor
  ·rintro ⟨x,hx,h⟩
   by_cases hc:(Dq given pre.length x&&ok (pre++ [(x:Int)]))=true
   ·rw[if_pos hc]at h
    obtain⟨h1,h2,h3⟩:=(Ga m (pre++ [(x:Int)]) t).1 h
    rw[Bool.and_eq_true]at hc
    rw[List.length_append,List.length_singleton]at h1 h2 h3
    have hv:t.getD pre.length 0=(x:Int):=by
     have hl:pre.length<t.length:=by omega
     have e:(t.take (pre.length+1)).getD pre.length 0=t.getD pre.length 0:=by simp[List.getD_eq_getElem?_getD,List.getElem?_take]
     rw[←e,h2];simp[List.getD_eq_getElem?_getD]
    refine⟨by omega,?_,λq h4 h5=>?_⟩
    ·have:(t.take (pre.length+1)).take pre.length=pre:=by rw[h2];simp
     rw[List.take_take]at this
     rwa [Nat.min_eq_left (by omega)]at this
    ·by_cases e:q=pre.length
     ·subst e
      rw[hv,h2]
      exact⟨by omega,by rw[Int.toNat_natCast];exact hc.1,hc.2⟩
     ·exact h3 q (by omega) h5
   ·rw[if_neg hc]at h;simp at h
  ·rintro ⟨h1,h2,h3⟩
   have hl:pre.length<t.length:=by omega
   obtain⟨a1,a2,a3⟩:=h3 pre.length (Nat.le_refl _) hl
   have hx:(((t.getD pre.length 0).toNat:Nat):Int)=t.getD pre.length 0:=Int.toNat_of_nonneg a1.1
   have ht:t.take (pre.length+1)=pre++ [(((t.getD pre.length 0).toNat:Nat):Int)]:=by
    rw[hx,List.take_succ_eq_append_getElem hl,h2,Ah hl]
   refine⟨(t.getD pre.length 0).toNat,by omega,?_⟩
   rw[if_pos (by rw[Bool.and_eq_true];exact⟨a2,by rw[←ht];exact a3⟩)]
   refine(Ga m _ t).2 ⟨by simp;omega,by rw[List.length_append,List.length_singleton];exact ht,λq h4 h5=>h3 q (by rw[List.length_append,List.length_singleton]at h4;omega) h5⟩
theorem D4 (h:RelsOk n k rels):t∈Yik n k rels given↔t.length=n^k/\(∀x∈t,0<=x/\x<(n:Int))/\(∀q,q<n^k->Dq given q (t.getD q 0).toNat=true)/\Da n k rels t=true:=by
 unfold Yik
 rw[Ga,EM]
 simp only[List.length_nil,Nat.zero_add,List.take_zero,true_and,Nat.zero_le,true_implies]
 have hok: ∀q,q<t.length->(okB n k rels (t.take (q+1))=true↔EX n k rels q t=true):=λq hq=>by
  unfold okB
  rw[List.length_take,Nat.min_eq_left (by omega),Nat.add_sub_cancel,FY]
 constructor
 ·rintro ⟨h1,h3⟩
  refine⟨h1,λx hx=>?_,λq hq=>(h3 q (by omega)).2.1,λr hr i hi=>?_⟩
  ·obtain⟨j,hj,rfl⟩:=List.mem_iff_getElem.1 hx
   have:=(h3 j hj).1
   rwa [Ah hj]at this
  ·have hlt:=Gd (h.ok r hr) h.hn h.hk.1 hi
   have hm:=(hok _ (by omega)).1 (h3 _ (show Bc (PL n k r i)<t.length by omega)).2.2
   unfold EX at hm
   simp only[List.all_eq_true,List.mem_range,Bool.or_eq_true,Bool.not_eq_true',decide_eq_false_iff_not,decide_eq_true_eq]at hm
   exact(hm r hr i hi).resolve_left λhne=>hne rfl
 ·rintro ⟨h1,h2,h3,h4⟩
  refine⟨h1,λq hq=>⟨?_,h3 q (by omega),(hok q hq).2 ?_⟩⟩
  ·rw[Ah hq];exact h2 _ (List.getElem_mem hq)
  ·unfold EX
   simp only[List.all_eq_true,List.mem_range,Bool.or_eq_true,Bool.not_eq_true',decide_eq_false_iff_not,decide_eq_true_eq]
   exact λr hr i hi=> .inr (h4 r hr i hi)
theorem H7 {N q x:Nat} (hq:q<N):Dq (List.replicate N (-1)) q x=true:=by
 unfold Dq
 rw[Ah (by simpa using hq)];simp
theorem Hi (h:RelsOk n k rels) (hg:given.length=n^k) (hv: ∀x∈given,0<=x/\x<(n:Int)):DB k (Yik n k rels given)=if Da n k rels given then(((k:Int),given),true)else((0,[]),false):=by
 have heq: ∀t,t∈Yik n k rels given->t=given:=λt ht=>by
  obtain⟨h1,h2,h3,_⟩:=(D4 h).1 ht
  refine List.ext_getElem (by omega) λq hq hq'=>?_
  have:=h3 q (by omega)
  have a1:=hv _ (List.getElem_mem hq')
  have a2:=h2 _ (List.getElem_mem hq)
  unfold Dq at this
  rw[Ah hq,Ah hq']at this
  simp only[Bool.not_eq_true',Bool.and_eq_false_iff,decide_eq_false_iff_not,bne_eq_false_iff_eq]at this
  rcases this with this|this
  ·omega
  ·omega
 cases hp:Da n k rels given with
 |true=>
  have hm:given∈Yik n k rels given:=(D4 h).2 ⟨hg,hv,λq hq=>by
   have a1:=hv _ (List.getElem_mem (show q<given.length by omega))
   unfold Dq
   rw[Ah (by omega)]
   simp only[Bool.not_eq_true',Bool.and_eq_false_iff,decide_eq_false_iff_not,bne_eq_false_iff_eq]
   exact .inr (by omega),hp⟩
  cases hl:Yik n k rels given with
  |nil=>rw[hl]at hm;simp at hm
  |cons t l=>
   have:=heq t (by rw[hl];exact List.mem_cons_self ..)
   rw[this];rfl
 |false=>
  cases hl:Yik n k rels given with
  |nil=>rfl
  |cons t l=>
   have hm:t∈Yik n k rels given:=by rw[hl];exact List.mem_cons_self ..
   have e:=heq t hm
   have:=((D4 h).1 hm).2.2.2
   rw[e,hp]at this;simp at this
theorem Iw {b:Nat}: ∀(k:Nat) (ys:List Nat),ys.length=k->(∀y∈ys,y<b)-> ∃i,i<b^k/\dg b k i=ys:=by
 intro k
 induction k with
 |zero=>intro ys hl _;exact⟨0,by simp,by rw[List.eq_nil_of_length_eq_zero hl];rfl⟩
 |succ k ih=>
  intro ys hl hy
  obtain⟨z,y,rfl⟩: ∃z y,ys=z++ [y]:=⟨ys.dropLast,ys.getLast (by intro e;rw[e]at hl;simp at hl),(List.dropLast_concat_getLast _).symm⟩
  have hyb:=hy y (by simp)
  obtain⟨i,h1,h2⟩:=ih z (by simpa using hl) λx hx=>hy x (by simp[hx])
  refine⟨i*b+y,?_,?_⟩
  ·rw[Nat.pow_succ]
   calc i*b+y<i*b+b:=by omega
    _=(i+1)*b:=by rw[Nat.succ_mul]
    _<=b^k*b:=Nat.mul_le_mul_right _ h1
  ·simp only[dg]
   have e1:(i*b+y)/b=i:=by rw[Nat.mul_comm,Nat.mul_add_div (by omega),Nat.div_eq_of_lt hyb];omega
   have e2:(i*b+y)%b=y:=by rw[Nat.mul_comm,Nat.mul_add_mod,Nat.mod_eq_of_lt hyb]
   rw[e1,e2,h2]
theorem GP {i j:Nat} (hj:j<r.1.toNat):((cI (PL n k r i)).map (BZ t)).getD j 0=t.getD (atF n r.2 j (dg r.2.length k i)) 0:=by
 unfold PL cI
 rw[Ah (by simpa using hj)]
 simp[BZ]
theorem Hb (h:ROk n m r) (hk:Da n k [r] t=true) {ys:List Nat} (hl:ys.length=k) (hy: ∀y∈ys,y<r.2.length):
  ∃z,z<r.2.length/\ ∀j,j<m->t.getD (atF n r.2 j ys) 0=(r.2.getD z []).getD j 0:=by
 obtain⟨i,h1,h2⟩:=Iw (b:=r.2.length) k ys hl hy
 have hm:=EM.1 hk r (by simp) i h1
 obtain⟨z,hz,e⟩:=List.mem_iff_getElem.1 hm
 refine⟨z,hz,λj hj=>?_⟩
 rw[Ah hz,e,←h2,GP (by have:=h.ar;omega)]
end
end T
open Go Go.Va
namespace T
section
variable {n k m:Nat} {r:Ba} {rels:List Ba} {given t f:List Int} {inner:List (List Int)}
def fC (n:Nat) (inner:List (List Int)) (i:Nat):Nat:=inner.foldl (λa u=>a*n+(u.getD i 0).toNat) 0
def Dv (n N:Nat) (f:List Int) (inner:List (List Int)):List Int:=(List.range N).map λi=>f.getD (fC n inner i) 0
def Dh (n k:Nat) (t:List Int):Prop:=t.length=n^k/\ ∀x∈t,0<=x/\x<(n:Int)
theorem Fg (h:Dh n k t) {i:Nat} (hi:i<n^k):0<=t.getD i 0/\t.getD i 0<(n:Int):=by
 have hl:=h.1
 rw[Ah (by omega)]
 exact h.2 _ (List.getElem_mem (by omega))
theorem IM (hl:inner.length=k) (h: ∀u∈inner,Dh n k u) {i:Nat} (hi:i<n^k):fC n inner i<n^k:=by
 have: ∀(l:List (List Int)) (c:Nat),(∀u∈l,Dh n k u)->l.foldl (λa u=>a*n+(u.getD i 0).toNat) c<(c+1)*n^l.length:=by
  intro l
  induction l with
  |nil=>intro c _;simp
  |cons u l ih=>
   intro c h
   have h1:=ih (c*n+(u.getD i 0).toNat) λy hy=>h y (List.mem_cons_of_mem _ hy)
   have h2:=Fg (h u (List.mem_cons_self ..)) hi
   have h3:(c*n+(u.getD i 0).toNat+1)*n^l.length<=((c+1)*n)*n^l.length:=Nat.mul_le_mul_right _ (by rw[Nat.succ_mul];omega)
   rw[List.foldl_cons,List.length_cons,Nat.pow_succ]
   have h4:((c+1)*n)*n^l.length=(c+1)*(n^l.length*n):=by rw[Nat.mul_assoc,Nat.mul_comm n]
   omega
 have:=this inner 0 h
 rw[hl]at this
 unfold fC;omega
theorem HI (hf:Dh n k f) (hl:inner.length=k) (h: ∀u∈inner,Dh n k u):Dh n k (Dv n (n^k) f inner):=by
 refine⟨by simp[Dv],λx hx=>?_⟩
 unfold Dv at hx
 obtain⟨i,hi,rfl⟩:=List.mem_map.1 hx
 exact Fg hf (IM hl h (List.mem_range.1 hi))
theorem Hc (h:Da n k rels t=true) (hr:r∈rels):Da n k [r] t=true:=by
 unfold Da at*
 simp only[List.all_eq_true]at*
 intro r' hr'
 rw[List.mem_singleton.1 hr']
 exact h r hr
theorem HH (hR:RelsOk n k rels) (hf:Dh n k f) (hfp:Da n k rels f=true) (hl:inner.length=k) (h: ∀u∈inner,Dh n k u/\Da n k rels u=true):
  Da n k rels (Dv n (n^k) f inner)=true:=by
 rw[EM]
 intro r hr i hi
 have ho:=hR.ok r hr
 have hm:=ho.hm
 have hb:0<r.2.length:=by
  have:=hR.hk
  rcases Nat.eq_zero_or_pos r.2.length with e|e
  ·rw[e,Nat.zero_pow (by omega)]at hi;omega
  ·exact e
 have hdl:(dg r.2.length k i).length=k:=CN
 have hdv: ∀x∈dg r.2.length k i,x<r.2.length:=EH hb
 obtain⟨ys,y1,y2,y3⟩: ∃ys:List Nat,ys.length=inner.length/\(∀y∈ys,y<r.2.length)/\ ∀j,j<r.1.toNat-> ∀a,inner.foldl (λa u=>a*n+(u.getD (atF n r.2 j (dg r.2.length k i)) 0).toNat) a=ys.foldl (λa x=>a*n+vt r.2 x j) a:=by
  clear hl
  induction inner with
  |nil=>exact⟨[],rfl,by simp,λ_ _ _=>rfl⟩
  |cons u l ih=>
   obtain⟨ys,y1,y2,y3⟩:=ih λu hu=>h u (List.mem_cons_of_mem _ hu)
   obtain⟨h1,h2⟩:=h u (List.mem_cons_self ..)
   obtain⟨z,hz,he⟩:=Hb ho (Hc h2 hr) hdl hdv
   refine⟨z::ys,by simp[y1],λy hy=>?_,λj hj a=>?_⟩
   ·rcases List.mem_cons.1 hy with rfl|hy
    ·exact hz
    ·exact y2 y hy
   ·rw[List.foldl_cons,List.foldl_cons,y3 j hj,he j hj];rfl
 obtain⟨z,hz,he⟩:=Hb ho (Hc hfp hr) (ys:=ys) (by omega) y2
 have hrow:(cI (PL n k r i)).map (BZ (Dv n (n^k) f inner))=r.2[z]:=by
  have hzl:=ho.tl _ (List.getElem_mem hz)
  have hpl:=ho.pl_len (k:=k) (i:=i)
  refine List.ext_getElem (by rw[List.length_map,Bj];omega) λj h1 h2=>?_
  have hj:j<r.1.toNat:=by omega
  have e1:=GP (n:=n) (k:=k) (t:=Dv n (n^k) f inner) (r:=r) (i:=i) hj
  rw[Ah h1]at e1
  rw[e1]
  have hlt:=ho.at_lt hj (dg r.2.length k i) hdv
  rw[hdl]at hlt
  have e2:(Dv n (n^k) f inner).getD (atF n r.2 j (dg r.2.length k i)) 0=f.getD (fC n inner (atF n r.2 j (dg r.2.length k i))) 0:=by
   rw[Ah (by simp[Dv];exact hlt)];simp[Dv]
  have e3:fC n inner (atF n r.2 j (dg r.2.length k i))=atF n r.2 j ys:=y3 j hj 0
  rw[e2,e3,he j hj,Ah hz,Ah h2]
 rw[hrow]
 exact List.getElem_mem hz
def Eu (n k:Nat):List Int:=(List.range (n^k)).map λi=>((i/n^(k-1):Nat):Int)
theorem EA {v:Nat->Nat}: ∀(a:List Nat) (c:Nat),a.foldl (λa x=>a*n+v x) c=c*n^a.length+a.foldl (λa x=>a*n+v x) 0
 | [],c=>by simp
 |x::a,c=>by
  rw[List.foldl_cons,List.foldl_cons,EA a (c*n+v x),EA a (0*n+v x),List.length_cons,Nat.pow_succ,Nat.zero_mul,Nat.zero_add,Nat.add_mul,Nat.mul_assoc,Nat.mul_comm n (n^a.length),Nat.add_assoc]
theorem If (hn:1<=n) (hk:1<=k):Dh n k (Eu n k):=by
 refine⟨by simp[Eu],λx hx=>?_⟩
 unfold Eu at hx
 obtain⟨i,hi,rfl⟩:=List.mem_map.1 hx
 have hi:=List.mem_range.1 hi
 have hp:0<n^(k-1):=Nat.pow_pos hn
 have e:n^k=n*n^(k-1):=by rw[←Nat.pow_succ',show(k-1).succ=k by omega]
 have:=Nat.div_lt_of_lt_mul (m:=i) (n:=n^(k-1)) (k:=n) (by rw[Nat.mul_comm];omega)
 exact⟨Int.natCast_nonneg _,Int.ofNat_lt.2 this⟩
theorem Ie (hR:RelsOk n k rels):Da n k rels (Eu n k)=true:=by
 rw[EM]
 intro r hr i hi
 have hn:=hR.hn
 have hk:=hR.hk
 have ho:=hR.ok r hr
 have hm:=ho.hm
 have hb:0<r.2.length:=by
  rcases Nat.eq_zero_or_pos r.2.length with e|e
  ·rw[e,Nat.zero_pow (by omega)]at hi;omega
  ·exact e
 have hdl:(dg r.2.length k i).length=k:=CN
 have hdv: ∀x∈dg r.2.length k i,x<r.2.length:=EH hb
 have hlt': ∀j,j<r.1.toNat->atF n r.2 j (dg r.2.length k i)<n^k:=λj hj=>by
  have:=ho.at_lt hj (dg r.2.length k i) hdv
  rwa [hdl]at this
 obtain⟨z,rest,hd⟩: ∃z rest,dg r.2.length k i=z::rest:=by
  cases h:dg r.2.length k i with
  |nil=>rw[h]at hdl;simp at hdl;omega
  |cons z rest=>exact⟨z,rest,rfl⟩
 have hz:z<r.2.length:=hdv z (by rw[hd];exact List.mem_cons_self ..)
 have hrl:rest.length=k-1:=by rw[hd]at hdl;simp at hdl;omega
 have hrow:(cI (PL n k r i)).map (BZ (Eu n k))=r.2[z]:=by
  have hzl:=ho.tl _ (List.getElem_mem hz)
  have hpl:=ho.pl_len (k:=k) (i:=i)
  refine List.ext_getElem (by rw[List.length_map,Bj];omega) λj h1 h2=>?_
  have hj:j<r.1.toNat:=by omega
  have e1:=GP (n:=n) (k:=k) (t:=Eu n k) (r:=r) (i:=i) hj
  rw[Ah h1]at e1
  have hlt:=hlt' j hj
  have e2:(Eu n k).getD (atF n r.2 j (dg r.2.length k i)) 0=((atF n r.2 j (dg r.2.length k i)/n^(k-1):Nat):Int):=by
   rw[Ah (by simp[Eu];exact hlt)];simp[Eu]
  have e3:atF n r.2 j (dg r.2.length k i)/n^(k-1)=vt r.2 z j:=by
   rw[hd]
   unfold atF
   rw[List.foldl_cons,EA,hrl]
   have h4:=Ff (n:=n) (v:=λx=>vt r.2 x j) rest 0 λx hx=>(ho.vt_lt (hdv x (by rw[hd];exact List.mem_cons_of_mem _ hx)) hj).1
   rw[hrl]at h4
   rw[Nat.zero_mul,Nat.zero_add,Nat.mul_comm,Nat.mul_add_div (Nat.pow_pos (by omega)),Nat.div_eq_of_lt (by omega)]
   omega
  obtain⟨_,v2,_⟩:=ho.vt_lt hz hj
  rw[e1,e2,e3,←v2,Ah hz,Ah h2]
 rw[hrow]
 exact List.getElem_mem hz
theorem Im (hR:RelsOk n k rels):Yik n k rels (List.replicate (n^k) (-1))≠ []:=λe=>by
 have hp:=If hR.hn.1 hR.hk.1
 have:Eu n k∈Yik n k rels (List.replicate (n^k) (-1)):=(D4 hR).2 ⟨hp.1,hp.2,λq hq=>H7 hq,Ie hR⟩
 rw[e]at this;simp at this
end
end T
open Go Go.Va
namespace T
theorem HN {N K:Int} (hN:N<=100) (t4:Int×List Int): ∀(d f k:Nat) (c:C6) (o:List Int),d<f->Cur k c->k+2*d<=500000->o.length+d<=1000->
  ∃c' o',AJ f (c,N,t4,(K,o),(d:Int))=some (c',N,t4,(K,o'))/\Cur (k+2*d) c'/\o'.length=o.length+d
 |0,f,k,c,o,hf,hc,hk,ho=>by
  obtain⟨f,rfl⟩:=Nat.exists_eq_add_of_le' hf
  refine⟨c,o,?_,hc,rfl⟩
  simp only[AJ]
  rw[if_neg (by simp)]
 |d+1,f,k,c,o,hf,hc,hk,ho=>by
  obtain⟨f,rfl⟩:=Nat.exists_eq_add_of_le' (show 1<=f by omega)
  obtain⟨c1,x,e1,g1,_⟩:=CG hc (by omega) N (by omega)
  obtain⟨c2,o2,e2,g2,h2⟩:=HN hN t4 d f (k+2) c1 (o++ [x]) (by omega) g1 (by omega) (by simp;omega)
  refine⟨c2,o2,?_,g2.mono (by omega),by rw[h2];simp;omega⟩
  have e1:Ae (c.1,(c.2.1,c.2.2)) N=_:=e1
  have ew:w64 (((d+1:Nat):Int)-1)=(d:Int):=by rw[C5];omega
  simp only[AJ,e1,Option.bind_some,ew]
  rw[if_pos (by rw[decide_eq_true_eq];omega),if_pos (by rw[List.length_singleton];unfold lim;omega)]
  exact e2
theorem He {N K p:Nat} (hN:1<=N/\N<=64) (hK:K<=3) (hp:p<K): ∀(d f i:Nat) (o:List Int),i+d=N^K->d<f->o.length=i->
  ∃o',A9 f ((N:Int),(K:Int),(p:Int),o,(i:Int))=some o'/\o'.length=N^K
 |0,f,i,o,hi,hf,ho=>by
  obtain⟨f,rfl⟩:=Nat.exists_eq_add_of_le' hf
  have e1:=Cd hN.2 hK
  refine⟨o,?_,by omega⟩
  simp only[A9,e1,Option.bind_some]
  rw[if_neg (by rw[decide_eq_true_eq];omega)]
 |d+1,f,i,o,hi,hf,ho=>by
  obtain⟨f,rfl⟩:=Nat.exists_eq_add_of_le' (show 1<=f by omega)
  have hq:=GF hN.2 hK
  have e1:=Cd hN.2 hK
  have e2:=Du (b:=N) (k:=K) (i:=i) (by omega) (by omega) (by omega)
  have hl:p<(cI (dg N K i)).length:=by rw[Bj,CN];exact hp
  obtain⟨o',e3,h3⟩:=He hN hK hp d f (i+1) (o++ [(cI (dg N K i)).getD p 0]) (by omega) (by omega) (by simp;omega)
  refine⟨o',?_,h3⟩
  simp only[A9,e1,e2,Option.bind_some,Ai,hl,Es,if_true,Ag (show i<4611686018427387904 by omega)]
  rw[if_pos (by rw[decide_eq_true_eq];omega),if_pos (by rw[List.length_singleton];unfold lim;omega)]
  exact e3
theorem FJ {k:Nat} {c:C6} (hc:Cur k c) (hk:k<=100000) {n:Int} (hn:0<=n/\n<=5): ∃c' op,AN c n=some (c',op)/\op.2.length<=1000:=by
 obtain⟨N,hN,eN⟩: ∃N:Nat,(1<=N/\N<=4)/\(CL n 1).bind (λr=>DX r 4)=some (N:Int):=by
  have h6:n=0∨n=1∨n=2∨n=3∨n=4∨n=5:=by omega
  rcases h6 with rfl|rfl|rfl|rfl|rfl|rfl
  ·exact⟨1,by omega,by decide⟩
  ·exact⟨1,by omega,by decide⟩
  ·exact⟨2,by omega,by decide⟩
  ·exact⟨3,by omega,by decide⟩
  ·exact⟨4,by omega,by decide⟩
  ·exact⟨4,by omega,by decide⟩
 obtain⟨c1,K0,e1,g1,hK0⟩:=Dp hc (by omega) (l:= [1,1,2,2,2,3,0]) (by simp) (by simp)
 obtain⟨K,hK,rfl⟩: ∃K:Nat,K<=3/\K0=(K:Int):=by
  simp only[List.mem_cons,List.mem_nil_iff,or_false]at hK0
  exact⟨K0.toNat,by omega,by omega⟩
 have e2:=Cd (b:=N) (k:=K) (by omega) hK
 have hp:=Bv (n:=N) (k:=K) hN.2 hK
 have hp0:0<N^K:=Nat.pow_pos (by omega)
 obtain⟨c2,o,e3,g3,h3⟩:=HN (N:=(N:Int)) (K:=(K:Int)) (by omega) (0,[]) (N^K) Aa (k+2) c1 [] (by unfold Aa;omega) g1 (by omega) (by simp;omega)
 have h3:o.length=N^K:=by simpa using h3
 obtain⟨c3,x,e4,g4,hx,hx12,_⟩:=CG g3 (by omega) 12 (by omega)
 unfold AN
 cases hm:CL n 1 with
 |none=>rw[hm]at eN;simp at eN
 |some r1=>
  rw[hm]at eN
  have eN:DX r1 4=some (N:Int):=eN
  have e1:Ac (c.1,(c.2.1,c.2.2)) [1,1,2,2,2,3,0]=_:=e1
  have e3:AJ Aa ((c1.1,(c1.2.1,c1.2.2)),(N:Int),(0,[]),((K:Int),[]),((N^K:Nat):Int))=_:=e3
  have e4:Ae (c2.1,(c2.2.1,c2.2.2)) 12=_:=e4
  simp only[Option.bind_some,eN,e1,e2,e3,e4]
  by_cases x0:x=0
  ·rw[if_pos (by simp[x0])]
   by_cases hK0:(K:Int)>0
   ·rw[if_pos (by simpa using hK0)]
    obtain⟨c5,y,e5,g5,hy,hy2,_⟩:=CG g4 (by omega) (K:Int) (by omega)
    have e5:Ae (c3.1,(c3.2.1,c3.2.2)) (K:Int)=_:=e5
    have hyK:=hy2 (by omega)
    obtain⟨o',e6,h6⟩:=He (N:=N) (K:=K) (p:=y.toNat) ⟨hN.1,by omega⟩ hK (by omega) (N^K) Aa 0 [] (by omega) (by unfold Aa;omega) rfl
    rw[Int.toNat_of_nonneg hy]at e6
    have e6:A9 Aa ((N:Int),(K:Int),y,[],0)=_:=e6
    unfold Ds
    simp only[e5,e6,Option.bind_some]
    exact⟨_,_,rfl,by show o'.length<=1000;omega⟩
   ·rw[if_neg (by simpa using hK0)]
    exact⟨_,_,rfl,by show o.length<=1000;omega⟩
  ·rw[if_neg (by simpa using x0)]
   by_cases x1:x=1
   ·rw[if_pos (by simp[x1])]
    obtain⟨c5,y,e5,g5,hy,hy2,_⟩:=CG g4 (by omega) (o.length:Int) (by omega)
    obtain⟨c6,z,e6,g6,_⟩:=Dp g5 (by omega) (l:= [(-1),(N:Int),0]) (by simp) (by simp)
    have e5:Ae (c3.1,(c3.2.1,c3.2.2)) (o.length:Int)=_:=e5
    have e6:Ac (c5.1,(c5.2.1,c5.2.2)) [(-1),(N:Int),0]=_:=e6
    have hin:inb y o:=⟨hy,hy2 (by omega)⟩
    simp only[e5,e6,Option.bind_some,hin,if_true]
    refine⟨_,_,rfl,?_⟩
    show(stt o y z).length<=1000
    unfold stt;simp;omega
   ·rw[if_neg (by simpa using x1)]
    by_cases x2:x=2
    ·rw[if_pos (by simp[x2]),if_pos (by simp;unfold lim;omega)]
     exact⟨_,_,rfl,by show(o++ [0]).length<=1000;simp;omega⟩
    ·rw[if_neg (by simpa using x2)]
     exact⟨_,_,rfl,by show o.length<=1000;omega⟩
theorem D2 {code:List Int} (h1:code.length<=65536) (h2: ∀x∈code,0<=x/\x<256): ∃n rels op,Az code=some (n,rels,op)/\0<=n/\n<=5/\E7 rels/\op.2.length<=1000:=by
 obtain⟨c1,n,rels,e1,g1,a,b,hB⟩:=E8 (k:=0) (c:=(code,(0,0))) ⟨h1,h2,by simp,by simp⟩ (by omega)
 obtain⟨c2,k,e2,g2,d⟩:=Gq g1 (by omega)
 have e2:Bq (c1.1,(c1.2.1,c1.2.2))=_:=e2
 have hs:=Gh hB
 unfold Az
 simp only[e1,e2,Option.bind_some,CZ hs]
 have fin: ∀ {j:Nat} {c:C6},Cur j c->j<=100000-> ∃n' rels' op,((AN (c.1,(c.2.1,c.2.2)) n).bind λr10=>some (n,rels,(r10.2.1,r10.2.2)))=some (n',rels',op)/\0<=n'/\n'<=5/\E7 rels'/\op.2.length<=1000:=fun {j c} hc hj=>by
  obtain⟨c',op,e,hl⟩:=FJ hc hj (n:=n) ⟨a,b⟩
  have e:AN (c.1,(c.2.1,c.2.2)) n=_:=e
  rw[e]
  exact⟨n,rels,op,rfl,a,b,hB,hl⟩
 cases hp:BO n rels k with
 |false=>
  simp only[Bool.false_eq_true,if_false]
  exact fin g2 (by omega)
 |true=>
  obtain⟨hn,hk,h9,hR⟩:=CC hp
  obtain⟨c3,x,e3,g3⟩:=Ge g2 (by omega) 2 (by omega)
  have e3:AA (c2.1,(c2.2.1,c2.2.2)) 2=_:=e3
  simp only[if_true,e3,Option.bind_some]
  cases x with
  |false=>
   simp only[Bool.false_eq_true,if_false]
   exact fin g3 (by omega)
  |true=>
   obtain⟨p1,p2⟩:=Em hn hk
   obtain⟨s,b',q1,q2⟩:=CR hR (given:=List.replicate (n.toNat^k.toNat) (-1)) (by simp) (FC hR.hn h9) (most:=20) (by omega)
   rw[DO (by omega)]at q1
   have q1:=(Option.some.inj q1).symm
   simp only[Prod.mk.injEq]at q1
   obtain⟨rfl,rfl⟩:=q1
   rw[Int.toNat_of_nonneg (by omega),Int.toNat_of_nonneg (by omega)]at q2
   simp only[if_true,p2,Fq (show n.toNat^k.toNat<=1000 by omega),q2,Option.bind_some]
   generalize hL:([]++List.take ((20:Int)-(([]:List (List Int)).length:Int)).toNat (Yik n.toNat k.toNat rels (List.replicate (n.toNat^k.toNat) (-1))))=L
   have hLm:L.length<=20/\ ∀t∈L,t.length=n.toNat^k.toNat:=by
    rw[←hL]
    refine⟨by simp;omega,λt ht=>?_⟩
    rw[List.nil_append]at ht
    exact(D5 (List.mem_of_mem_take ht)).1
   by_cases hl:(L.length:Int)>0
   ·rw[if_pos (by simpa using hl)]
    obtain⟨c5,y,e5,g5,hy,hy2,_⟩:=CG g3 (by omega) (L.length:Int) (by omega)
    have e5:Ae (c3.1,(c3.2.1,c3.2.2)) (L.length:Int)=_:=e5
    have hin:inb y L:=⟨hy,hy2 (by omega)⟩
    have hm:(gd L y []).length<=9:=by
     unfold gd
     rw[Ah (show y.toNat<L.length by have:=hin.2;omega)]
     rw[hLm.2 _ (List.getElem_mem _)];exact h9
    have e6:=Ck (l:=gd L y []) (by omega)
    simp only[e5,Option.bind_some,hin,if_true,e6]
    exact⟨n,rels,_,rfl,a,b,hB,by show(gd L y []).length<=1000;omega⟩
   ·rw[if_neg (by simpa using hl)]
    exact fin g3 (by omega)
end T
open Go Go.Va
namespace T
section
variable {n k:Int} {rels:List Ba} {op:Opn}
def FL (n:Int) (rels:List Ba) (op:Opn):Bool×Bool:=if CA n rels&&Er op.1 rels&&opB n op then(decide (op.1>0)&&Da n.toNat op.1.toNat rels op.2,true)else(false,false)
theorem EL (h:opB n op=true):(0<=op.1/\op.1<=3)/\(op.2.length:Int)=n^op.1.toNat/\ ∀x∈op.2,0<=x/\x<n:=by
 unfold opB Bk at h
 simp only[Bool.and_eq_true,decide_eq_true_eq,List.all_eq_true]at h
 exact⟨h.1.1,h.1.2,h.2⟩
theorem GX (hn:1<=n/\n<=4) (h:opB n op=true):Dh n.toNat op.1.toNat op.2:=by
 obtain⟨h1,h2,h3⟩:=EL h
 refine⟨?_,λx hx=>by have:=h3 x hx;omega⟩
 have e:((n.toNat^op.1.toNat:Nat):Int)=n^op.1.toNat:=by rw[Int.natCast_pow,Int.toNat_of_nonneg (by omega)]
 rw[←e]at h2
 exact Int.ofNat_inj.1 h2
theorem HX {n k m:Nat} {r:Ba} {op:Opn} (h:ROk n m r) (hn:1<=n/\n<=4) (hk:1<=k/\k<=3) (ho:op.1=(k:Int)) (ht:Dh n k op.2):KOk n k m op r:=
 ⟨ho,hk,⟨hn.1,by omega⟩,ht.1,ht.2,h.ar,h.hm,h.tl,h.tv,h.many,h.inc⟩
theorem GC {n k:Nat} (hR:RelsOk n k rels) (ho:op.1=(k:Int)) (ht:Dh n k op.2):C0 (n:Int) rels op=some (Da n k rels op.2):=by
 have hl:=hR.len
 obtain⟨o1,o2⟩:=op
 unfold C0
 rw[EU rels (λf i=>B5 f ((n:Int),(o1,o2),rels,(rels.length:Int),i)) (λr=>kB n k r.1.toNat ((k:Int),o2) r) (.inr false) (.inl ()) ?_ ?_ (by unfold Aa;omega)]
 ·unfold Da
  dsimp only
  cases rels.all (λr=>kB n k r.1.toNat ((k:Int),o2) r)<;>simp
 ·intro f i hi
  obtain⟨z,e,hz⟩:=EB (HX (op:=(o1,o2)) (hR.ok _ (List.getElem_mem hi)) hR.hn hR.hk ho ht)
  have e:CF (n:Int) (o1,o2) (rels[i].1,rels[i].2)=some z:=e
  have hz:z.2.2=!kB n k rels[i].1.toNat ((k:Int),o2) rels[i]:=hz
  simp only[B5,Ai,hi,Ap hi,e,hz,Option.bind_some,if_true,Ag (show i<4611686018427387904 by omega)]
  rw[if_pos (by simp;omega)]
  cases kB n k rels[i].1.toNat ((k:Int),o2) rels[i]<;>simp
 ·intro f
  simp only[B5]
  rw[if_neg (by simp)]
theorem DC (hs:Dr rels) (ho:op.2.length<=1048576):Aq n rels op=some (FL n rels op):=by
 unfold Aq FL
 rw[BJ hs]
 cases hc:CA n rels&&Er op.1 rels with
 |false=>simp
 |true=>
  have hc':=hc
  rw[Bool.and_eq_true]at hc'
  obtain⟨hn,_,_⟩:=Dn hc'.1
  have e1:=DQ (n:=n) (f:=op) (by omega) ho
  have e1:Do (op.1,op.2) n=_:=e1
  simp only[Option.bind_some,Bool.not_true,Bool.false_eq_true,if_false,e1,Bool.true_and]
  cases hb:opB n op with
  |false=>simp
  |true=>
   simp only[Bool.not_true,Bool.false_eq_true,if_false,if_true]
   by_cases h0:op.1>0
   ·rw[if_pos (by simpa using h0)]
    have hp:=(EL hb).1
    have hR:=Gi (k:=op.1.toNat) hc'.1 (by omega)
    have e2:=GC (op:=op) hR (by omega) (GX hn hb)
    rw[Int.toNat_of_nonneg (show 0<=n by omega)]at e2
    have e2:C0 n rels (op.1,op.2)=_:=e2
    rw[e2,decide_eq_true h0];rfl
   ·rw[if_neg (by simpa using h0),decide_eq_false h0];rfl
theorem GU (hs:Dr rels) (hn:1<=n/\n<=4):CT n rels=some (decide (rels.length<=4)&&rels.all (D3 n)):=by
 have hl:=hs.1
 unfold CT
 by_cases h2:rels.length<=4
 ·rw[if_neg (by simp;omega)]
  have e1:=EU rels (λf i=>Bi f (n,rels,i)) (D3 n) (.inr false) (.inl ()) (λf i hi=>by
   have:=hs.2 _ (List.getElem_mem hi)
   simp only[Bi,Ai,hi,Ap hi,D0 (n:=n) this (by omega),Option.bind_some,Ag (show i<4611686018427387904 by omega)]
   rw[if_pos (by simp;omega)]
   cases D3 n rels[i]<;>simp) (λf=>by simp[Bi]) (n:=Aa) (by unfold Aa;omega)
  rw[e1,decide_eq_true h2,Bool.true_and]
  cases rels.all (D3 n)<;>simp
 ·rw[if_pos (by simp;omega),decide_eq_false h2,Bool.false_and]
theorem IG {n k:Nat} (hR:RelsOk n k rels) (ho:op.1=(k:Int)) (ht:Dh n k op.2):Au Aa ((n:Int),rels,op,0)=some (if Da n k rels op.2 then .inl ()else .inr (false,true)):=by
 have hl:=hR.len
 obtain⟨o1,o2⟩:=op
 have:=EU rels (λf i=>Au f ((n:Int),rels,(o1,o2),i)) (λr=>kB n k r.1.toNat ((k:Int),o2) r) (.inr (false,true)) (.inl ()) ?_ ?_ (n:=Aa) (by unfold Aa;omega)
 ·exact this
 ·intro f i hi
  have e:=E3 (HX (op:=(o1,o2)) (hR.ok _ (List.getElem_mem hi)) hR.hn hR.hk ho ht)
  have e:C2 (n:Int) (o1,o2) rels[i]=some (kB n k rels[i].1.toNat ((k:Int),o2) rels[i]):=e
  simp only[Au,Ai,hi,Ap hi,e,Option.bind_some,if_true,Ag (show i<4611686018427387904 by omega)]
  rw[if_pos (by simp;omega)]
  cases kB n k rels[i].1.toNat ((k:Int),o2) rels[i]<;>simp
 ·intro f
  simp only[Au]
  rw[if_neg (by simp)]
theorem FM (hs:Dr rels) (ho:op.2.length<=1048576):AL n rels op=some (FL n rels op):=by
 unfold AL FL Dm
 rw[BB]
 by_cases hn:1<=n/\n<=4
 ·rw[decide_eq_true hn]
  simp only[Option.bind_some,Bool.not_true,Bool.false_eq_true,if_false,GU hs hn]
  cases hr:decide (rels.length<=4)&&rels.all (D3 n)with
  |false=>
   have:CA n rels=false:=by unfold CA;rw[decide_eq_true hn,Bool.true_and,hr]
   rw[this];simp
  |true=>
   have ht:CA n rels=true:=by unfold CA;rw[decide_eq_true hn,Bool.true_and,hr]
   have e1:=Gk (n:=n) (f:=op) (by omega) ho
   have e1:En n (op.1,op.2)=_:=e1
   simp only[Bool.not_true,Bool.false_eq_true,if_false,e1,Option.bind_some,ht,Bool.true_and]
   cases hb:opB n op with
   |false=>simp
   |true=>
    have hp:=(EL hb).1
    have hR:=λh:1<=op.1.toNat/\op.1.toNat<=3=>Gi (k:=op.1.toNat) ht h
    simp only[Bool.not_true,Bool.false_eq_true,if_false,Bool.and_true]
    by_cases h0:op.1>0
    ·rw[if_pos (by simpa using h0),DK hs,ht,decide_eq_true (show 1<=op.1/\op.1<=3 by omega)]
     simp only[Option.bind_some,Bool.true_and]
     cases hf:Er op.1 rels with
     |false=>simp
     |true=>
      have e2:=IG (op:=op) (hR (by omega)) (by omega) (GX hn hb)
      rw[Int.toNat_of_nonneg (show 0<=n by omega)]at e2
      have e2:Au Aa (n,rels,(op.1,op.2),0)=_:=e2
      simp only[Bool.not_true,Bool.false_eq_true,if_false,e2,Option.bind_some,if_true,decide_eq_true h0,Bool.true_and]
      rw[if_neg (by simp;omega)]
      cases Da n.toNat op.1.toNat rels op.2<;>rfl
    ·have hz:op.1=0:=by omega
     have hf:Er op.1 rels=true:=by unfold Er;rw[hz];simp
     rw[if_neg (by simpa using h0),if_pos (by simp[hz]),hf,decide_eq_false h0];rfl
 ·rw[decide_eq_false hn]
  have:CA n rels=false:=by unfold CA;rw[decide_eq_false hn];rfl
  rw[this];simp
theorem E2 (h:Dr rels):B7 n rels k=some (if BO n rels k then(((Yik n.toNat k.toNat rels (List.replicate (n.toNat^k.toNat) (-1))).length:Int),true)else(0,false)):=by
 unfold B7
 rw[CZ h]
 cases hb:BO n rels k with
 |false=>simp
 |true=>
  obtain⟨hn,hk,h9,hR⟩:=CC hb
  obtain⟨p1,p2⟩:=Em hn hk
  obtain⟨s,b',q1,q2⟩:=CR hR (given:=List.replicate (n.toNat^k.toNat) (-1)) (by simp) (FC hR.hn h9) (most:=0) (by omega)
  rw[DO (by omega)]at q1
  have q1:=(Option.some.inj q1).symm
  simp only[Prod.mk.injEq]at q1
  obtain⟨rfl,rfl⟩:=q1
  rw[Int.toNat_of_nonneg (by omega),Int.toNat_of_nonneg (by omega)]at q2
  simp only[Option.bind_some,Bool.not_true,Bool.false_eq_true,if_false,p2,Fq (show n.toNat^k.toNat<=1000 by omega),q2,if_true,Int.zero_add]
theorem Fh {values:List Int} (h:Dr rels) (hv:values.length<=1048576) (hb:BO n rels k=true) (hl:values.length=n.toNat^k.toNat) (ha: ∀x∈values,-1<=x/\x<=n-1):
  Al n rels k values=some (DB k.toNat (Yik n.toNat k.toNat rels values)):=by
 unfold Al
 rw[BJ h]
 obtain⟨hn,hk,h9,hR⟩:=CC hb
 have hb':=hb
 unfold BO at hb'
 simp only[Bool.and_eq_true]at hb'
 obtain⟨⟨ht,hf⟩,hr⟩:=hb'
 obtain⟨p1,p2⟩:=Em hn hk
 rw[ht,hf]
 simp only[Option.bind_some,Bool.and_self,Bool.not_true,Bool.false_eq_true,if_false,BC (k:=k) hn,hr.1,hr.2,p1]
 rw[if_neg (by rw[hl];simp)]
 have e1:=EU values (λf i=>AP f (n,rels,k,values,(0,[]),values,(values.length:Int),i)) (λx=>decide (-1<=x/\x<=n-1)) (.inr ((0,[]),false)) (.inl (n,rels,k,values,(0,[]))) (λf i hi=>by
  simp only[AP,Ai,hi,Ap hi,Ag (show i<4611686018427387904 by omega)]
  rw[if_pos (by simp;omega),if_pos trivial]
  by_cases c1:values[i]< -1
  ·rw[if_pos (by simpa using c1),if_neg (by simp;omega)]
  ·rw[if_neg (by simpa using c1)]
   by_cases c2:values[i]≥n
   ·rw[if_pos (by simpa using c2),if_neg (by simp;omega)]
   ·rw[if_neg (by simpa using c2),if_pos (by simp;omega)]) (λf=>by simp[AP]) (n:=Aa) (by unfold Aa;omega)
 rw[e1,if_pos (by rw[List.all_eq_true];intro x hx;simpa using ha x hx)]
 obtain⟨q1,q2,q3⟩:=H8 hR (given:=values) (by omega) (FC hR.hn h9)
 rw[Int.toNat_of_nonneg (by omega),Int.toNat_of_nonneg (by omega)]at q1 q2
 simp only[Option.bind_some,q1]
theorem GO {values:List Int} (h:Dr rels) (hb:BO n rels k=false):Al n rels k values=some ((0,[]),false):=by
 unfold Al
 rw[BJ h]
 cases hc:CA n rels&&Er k rels with
 |false=>simp
 |true=>
  unfold BO at hb
  rw[hc,Bool.true_and]at hb
  rw[Bool.and_eq_true]at hc
  simp only[Option.bind_some,Bool.not_true,Bool.false_eq_true,if_false,BC (k:=k) (Dn hc.1).1,hb]
  rfl
end
end T
open Go Go.Va
namespace T
section
variable {n k:Nat} {t f:List Int} {inner:List (List Int)}
theorem GW (hn:1<=n/\n<=4) (hk:k<=3) (h:Dh n k t):opB (n:Int) ((k:Int),t)=true:=by
 unfold opB Bk
 simp only[Bool.and_eq_true,decide_eq_true_eq,List.all_eq_true]
 refine⟨⟨by omega,?_⟩,λx hx=>h.2 x hx⟩
 rw[h.1,Int.toNat_natCast,Int.natCast_pow]
theorem IL {i:Nat} (hi:i<n^k): ∀(l:List (List Int)) (c:Nat),(∀u∈l,Dh n k u)->l.foldl (λa u=>a*n+(u.getD i 0).toNat) c<(c+1)*n^l.length
 | [],c,_=>by simp
 |u::l,c,h=>by
  have h1:=IL hi l (c*n+(u.getD i 0).toNat) λy hy=>h y (List.mem_cons_of_mem _ hy)
  have h2:=Fg (h u (List.mem_cons_self ..)) hi
  have h3:(c*n+(u.getD i 0).toNat+1)*n^l.length<=((c+1)*n)*n^l.length:=Nat.mul_le_mul_right _ (by rw[Nat.succ_mul];omega)
  rw[List.foldl_cons,List.length_cons,Nat.pow_succ]
  have h4:((c+1)*n)*n^l.length=(c+1)*(n^l.length*n):=by rw[Nat.mul_assoc,Nat.mul_comm n]
  omega
theorem Jl (hn:1<=n/\n<=4) (hl:inner.length<=3) (h: ∀u∈inner,Dh n k u) {i:Nat} (hi:i<n^k) (F:Opn) (T:List Int) (t17 t18:Int):
  A7 Aa ((n:Int),inner,F,T,(i:Int),0,t17,t18,inner,(inner.length:Int),0)=some ((n:Int),inner,F,T,(i:Int),((fC n inner i:Nat):Int),t17,t18):=by
 have:=CX inner.length (λm (s:Int) z=>A7 m ((n:Int),inner,F,T,(i:Int),s,t17,t18,inner,(inner.length:Int),z)) (λz=>((fC n (inner.take z) i:Nat):Int)) (r:=some ((n:Int),inner,F,T,(i:Int),((fC n inner i:Nat):Int),t17,t18)) (λm z hz=>?_) (λm=>?_) (n:=Aa) (by unfold Aa;omega)
 ·exact this
 ·have hb:=IL hi (inner.take z) 0 λu hu=>h u (List.mem_of_mem_take hu)
  have hp:=Bv (n:=n) (k:=(inner.take z).length) hn.2 (by rw[List.length_take];omega)
  obtain⟨a1,a2⟩:=Fg (h _ (List.getElem_mem hz)) hi
  have hul:=(h _ (List.getElem_mem hz)).1
  have hil:i<inner[z].length:=by omega
  have hv:inner[z].getD i 0=(((inner[z].getD i 0).toNat:Nat):Int):=by omega
  have hstep:=FI (n:=n) hn.2 (x:=fC n (inner.take z) i) (v:=(inner[z].getD i 0).toNat) (by unfold fC;omega) (by omega)
  rw[←hv]at hstep
  have htk:fC n (inner.take (z+1)) i=fC n (inner.take z) i*n+(inner[z].getD i 0).toNat:=by
   unfold fC;rw[List.take_succ_eq_append_getElem hz,List.foldl_append];rfl
  simp only[A7,Ai,hz,Ap hz,hil,Es,hstep,htk,if_true,Ag (show z<4611686018427387904 by omega)]
  rw[if_pos (by rw[decide_eq_true_eq];omega)]
 ·simp only[A7,List.take_length]
  rw[if_neg (by simp)]
def EK (B:Nat->Int) (m j:Nat):List Int:=(List.range m).map λi=>if i<j then B i else 0
theorem H5 {B:Nat->Int} {m j:Nat}:(EK B m j).length=m:=by simp[EK]
theorem H6 {B:Nat->Int} {m j:Nat} (h:j<m):(EK B m j).set j (B j)=EK B m (j+1):=by
 refine List.ext_getElem (by simp[EK]) λi h1 h2=>?_
 rw[List.getElem_set]
 simp only[EK,List.getElem_map,List.getElem_range]
 by_cases e:j=i
 ·subst e;simp
 ·rw[if_neg e]
  by_cases e':i<j
  ·rw[if_pos e',if_pos (by omega)]
  ·rw[if_neg e',if_neg (by omega)]
theorem Ht {B:Nat->Int} {m:Nat}:EK B m 0=List.replicate m 0:=by
 refine List.ext_getElem (by simp[EK]) λi h1 h2=>by simp[EK]
theorem H4 {B:Nat->Int} {m:Nat}:EK B m m=(List.range m).map B:=by
 unfold EK
 exact List.map_congr_left λi hi=>by rw[if_pos (List.mem_range.1 hi)]
theorem Jm (hn:1<=n/\n<=4) (hk:k<=3) (hl:inner.length=k) (h: ∀u∈inner,Dh n k u) (hf:Dh n k f) (K:Int):
  CI (n:Int) (K,f) inner ((n^k:Nat):Int)=some (Dv n (n^k) f inner):=by
 have hp:=Bv (n:=n) (k:=k) hn.2 hk
 unfold CI
 rw[if_pos (by unfold lim;omega),Int.toNat_natCast,List.length_replicate]
 have:=CX (n^k) (λm (o:List Int) i=>AZ m ((n:Int),inner,(K,f),o,((n^k:Nat):Int),i)) (EK (λi=>f.getD (fC n inner i) 0) (n^k)) (r:=some (Dv n (n^k) f inner)) (λm i hi=>?_) (λm=>?_) (n:=Aa) (by unfold Aa;omega)
 ·rw[Ht]at this
  have this:AZ Aa ((n:Int),inner,(K,f),List.replicate (n^k) 0,((n^k:Nat):Int),0)=_:=this
  rw[this];rfl
 ·have e1:=Jl hn (by omega) h hi (K,f) (EK (λi=>f.getD (fC n inner i) 0) (n^k) i) ((n^k:Nat):Int) (i:Int)
  have hlt:=IM hl h hi
  have hfl:fC n inner i<f.length:=by rw[hf.1];exact hlt
  have hml:i<(EK (λi=>f.getD (fC n inner i) 0) (n^k) i).length:=by rw[H5];exact hi
  have hset:=H6 (B:=λi=>f.getD (fC n inner i) 0) hi
  simp only[AZ,e1,Option.bind_some,Ai,hfl,hml,if_true,Es,CH,hset,Ag (show i<4611686018427387904 by omega)]
  rw[if_pos (by rw[decide_eq_true_eq];omega)]
 ·simp only[AZ,H4]
  rw[if_neg (by simp)];rfl
theorem GN (hn:1<=n/\n<=4) (hk:1<=k/\k<=3) (hl:inner.length=k) (h: ∀u∈inner,Dh n k u) (hf:Dh n k f):
  Cl (n:Int) ((k:Int),f) (inner.map λt=>((k:Int),t))=some (((k:Int),Dv n (n^k) f inner),true):=by
 have hp:=Bv (n:=n) (k:=k) hn.2 hk.2
 obtain⟨L,hL⟩: ∃L,L=inner.map λt=>((k:Int),t):=⟨_,rfl⟩
 have hLl:L.length=k:=by rw[hL,List.length_map,hl]
 have hLg: ∀(i:Nat) (hi:i<k),gd L (i:Int) (0,[])=((k:Int),inner[i]'(by omega)):=λi hi=>by
  rw[Ap (by omega)];simp[hL]
 have e0:EO (n:Int)=true:=by unfold EO;simp;omega
 have e1:=DQ (n:=(n:Int)) (f:=((k:Int),f)) (by omega) (by show f.length<=1048576;rw[hf.1];omega)
 rw[GW hn hk.2 hf]at e1
 have hg0:=hLg 0 (by omega)
 have hg0:gd L 0 (0,[])=_:=hg0
 have hi0:inb (0:Int) L:=⟨by omega,by omega⟩
 have e2:=CX k (λm (o:List (List Int)) i=>AH m ((n:Int),((k:Int),f),(0,[]),(k:Int),o,L,(k:Int),i)) (λi=>inner.take i) (r:=some (.inl ((n:Int),((k:Int),f),(0,[]),(k:Int),inner))) (λm i hi=>by
  have hil:i<L.length:=by omega
  have hi':i<inner.length:=by omega
  have hu:=h _ (List.getElem_mem hi')
  have e3:=DQ (n:=(n:Int)) (f:=((k:Int),inner[i])) (by omega) (by show inner[i].length<=1048576;rw[hu.1];omega)
  rw[GW hn hk.2 hu]at e3
  simp only[AH,Ai,hil,hLg i hi,e3,Option.bind_some,Bool.not_true,Bool.false_eq_true,if_false,if_true,Ag (show i<4611686018427387904 by omega)]
  rw[if_pos (by rw[decide_eq_true_eq];omega),if_neg (by simp),if_neg (by simp;omega),if_pos (by rw[List.length_take,List.length_singleton];unfold lim;omega),List.take_succ_eq_append_getElem hi']) (λm=>by
  simp only[AH]
  rw[if_neg (by simp),List.take_of_length_le (by omega)]) (n:=Aa) (by unfold Aa;omega)
 have e2:AH Aa ((n:Int),((k:Int),f),(0,[]),(k:Int),[],L,(k:Int),0)=_:=e2
 have e4:=Cb (b:=n) (k:=k) (by omega) hk.2
 have e5:=Jm hn hk.2 hl h hf (k:Int)
 unfold Cl
 rw[←hL]
 simp only[Fw,e0,e1,hLl,hg0,e2,e4,e5,Option.bind_some,Bool.not_true,Bool.false_eq_true,if_false,if_true,hi0]
 rw[if_neg (by simp;omega),if_neg (by simp)]
end
theorem G1 {a b:Opn} (h:a.2.length<=1048576):BM a b=some (decide (a=b)):=by
 obtain⟨a1,a2⟩:=a
 obtain⟨b1,b2⟩:=b
 dsimp only at h
 unfold BM
 dsimp only
 by_cases e:a1=b1
 ·subst e
  rw[if_pos (by simp),Ig h]
  by_cases e':a2=b2
  ·subst e';simp
  ·simp[e']
 ·rw[if_neg (by simpa using e)]
  simp[e]
theorem Hw {l:List Opn} (hl:l.length<=1000) (h: ∀f∈l,f.2.length<=1000):EW l l=some true:=by
 unfold EW
 rw[if_neg (by simp)]
 have:=CX l.length (λf (_:Unit) i=>Cy f (l,l,i)) (λ_=>()) (r:=some (.inl ())) (λf i hi=>?_) (λf=>?_) (n:=Aa) (by unfold Aa;omega)
 ·have this:Cy Aa (l,l,0)=_:=this
  rw[this];rfl
 ·have e:=G1 (a:=l[i]) (b:=l[i]) (by have:=h _ (List.getElem_mem hi);omega)
  simp only[Cy,Ai,hi,Ap hi,e,Option.bind_some,if_true,decide_true,Bool.not_true,Bool.false_eq_true,if_false,Ag (show i<4611686018427387904 by omega)]
  rw[if_pos (by simp;omega)]
 ·simp only[Cy]
  rw[if_neg (by simp)]
end T
open Go Go.Va
namespace T
def GT (t0:List Int):Option Bool:=
 (Az t0).bind λr20=>
 (Aq r20.1 r20.2.1 (r20.2.2.1,r20.2.2.2)).bind λr21=>
 (AL r20.1 r20.2.1 (r20.2.2.1,r20.2.2.2)).bind λr22=>
 if r21.1 !=r22.1 then
 some false
 else
 if r21.2 !=r22.2 then
 some false
 else
 if r21.2 then
 if decide (r20.2.2.1>0)then
 (Al r20.1 r20.2.1 r20.2.2.1 r20.2.2.2).bind λr23=>
 if r21.1 then
 if r23.2 !=(decide ((r20.2.2.2.length:Int)<=9))then
 some false
 else
 if r23.2 then
 (BM (r23.1.1,r23.1.2) (r20.2.2.1,r20.2.2.2)).bind λr24=>
 if !r24 then
 some false
 else
 some true
 else
 some true
 else
 if r23.2 !=false then
 some false
 else
 if r23.2 then
 (BM (r23.1.1,r23.1.2) (r20.2.2.1,r20.2.2.2)).bind λr25=>
 if !r25 then
 some false
 else
 some true
 else
 some true
 else
 some true
 else
 some true
section
variable {n k:Nat} {rels:List Ba} {t:List Int} {Lt:List (List Int)}
theorem FV (hp:BO (n:Int) rels (k:Int)=true) (ht:Dh n k t) (hk:Da n k rels t=true):FL (n:Int) rels ((k:Int),t)=(true,true):=by
 obtain⟨h1,h2,h9,hR⟩:=CC hp
 have hp':=hp
 unfold BO at hp'
 simp only[Bool.and_eq_true]at hp'
 obtain⟨⟨hT,hf⟩,_⟩:=hp'
 unfold FL
 have ho:=GW (n:=n) (k:=k) (t:=t) (by omega) (by omega) ht
 dsimp only
 rw[hT,hf,ho,Int.toNat_natCast,Int.toNat_natCast,hk,decide_eq_true (show(k:Int)>0 by omega)]
 rfl
theorem IZ {L:List Opn} (h0:0<L.length) (hl:L.length<=1000) (hk:k<=3) {i:Nat} (hi:i<8) (code:List Int) (F:Opn):
  AI Aa (code,(n:Int),rels,(k:Int),L,(i:Int),F,[],0)=some (code,(n:Int),rels,(k:Int),L,(i:Int),F,(List.range k).map λm=>L.getD ((i*5+m*3)%L.length) (0,[])):=by
 have:=CX k (λf (o:List Opn) m=>AI f (code,(n:Int),rels,(k:Int),L,(i:Int),F,o,m)) (λq=>(List.range q).map λm=>L.getD ((i*5+m*3)%L.length) (0,[])) (r:=some (code,(n:Int),rels,(k:Int),L,(i:Int),F,(List.range k).map λm=>L.getD ((i*5+m*3)%L.length) (0,[]))) (λf m hm=>?_) (λf=>?_) (n:=Aa) (by unfold Aa;omega)
 ·exact this
 ·have ew:Int.tmod (w64 ((w64 ((i:Int)*5))+(w64 ((m:Int)*3)))) (L.length:Int)=(((i*5+m*3)%L.length:Nat):Int):=by
   have e1:w64 ((i:Int)*5)=((i*5:Nat):Int):=by rw[C5];omega
   have e2:w64 ((m:Int)*3)=((m*3:Nat):Int):=by rw[C5];omega
   have e3:w64 (((i*5:Nat):Int)+((m*3:Nat):Int))=((i*5+m*3:Nat):Int):=by rw[C5];omega
   rw[e1,e2,e3,Hh]
  have hlt:(i*5+m*3)%L.length<L.length:=Nat.mod_lt _ h0
  simp only[AI,ew,Ai,hlt,Es,if_true,List.range_succ,List.map_append,List.map_cons,List.map_nil,Ag (show m<4611686018427387904 by omega)]
  rw[if_pos (by rw[decide_eq_true_eq];omega),if_pos (by omega),if_pos (by simp;unfold lim;omega)]
 ·simp only[AI]
  rw[if_neg (by simp)]
theorem IY (hp:BO (n:Int) rels (k:Int)=true) (hs:Dr rels) (hL: ∀t∈Lt,Dh n k t/\Da n k rels t=true) (h0:0<Lt.length) (hl:Lt.length<=1000) (code:List Int):
  Av Aa (code,(n:Int),rels,(k:Int),Lt.map λt=>((k:Int),t),0)=some (.inl (code,(n:Int),rels,(k:Int),Lt.map λt=>((k:Int),t))):=by
 obtain⟨h1,h2,h9,hR⟩:=CC hp
 rw[Int.toNat_natCast,Int.toNat_natCast]at h9 hR
 obtain⟨L,eL⟩: ∃L,L=Lt.map λt=>((k:Int),t):=⟨_,rfl⟩
 rw[←eL]
 have hLl:L.length=Lt.length:=by rw[eL,List.length_map]
 have hLg: ∀(i:Nat) (hi:i<Lt.length),L.getD i (0,[])=((k:Int),Lt.getD i []):=λi hi=>by
  rw[Ah (by omega),Ah hi];simp[eL]
 have hmem: ∀(i:Nat),i<Lt.length->Dh n k (Lt.getD i [])/\Da n k rels (Lt.getD i [])=true:=λi hi=>by
  rw[Ah hi];exact hL _ (List.getElem_mem hi)
 have:=CX (min Lt.length 8) (λf (_:Unit) i=>Av f (code,(n:Int),rels,(k:Int),L,i)) (λ_=>()) (r:=some (.inl (code,(n:Int),rels,(k:Int),L))) (λf i hi=>?_) (λf=>?_) (n:=Aa) (by unfold Aa;omega)
 ·exact this
 ·have ew:Int.tmod (w64 ((i:Int)*13)) (L.length:Int)=(((i*13)%L.length:Nat):Int):=by
   have e1:w64 ((i:Int)*13)=((i*13:Nat):Int):=by rw[C5];omega
   rw[e1,Hh]
  have hlt:(i*13)%L.length<L.length:=Nat.mod_lt _ (by omega)
  have hlt':(i*13)%L.length<Lt.length:=by omega
  obtain⟨a1,a2⟩:=hmem _ hlt'
  have hp64:=Bv (n:=n) (k:=k) (by omega) (by omega)
  have e1:=DC (n:=(n:Int)) (op:=((k:Int),Lt.getD ((i*13)%L.length) [])) hs (by show(Lt.getD _ []).length<=1048576;rw[a1.1];omega)
  rw[FV hp a1 a2]at e1
  have e2:=IZ (n:=n) (k:=k) (rels:=rels) (L:=L) (by omega) (by omega) (by omega) (i:=i) (by omega) code ((k:Int),Lt.getD ((i*13)%L.length) [])
  have hidx: ∀m:Nat,(i*5+m*3)%L.length<Lt.length:=λm=>by
   have:=Nat.mod_lt (i*5+m*3) (show 0<L.length by omega)
   omega
  have einner:(List.range k).map (λm=>L.getD ((i*5+m*3)%L.length) (0,[]))=((List.range k).map λm=>Lt.getD ((i*5+m*3)%L.length) []).map λt=>((k:Int),t):=by
   rw[List.map_map]
   exact List.map_congr_left λm _=>hLg _ (hidx m)
  rw[einner]at e2
  have hin: ∀u∈(List.range k).map (λm=>Lt.getD ((i*5+m*3)%L.length) []),Dh n k u/\Da n k rels u=true:=λu hu=>by
   obtain⟨m,_,rfl⟩:=List.mem_map.1 hu
   exact hmem _ (hidx m)
  have e3:=GN (n:=n) (k:=k) (f:=Lt.getD ((i*13)%L.length) []) (inner:=(List.range k).map λm=>Lt.getD ((i*5+m*3)%L.length) []) (by omega) (by omega) (by simp) (λu hu=>(hin u hu).1) a1
  have c1:=HI (n:=n) (k:=k) a1 (inner:=(List.range k).map λm=>Lt.getD ((i*5+m*3)%L.length) []) (by simp) λu hu=>(hin u hu).1
  have c2:=HH hR a1 a2 (inner:=(List.range k).map λm=>Lt.getD ((i*5+m*3)%L.length) []) (by simp) hin
  have e4:=DC (n:=(n:Int)) (op:=((k:Int),Dv n (n^k) (Lt.getD ((i*13)%L.length) []) ((List.range k).map λm=>Lt.getD ((i*5+m*3)%L.length) []))) hs (by show(Dv _ _ _ _).length<=1048576;rw[c1.1];omega)
  rw[FV hp c1 c2]at e4
  simp only[Av,ew,Ai,hlt,Es,hLg _ hlt',if_true,e1,e2,e3,e4,Option.bind_some,Bool.not_true,Bool.false_eq_true,if_false,Ag (show i<4611686018427387904 by omega)]
  rw[if_pos (by rw[decide_eq_true_eq];omega),if_pos (by rw[decide_eq_true_eq];omega),if_pos (by omega)]
 ·simp only[Av]
  by_cases hc:Lt.length<=8
  ·rw[Nat.min_eq_left hc,if_neg (by rw[decide_eq_true_eq];omega)]
  ·rw[Nat.min_eq_right (by omega),if_pos (by rw[decide_eq_true_eq];omega),if_neg (by decide)]
theorem I0 {L:List Opn} (h0:0<L.length) (hl:(L.getD 0 (0,[])).2.length<=1000) (code:List Int) (n k:Int):
  Aw Aa (code,n,rels,k,L,[])=some (code,n,rels,k,L,List.replicate (L.getD 0 (0,[])).2.length (-1)):=by
 have hi0:inb (0:Int) L:=⟨by omega,by omega⟩
 have hg:gd L 0 (0,[])=L.getD 0 (0,[]):=rfl
 have:=CX (L.getD 0 (0,[])).2.length (λf (o:List Int) _=>Aw f (code,n,rels,k,L,o)) (λq=>List.replicate q (-1)) (r:=some (code,n,rels,k,L,List.replicate (L.getD 0 (0,[])).2.length (-1))) (λf q hq=>?_) (λf=>?_) (n:=Aa) (by unfold Aa;omega)
 ·exact this
 ·simp only[Aw,hi0,hg,if_true,List.length_replicate]
  rw[if_pos (by rw[decide_eq_true_eq];omega),if_pos (by simp;unfold lim;omega),List.replicate_succ']
 ·simp only[Aw,hi0,hg,if_true,List.length_replicate]
  rw[if_neg (by simp)]
end
theorem Hp {code:List Int} (h1:code.length<=65536) (h2: ∀x∈code,0<=x/\x<256):GT code=some true:=by
 obtain⟨n,rels,op,e,a1,a2,hB,ho⟩:=D2 h1 h2
 have hs:=Gh hB
 have e1:=DC (n:=n) (op:=op) hs (by omega)
 have e2:=FM (n:=n) (op:=op) hs (by omega)
 have e1:Aq n rels (op.1,op.2)=_:=e1
 have e2:AL n rels (op.1,op.2)=_:=e2
 unfold GT
 simp only[e,e1,e2,Option.bind_some,bne_self_eq_false,Bool.false_eq_true,if_false]
 by_cases hc:(CA n rels&&Er op.1 rels&&opB n op)=true
 ·have hR:FL n rels op=(decide (op.1>0)&&Da n.toNat op.1.toNat rels op.2,true):=by unfold FL;rw[if_pos hc]
  rw[hR]
  simp only[if_true]
  by_cases h0:op.1>0
  ·rw[decide_eq_true h0]
   simp only[if_true,Bool.true_and]
   simp only[Bool.and_eq_true]at hc
   obtain⟨⟨hT,hf⟩,hO⟩:=hc
   obtain⟨hn,_,_⟩:=Dn hT
   obtain⟨p1,p2,p3⟩:=EL hO
   have ht:=GX hn hO
   by_cases h9:n.toNat^op.1.toNat<=9
   ·have hp:BO n rels op.1=true:=by
     unfold BO;rw[hT,hf,decide_eq_true (show 1<=op.1/\op.1<=3 by omega),decide_eq_true h9];rfl
    have hR:=(CC hp).2.2.2
    have e3:=Fh (values:=op.2) hs (by omega) hp ht.1 (λx hx=>by have:=p3 x hx;omega)
    rw[Hi hR ht.1 ht.2]at e3
    have h99:decide ((op.2.length:Int)<=9)=true:=by rw[ht.1];exact decide_eq_true (by omega)
    have eK:((op.1.toNat:Nat):Int)=op.1:=Int.toNat_of_nonneg (by omega)
    cases hk:Da n.toNat op.1.toNat rels op.2 with
    |true=>
     rw[hk,if_pos rfl,eK]at e3
     have e5:=G1 (a:=(op.1,op.2)) (b:=(op.1,op.2)) (by show op.2.length<=1048576;omega)
     simp[e3,h99,e5]
    |false=>
     rw[hk,if_neg (by simp)]at e3
     simp[e3]
   ·have hp:BO n rels op.1=false:=by
     unfold BO;rw[decide_eq_false h9];simp
    have e3:=GO (values:=op.2) hs hp
    have h99:decide ((op.2.length:Int)<=9)=false:=by
     rw[ht.1];exact decide_eq_false (by omega)
    rw[e3]
    simp only[Option.bind_some,h99]
    cases Da n.toNat op.1.toNat rels op.2<;>simp
  ·rw[decide_eq_false h0];simp
 ·have hR:FL n rels op=(false,false):=by unfold FL;rw[if_neg hc]
  rw[hR];simp
theorem Eo {n k:Int} {rels:List Ba} (h:Dr rels) (hb:BO n rels k=false):AQ n rels k=some ([],false):=by
 unfold AQ
 rw[BJ h]
 cases hc:CA n rels&&Er k rels with
 |false=>simp
 |true=>
  unfold BO at hb
  rw[hc,Bool.true_and]at hb
  rw[Bool.and_eq_true]at hc
  simp only[Option.bind_some,Bool.not_true,Bool.false_eq_true,if_false,BC (k:=k) (Dn hc.1).1,hb]
  rfl
theorem FnPolymorphisms_law {code:List Int} (h:wfT (.slice (.num .u8)) code):C9 code=some true:=by
 unfold C9 FW
 simp only[Option.bind_some]
 by_cases hb:(code.length:Int)>65536
 ·rw[if_pos (decide_eq_true hb)]
 ·rw[if_neg (by simpa using hb)]
  have h1:code.length<=65536:=by omega
  have h2: ∀x∈code,0<=x/\x<256:=λx hx=>by
   have:IntKind.u8.min<=x/\x<=IntKind.u8.max:=h.2 x hx
   have e1:IntKind.u8.min=0:=by decide
   have e2:IntKind.u8.max=255:=by decide
   omega
  obtain⟨n,rels,k,ed,a1,a2,a3,a4,a5⟩:=DM h1 h2
  have hs:=Gh a3
  have hT:=Hp h1 h2
  unfold GT at hT
  obtain⟨R,r1,r2,r3⟩:=Ew (n:=n) (k:=k) hs
  have c1:=D1 (n:=n) (k:=k) hs
  have c2:=E2 (n:=n) (k:=k) hs
  have ro:=Hw r3.1 r3.2
  simp only[ed,Option.bind_some,r1,r2,c1,c2,ro,bne_self_eq_false,Bool.not_true,Bool.false_eq_true,if_false]
  cases hp:BO n rels k with
  |false=>
   have e:=Eo hs hp
   rw[r1]at e
   have e:=Option.some.inj e
   subst e
   simp only[Bool.false_eq_true,if_false]
   exact hT
  |true=>
   have e:=Ep hs hp
   rw[r1]at e
   have e:=Option.some.inj e
   subst e
   obtain⟨N,rfl⟩: ∃N:Nat,n=(N:Int):=⟨n.toNat,by omega⟩
   obtain⟨K,rfl⟩: ∃K:Nat,k=(K:Int):=⟨k.toNat,by omega⟩
   obtain⟨hn,hk,h9,hR⟩:=CC hp
   simp only[Int.toNat_natCast]at h9 hR⊢
   unfold Et
   by_cases hc:(Yik N K rels (List.replicate (N^K) (-1))).length<=300
   ·have hne:=Im hR
    obtain⟨t0,Lt,eL⟩: ∃t0 Lt,Yik N K rels (List.replicate (N^K) (-1))=t0::Lt:=by
     cases hl:Yik N K rels (List.replicate (N^K) (-1))with
     |nil=>exact absurd hl hne
     |cons t l=>exact⟨t,l,rfl⟩
    have hall: ∀t∈t0::Lt,Dh N K t/\Da N K rels t=true:=λt ht=>by
     rw[←eL]at ht
     obtain⟨b1,b2,_,b4⟩:=(D4 hR).1 ht
     exact⟨⟨b1,b2⟩,b4⟩
    rw[eL]at hc
    have e14:=IY hp hs hall (by simp) (by omega) code
    have ht0:=(hall t0 (List.mem_cons_self ..)).1
    have hg0:((t0::Lt).map λt=>((K:Int),t)).getD 0 (0,[])=((K:Int),t0):=rfl
    have e30:=I0 (rels:=rels) (L:=(t0::Lt).map λt=>((K:Int),t)) (by simp) (by rw[hg0];show t0.length<=1000;rw[ht0.1];omega) code (N:Int) (K:Int)
    rw[hg0]at e30
    have hrep:List.replicate (((K:Int),t0).2.length) (-1:Int)=List.replicate (N^K) (-1):=by rw[show((K:Int),t0).2.length=t0.length from rfl,ht0.1]
    rw[hrep]at e30
    have eX:=Fh (n:=(N:Int)) (k:=(K:Int)) (values:=List.replicate (N^K) (-1)) hs (by simp;omega) hp (by simp) (λx hx=>by rw[List.eq_of_mem_replicate hx];omega)
    simp only[Int.toNat_natCast,eL]at eX
    have eX:Al (N:Int) rels (K:Int) (List.replicate (N^K) (-1))=some (((K:Int),t0),true):=eX
    have hg0':gd ((t0::Lt).map λt=>((K:Int),t)) 0 (0,[])=((K:Int),t0):=rfl
    have hi0:inb (0:Int) ((t0::Lt).map λt=>((K:Int),t)):=⟨by omega,by simp⟩
    have er:=G1 (a:=((K:Int),t0)) (b:=((K:Int),t0)) (by show t0.length<=1048576;rw[ht0.1];omega)
    rw[eL,if_pos hc]
    have hlen:(((t0::Lt).map λt=>((K:Int),t)).length:Int)=((t0::Lt).length:Int):=by rw[List.length_map]
    simp only[if_true,hlen,bne_self_eq_false,Bool.false_eq_true,if_false,e14,e30,eX,Option.bind_some,Bool.not_true,hi0,hg0',er,decide_true]
    exact hT
   ·rw[if_neg hc]
    simp only[Bool.false_eq_true,if_false]
    exact hT
end T
open Go Go.Va
namespace T
section
variable {n:Nat} {t:List Int}
def It (n:Nat) (t:List Int) (x y:Nat):Nat:=(t.getD (x*n+y) 0).toNat
structure TabOk (n:Nat) (t:List Int):Prop where
 hn:1<=n/\n<=4
 len:t.length=n*n
 val: ∀x∈t,0<=x/\x<(n:Int)
theorem ix2 (hn:n<=4) {x y:Nat} (hx:x<n) (hy:y<n):w64 (w64 ((x:Int)*(n:Int))+(y:Int))=((x*n+y:Nat):Int)/\x*n+y<n*n:=by
 have h1:x*n+y<n*n:=by
  calc x*n+y<x*n+n:=by omega
   _=(x+1)*n:=by rw[Nat.succ_mul]
   _<=n*n:=Nat.mul_le_mul_right _ hx
 have h2:n*n<=4*4:=Nat.mul_le_mul hn hn
 have e:(x:Int)*(n:Int)=((x*n:Nat):Int):=by simp
 have a1:w64 ((x*n:Nat):Int)=((x*n:Nat):Int):=Ax (by omega) (by omega)
 rw[e,a1,Ax (by omega) (by omega)]
 exact⟨by omega,h1⟩
theorem TabOk.at (h:TabOk n t) {x y:Nat} (hx:x<n) (hy:y<n):w64 (w64 ((x:Int)*(n:Int))+(y:Int))=((x*n+y:Nat):Int)/\inb ((x*n+y:Nat):Int) t/\gd t ((x*n+y:Nat):Int) 0=((It n t x y:Nat):Int)/\It n t x y<n:=by
 obtain⟨h1,h2⟩:=ix2 h.hn.2 hx hy
 have hl:x*n+y<t.length:=by rw[h.len];exact h2
 have hv:=h.val _ (List.getElem_mem hl)
 refine⟨h1,by rw[Ai];exact hl,?_,?_⟩
 ·rw[Ap hl];unfold It;rw[Ah hl];omega
 ·unfold It;rw[Ah hl];omega
end
end T
open Go Go.Va
namespace T
def conD (W:Nat) (c:Con):Prop:=c.1.length<=W/\rowsB 601 3 c.2.2
theorem conD.mono {W W':Nat} {c:Con} (h:W<=W'):conD W c->conD W' c:=λ⟨a,b⟩=>⟨by omega,b⟩
end T
open Go Go.Va
namespace T
section
variable {a:Net} {K:Nat} {c:Con} {i p n:Nat} {st:ASt}
def Ik (d:Dom) (V:Nat) (t:List Int):Prop:= ∀u,u<V->d2 d u (t.getD u 0).toNat=true
end
end T
open Go Go.Va
namespace T
section
variable {a:Net} {n s:Nat} {t:T4} {u:T3}
def Jh (a:Net) (i j k x y z:Nat):Prop:= ∀c∈a.2.2,(∀v∈c.1,v=(i:Int)∨v=(j:Int)∨v=(k:Int))-> ∀vs:List Int,BZ vs (i:Int)=(x:Int)->BZ vs (j:Int)=(y:Int)->BZ vs (k:Int)=(z:Int)->Jk vs c=true
structure Fam (a:Net) (n s:Nat) (S:Nat->Nat->Nat->Nat->Prop):Prop where
 sym: ∀i j x y,S i j x y->S j i y x
 first: ∀i j x y,i<j->j<n->x<s->y<s->S i j x y->fB a n i j x y=true
 path: ∀i j k x y,i<n->j<n->k<n->i≠j->k≠i->k≠j->x<s->y<s->S i j x y-> ∃z,z<s/\S i k x z/\S j k y z/\Jh a i j k x y z
structure MinP (a:Net) (n s:Nat) (t:T4) (u:T3):Prop where
 rel:Rel34 n s t u
 sym: ∀i j x y,i<n->j<n->i≠j->x<s->y<s->r4 t i j x y=r4 t j i y x
 first: ∀i j x y,i<n->j<n->i≠j->x<s->y<s->r4 t i j x y=true->fB a n i j x y=true
 path: ∀i j k x y,i<n->j<n->k<n->i≠j->k≠i->k≠j->x<s->y<s->r4 t i j x y=true-> ∃z,z<s/\r4 t i k x z=true/\r4 t j k y z=true/\Jh a i j k x y z
 all: ∀S,Fam a n s S-> ∀i j x y,i<n->j<n->i≠j->x<s->y<s->S i j x y->r4 t i j x y=true
end
end T
open Go Go.Va
namespace T
section
variable {a:Net} {n s:Nat} {t:T4} {u:T3} {F:Nat->Nat->Nat->Nat}
theorem IN (hM:MinP a n s t u) {w w' v x y:Nat} (hw:w<n) (hw':w'<n) (hv:v<n) (h1:w≠w') (h2:w≠v) (h3:w'≠v) (hx:x<s) (hy:y<s) (h:r4 t w' v y x=true): ∃z,z<s/\r4 t w v z x=true:=by
 obtain⟨z,hz,_,q,_⟩:=hM.path w' v w y x hw' hv hw h3 h1 h2 hy hx h
 exact⟨z,hz,by rw[hM.sym w v z x hw hv h2 hz hx];exact q⟩
theorem JB (p q:Nat): ∃w,w<3/\w≠p/\w≠q:=by
 by_cases h0:0≠p/\0≠q
 ·exact⟨0,by omega,h0.1,h0.2⟩
 ·by_cases h1:1≠p/\1≠q
  ·exact⟨1,by omega,h1.1,h1.2⟩
  ·exact⟨2,by omega,by omega,by omega⟩
end
end T
open Go Go.Va
namespace T
def HD (n k:Nat) (T:List Int) (x y z:List Int):List Int:=(List.range k).map λj=>T.getD (((x.getD j 0).toNat*n+(y.getD j 0).toNat)*n+(z.getD j 0).toNat) 0
structure T3Ok (n k:Nat) (T:List Int):Prop where
 hn:1<=n/\n<=8
 hk:1<=k/\k<=4
 tl:T.length=n*n*n
 tv: ∀x∈T,0<=x/\x<(n:Int)
def TpOk (n k:Nat) (t:List Int):Prop:=t.length=k/\ ∀x∈t,0<=x/\x<(n:Int)
inductive Clo (n k:Nat) (T:List Int) (gens:List (List Int)):List Int->Prop
 |gen {t:List Int}:t∈gens->Clo n k T gens t
 |app {x y z:List Int}:Clo n k T gens x->Clo n k T gens y->Clo n k T gens z->Clo n k T gens (HD n k T x y z)
section
variable {n k:Nat} {T:List Int} {gens:List (List Int)}
theorem TpOk.get {t:List Int} (h:TpOk n k t) {j:Nat} (hj:j<k):(t.getD j 0).toNat<n/\t.getD j 0=(((t.getD j 0).toNat:Nat):Int)/\j<t.length:=by
 have h1:j<t.length:=by have:=h.1;omega
 have:=h.2 _ (List.getElem_mem h1)
 rw[Ah h1]
 exact⟨by omega,by omega,h1⟩
theorem at_lt {a b c:Nat} (ha:a<n) (hb:b<n) (hc:c<n):(a*n+b)*n+c<n*n*n:=by
 have h1:(a+1)*n<=n*n:=Nat.mul_le_mul_right _ ha
 have h2:(a*n+b+1)*n<=n*n*n:=Nat.mul_le_mul_right _ (by rw[Nat.succ_mul]at h1;omega)
 rw[Nat.succ_mul]at h2;omega
theorem Ip (h:T3Ok n k T) {x y z:List Int} (hx:TpOk n k x) (hy:TpOk n k y) (hz:TpOk n k z):TpOk n k (HD n k T x y z):=by
 refine⟨by simp[HD],λv hv=>?_⟩
 obtain⟨j,hj,rfl⟩:=List.mem_map.1 hv
 have hj:=List.mem_range.1 hj
 have:=at_lt (hx.get hj).1 (hy.get hj).1 (hz.get hj).1
 rw[←h.tl]at this
 rw[Ah this]
 exact h.tv _ (List.getElem_mem _)
theorem Clo.ok (h:T3Ok n k T) (hg: ∀t∈gens,TpOk n k t) {t:List Int} (c:Clo n k T gens t):TpOk n k t:=by
 induction c with
 |gen h=>exact hg _ h
 |app _ _ _ i1 i2 i3=>exact Ip h i1 i2 i3
def Closd (n k:Nat) (T:List Int) (L:List (List Int)):Prop:= ∀x∈L,∀y∈L,∀z∈L,HD n k T x y z∈L
theorem Closd.mem {L:List (List Int)} (hg: ∀t∈gens,t∈L) (hc:Closd n k T L) {t:List Int} (c:Clo n k T gens t):t∈L:=by
 induction c with
 |gen h=>exact hg _ h
 |app _ _ _ i1 i2 i3=>exact hc _ i1 _ i2 _ i3
end
end T
open Go Go.Va
namespace T
section
variable {n k:Nat} {T:List Int} {gens:List (List Int)}
def JD (n k:Nat) (T:List Int) (p:List (List Int)):List Int:=HD n k T (p.getD 0 []) (p.getD 1 []) (p.getD 2 [])
def Need (n k:Nat) (T:List Int) (L0:List (List Int)) (old many:Nat):Nat->List (List Int)->Bool->List (List Int)->Prop
 |0,p,fr,M=>fr=true->JD n k T p∈M
 |r+1,p,fr,M=> ∀i,i<many->Need n k T L0 old many r (p++ [L0.getD i []]) (fr||decide (old<=i)) M
theorem Need.mono {L0:List (List Int)} {old many:Nat}: ∀(r:Nat) (p:List (List Int)) (fr:Bool) {M M':List (List Int)},(∀t∈M,t∈M')->Need n k T L0 old many r p fr M->Need n k T L0 old many r p fr M'
 |0,p,fr,M,M',hs,h=>λe=>hs _ (h e)
 |r+1,p,fr,M,M',hs,h=>λi hi=>Need.mono r _ _ hs (h i hi)
end
end T
open Go Go.Va
namespace T
section
variable {p:Int} {V W N k:Nat} {ts:List (List Int)} {f:Nat->Int} {A:List (List Int)}
def TpI (p:Int) (V:Nat) (x:List Int):Prop:=x.length=V/\ ∀y∈x,0<=y/\y<p
theorem TpI.get {x:List Int} (h:TpI p V x) {i:Nat} (hi:i<V):0<=x.getD i 0/\x.getD i 0<p:=by
 have h1:i<x.length:=by have:=h.1;omega
 rw[Ah h1];exact h.2 _ (List.getElem_mem h1)
end
end T
open Go Go.Va
namespace T
section
variable {n:Int} {k:Nat} {ts W:List (List Int)}
def WitOf (ts:List (List Int)) (k:Nat) (W:List (List Int)):Prop:= ∀w,w∈W↔ ∃(i:Nat) (x y:Int) (p q:Nat),i<k/\H9 ts i x y=some (p,q)/\(w=ts.getD p []∨w=ts.getD q [])
theorem WitOf.sub (h:WitOf ts k W) {w:List Int} (hw:w∈W):w∈ts:=by
 obtain⟨i,x,y,p,q,_,h2,h3⟩:=(h w).1 hw
 obtain⟨g1,g2,_⟩:=GY h2
 rcases h3 with rfl|rfl
 ·exact Fs g1
 ·exact Fs g2
theorem WitOf.set {N:Int} {kk:Int} (h:WitOf ts kk.toNat W) (hs:Jc N kk ts=true) (hi:CJ W=true):Jc N kk W=true:=by
 unfold Jc at hs⊢
 simp only[Bool.and_eq_true,List.all_eq_true]at hs⊢
 exact⟨⟨hs.1.1,λw hw=>hs.1.2 w (h.sub hw)⟩,hi⟩
end
end T
