/- The library's merge of its stable sort; no conditions. -/
import Derived.Test.YtgeboeaoblppcabGreatS1
set_option linter.unusedVariables false
set_option linter.unusedSimpArgs false
set_option linter.all false
namespace Go.Proofs
open Go.Shelf Go.RowKit Go.Lib Go.Sort
variable {P:Program} {ρ:Ren} {α:Type} [Inhabited α]
theorem Za {lt:α->α->Bool} {a s m:Nat} (d:Array α) (h:s=a∨s=m):PermIn a m d d/\(SortedIn lt a s d->SortedIn lt s m d->SortedIn lt a m d):=by
 refine⟨permIn_refl _ _ _,λh1 h2=>?_⟩
 rcases h with rfl|rfl
 ·exact h2
 ·exact h1
theorem Zb {lt:α->α->Bool} (hS:SWO lt) {a m b mid start:Nat} {d d1 d2 d3:Array α} (hmid:mid=(a+b)/2) (ham:a<m) (hmb:m<b) (hb:b<=d.size)
  (h1:start<=m) (h1':start<=mid) (h2:a<=start) (h3:mid+m-start<=b)
  (hlo:(start=a∨mid+m-start=b)∨lt d[mid+m-start]! d[start-1]! =false) (hhi:(start=m∨start=mid)∨lt d[mid+m-1-start]! d[start]! =true)
  (hr:Rot start m (mid+m-start) d d1/\PermIn a b d d1) (hl:PermIn a mid d1 d2/\(SortedIn lt a start d1->SortedIn lt start mid d1->SortedIn lt a mid d2))
  (hq:PermIn mid b d2 d3/\(SortedIn lt mid (mid+m-start) d2->SortedIn lt (mid+m-start) b d2->SortedIn lt mid b d3)):
  PermIn a b d d3/\(SortedIn lt a m d->SortedIn lt m b d->SortedIn lt a b d3):=by
 have z1:d1.size=d.size:=hr.2.1
 have z2:d2.size=d1.size:=hl.1.1
 refine⟨permIn_trans _ _ _ _ _ hr.2 (permIn_trans _ _ _ _ _ (permIn_mono _ _ a mid a b (by omega) (by omega) (by omega) hl.1) (permIn_mono _ _ mid b a b (by omega) (by omega) (by omega) hq.1)),λhA hB=>?_⟩
 obtain⟨hc,s1,s2,s3,s4⟩:=ZO hS hmid ham hmb hA hB h1 h1' h2 h3 hlo hhi hr.1
 refine ZL (by omega) (by omega) (by omega) hc hl.1 (hl.2 s1 s2) hq.1 (hq.2 (SortedIn.congr s3 λi h1 h2=>?_) (SortedIn.congr s4 λi h1 h2=>?_))
 ·exact hl.1.2.1 i (Or.inr h1)
 ·exact hl.1.2.1 i (Or.inr (by omega))
theorem Zc {s m e a b:Nat} (d:Array α) (h:s=m∨e=m):Rot s m e d d/\PermIn a b d d:=by
 refine⟨?_,permIn_refl _ _ _⟩
 rcases h with rfl|rfl
 ·exact Zh d
 ·exact Ze d
set_option maxHeartbeats 16000000 in
set_option maxRecDepth 1000000 in
theorem Fam.symStep (M:Fam P ρ α) (L:LaysGt.n30 P ρ) (a m b:Nat)
  (ih: ∀(a' m' b':Nat) (d:Array α) (W:World),b'-a'<b-a->M.At d W->a'<m'->m'<b'->b'<=M.size->Calls P (ρ.f 30) #[M.data,.int .i64 a',.int .i64 m',.int .i64 b'] W λe w'=>e= .returned (.tuple #[])/\ ∃d',M.Go d' W w'/\PermIn a' b' d d'/\(SortedIn M.lt a' m' d->SortedIn M.lt m' b' d->SortedIn M.lt a' b' d'))
  (d:Array α) (W:World) (h:M.At d W) (ham:a+1<m) (hmb:m+1<b) (hb:b<=M.size):
  Calls P (ρ.f 30) #[M.data,.int .i64 a,.int .i64 m,.int .i64 b] W λe w'=>e= .returned (.tuple #[])/\ ∃d',M.Go d' W w'/\PermIn a b d d'/\(SortedIn M.lt a m d->SortedIn M.lt m b d->SortedIn M.lt a b d'):=by
 have mixed:=L.mixed;have t0:=L.t0;have a0:=L.a0;have z0:=L.z0;have v0:=L.v0;have t3:=L.t3;have a3:=L.a3;have z3:=L.z3;have v3:=L.v3;have t4:=L.t4;have a4:=L.a4;have z4:=L.z4;have v4:=L.v4;have t26:=L.t26;have a26:=L.a26;have z26:=L.z26;have v26:=L.v26;have t38:=L.t38;have a38:=L.a38;have z38:=L.z38;have v38:=L.v38;have t42:=L.t42;have a42:=L.a42;have z42:=L.z42;have v42:=L.v42;have t47:=L.t47;have a47:=L.a47;have z47:=L.z47;have v47:=L.v47
 have u42:=run_underlying L.t42
 have hsz:=M.hsz
 have hlt0:=h.lt
 have L42:LaysGt.n42 P ρ:= { L with }
 have e42: ∀args w,(callFunc (ρ.f 42) args).run P w= .ok (.enter (ρ.f 42) args) w:=enters_of L.f42 (by kernel_rfl) rfl
 have e30: ∀args w,(callFunc (ρ.f 30) args).run P w= .ok (.enter (ρ.f 30) args) w:=enters_of L.f30 (by kernel_rfl) rfl
 obtain⟨mid,hmid⟩: ∃mid:Nat,mid=(a+b)/2:=⟨_,rfl⟩
 have hZ:(((a:Int)+b)/2)=(mid:Int):=by omega
 have m1:2*mid<=a+b:=by omega
 have m2:a+b<=2*mid+1:=by omega
 have RT: ∀(s:Nat) (W1:World) (d1:Array α),M.At d1 W1->a<=s->s<m->s<mid->mid+m-s<=b->s<=mid->Calls P (ρ.f 42) #[.agg #[.func (.func M.g) #[] M.lb,.func (.func M.sf) #[] M.sb],.int .i64 s,.int .i64 m,.int .i64 ((((a:Int)+b)/2)+m-s)] W1 λe w'=>e= .returned (.tuple #[])/\ ∃d',M.Go d' W1 w'/\(Rot s m (mid+m-s) d1 d'/\PermIn a b d1 d'):=λs W1 d1 h1 h2 h3 h4 h5 h6=>by
  have hc:=M.rotate L42 s m (mid+m-s) d1 W1 h1 h3 (by omega) (by omega)
  rw[show((mid+m-s:Nat):Int)=(((a:Int)+b)/2)+m-s by omega]at hc
  exact hc.mono λ_ _ ⟨q1,d',q2,q3,q4⟩=>⟨q1,d',q2,q3,permIn_mono _ _ s (mid+m-s) a b h2 h5 (by have:=h1.1;omega) q4⟩
 have S1: ∀(s:Nat) (W1:World) (d1:Array α),M.At d1 W1->a<s->s<mid->Calls P (ρ.f 30) #[.agg #[.func (.func M.g) #[] M.lb,.func (.func M.sf) #[] M.sb],.int .i64 a,.int .i64 s,.int .i64 (((a:Int)+b)/2)] W1 λe w'=>e= .returned (.tuple #[])/\ ∃d',M.Go d' W1 w'/\(PermIn a mid d1 d'/\(SortedIn M.lt a s d1->SortedIn M.lt s mid d1->SortedIn M.lt a mid d')):=λs W1 d1 h1 h2 h3=>by
  have hc:=ih a s mid d1 W1 (by omega) h1 h2 h3 (by omega)
  rw[←hZ]at hc
  exact hc
 have S2: ∀(s:Nat) (W1:World) (d1:Array α),M.At d1 W1->s<m->s<=mid->mid+m-s<b->Calls P (ρ.f 30) #[.agg #[.func (.func M.g) #[] M.lb,.func (.func M.sf) #[] M.sb],.int .i64 (((a:Int)+b)/2),.int .i64 ((((a:Int)+b)/2)+m-s),.int .i64 b] W1 λe w'=>e= .returned (.tuple #[])/\ ∃d',M.Go d' W1 w'/\(PermIn mid b d1 d'/\(SortedIn M.lt mid (mid+m-s) d1->SortedIn M.lt (mid+m-s) b d1->SortedIn M.lt mid b d')):=λs W1 d1 h1 h2 h3 h4=>by
  have hc:=ih mid (mid+m-s) b d1 W1 (by omega) h1 (by omega) h4 (by omega)
  rw[show((mid+m-s:Nat):Int)=(((a:Int)+b)/2)+m-s by omega,←hZ]at hc
  exact hc
 unfold Fam.data
 have hA:=h.alloc (.cells #[.func (.func M.g) #[] M.lb,.func (.func M.sf) #[] M.sb] (ρ.t 42))
 have k0:(W.alloc (.cells #[.func (.func M.g) #[] M.lb,.func (.func M.sf) #[] M.sb] (ρ.t 42))).cell? ⟨W.heap.size,0,none⟩=some (.func (.func M.g) #[] M.lb):=by simp
 have k1:(W.alloc (.cells #[.func (.func M.g) #[] M.lb,.func (.func M.sf) #[] M.sb] (ρ.t 42))).cell? ⟨W.heap.size,1,none⟩=some (.func (.func M.sf) #[] M.sb):=by simp
 have kz:(W.alloc (.cells #[.func (.func M.g) #[] M.lb,.func (.func M.sf) #[] M.sb] (ρ.t 42))).heap.size=W.heap.size+1:=by simp
 have hds:d.size=M.size:=h.1
 have eg:=M.eg
 have n1:((m:Int)-a==1)=false:=by simp;omega
 have n2:((b:Int)-m==1)=false:=by simp;omega
 have A0:Aside (mid=(a+b)/2):=hmid
 have A1:Aside ((((a:Int)+b)/2)=(mid:Int)):=hZ
 have A2:Aside (∀(s:Nat) (W1:World) (d1:Array α),_):=RT
 clear hmid hZ
 by_cases hmm:mid<m
 ·have hmm':(((a:Int)+b)/2)<(m:Int):=by have:=A1.out;omega
  go_enter L.f30,BodyGt.n30_ntmps ρ
  go_wp2
  go_loopg [18,19] (b-a) (λk s8 s9 wr=> ∃(s r:Nat),s8= .int .i64 s/\s9= .int .i64 r/\r-s<=k/\(mid+m-b)<=s/\s<=r/\r<=mid/\M.Go d (W.alloc (.cells #[.func (.func M.g) #[] M.lb,.func (.func M.sf) #[] M.sb] (ρ.t 42))) wr/\(s=(mid+m-b)∨M.lt d[mid+m-s]! d[s-1]! =false)/\(r=mid∨M.lt d[mid+m-1-r]! d[r]! =true))
  case atStart=>exact⟨(mid+m-b),mid,by congr 1<;>(have:=A1.out;omega),by congr 1<;>(have:=A1.out;omega),by omega,by omega,by omega,by omega,hA.1.go,Or.inl rfl,Or.inl rfl⟩
  case round=>
   obtain⟨s,r,rfl,rfl,hk,hia,hij,hjb,hGo,hlo,hhi⟩:=hrel
   have c0:=hGo.cell (by omega) (by omega) k0
   have c1:=hGo.cell (by omega) (by omega) k1
   by_cases hlt:s<r
   ·have hl:=hGo.1.less (mid+m-1-(s+r)/2) ((s+r)/2) (by omega) (by omega)
    have eH:((((s+r)/2:Nat)):Int)=((s:Int)+r)/2:=by omega
    have eG:(((mid+m-1-(s+r)/2:Nat)):Int)=(((a:Int)+b)/2)+m-1-((s:Int)+r)/2:=by have:=A1.out;omega
    rw[eH,eG]at hl
    have A3:Aside (s=(mid+m-b)∨M.lt d[mid+m-s]! d[s-1]! =false):=hlo
    have A4:Aside (r=mid∨M.lt d[mid+m-1-r]! d[r]! =true):=hhi
    have bz1:(((a:Int)+b)/2)+m-1-((s:Int)+r)/2≥0:=by have:=A1.out;omega
    have bz2:(((a:Int)+b)/2)<=4611686018427387904:=by have:=A1.out;omega
    clear eH eG hlo hhi RT S1 S2
    cases hv:M.lt d[mid+m-1-(s+r)/2]! d[(s+r)/2]! with
    |false=>
     rw[hv]at hl
     go_wp2_with (go_at_fn M.g;refine hl.mono ?_;rintro e w' ⟨rfl,q,rfl⟩)
     go_roundg (r-((s+r)/2+1))
     case measure=>omega
     case rel=>exact⟨(s+r)/2+1,r,by congr 1,rfl,by omega,by omega,by omega,by omega,hGo.trans (hGo.1.drewN q),Or.inr (by rw[show mid+m-((s+r)/2+1)=mid+m-1-(s+r)/2 by omega,Nat.add_sub_cancel];exact hv),A4.out⟩
    |true=>
     rw[hv]at hl
     go_wp2_with (go_at_fn M.g;refine hl.mono ?_;rintro e w' ⟨rfl,q,rfl⟩)
     go_roundg ((s+r)/2-s)
     case measure=>omega
     case rel=>exact⟨s,(s+r)/2,rfl,by congr 1,by omega,by omega,by omega,by omega,hGo.trans (hGo.1.drewN q),A3.out,Or.inr hv⟩
   ·have e:s=r:=by omega
    subst e
    have B:Aside ((s=a∨mid+m-s=b)∨M.lt d[mid+m-s]! d[s-1]! =false):=hlo.imp_left (λh=>by omega)
    have C:Aside ((s=m∨s=mid)∨M.lt d[mid+m-1-s]! d[s]! =true):=hhi.imp_left (λh=>by omega)
    have hAt:=hGo.1
    clear hlo hhi
    have f1:a<=s:=by omega
    have f2:s<=m:=by omega
    have f3:s<=mid:=by omega
    have f4:mid+m-s<=b:=by omega
    have z1:(m:Int)<(((a:Int)+b)/2)+m-s↔s<mid:=by have:=A1.out;omega
    have z2:(s:Int)<(((a:Int)+b)/2)↔s<mid:=by have:=A1.out;omega
    have z3:(((a:Int)+b)/2)<(((a:Int)+b)/2)+m-s↔s<m:=by have:=A1.out;omega
    have z4:(((a:Int)+b)/2)+m-s<b↔mid+m-s<b:=by have:=A1.out;omega
    by_cases p1:s<m
    ·by_cases p2:s<mid
     ·by_cases p3:a<s
      ·by_cases p4:mid+m-s<b
       ·have RT:=A2.out
        go_wp2_with (first|(go_at_fn (ρ.f 42);refine(RT s _ _ (by assumption) (by omega) (by omega) (by omega) (by omega) (by omega)).mono ?_;rintro e w1 ⟨rfl,d1,hG1,hR1⟩;have hA1:=hG1.1;have b0:=hG1.cell (by have:=hGo.2.1;omega) (by omega) c0;have b1:=hG1.cell (by have:=hGo.2.1;omega) (by omega) c1)|(go_at_fn (ρ.f 30);refine(S1 s _ d1 (by assumption) (by omega) (by omega)).mono ?_;rintro e w2 ⟨rfl,d2,hG2,hR2⟩;have hA2:=hG2.1;have e0:=hG2.cell (by have:=hGo.2.1;have:=hG1.2.1;omega) (by omega) b0;have e1:=hG2.cell (by have:=hGo.2.1;have:=hG1.2.1;omega) (by omega) b1)|(go_at_fn (ρ.f 30);refine(S2 s _ d2 (by assumption) (by omega) (by omega) (by omega)).mono ?_;rintro e w3 ⟨rfl,d3,hG3,hR3⟩))
        go_end0
        exact⟨rfl,d3,hA.trans (((hGo.trans hG1).trans hG2).trans hG3),Zb M.ord A0.out (by omega) (by omega) (by omega) (by omega) (by omega) (by omega) (by omega) B.out C.out hR1 hR2 hR3⟩
       ·have RT:=A2.out
        go_wp2_with (first|(go_at_fn (ρ.f 42);refine(RT s _ _ (by assumption) (by omega) (by omega) (by omega) (by omega) (by omega)).mono ?_;rintro e w1 ⟨rfl,d1,hG1,hR1⟩;have hA1:=hG1.1;have b0:=hG1.cell (by have:=hGo.2.1;omega) (by omega) c0;have b1:=hG1.cell (by have:=hGo.2.1;omega) (by omega) c1)|(go_at_fn (ρ.f 30);refine(S1 s _ d1 (by assumption) (by omega) (by omega)).mono ?_;rintro e w2 ⟨rfl,d2,hG2,hR2⟩;have hA2:=hG2.1;have e0:=hG2.cell (by have:=hGo.2.1;have:=hG1.2.1;omega) (by omega) b0;have e1:=hG2.cell (by have:=hGo.2.1;have:=hG1.2.1;omega) (by omega) b1))
        go_end0
        exact⟨rfl,d2,hA.trans ((hGo.trans hG1).trans hG2),Zb M.ord A0.out (by omega) (by omega) (by omega) (by omega) (by omega) (by omega) (by omega) B.out C.out hR1 hR2 (Za _ (by omega))⟩
      ·by_cases p4:mid+m-s<b
       ·have RT:=A2.out
        go_wp2_with (first|(go_at_fn (ρ.f 42);refine(RT s _ _ (by assumption) (by omega) (by omega) (by omega) (by omega) (by omega)).mono ?_;rintro e w1 ⟨rfl,d1,hG1,hR1⟩;have hA1:=hG1.1;have b0:=hG1.cell (by have:=hGo.2.1;omega) (by omega) c0;have b1:=hG1.cell (by have:=hGo.2.1;omega) (by omega) c1)|(go_at_fn (ρ.f 30);refine(S2 s _ d1 (by assumption) (by omega) (by omega) (by omega)).mono ?_;rintro e w3 ⟨rfl,d3,hG3,hR3⟩))
        go_end0
        exact⟨rfl,d3,hA.trans ((hGo.trans hG1).trans hG3),Zb M.ord A0.out (by omega) (by omega) (by omega) (by omega) (by omega) (by omega) (by omega) B.out C.out hR1 (Za _ (by omega)) hR3⟩
       ·have RT:=A2.out
        go_wp2_with (first|(go_at_fn (ρ.f 42);refine(RT s _ _ (by assumption) (by omega) (by omega) (by omega) (by omega) (by omega)).mono ?_;rintro e w1 ⟨rfl,d1,hG1,hR1⟩;have hA1:=hG1.1;have b0:=hG1.cell (by have:=hGo.2.1;omega) (by omega) c0;have b1:=hG1.cell (by have:=hGo.2.1;omega) (by omega) c1))
        go_end0
        exact⟨rfl,d1,hA.trans (hGo.trans hG1),Zb M.ord A0.out (by omega) (by omega) (by omega) (by omega) (by omega) (by omega) (by omega) B.out C.out hR1 (Za _ (by omega)) (Za _ (by omega))⟩
     ·by_cases p3:a<s
      ·by_cases p4:mid+m-s<b
       ·have q1:s=m∨mid+m-s=m:=by omega
        go_wp2_with (first|(go_at_fn (ρ.f 30);refine(S2 s _ d (by assumption) (by omega) (by omega) (by omega)).mono ?_;rintro e w3 ⟨rfl,d3,hG3,hR3⟩))
        go_end0
        exact⟨rfl,d3,hA.trans (hGo.trans hG3),Zb M.ord A0.out (by omega) (by omega) (by omega) (by omega) (by omega) (by omega) (by omega) B.out C.out (Zc d q1) (Za _ (by omega)) hR3⟩
       ·have q1:s=m∨mid+m-s=m:=by omega
        go_wp2
        go_end0
        exact⟨rfl,d,hA.trans hGo,Zb M.ord A0.out (by omega) (by omega) (by omega) (by omega) (by omega) (by omega) (by omega) B.out C.out (Zc d q1) (Za _ (by omega)) (Za _ (by omega))⟩
      ·by_cases p4:mid+m-s<b
       ·have q1:s=m∨mid+m-s=m:=by omega
        go_wp2_with (first|(go_at_fn (ρ.f 30);refine(S2 s _ d (by assumption) (by omega) (by omega) (by omega)).mono ?_;rintro e w3 ⟨rfl,d3,hG3,hR3⟩))
        go_end0
        exact⟨rfl,d3,hA.trans (hGo.trans hG3),Zb M.ord A0.out (by omega) (by omega) (by omega) (by omega) (by omega) (by omega) (by omega) B.out C.out (Zc d q1) (Za _ (by omega)) hR3⟩
       ·have q1:s=m∨mid+m-s=m:=by omega
        go_wp2
        go_end0
        exact⟨rfl,d,hA.trans hGo,Zb M.ord A0.out (by omega) (by omega) (by omega) (by omega) (by omega) (by omega) (by omega) B.out C.out (Zc d q1) (Za _ (by omega)) (Za _ (by omega))⟩
    ·by_cases p2:s<mid
     ·by_cases p3:a<s
      ·by_cases p4:mid+m-s<b
       ·have q1:s=m∨mid+m-s=m:=by omega
        go_wp2_with (first|(go_at_fn (ρ.f 30);refine(S1 s _ d (by assumption) (by omega) (by omega)).mono ?_;rintro e w2 ⟨rfl,d2,hG2,hR2⟩;have hA2:=hG2.1;have e0:=hG2.cell (by have:=hGo.2.1;  omega) (by omega) c0;have e1:=hG2.cell (by have:=hGo.2.1;  omega) (by omega) c1))
        go_end0
        exact⟨rfl,d2,hA.trans (hGo.trans hG2),Zb M.ord A0.out (by omega) (by omega) (by omega) (by omega) (by omega) (by omega) (by omega) B.out C.out (Zc d q1) hR2 (Za _ (by omega))⟩
       ·have q1:s=m∨mid+m-s=m:=by omega
        go_wp2_with (first|(go_at_fn (ρ.f 30);refine(S1 s _ d (by assumption) (by omega) (by omega)).mono ?_;rintro e w2 ⟨rfl,d2,hG2,hR2⟩;have hA2:=hG2.1;have e0:=hG2.cell (by have:=hGo.2.1;  omega) (by omega) c0;have e1:=hG2.cell (by have:=hGo.2.1;  omega) (by omega) c1))
        go_end0
        exact⟨rfl,d2,hA.trans (hGo.trans hG2),Zb M.ord A0.out (by omega) (by omega) (by omega) (by omega) (by omega) (by omega) (by omega) B.out C.out (Zc d q1) hR2 (Za _ (by omega))⟩
      ·by_cases p4:mid+m-s<b
       ·have q1:s=m∨mid+m-s=m:=by omega
        go_wp2
        go_end0
        exact⟨rfl,d,hA.trans hGo,Zb M.ord A0.out (by omega) (by omega) (by omega) (by omega) (by omega) (by omega) (by omega) B.out C.out (Zc d q1) (Za _ (by omega)) (Za _ (by omega))⟩
       ·have q1:s=m∨mid+m-s=m:=by omega
        go_wp2
        go_end0
        exact⟨rfl,d,hA.trans hGo,Zb M.ord A0.out (by omega) (by omega) (by omega) (by omega) (by omega) (by omega) (by omega) B.out C.out (Zc d q1) (Za _ (by omega)) (Za _ (by omega))⟩
     ·by_cases p3:a<s
      ·by_cases p4:mid+m-s<b
       ·have q1:s=m∨mid+m-s=m:=by omega
        go_wp2
        go_end0
        exact⟨rfl,d,hA.trans hGo,Zb M.ord A0.out (by omega) (by omega) (by omega) (by omega) (by omega) (by omega) (by omega) B.out C.out (Zc d q1) (Za _ (by omega)) (Za _ (by omega))⟩
       ·have q1:s=m∨mid+m-s=m:=by omega
        go_wp2
        go_end0
        exact⟨rfl,d,hA.trans hGo,Zb M.ord A0.out (by omega) (by omega) (by omega) (by omega) (by omega) (by omega) (by omega) B.out C.out (Zc d q1) (Za _ (by omega)) (Za _ (by omega))⟩
      ·by_cases p4:mid+m-s<b
       ·have q1:s=m∨mid+m-s=m:=by omega
        go_wp2
        go_end0
        exact⟨rfl,d,hA.trans hGo,Zb M.ord A0.out (by omega) (by omega) (by omega) (by omega) (by omega) (by omega) (by omega) B.out C.out (Zc d q1) (Za _ (by omega)) (Za _ (by omega))⟩
       ·have q1:s=m∨mid+m-s=m:=by omega
        go_wp2
        go_end0
        exact⟨rfl,d,hA.trans hGo,Zb M.ord A0.out (by omega) (by omega) (by omega) (by omega) (by omega) (by omega) (by omega) B.out C.out (Zc d q1) (Za _ (by omega)) (Za _ (by omega))⟩
 ·have hmm': ¬(((a:Int)+b)/2)<(m:Int):=by have:=A1.out;omega
  go_enter L.f30,BodyGt.n30_ntmps ρ
  go_wp2
  go_loopg [18,19] (b-a) (λk s8 s9 wr=> ∃(s r:Nat),s8= .int .i64 s/\s9= .int .i64 r/\r-s<=k/\a<=s/\s<=r/\r<=m/\M.Go d (W.alloc (.cells #[.func (.func M.g) #[] M.lb,.func (.func M.sf) #[] M.sb] (ρ.t 42))) wr/\(s=a∨M.lt d[mid+m-s]! d[s-1]! =false)/\(r=m∨M.lt d[mid+m-1-r]! d[r]! =true))
  case atStart=>exact⟨a,m,by congr 1<;>(have:=A1.out;omega),by congr 1<;>(have:=A1.out;omega),by omega,by omega,by omega,by omega,hA.1.go,Or.inl rfl,Or.inl rfl⟩
  case round=>
   obtain⟨s,r,rfl,rfl,hk,hia,hij,hjb,hGo,hlo,hhi⟩:=hrel
   have c0:=hGo.cell (by omega) (by omega) k0
   have c1:=hGo.cell (by omega) (by omega) k1
   by_cases hlt:s<r
   ·have hl:=hGo.1.less (mid+m-1-(s+r)/2) ((s+r)/2) (by omega) (by omega)
    have eH:((((s+r)/2:Nat)):Int)=((s:Int)+r)/2:=by omega
    have eG:(((mid+m-1-(s+r)/2:Nat)):Int)=(((a:Int)+b)/2)+m-1-((s:Int)+r)/2:=by have:=A1.out;omega
    rw[eH,eG]at hl
    have A3:Aside (s=a∨M.lt d[mid+m-s]! d[s-1]! =false):=hlo
    have A4:Aside (r=m∨M.lt d[mid+m-1-r]! d[r]! =true):=hhi
    have bz1:(((a:Int)+b)/2)+m-1-((s:Int)+r)/2≥0:=by have:=A1.out;omega
    have bz2:(((a:Int)+b)/2)<=4611686018427387904:=by have:=A1.out;omega
    clear eH eG hlo hhi RT S1 S2
    cases hv:M.lt d[mid+m-1-(s+r)/2]! d[(s+r)/2]! with
    |false=>
     rw[hv]at hl
     go_wp2_with (go_at_fn M.g;refine hl.mono ?_;rintro e w' ⟨rfl,q,rfl⟩)
     go_roundg (r-((s+r)/2+1))
     case measure=>omega
     case rel=>exact⟨(s+r)/2+1,r,by congr 1,rfl,by omega,by omega,by omega,by omega,hGo.trans (hGo.1.drewN q),Or.inr (by rw[show mid+m-((s+r)/2+1)=mid+m-1-(s+r)/2 by omega,Nat.add_sub_cancel];exact hv),A4.out⟩
    |true=>
     rw[hv]at hl
     go_wp2_with (go_at_fn M.g;refine hl.mono ?_;rintro e w' ⟨rfl,q,rfl⟩)
     go_roundg ((s+r)/2-s)
     case measure=>omega
     case rel=>exact⟨s,(s+r)/2,rfl,by congr 1,by omega,by omega,by omega,by omega,hGo.trans (hGo.1.drewN q),A3.out,Or.inr hv⟩
   ·have e:s=r:=by omega
    subst e
    have B:Aside ((s=a∨mid+m-s=b)∨M.lt d[mid+m-s]! d[s-1]! =false):=hlo.imp_left (λh=>by omega)
    have C:Aside ((s=m∨s=mid)∨M.lt d[mid+m-1-s]! d[s]! =true):=hhi.imp_left (λh=>by omega)
    have hAt:=hGo.1
    clear hlo hhi
    have f1:a<=s:=by omega
    have f2:s<=m:=by omega
    have f3:s<=mid:=by omega
    have f4:mid+m-s<=b:=by omega
    have z1:(m:Int)<(((a:Int)+b)/2)+m-s↔s<mid:=by have:=A1.out;omega
    have z2:(s:Int)<(((a:Int)+b)/2)↔s<mid:=by have:=A1.out;omega
    have z3:(((a:Int)+b)/2)<(((a:Int)+b)/2)+m-s↔s<m:=by have:=A1.out;omega
    have z4:(((a:Int)+b)/2)+m-s<b↔mid+m-s<b:=by have:=A1.out;omega
    by_cases p1:s<m
    ·by_cases p2:s<mid
     ·by_cases p3:a<s
      ·by_cases p4:mid+m-s<b
       ·have RT:=A2.out
        go_wp2_with (first|(go_at_fn (ρ.f 42);refine(RT s _ _ (by assumption) (by omega) (by omega) (by omega) (by omega) (by omega)).mono ?_;rintro e w1 ⟨rfl,d1,hG1,hR1⟩;have hA1:=hG1.1;have b0:=hG1.cell (by have:=hGo.2.1;omega) (by omega) c0;have b1:=hG1.cell (by have:=hGo.2.1;omega) (by omega) c1)|(go_at_fn (ρ.f 30);refine(S1 s _ d1 (by assumption) (by omega) (by omega)).mono ?_;rintro e w2 ⟨rfl,d2,hG2,hR2⟩;have hA2:=hG2.1;have e0:=hG2.cell (by have:=hGo.2.1;have:=hG1.2.1;omega) (by omega) b0;have e1:=hG2.cell (by have:=hGo.2.1;have:=hG1.2.1;omega) (by omega) b1)|(go_at_fn (ρ.f 30);refine(S2 s _ d2 (by assumption) (by omega) (by omega) (by omega)).mono ?_;rintro e w3 ⟨rfl,d3,hG3,hR3⟩))
        go_end0
        exact⟨rfl,d3,hA.trans (((hGo.trans hG1).trans hG2).trans hG3),Zb M.ord A0.out (by omega) (by omega) (by omega) (by omega) (by omega) (by omega) (by omega) B.out C.out hR1 hR2 hR3⟩
       ·have RT:=A2.out
        go_wp2_with (first|(go_at_fn (ρ.f 42);refine(RT s _ _ (by assumption) (by omega) (by omega) (by omega) (by omega) (by omega)).mono ?_;rintro e w1 ⟨rfl,d1,hG1,hR1⟩;have hA1:=hG1.1;have b0:=hG1.cell (by have:=hGo.2.1;omega) (by omega) c0;have b1:=hG1.cell (by have:=hGo.2.1;omega) (by omega) c1)|(go_at_fn (ρ.f 30);refine(S1 s _ d1 (by assumption) (by omega) (by omega)).mono ?_;rintro e w2 ⟨rfl,d2,hG2,hR2⟩;have hA2:=hG2.1;have e0:=hG2.cell (by have:=hGo.2.1;have:=hG1.2.1;omega) (by omega) b0;have e1:=hG2.cell (by have:=hGo.2.1;have:=hG1.2.1;omega) (by omega) b1))
        go_end0
        exact⟨rfl,d2,hA.trans ((hGo.trans hG1).trans hG2),Zb M.ord A0.out (by omega) (by omega) (by omega) (by omega) (by omega) (by omega) (by omega) B.out C.out hR1 hR2 (Za _ (by omega))⟩
      ·by_cases p4:mid+m-s<b
       ·have RT:=A2.out
        go_wp2_with (first|(go_at_fn (ρ.f 42);refine(RT s _ _ (by assumption) (by omega) (by omega) (by omega) (by omega) (by omega)).mono ?_;rintro e w1 ⟨rfl,d1,hG1,hR1⟩;have hA1:=hG1.1;have b0:=hG1.cell (by have:=hGo.2.1;omega) (by omega) c0;have b1:=hG1.cell (by have:=hGo.2.1;omega) (by omega) c1)|(go_at_fn (ρ.f 30);refine(S2 s _ d1 (by assumption) (by omega) (by omega) (by omega)).mono ?_;rintro e w3 ⟨rfl,d3,hG3,hR3⟩))
        go_end0
        exact⟨rfl,d3,hA.trans ((hGo.trans hG1).trans hG3),Zb M.ord A0.out (by omega) (by omega) (by omega) (by omega) (by omega) (by omega) (by omega) B.out C.out hR1 (Za _ (by omega)) hR3⟩
       ·have RT:=A2.out
        go_wp2_with (first|(go_at_fn (ρ.f 42);refine(RT s _ _ (by assumption) (by omega) (by omega) (by omega) (by omega) (by omega)).mono ?_;rintro e w1 ⟨rfl,d1,hG1,hR1⟩;have hA1:=hG1.1;have b0:=hG1.cell (by have:=hGo.2.1;omega) (by omega) c0;have b1:=hG1.cell (by have:=hGo.2.1;omega) (by omega) c1))
        go_end0
        exact⟨rfl,d1,hA.trans (hGo.trans hG1),Zb M.ord A0.out (by omega) (by omega) (by omega) (by omega) (by omega) (by omega) (by omega) B.out C.out hR1 (Za _ (by omega)) (Za _ (by omega))⟩
     ·by_cases p3:a<s
      ·by_cases p4:mid+m-s<b
       ·have q1:s=m∨mid+m-s=m:=by omega
        go_wp2_with (first|(go_at_fn (ρ.f 30);refine(S2 s _ d (by assumption) (by omega) (by omega) (by omega)).mono ?_;rintro e w3 ⟨rfl,d3,hG3,hR3⟩))
        go_end0
        exact⟨rfl,d3,hA.trans (hGo.trans hG3),Zb M.ord A0.out (by omega) (by omega) (by omega) (by omega) (by omega) (by omega) (by omega) B.out C.out (Zc d q1) (Za _ (by omega)) hR3⟩
       ·have q1:s=m∨mid+m-s=m:=by omega
        go_wp2
        go_end0
        exact⟨rfl,d,hA.trans hGo,Zb M.ord A0.out (by omega) (by omega) (by omega) (by omega) (by omega) (by omega) (by omega) B.out C.out (Zc d q1) (Za _ (by omega)) (Za _ (by omega))⟩
      ·by_cases p4:mid+m-s<b
       ·have q1:s=m∨mid+m-s=m:=by omega
        go_wp2_with (first|(go_at_fn (ρ.f 30);refine(S2 s _ d (by assumption) (by omega) (by omega) (by omega)).mono ?_;rintro e w3 ⟨rfl,d3,hG3,hR3⟩))
        go_end0
        exact⟨rfl,d3,hA.trans (hGo.trans hG3),Zb M.ord A0.out (by omega) (by omega) (by omega) (by omega) (by omega) (by omega) (by omega) B.out C.out (Zc d q1) (Za _ (by omega)) hR3⟩
       ·have q1:s=m∨mid+m-s=m:=by omega
        go_wp2
        go_end0
        exact⟨rfl,d,hA.trans hGo,Zb M.ord A0.out (by omega) (by omega) (by omega) (by omega) (by omega) (by omega) (by omega) B.out C.out (Zc d q1) (Za _ (by omega)) (Za _ (by omega))⟩
    ·by_cases p2:s<mid
     ·by_cases p3:a<s
      ·by_cases p4:mid+m-s<b
       ·have q1:s=m∨mid+m-s=m:=by omega
        go_wp2_with (first|(go_at_fn (ρ.f 30);refine(S1 s _ d (by assumption) (by omega) (by omega)).mono ?_;rintro e w2 ⟨rfl,d2,hG2,hR2⟩;have hA2:=hG2.1;have e0:=hG2.cell (by have:=hGo.2.1;  omega) (by omega) c0;have e1:=hG2.cell (by have:=hGo.2.1;  omega) (by omega) c1))
        go_end0
        exact⟨rfl,d2,hA.trans (hGo.trans hG2),Zb M.ord A0.out (by omega) (by omega) (by omega) (by omega) (by omega) (by omega) (by omega) B.out C.out (Zc d q1) hR2 (Za _ (by omega))⟩
       ·have q1:s=m∨mid+m-s=m:=by omega
        go_wp2_with (first|(go_at_fn (ρ.f 30);refine(S1 s _ d (by assumption) (by omega) (by omega)).mono ?_;rintro e w2 ⟨rfl,d2,hG2,hR2⟩;have hA2:=hG2.1;have e0:=hG2.cell (by have:=hGo.2.1;  omega) (by omega) c0;have e1:=hG2.cell (by have:=hGo.2.1;  omega) (by omega) c1))
        go_end0
        exact⟨rfl,d2,hA.trans (hGo.trans hG2),Zb M.ord A0.out (by omega) (by omega) (by omega) (by omega) (by omega) (by omega) (by omega) B.out C.out (Zc d q1) hR2 (Za _ (by omega))⟩
      ·by_cases p4:mid+m-s<b
       ·have q1:s=m∨mid+m-s=m:=by omega
        go_wp2
        go_end0
        exact⟨rfl,d,hA.trans hGo,Zb M.ord A0.out (by omega) (by omega) (by omega) (by omega) (by omega) (by omega) (by omega) B.out C.out (Zc d q1) (Za _ (by omega)) (Za _ (by omega))⟩
       ·have q1:s=m∨mid+m-s=m:=by omega
        go_wp2
        go_end0
        exact⟨rfl,d,hA.trans hGo,Zb M.ord A0.out (by omega) (by omega) (by omega) (by omega) (by omega) (by omega) (by omega) B.out C.out (Zc d q1) (Za _ (by omega)) (Za _ (by omega))⟩
     ·by_cases p3:a<s
      ·by_cases p4:mid+m-s<b
       ·have q1:s=m∨mid+m-s=m:=by omega
        go_wp2
        go_end0
        exact⟨rfl,d,hA.trans hGo,Zb M.ord A0.out (by omega) (by omega) (by omega) (by omega) (by omega) (by omega) (by omega) B.out C.out (Zc d q1) (Za _ (by omega)) (Za _ (by omega))⟩
       ·have q1:s=m∨mid+m-s=m:=by omega
        go_wp2
        go_end0
        exact⟨rfl,d,hA.trans hGo,Zb M.ord A0.out (by omega) (by omega) (by omega) (by omega) (by omega) (by omega) (by omega) B.out C.out (Zc d q1) (Za _ (by omega)) (Za _ (by omega))⟩
      ·by_cases p4:mid+m-s<b
       ·have q1:s=m∨mid+m-s=m:=by omega
        go_wp2
        go_end0
        exact⟨rfl,d,hA.trans hGo,Zb M.ord A0.out (by omega) (by omega) (by omega) (by omega) (by omega) (by omega) (by omega) B.out C.out (Zc d q1) (Za _ (by omega)) (Za _ (by omega))⟩
       ·have q1:s=m∨mid+m-s=m:=by omega
        go_wp2
        go_end0
        exact⟨rfl,d,hA.trans hGo,Zb M.ord A0.out (by omega) (by omega) (by omega) (by omega) (by omega) (by omega) (by omega) B.out C.out (Zc d q1) (Za _ (by omega)) (Za _ (by omega))⟩
end Go.Proofs
