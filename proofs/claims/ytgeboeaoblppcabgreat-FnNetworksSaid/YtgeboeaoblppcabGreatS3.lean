/- The library's stable sort; a function that sorts rows; no conditions. -/
import Derived.Test.YtgeboeaoblppcabGreatS2
import Derived.Test.YtgeboeaoblppcabGreatV4
import Derived.Below
set_option linter.unusedVariables false
set_option linter.unusedSimpArgs false
set_option linter.all false
namespace Go.Proofs
open Go.Shelf Go.RowKit Go.Lib Go.Sort
variable {P:Program} {ρ:Ren} {α:Type} [Inhabited α]
theorem Fam.symMerge (M:Fam P ρ α) (L:LaysGt.n30 P ρ): ∀(N a m b:Nat) (d:Array α) (W:World),b-a<=N->M.At d W->a<m->m<b->b<=M.size->
  Calls P (ρ.f 30) #[M.data,.int .i64 a,.int .i64 m,.int .i64 b] W λe w'=>e= .returned (.tuple #[])/\ ∃d',M.Go d' W w'/\PermIn a b d d'/\(SortedIn M.lt a m d->SortedIn M.lt m b d->SortedIn M.lt a b d')
 |0,a,m,b,_,_,hN,_,h1,h2,_=>by omega
 |N+1,a,m,b,d,W,hN,h,h1,h2,hb=>by
  by_cases e1:m=a+1
  ·exact(M.symOne L a m b d W h (by omega) (by omega) (by omega) hb).mono λ_ _ ⟨q1,d',q2,q3,q4⟩=>⟨q1,d',q2,q3,λ_ hB=>q4 (by rw[←e1];exact hB)⟩
  ·by_cases e2:b=m+1
   ·exact(M.symTwo L a m b d W h (by omega) (by omega) (by omega) (by omega)).mono λ_ _ ⟨q1,d',q2,q3,q4⟩=>⟨q1,d',q2,by rw[e2];exact q3,λhA _=>by rw[e2];exact q4 hA⟩
   ·exact M.symStep L a m b (λa' m' b' d W hl h h1 h2 hb=>M.symMerge L N a' m' b' d W (by omega) h h1 h2 hb) d W h (by omega) (by omega) hb
def ZV (lt:α->α->Bool) (k n:Nat) (d:Array α):Prop:= ∀q,SortedIn lt (q*k) (min (q*k+k) n) d
theorem Fam.ins (M:Fam P ρ α) (L:LaysGt.n29 P ρ) (a b:Nat) (d:Array α) (W:World) (h:M.At d W) (hab:a<=b) (hb:b<=M.size):
  Calls P (ρ.f 29) #[M.data,.int .i64 a,.int .i64 b] W λe w'=>e= .returned (.tuple #[])/\ ∃d',M.Go d' W w'/\PermIn a b d d'/\SortedIn M.lt a b d':=by
 have hs:=h.1
 have hSW:=h.2
 have hc:=Any.insertionSort_func_w (P:=P) (ρ:=ρ.viaGt) L.elder M.enc M.lt M.g M.lb M.sf M.sb M.blk M.off a b d W M.eg (by rw[hs];exact hSW.lessReads M.hless M.hblk hs) (by rw[hs];exact M.hswap) (hSW.holds M.hblk M.h0 (by rw[hs,M.s0])) h.lt hab (by omega) (by have:=M.hsz;omega)
 refine hc.mono ?_
 rintro e w' ⟨rfl,n,os,rfl⟩
 have hi:=insertionSort_holds M.ord d a b hab (by omega)
 refine⟨rfl,_,⟨⟨by rw[hi.1.1];exact hs,hSW.on M.hblk n _ os (by rw[hi.1.1])⟩,?_,λx h1 h2=>?_⟩,hi⟩
 ·unfold sortWorld;rw[size_grow,size_putRow];show W.heap.size<=W.heap.size+_;omega
 ·unfold sortWorld
  rw[cell?_grow _ _ _ (by rw[size_putRow];exact h1),cell?_putRow_other _ _ _ _ _ _ (Or.inl h2)]
  rfl
end Go.Proofs
set_option linter.all false
namespace Go.Proofs
open Go.Shelf Go.RowKit Go.Lib Go.Sort
variable {P:Program} {ρ:Ren} {α:Type} [Inhabited α] {lt:α->α->Bool}
def ZD (lt:α->α->Bool) (k q:Nat) (d:Array α):Prop:= ∀i,i<q->SortedIn lt (i*k) (i*k+k) d
def Zu (lt:α->α->Bool) (k q n:Nat) (d:Array α):Prop:= ∀i,q<=i->SortedIn lt (i*k) (min (i*k+k) n) d
theorem Zs {k q a b:Nat} {d d':Array α} (ha:a=q*k) (hb:b=a+k) (h:ZD lt k q d) (hP:PermIn a b d d') (hs:SortedIn lt a b d'):ZD lt k (q+1) d':=by
 intro i hi
 by_cases e:i=q
 ·subst e;rw[←ha,←hb];exact hs
 ·have h1:i*k+k<=q*k:=by rw[←Nat.succ_mul];exact Nat.mul_le_mul_right _ (by omega)
  exact(h i (by omega)).congr λx _ h3=>hP.2.1 x (Or.inl (by omega))
theorem Zo {k q a n:Nat} {d d':Array α} (ha:a=q*k) (hb:n<a+k) (h:ZD lt k q d) (hP:PermIn a n d d') (hs:SortedIn lt a n d'):Zu lt k 0 n d':=by
 intro i _
 rcases Nat.lt_trichotomy i q with h1|h1|h1
 ·have h2:i*k+k<=q*k:=by rw[←Nat.succ_mul];exact Nat.mul_le_mul_right _ (by omega)
  have h3:SortedIn lt (i*k) (i*k+k) d':=(h i h1).congr λx _ h3=>hP.2.1 x (Or.inl (by omega))
  exact λx y hx hxy hy=>h3 x y hx hxy (by omega)
 ·subst h1;rw[←ha];exact λx y hx hxy hy=>hs x y hx hxy (by omega)
 ·have h2:q*k+k<=i*k:=by rw[←Nat.succ_mul];exact Nat.mul_le_mul_right _ (by omega)
  exact λx y hx hxy hy=>by omega
theorem Zz {k q a b n:Nat} {d d':Array α} (ha:a=q*(2*k)) (hb:b=a+2*k) (h:Zu lt k (2*q) n d) (hP:PermIn a b d d'):Zu lt k (2*(q+1)) n d':=by
 intro i hi
 have h1:(2*(q+1))*k<=i*k:=Nat.mul_le_mul_right _ hi
 have h2:(2*(q+1))*k=q*(2*k)+2*k:=by rw[Nat.mul_add,Nat.add_mul,Nat.mul_comm 2 q,Nat.mul_assoc]
 exact(h i (by omega)).congr λx h3 _=>hP.2.1 x (Or.inr (by omega))
theorem ZI {k q a n:Nat} {d:Array α} (ha:a=q*(2*k)) (h:Zu lt k (2*q) n d):SortedIn lt a (min (a+k) n) d/\SortedIn lt (a+k) (min (a+2*k) n) d:=by
 have e1:(2*q)*k=a:=by rw[ha,Nat.mul_comm 2 q,Nat.mul_assoc]
 have e2:(2*q+1)*k=a+k:=by rw[Nat.add_mul,e1,Nat.one_mul]
 refine⟨by have:=h (2*q) (Nat.le_refl _);rw[e1]at this;exact this,?_⟩
 have:=h (2*q+1) (by omega);rw[e2]at this
 rw[show a+2*k=a+k+k by omega];exact this
set_option maxHeartbeats 16000000 in
set_option maxRecDepth 1000000 in
theorem Fam.stable (M:Fam P ρ α) (L:LaysGt.n15 P ρ) (n:Nat) (hn:M.size=n) (d:Array α) (W:World) (h:M.At d W):
  Calls P (ρ.f 15) #[M.data,.int .i64 n] W λe w'=>e= .returned (.tuple #[])/\ ∃d',M.Go d' W w'/\PermIn 0 n d d'/\SortedIn M.lt 0 n d':=by
 have mixed:=L.mixed;have t0:=L.t0;have a0:=L.a0;have z0:=L.z0;have v0:=L.v0;have t3:=L.t3;have a3:=L.a3;have z3:=L.z3;have v3:=L.v3;have t4:=L.t4;have a4:=L.a4;have z4:=L.z4;have v4:=L.v4;have t26:=L.t26;have a26:=L.a26;have z26:=L.z26;have v26:=L.v26;have t38:=L.t38;have a38:=L.a38;have z38:=L.z38;have v38:=L.v38;have t42:=L.t42;have a42:=L.a42;have z42:=L.z42;have v42:=L.v42;have t47:=L.t47;have a47:=L.a47;have z47:=L.z47;have v47:=L.v47
 have u42:=run_underlying L.t42
 have hsz:n<4611686018427387904:=hn▸M.hsz
 have hnl:M.size<=n:=by omega
 have hng:n<=M.size:=by omega
 clear hn
 have hlt0:=h.lt
 have L29:LaysGt.n29 P ρ:= { L with }
 have L30:LaysGt.n30 P ρ:= { L with }
 have e29: ∀args w,(callFunc (ρ.f 29) args).run P w= .ok (.enter (ρ.f 29) args) w:=enters_of L.f29 (by kernel_rfl) rfl
 have e30: ∀args w,(callFunc (ρ.f 30) args).run P w= .ok (.enter (ρ.f 30) args) w:=enters_of L.f30 (by kernel_rfl) rfl
 have IS: ∀(W1:World) (d1:Array α) (a b:Nat),M.At d1 W1->a<=b->b<=M.size->Calls P (ρ.f 29) #[.agg #[.func (.func M.g) #[] M.lb,.func (.func M.sf) #[] M.sb],.int .i64 a,.int .i64 b] W1 λe w'=>e= .returned (.tuple #[])/\ ∃d',M.Go d' W1 w'/\PermIn a b d1 d'/\SortedIn M.lt a b d':=
  λW1 d1 a b h1 h2 h3=>M.ins L29 a b d1 W1 h1 h2 h3
 have SM: ∀(W1:World) (d1:Array α) (a m b:Nat),M.At d1 W1->a<m->m<b->b<=M.size->Calls P (ρ.f 30) #[.agg #[.func (.func M.g) #[] M.lb,.func (.func M.sf) #[] M.sb],.int .i64 a,.int .i64 m,.int .i64 b] W1 λe w'=>e= .returned (.tuple #[])/\ ∃d',M.Go d' W1 w'/\PermIn a b d1 d'/\(SortedIn M.lt a m d1->SortedIn M.lt m b d1->SortedIn M.lt a b d'):=
  λW1 d1 a m b h1 h2 h3 h4=>M.symMerge L30 (b-a) a m b d1 W1 (Nat.le_refl _) h1 h2 h3 h4
 unfold Fam.data
 have hA:=h.alloc (.cells #[.func (.func M.g) #[] M.lb,.func (.func M.sf) #[] M.sb] (ρ.t 42))
 have k0:(W.alloc (.cells #[.func (.func M.g) #[] M.lb,.func (.func M.sf) #[] M.sb] (ρ.t 42))).cell? ⟨W.heap.size,0,none⟩=some (.func (.func M.g) #[] M.lb):=by simp
 have k1:(W.alloc (.cells #[.func (.func M.g) #[] M.lb,.func (.func M.sf) #[] M.sb] (ρ.t 42))).cell? ⟨W.heap.size,1,none⟩=some (.func (.func M.sf) #[] M.sb):=by simp
 have kz:(W.alloc (.cells #[.func (.func M.g) #[] M.lb,.func (.func M.sf) #[] M.sb] (ρ.t 42))).heap.size=W.heap.size+1:=by simp
 have hds:d.size=M.size:=h.1
 go_enter L.f15,BodyGt.n15_ntmps ρ
 go_wp2
 go_loopg [5,6] (n+1) (λk s5 s6 wr=> ∃(a b q:Nat) (dk:Array α),s5= .int .i64 a/\s6= .int .i64 b/\n+21-b<=k/\a+20<=b/\b<=a+20/\a<=n/\M.Go dk (W.alloc (.cells #[.func (.func M.g) #[] M.lb,.func (.func M.sf) #[] M.sb] (ρ.t 42))) wr/\PermIn 0 n d dk/\Hid (a=q*20/\ZD M.lt 20 q dk))
 case atStart=>exact⟨0,20,0,d,rfl,rfl,by omega,by omega,by omega,by omega,hA.1.go,permIn_refl _ _ _,⟨by omega,λi hi=>by omega⟩⟩
 case round=>
  obtain⟨a,b,q,dk,rfl,rfl,hk,hab,hba,han,hGo,hP,hD⟩:=hrel
  have c0:=hGo.cell (by omega) (by omega) k0
  have c1:=hGo.cell (by omega) (by omega) k1
  by_cases hlt:b<=n
  ·have hc:=IS wr dk a b hGo.1 (by omega) (by omega)
   clear IS SM
   go_wp2_with (go_at_fn (ρ.f 29);refine hc.mono ?_;rintro e w' ⟨rfl,d',hG',hP',hs'⟩)
   go_roundg (n+21-(b+20))
   case measure=>omega
   case rel=>exact⟨b,b+20,q+1,d',rfl,by simp,by omega,by omega,by omega,by omega,hGo.trans hG',permIn_trans _ _ _ _ _ hP (permIn_mono _ _ a b 0 n (by omega) hlt (by have:=hGo.1.1;omega) hP'),⟨by have:=hD.1;omega,Zs hD.1 (by omega) hD.2 hP' hs'⟩⟩
  ·have hc:=IS wr dk a n hGo.1 (by omega) (by omega)
   have A1:Aside (∀(W1:World) (d1:Array α) (a m b:Nat),_):=SM
   clear IS SM
   go_wp2_with (go_at_fn (ρ.f 29);refine hc.mono ?_;rintro e w0 ⟨rfl,dl,hGl,hPl,hsl⟩)
   have hL0:Hid (Zu M.lt 20 0 n dl):=Zo hD.1 (by omega) hD.2 hPl hsl
   have hP0:PermIn 0 n d dl:=permIn_trans _ _ _ _ _ hP (permIn_mono _ _ a n 0 n (by omega) (by omega) (by have:=hGo.1.1;omega) hPl)
   have hGo0:=hGo.trans hGl
   clear hGl hPl hsl hD hP hGo hk hab hba han hlt c0 c1
   go_loopg [4] (n+1) (λk s4 wr=> ∃(z:Nat) (dk:Array α),s4= .int .i64 z/\n+1-z<=k/\0<z/\z<=2*n+20/\M.Go dk (W.alloc (.cells #[.func (.func M.g) #[] M.lb,.func (.func M.sf) #[] M.sb] (ρ.t 42))) wr/\PermIn 0 n d dk/\Hid (Zu M.lt z 0 n dk))
   case atStart=>exact⟨20,dl,rfl,by omega,by omega,by omega,hGo0,hP0,hL0⟩
   case round=>
    obtain⟨z,dk,rfl,hk,hz0,hz,hGo,hP,hL⟩:=hrel
    have c0:=hGo.cell (by omega) (by omega) k0
    have c1:=hGo.cell (by omega) (by omega) k1
    by_cases hzn:z<n
    ·have hL2:Aside (Hid (Zu M.lt z 0 n dk)):=hL
     clear hL
     go_wp2
     go_loopg [5,6] (n+1) (λk s5 s6 w2=> ∃(a b q:Nat) (di:Array α),s5= .int .i64 a/\s6= .int .i64 b/\n+2*z+1-b<=k/\a+2*z<=b/\b<=a+2*z/\a<=n/\M.Go di wr w2/\PermIn 0 n d di/\Hid (a=q*(2*z)/\ZD M.lt (2*z) q di/\Zu M.lt z (2*q) n di))
     case atStart=>exact⟨0,2*z,0,dk,rfl,by congr 1<;>omega,by omega,by omega,by omega,by omega,hGo.1.go,hP,⟨by omega,λi hi=>by omega,hL2.out⟩⟩
     case round=>
      obtain⟨a,b,q,di,rfl,rfl,hk2,hab,hba,han,hG2,hPi,hD⟩:=hrel
      have b0:=hG2.cell (by have:=hGo.2.1;omega) (by omega) c0
      have b1:=hG2.cell (by have:=hGo.2.1;omega) (by omega) c1
      have hT:Hid (SortedIn M.lt a (min (a+z) n) di/\SortedIn M.lt (a+z) (min (a+2*z) n) di):=ZI hD.1 hD.2.2
      by_cases hbn:b<=n
      ·have hc:=A1.out _ di a (a+z) b hG2.1 (by omega) (by omega) (by omega)
       rw[show((a+z:Nat):Int)=(a:Int)+z by omega]at hc
       go_wp2_with (go_at_fn (ρ.f 30);refine hc.mono ?_;rintro e w' ⟨rfl,d',hG',hP',hs'⟩)
       have hsrt:Hid (SortedIn M.lt a b d'):=hs' (by have:=hT.1;rw[show min (a+z) n=a+z by omega]at this;exact this) (by have:=hT.2;rw[show min (a+2*z) n=b by omega]at this;exact this)
       go_roundg (n+2*z+1-(b+2*z))
       case measure=>omega
       case rel=>exact⟨b,b+2*z,q+1,d',rfl,by congr 1<;>omega,by omega,by omega,by omega,by omega,hG2.trans hG',permIn_trans _ _ _ _ _ hPi (permIn_mono _ _ a b 0 n (by omega) hbn (by have:=hG2.1.1;omega) hP'),⟨by have h1:=hD.1;rw[Nat.add_mul,Nat.one_mul,←h1];omega,Zs hD.1 (by omega) hD.2.1 hP' hsrt,Zz hD.1 (by omega) hD.2.2 hP'⟩⟩
      ·by_cases hmn:a+z<n
       ·have hc:=A1.out _ di a (a+z) n hG2.1 (by omega) (by omega) (by omega)
        rw[show((a+z:Nat):Int)=(a:Int)+z by omega]at hc
        go_wp2_with (go_at_fn (ρ.f 30);refine hc.mono ?_;rintro e w' ⟨rfl,d',hG',hP',hs'⟩)
        have hsrt:Hid (SortedIn M.lt a n d'):=hs' (by have:=hT.1;rw[show min (a+z) n=a+z by omega]at this;exact this) (by have:=hT.2;rw[show min (a+2*z) n=n by omega]at this;exact this)
        go_roundg (n+1-(z*2))
        case measure=>omega
        case rel=>exact⟨z*2,d',by congr 1,by omega,by omega,by omega,hGo.trans (hG2.trans hG'),permIn_trans _ _ _ _ _ hPi (permIn_mono _ _ a n 0 n (by omega) (by omega) (by have:=hG2.1.1;omega) hP'),by rw[Nat.mul_comm z 2];exact Zo hD.1 (by omega) hD.2.1 hP' hsrt⟩
       ·go_wp2
        have hsrt:Hid (SortedIn M.lt a n di):=by have:=hT.1;rw[show min (a+z) n=n by omega]at this;exact this
        go_roundg (n+1-(z*2))
        case measure=>omega
        case rel=>exact⟨z*2,di,by congr 1,by omega,by omega,by omega,hGo.trans hG2,hPi,by rw[Nat.mul_comm z 2];exact Zo hD.1 (by omega) hD.2.1 (permIn_refl _ _ _) hsrt⟩
    ·go_wp2
     go_end0
     refine⟨rfl,dk,hA.trans hGo,hP,?_⟩
     have:=hL 0 (Nat.le_refl _)
     rw[Nat.zero_mul,Nat.zero_add,show min z n=n by omega]at this
     exact this
end Go.Proofs
set_option linter.all false
namespace Go.Proofs
open Go.Shelf Go.RowKit Go.Lib Go.Sort
variable {P:Program} {ρ:Ren} {α:Type} [Inhabited α]
theorem ZC (L:LaysGt.n8 P ρ) (t e:TypeId) (i ie:TypeInfo) (hi:P.info? t=some i) (hd:i.desc= .slice e) (hpk:P.packed t=false) (hie:P.info? e=some ie) (ke:Nat) (hke: ∀w,(Extern.Rtype.kind e).run P w= .ok ke w)
  (hs1:ie.size=1) (hagg: ∀w,(isAgg e).run P w= .ok false w) (enc:α->Value) (h1: ∀x,(enc x).oneCell'=true) (lt:α->α->Bool) (hO:SWO lt) (g:Nat) (lb:Array Value)
  (eg: ∀args w,(callFunc g args).run P w= .ok (.enter g args) w) (blk off c:Nat) (d:Array α) (h2:2<=d.size) (hsz:d.size<4611686018427387904)
  (f:Nat)
  (gS:Bool) (hx: ∀args W,(callFunc f args).run P W=((Extern.ReflectliteSwapper.swap gS args).run P W).andThen λv w'=> .ok (.value v) w')
  (hst: ∀(w:World) (R:World->Prop),Calls P (ρ.f 15) #[.agg #[.func (.func g) #[] lb,.func (.func f) #[] (sliceBound P e ie ke (some ⟨blk,off,none⟩) d.size c)],.int .i64 d.size] (stableWorld P ρ t (some ⟨blk,off,none⟩) d.size c w)
   (λe w'=>e= .returned (.tuple #[])/\R w')->Calls P (ρ.f 8) #[.iface t (.slice (some ⟨blk,off,none⟩) d.size c),.func (.func g) #[] lb] w λe w'=>e= .returned (.tuple #[])/\R w')
  (w:World) (hless:LessReads P g lb enc lt blk off d.size w) (hH:Holds enc w blk off d) (hblk:blk<w.heap.size):
  Calls P (ρ.f 8) #[.iface t (.slice (some ⟨blk,off,none⟩) d.size c),.func (.func g) #[] lb] w λe w'=>
   e= .returned (.tuple #[])/\ ∃d' n os,PermIn 0 d.size d d'/\SortedIn lt 0 d.size d'/\w'=sortWorld enc w blk off n d' os:=by
 refine hst w _ ?_
 have hB:sliceBound P e ie ke (some ⟨blk,off,none⟩) d.size c= #[.slice (some ⟨blk,off,none⟩) d.size c,typeHandle P e]:=by
  unfold sliceBound;rw[if_neg (swapperK_gt _ _ _ h2)]
 rw[hB]
 let M:Fam P ρ α:=⟨enc,lt,g,lb,f,#[.slice (some ⟨blk,off,none⟩) d.size c,typeHandle P e],blk,off,d.size,w,d,hH,rfl,hblk,hsz,eg,hless,
  swapSwaps_of_literal gS f hx e ie hie hs1 hagg enc h1 blk off d.size c,hO⟩
 have hA:M.At d (stableWorld P ρ t (some ⟨blk,off,none⟩) d.size c w):=⟨rfl,((SW.start hH).alloc _).alloc _⟩
 refine(M.stable { L with } d.size rfl d _ hA).mono ?_
 rintro e w' ⟨rfl,d',hG,hP,hs⟩
 obtain⟨n,os,hw⟩:=hG.1.2
 exact⟨rfl,d',n,os,hP,hs,hw⟩
abbrev RowE:=(Option Addr×Nat×Nat)×List Int
def RowE.enc (x:RowE):Value:= .slice x.1.1 x.1.2.1 x.1.2.2
theorem RowE.one (x:RowE):(RowE.enc x).oneCell'=true:=rfl
def cmpI:List Int->List Int->Int
 | [],[]=>0
 | [],_::_=> -1
 |_::_,[]=>1
 |x::s,y::t=>if x<y then-1 else if y<x then 1 else cmpI s t
def cmpT (s t:List Int):Int:=if s.length<t.length then-1 else if t.length<s.length then 1 else cmpI s t
end Go.Proofs
set_option linter.all false
namespace Go.Va
open Go.Proofs (RowE)
open Go.Sort (PermIn SortedIn SWO putRow grow ahead onCells mapBlock putCells)
def Zn (cmp:List Int->List Int->Int) (rows:List (List Int)):List (List Int):=rows.mergeSort (λx y=>!decide (cmp y x<0))
structure RowT (w:World) (F:Fp) (dd len:Nat) (fps:Nat->Fp) where
 x:RowE
 i:Nat
 hi:i<len
 ok:Rep w F (.slice .int) dd [RowE.enc x] x.2 (fps i)
 small:List.length x.2<=lim
variable {w:World} {F:Fp} {dd len:Nat} {fps:Nat->Fp}
def RowT.row (x:RowT w F dd len fps):List Int:=x.x.2
def RowT.enc (x:RowT w F dd len fps):Value:=RowE.enc x.x
def RowT.lt (cmp:List Int->List Int->Int) (x y:RowT w F dd len fps):Bool:=decide (cmp x.row y.row<0)
structure Cmp (cmp:List Int->List Int->Int):Prop where
 refl: ∀s,cmp s s=0
 symm: ∀s t,cmp t s= -cmp s t
 eq: ∀s t,cmp s t=0->s=t
 trans: ∀s t u,cmp s t<0->cmp t u<0->cmp s u<0
theorem Cmp.swo {cmp} (h:Cmp cmp) {α:Type} (g:α->List Int):SWO (λx y:α=>decide (cmp (g x) (g y)<0)) where
 irrefl x:=by simp[h.refl]
 trans x y z h1 h2:=by simp only[decide_eq_true_eq]at*;exact h.trans _ _ _ h1 h2
 ntrans x y z h1 h2:=by
  simp only[decide_eq_false_iff_not]at*
  intro h3
  have q:=h.symm (g x) (g y);have q2:=h.symm (g y) (g z)
  by_cases e1:cmp (g x) (g y)=0
  ·rw[h.eq _ _ e1]at h3;exact h2 h3
  ·have h4:cmp (g y) (g x)<0:=by omega
   exact h2 (h.trans _ _ _ h4 h3)
theorem ZA {e:Ty}: ∀ {d:Nat} {c:Value} {x:(Ty.slice e).den} {fp:Fp},Rep w F (.slice e) d [c] x fp-> ∃a l k,c= .slice a l k
 |0,c,x,fp,h=>by
  rcases h.2 with ⟨⟨a,e⟩,_⟩|⟨b,off,len,cap,e,_⟩
  ·exact⟨a,0,0,by simpa using e⟩
  ·exact⟨_,len,cap,by simpa using e⟩
 |d+1,c,x,fp,h=>by
  rcases h with ⟨e,_⟩|⟨b,len,cap,_,_,e,_⟩
  ·exact⟨none,0,0,by simpa using e⟩
  ·exact⟨_,len,cap,by simpa using e⟩
theorem Zt: ∀(xs:List (List Int)) (cs:List Value) (k:Nat),k+xs.length<=len->(∀x∈xs,List.length x<=lim)->xs.length<=cs.length->(∀(i:Nat) (x:List Int),xs[i]? =some x->Rep w F (.slice .int) dd ((cs.drop i).take 1) x (fps (k+i)))->
  ∃dl:List (RowT w F dd len fps),dl.map RowT.row=xs/\dl.map RowT.enc=cs.take xs.length/\dl.map RowT.i=List.range' k xs.length
 | [],cs,_,_,_,_,_=>⟨[],rfl,by simp,rfl⟩
 |x::xs,[],_,_,_,h,_=>absurd h (by simp)
 |x::xs,c::cs,k,hk,hm,h,hr=>by
  obtain⟨dl,h1,h2,h3⟩:=Zt xs cs (k+1) (by simp at hk;omega) (λx hx=>hm x (List.mem_cons_of_mem _ hx)) (by simpa using h) (λi y hy=>by have:=hr (i+1) y (by simpa using hy);rw[show k+1+i=k+(i+1) by omega];simpa using this)
  have h0:=hr 0 x rfl
  have h0':Rep w F (.slice .int) dd [c] x (fps k):=by simpa using h0
  obtain⟨a,l,q,hc⟩:=ZA h0'
  subst hc
  have hkl:k<len:=by simp at hk;omega
  let r:RowT w F dd len fps:=⟨((a,l,q),x),k,hkl,h0',hm x (List.mem_cons_self ..)⟩
  exact⟨r::dl,by rw[List.map_cons,h1];rfl,by rw[List.map_cons,h2];rfl,by rw[List.map_cons,h3];rfl⟩
noncomputable def ZE (k dd:Nat) (cmp:List Int->List Int->Int):Entry where
 params:= [.io (.slice .int) dd,.v (.fn k)]
 results:= []
 B:=List (List Int)
 run:=λa=>if List.length a.1<=lim/\List.all a.1 (λx=>decide (List.length x<=lim))=true then some (Zn cmp a.1)else none
 out:=λb=>(b,())
 res:=λb=>()
theorem Zw {cmp} (hc:Cmp cmp) [Inhabited (RowT w F dd len fps)] {d d':Array (RowT w F dd len fps)} (hP:PermIn 0 d.size d d') (hs:SortedIn (RowT.lt cmp) 0 d.size d'):
  d'.toList.map RowT.row=Zn cmp (d.toList.map RowT.row):=by
 have hsz:=hP.1
 have hp:=hP.2.2
 have e1:d'.extract 0 d.size=d':=by rw[←hsz];exact Array.extract_size
 have e2:d.extract 0 d.size=d:=Array.extract_size
 rw[e1,e2]at hp
 let D:=(d.toList.map RowT.row).toArray
 let D':=(d'.toList.map RowT.row).toArray
 have zD:D.size=d.size:=by simp[D]
 have zD':D'.size=d.size:=by simp[D',hsz]
 have h:=Go.Sort.sorted_unique_holds (lt:=λx y:List Int=>decide (cmp x y<0)) (hc.swo id) (λx y h1 h2=>by
   simp only[decide_eq_false_iff_not]at h1 h2
   have:=hc.symm x y
   exact hc.eq _ _ (by omega)) D D' ⟨by rw[zD,zD'],λi hi=>by
    have h1:D.size<=i:=by omega
    rw[getElem!_neg _ _ (by omega),getElem!_neg _ _ (by omega)],by
    rw[show D'.extract 0 D.size=D' by rw[zD,←zD'];exact Array.extract_size,show D.extract 0 D.size=D from Array.extract_size]
    exact hp.map _⟩ (λi j h1 h2 h3=>by
    rw[zD]at h3
    have hj:j<d'.size:=by omega
    have hi:i<d'.size:=by omega
    have:=hs i j h1 h2 h3
    rw[getElem!_pos D' j (by omega),getElem!_pos D' i (by omega)]
    rw[getElem!_pos d' j hj,getElem!_pos d' i hi]at this
    simpa[D',RowT.lt]using this)
 simpa[D,D',Zn]using h
end Go.Va
set_option linter.all false
namespace Go.Va
open Go.Proofs (RowE sortWorld)
open Go.Sort (PermIn SortedIn SWO putRow grow ahead onCells mapBlock putCells)
theorem Zr {α:Type} [Inhabited α] (enc:α->Value) (w:World) (b m:Nat) (d:Array α) (os:Array Obj) (hb:b<w.heap.size) {n:Nat} (hn:n<w.heap.size) (h:n≠b):(sortWorld enc w b 0 m d os).heap[n]? =w.heap[n]? :=by
 unfold sortWorld
 rw[Go.Sort.heap_grow_old _ _ (by rw[Go.Sort.size_putRow];exact hn)]
 show(w.heap.modify b _)[n]? =_
 rw[Array.getElem?_modify,if_neg (λe=>h e.symm)]
theorem Zi {α:Type} [Inhabited α] (enc:α->Value) (w:World) (b m:Nat) (d:Array α) (os:Array Obj):w.heap.size<=(sortWorld enc w b 0 m d os).heap.size:=by
 unfold sortWorld;rw[Go.Sort.size_grow,Go.Sort.size_putRow];show w.heap.size<=w.heap.size+_;omega
theorem Zp {α:Type} [Inhabited α] (enc:α->Value) (w:World) (b m:Nat) (d:Array α) (os:Array Obj):(sortWorld enc w b 0 m d os).os=w.os/\((sortWorld enc w b 0 m d os).tape,(sortWorld enc w b 0 m d os).output)=(w.tape,w.output):=⟨rfl,rfl⟩
theorem Zq {α:Type} [Inhabited α] (enc:α->Value) (w:World) (b m:Nat) (d:Array α) (os:Array Obj) {c:List Value} (h:Blk w b c) (hd:d.size<=c.length):Blk (sortWorld enc w b 0 m d os) b (d.toList.map enc++c.drop d.size):=by
 obtain⟨tid,hb⟩:=h
 have hlt:b<w.heap.size:=Blk.lt ⟨tid,hb⟩
 refine⟨tid,?_⟩
 unfold sortWorld
 rw[Go.Sort.heap_grow_old _ _ (by rw[Go.Sort.size_putRow];exact hlt)]
 show(w.heap.modify b _)[b]? =_
 rw[Array.getElem?_modify,if_pos rfl,hb]
 simp only[Option.map_some,onCells]
 congr 2
 apply Array.ext_getElem?
 intro i
 unfold putCells
 rw[Array.getElem?_mapIdx]
 simp only[List.getElem?_toArray]
 by_cases hi:i<d.size
 ·rw[List.getElem?_append_left (by simpa using hi)]
  rw[List.getElem?_eq_getElem (by omega),Option.map_some,if_pos (by omega)]
  rw[List.getElem?_eq_getElem (by simpa using hi)]
  congr 1
  rw[Nat.sub_zero,getElem!_pos d i hi]
  simp
 ·rw[List.getElem?_append_right (by simpa using hi),List.getElem?_drop]
  have e:d.size+(i-(d.toList.map enc).length)=i:=by simp;omega
  rw[e]
  cases hc:c[i]? with
  |none=>rfl
  |some v=>rw[Option.map_some,if_neg (by omega)]
theorem ZU {P:Program} {f k:Nat} (dd:Nat) {cmp:List Int->List Int->Int} (hc:Cmp cmp)
  (tiny: ∀(w:World) (a:Option Addr) (n c:Nat),n<=1->Calls P f #[.slice a n c,.func (.func k) #[] #[]] w λe w'=>e= .returned (.tuple #[])/\ ∃os,w'=grow w os)
  (core: ∀(w:World) (F:Fp) (len:Nat) (fps:Nat->Fp) [Inhabited (RowT w F dd len fps)] (b cap:Nat) (d:Array (RowT w F dd len fps)),(∀i,i<len-> ¬fps i b)->(∀i n,i<len->fps i n->n<w.heap.size)->2<=d.size->d.size<=lim->Go.Sort.Holds RowT.enc w b 0 d-> ¬F b->(∀n,F n->n<w.heap.size)->b<w.heap.size->
   Calls P f #[.slice (some ⟨b,0,none⟩) d.size cap,.func (.func k) #[] #[]] w λe w'=>e= .returned (.tuple #[])/\ ∃d' n os,PermIn 0 d.size d d'/\SortedIn (RowT.lt cmp) 0 d.size d'/\w'=sortWorld RowT.enc w b 0 n d' os):
  Holds P f (ZE k dd cmp):=by
 refine fun(a:List (List Int)×Unit) (y:List (List Int)) hrun w F args vs fA hD hA hoff hdom=>?_
 obtain⟨rows,u⟩:=a
 have hrun:(if List.length rows<=lim/\List.all rows (λx=>decide (List.length x<=lim))=true then some (Zn cmp rows)else none)=some y:=hrun
 rcases Decidable.em (List.length rows<=lim/\List.all rows (λx=>decide (List.length x<=lim))=true)with hlim|hlim
 case inr=>rw[if_neg hlim]at hrun;exact absurd hrun (by simp)
 rw[if_pos hlim]at hrun
 obtain⟨hlim,hall⟩:=hlim
 have hall: ∀x∈rows,List.length x<=lim:=λx hx=>by have:=List.all_eq_true.1 hall x hx;simpa using this
 obtain rfl:=Option.some.inj hrun
 have hvs:=hD.same
 obtain⟨v,r,f1,f2,hv,hfp,hdj,⟨cs,hr1,hs1⟩,v2,hr2,⟨cs2,hr2',hs2⟩⟩:=hA
 have hs1:cs= [v]:=hs1
 have hs2:cs2= [v2]:=hs2
 subst hs1;subst hs2
 have hv2:v2= .func (.func k) #[] #[]:=by have:=hr2'.1;simpa using this
 have hf2: ∀n,¬f2 n:=hr2'.2
 subst hr2
 have hargs:args= #[v,v2]:=by
  apply Array.toList_inj.mp
  rw[←hvs,hv]
 subst hargs;subst hv2;subst hv
 have hfp': ∀n,fA n↔f1 n:=λn=>(hfp n).trans ⟨λh=>h.elim id (λh=>(hf2 n h).elim),Or.inl⟩
 have hr1:Rep w F (.slice (.slice .int)) (dd+1) [v] rows f1:=hr1
 have few: ∀(a:Option Addr) (n c:Nat),v= .slice a n c->List.length rows=n->n<=1->Calls P f #[v,.func (.func k) #[] #[]] w λe w'=> ∃rs F' fR fO,e= .returned (Yfr rs)/\Ret w F (ZE k dd cmp) (Zn cmp rows) [v,.func (.func k) #[] #[]] fA rs w' F' fR fO:=by
  intro a n c hvn hln hn
  have hself:Zn cmp rows=rows:=by
   unfold Zn
   match rows,hln with
   | [],_=>simp
   | [x],_=>simp
   |_::_::_,h=>exfalso;simp at h;omega
  rw[hself,hvn]
  refine(tiny w a n c hn).mono ?_
  rintro e w' ⟨rfl,os,rfl⟩
  have hold: ∀n,n<w.heap.size->(grow w os).heap[n]? =w.heap[n]? :=λn hn=>Go.Sort.heap_grow_old _ _ hn
  have hfl: ∀n,f1 n->n<w.heap.size:=λn hn=>by obtain⟨c,hc⟩:=Rep.live _ hr1 n hn;exact hc.lt
  refine⟨[],F,Fp.none,f1,rfl,⟨rfl,λn h=>h⟩,?_,λn h _=>h,λn h=>h.elim (λh=>h.elim) (λh=>Or.inl ((hfp' n).2 h)),λn h=>h.elim (λh=>h.elim) (λh=>hoff n ((hfp' n).2 h)),λn h=>h,λn h=>Or.inl h,
   λn h=>by rw[Go.Sort.size_grow];have:=hdom n h;omega,by rw[Go.Sort.size_grow];omega,λn h _=>hold n h,rfl,rfl⟩
  refine⟨_,_,f1,Fp.none,rfl,λn=>⟨Or.inl,λh=>h.elim id (λh=>h.elim)⟩,λn _ h=>h,λcs hcs _=>?_,_,rfl,λcs _ _ n h=>h⟩
  have hcs:cs= [_]:=hcs
  subst hcs
  rw[←hvn]
  exact Rep.keep _ hr1 (λn hn=>hold n (hdom n hn)) (λn hn=>hold n (hfl n hn))
 rcases hr1 with ⟨hcs,hx,_⟩|⟨b,len,cap,c,fps,hcs,hblk,hcl,hlen,hcap,hfb,hnb,hinj,hrow⟩
 ·have hv:v= .slice none 0 0:=by simpa using hcs
  exact few none 0 0 hv (by rw[hx];rfl) (by omega)
 ·have hv:v= .slice (some ⟨b,0,none⟩) len cap:=by simpa using hcs
  have hlen: @List.length (List Int) rows=len:=hlen
  by_cases h2:len<=1
  ·exact few _ len cap hv hlen h2
  ·have hcl':c.length=cap:=by rw[hcl];show cap*1=cap;omega
   obtain⟨dl,e1,e2,e3⟩:=Zt (w:=w) (F:=F) (dd:=dd) (len:=len) (fps:=fps) rows c 0 (by omega) hall (by rw[hcl',hlen];exact hcap) (λi x hx=>by have:=hrow i x hx;rw[show i*(Ty.slice Ty.int).cells=i from Nat.mul_one i]at this;rw[Nat.zero_add];exact this)
   have hdl:dl.length=len:=by have h1:=congrArg List.length e1;rw[List.length_map]at h1;omega
   match dl,hdl,e1,e2,e3 with
   | [],hdl,_,_,_=>exact absurd hdl (by simp;omega)
   |d0::dl',hdl,e1,e2,e3=>
   haveI:Inhabited (RowT w F dd len fps):=⟨d0⟩
   have hbF: ¬F b:=hoff b ((hfp' b).2 ((hfb b).2 (Or.inl rfl)))
   have hbl:b<w.heap.size:=hblk.lt
   have hfl: ∀i n,i<len->fps i n->n<w.heap.size:=λi n hi hn=>by
    have hx:nth rows i=some rows[i]:=List.getElem?_eq_getElem (by omega)
    obtain⟨c,hc⟩:=Rep.live _ (hrow i _ hx) n hn
    exact hc.lt
   have hz:((d0::dl').toArray).size=len:=by simpa using hdl
   have hH:Go.Sort.Holds RowT.enc w b 0 (d0::dl').toArray:=by
    intro j hj
    rw[hz]at hj
    refine⟨?_,hblk.free _⟩
    rw[hblk.lies,Nat.zero_add,getElem!_pos _ j (by rw[hz];exact hj)]
    have h3:((d0::dl').map RowT.enc)[j]? =(c.take rows.length)[j]? :=by rw[e2]
    rw[List.getElem?_take_of_lt (by rw[hlen];exact hj)]at h3
    rw[←h3,List.getElem?_map,List.getElem?_eq_getElem (by rw[hdl];exact hj)]
    simp
   have hcore:=core w F len fps b cap (d0::dl').toArray hnb hfl (by rw[hz];omega) (by rw[hz,←hlen];exact hlim) hH hbF hdom hbl
   rw[hz]at hcore
   rw[hv]
   refine hcore.mono ?_
   rintro e w' ⟨rfl,d',n,os,hP,hs,rfl⟩
   have hz':d'.size=len:=by rw[hP.1,hz]
   have hsl:=Zw hc (d:=(d0::dl').toArray) (d':=d') (by rw[hz];exact hP) (by rw[hz];exact hs)
   rw[show((d0::dl').toArray.toList.map RowT.row)=rows from e1]at hsl
   have hold: ∀n',n'<w.heap.size->n'≠b->(sortWorld RowT.enc w b 0 n d' os).heap[n']? =w.heap[n']? :=λn' hn hb=>Zr _ _ _ _ _ _ hbl hn hb
   have hFk: ∀n',F n'->(sortWorld RowT.enc w b 0 n d' os).heap[n']? =w.heap[n']? :=λn' hn=>hold n' (hdom n' hn) (λe=>hbF (e▸hn))
   refine⟨[],F,Fp.none,f1,rfl,⟨rfl,λn h=>h⟩,?_,λn h _=>h,λn h=>h.elim (λh=>h.elim) (λh=>Or.inl ((hfp' n).2 h)),λn h=>h.elim (λh=>h.elim) (λh=>hoff n ((hfp' n).2 h)),λn h=>h,λn h=>Or.inl h,
    λn' h=>Nat.lt_of_lt_of_le (hdom n' h) (Zi _ _ _ _ _ _),Zi _ _ _ _ _ _,λn' h h'=>hold n' h (λe=>h' ((hfp' n').2 ((hfb n').2 (Or.inl e)))),Zp _ _ _ _ _ _⟩
   refine⟨_,_,f1,Fp.none,rfl,λn=>⟨Or.inl,λh=>h.elim id (λh=>h.elim)⟩,λn _ h=>h,λcs hcs _=>?_,_,rfl,λcs _ _ n h=>h⟩
   have hcs:cs= [_]:=hcs
   subst hcs
   show Rep _ F (.slice (.slice .int)) (dd+1) [_] (Zn cmp rows) f1
   rw[←hsl]
   have hpm:(d'.toList.map RowT.i).Perm (List.range len):=by
    have x1:d'.extract 0 len=d':=by have h:d'.extract 0 d'.size=d':=Array.extract_size;rw[show d'.extract 0 len=d'.extract 0 d'.size from congrArg (λn=>d'.extract 0 n) hz'.symm];exact h
    have x2:((d0::dl').toArray).extract 0 len=(d0::dl').toArray:=by have h:((d0::dl').toArray).extract 0 ((d0::dl').toArray).size=(d0::dl').toArray:=Array.extract_size;rw[show((d0::dl').toArray).extract 0 len=((d0::dl').toArray).extract 0 ((d0::dl').toArray).size from congrArg (λn=>((d0::dl').toArray).extract 0 n) hz.symm];exact h
    have hp:=hP.2.2
    rw[x1,x2]at hp
    have:=hp.map RowT.i
    rw[show((d0::dl').toArray).toList=d0::dl' from rfl,e3,hlen,←List.range_eq_range']at this
    exact this
   have hnd:(d'.toList.map RowT.i).Nodup:=hpm.nodup_iff.2 List.nodup_range
   have hlen':d'.toList.length=len:=by rw[Array.length_toList,hz']
   have hat: ∀j (hj:j<len),(d'.toList.map RowT.i)[j]? =some (d'.toList[j]'(by omega)).i:=λj hj=>by
    rw[List.getElem?_map,List.getElem?_eq_getElem (by omega)];rfl
   obtain⟨gp,hgp⟩: ∃gp:Nat->Fp,∀j (hj:j<len),gp j=fps (d'.toList[j]'(by omega)).i:=⟨λj=>if hj:j<len then fps (d'.toList[j]'(by omega)).i else Fp.none,λj hj=>dif_pos hj⟩
   refine Or.inr ⟨b,len,cap,_,gp,rfl,Zq _ _ _ _ _ _ hblk (by rw[hz',hcl'];exact hcap),?_,?_,hcap,λn'=>⟨λh=>?_,λh=>?_⟩,λj hj h=>?_,λi j n' hi hj h1 h2=>?_,λi x hx=>?_⟩
   ·show _=cap*1
    rw[List.length_append,List.length_map,List.length_drop,Array.length_toList,hz',hcl'];omega
   ·show List.length (d'.toList.map RowT.row)=len
    rw[List.length_map,Array.length_toList,hz']
   ·rcases(hfb n').1 h with h|⟨i,hi,h⟩
    ·exact Or.inl h
    ·have hm:i∈d'.toList.map RowT.i:=hpm.mem_iff.2 (List.mem_range.2 hi)
     obtain⟨j,hj,hji⟩:=List.mem_iff_getElem.1 hm
     have hj':j<len:=by rw[List.length_map,hlen']at hj;exact hj
     refine Or.inr ⟨j,hj',?_⟩
     rw[hgp j hj']
     rw[List.getElem_map]at hji
     rw[hji];exact h
   ·rcases h with h|⟨j,hj,h⟩
    ·exact(hfb n').2 (Or.inl h)
    ·rw[hgp j hj]at h
     exact(hfb n').2 (Or.inr ⟨_,(d'.toList[j]'(by omega)).hi,h⟩)
   ·rw[hgp j hj]at h
    exact hnb _ (d'.toList[j]'(by omega)).hi h
   ·rw[hgp i hi]at h1;rw[hgp j hj]at h2
    have he:=hinj _ _ n' (d'.toList[i]'(by omega)).hi (d'.toList[j]'(by omega)).hi h1 h2
    have q1:=hat i hi;have q2:=hat j hj
    rw[he,←q2]at q1
    exact(List.getElem?_inj (by rw[List.length_map,hlen'];exact hi) hnd).1 q1
   ·have hx:(d'.toList.map RowT.row)[i]? =some x:=hx
    rw[List.getElem?_map]at hx
    obtain⟨q,hq,rfl⟩:=Option.map_eq_some_iff.1 hx
    have hi:i<d'.toList.length:=by
     rcases Nat.lt_or_ge i d'.toList.length with h|h
     ·exact h
     ·rw[List.getElem?_eq_none h]at hq;exact absurd hq (by simp)
    have h4:List.take (Ty.slice Ty.int).cells (List.drop (i*(Ty.slice Ty.int).cells) (List.map RowT.enc d'.toList++List.drop d'.size c))= [RowT.enc q]:=by
     show List.take 1 (List.drop (i*1) _)=_
     rw[Nat.mul_one,List.drop_eq_getElem_cons (by rw[List.length_append,List.length_map];omega),List.take_succ_cons,List.take_zero]
     congr 1
     rw[List.getElem_append_left (by rw[List.length_map];exact hi),List.getElem_map]
     rw[List.getElem?_eq_getElem hi]at hq
     rw[Option.some.inj hq]
    rw[h4]
    rw[hgp i (by omega)]
    rw[List.getElem?_eq_getElem hi]at hq
    rw[Option.some.inj hq]
    exact Rep.keep _ q.ok hFk (λn' hn=>hold n' (hfl _ _ q.hi hn) (λe=>hnb _ q.hi (by rw[←e];exact hn)))
end Go.Va
set_option linter.all false
namespace Go.Va
open Go.Proofs (RowE)
open Go.RowKit (Below)
def Zm (xs:List (List Int)):List Nat:=(List.range xs.length).filter λi=>i==0||xs.getD (i-1) [] !=xs.getD i []
def Zx (xs:List (List Int)):List (List Int):=(Zm xs).map λi=>xs.getD i []
noncomputable def ZQ (dd:Nat):Entry where
 params:= [.mv (.slice .int) dd]
 results:= [.mv (.slice .int) dd]
 B:=List (List Int)
 run:=λa=>if List.length a<=lim/\List.all a (λx=>decide (List.length x<=lim))=true then some (Zx a)else none
 out:=λb=>()
 res:=λb=>b
structure RowD (w:World) (F:Fp) (x:RowE):Prop where
 rep: ∃dd fp,Rep w F (.slice .int) dd [RowE.enc x] x.2 fp
 small:List.length x.2<=lim
theorem ZT {V:World} {F:Fp} {x:RowE} (h:RowD V F x):List.length x.2=x.1.2.1/\(0<List.length x.2-> ∃b off,x.1.1=some ⟨b,off,none⟩/\ ∀t,t<List.length x.2->V.cell? ⟨b,off+t,none⟩=some (.int .i64 (x.2.getD t 0))):=by
 obtain⟨⟨a,l,c⟩,xs⟩:=x
 obtain⟨dd,fp,hr⟩:=h.rep
 have hr:Rep V F (.slice .int) dd [.slice a l c] xs fp:=hr
 cases dd with
 |zero=>
  rcases hr.2 with ⟨⟨a',e⟩,e2⟩|⟨b,off,len,cap,e,hlen,_,_,hc⟩
  ·simp only[List.cons.injEq,Value.slice.injEq,and_true]at e
   obtain⟨_,rfl,_⟩:=e
   exact⟨by rw[e2];rfl,λh=>by rw[e2]at h;exact absurd h (Nat.lt_irrefl 0)⟩
  ·simp only[List.cons.injEq,Value.slice.injEq,and_true]at e
   obtain⟨rfl,rfl,rfl⟩:=e
   have hlen: @List.length Int xs=l:=hlen
   refine⟨hlen,λ_=>⟨b,off,rfl,λt ht=>?_⟩⟩
   have hx:xs[t]? =some (xs.getD t 0):=by rw[List.getD_eq_getElem?_getD,List.getElem?_eq_getElem ht];rfl
   obtain⟨ci,hl,hv⟩:=hc t _ hx
   have hv:ci= [.int .i64 (xs.getD t 0)]:=hv.1
   have:=hl 0 (.int .i64 (xs.getD t 0)) (by rw[hv];rfl)
   rw[show off+t*Ty.int.cells+0=off+t from by show off+t*1+0=off+t;omega]at this
   exact this
 |succ dd=>
  rcases hr with ⟨e,e2,_⟩|⟨b,len,cap,cs,fps,e,hblk,_,hlen,_,_,_,_,hc⟩
  ·simp only[List.cons.injEq,Value.slice.injEq,and_true]at e
   obtain⟨_,rfl,_⟩:=e
   exact⟨by rw[e2];rfl,λh=>by rw[e2]at h;exact absurd h (Nat.lt_irrefl 0)⟩
  ·simp only[List.cons.injEq,Value.slice.injEq,and_true]at e
   obtain⟨rfl,rfl,rfl⟩:=e
   have hlen: @List.length Int xs=l:=hlen
   refine⟨hlen,λ_=>⟨b,0,rfl,λt ht=>?_⟩⟩
   have hx:xs[t]? =some (xs.getD t 0):=by rw[List.getD_eq_getElem?_getD,List.getElem?_eq_getElem ht];rfl
   have hv:(cs.drop (t*1)).take 1= [.int .i64 (xs.getD t 0)]:=(hc t _ hx).1
   rw[hblk.lies,Nat.zero_add]
   have h1:((cs.drop (t*1)).take 1)[0]? =some (.int .i64 (xs.getD t 0)):=by rw[hv];rfl
   rw[List.getElem?_take_of_lt (by omega),List.getElem?_drop,Nat.mul_one,Nat.add_zero]at h1
   exact h1
theorem RowD.keep {w w':World} {F:Fp} {x:RowE} {dd:Nat} {fp:Fp} (hr:Rep w F (.slice .int) dd [RowE.enc x] x.2 fp) (hs:List.length x.2<=lim) (h1: ∀n,F n->w'.heap[n]? =w.heap[n]?) (h2: ∀n,fp n->w'.heap[n]? =w.heap[n]?):RowD w' F x:=⟨⟨dd,fp,Rep.keep _ hr h1 h2⟩,hs⟩
theorem ZH {xs:List (List Int)} {i:Nat} (h:i∈Zm xs):i<xs.length:=List.mem_range.1 (List.mem_filter.1 h).1
theorem Zv (xs:List (List Int)):(Zm xs).Nodup:=List.Nodup.sublist List.filter_sublist List.nodup_range
def ZM:RowE:=((none,0,0),[])
variable {w w':World} {F:Fp} {dd len:Nat} {fps:Nat->Fp}
theorem ZF {te:TypeId} (dl:List (RowT w F dd len fps)) (hi:dl.map RowT.i=List.range' 0 len)
  (hinj: ∀(i j n:Nat),i<len->j<len->fps i n->fps j n->i=j) (hlive: ∀i n,i<len->fps i n->n<w.heap.size) (hF: ∀n,F n->n<w.heap.size) {v:Value}
  (own:w'.ownsRow w.heap.size te 1 v (Zm (dl.map RowT.row)).length ((Zm (dl.map RowT.row)).map λi=>RowE.enc ((dl.map (·.x)).getD i ZM))) (hB:Below w.heap.size w w'):
  ∃fR:Fp,Rep w' F (.slice (.slice .int)) (dd+1) [v] (Zx (dl.map RowT.row)) fR/\ ∀n,fR n->(∃i,i<len/\fps i n)∨w.heap.size<=n:=by
 obtain⟨xs,hxs⟩: ∃xs,xs=dl.map RowT.row:=⟨_,rfl⟩
 have hdl:dl.length=len:=by have:=congrArg List.length hi;simpa using this
 have hxl:xs.length=len:=by rw[hxs,List.length_map,hdl]
 rw[←hxs]at own⊢
 obtain⟨ks,hks⟩: ∃ks,ks=Zm xs:=⟨_,rfl⟩
 have hlt: ∀i∈ks,i<len:=λi h=>by rw[hks]at h;have:=ZH h;omega
 have hnd:ks.Nodup:=by rw[hks];exact Zv xs
 unfold Zx
 rw[←hks]at own⊢
 rcases own.2 with ⟨rfl,h0⟩|⟨g,cap,cur,rfl,hbg,hg,hnc,_,hcs,htake⟩
 ·have:ks= []:=List.eq_nil_of_length_eq_zero h0
  refine⟨Fp.none,Or.inl ⟨rfl,by rw[this];rfl,λ_ h=>h⟩,λn h=>h.elim⟩
 ·have hcl:cur.toList.length=cap:=by rw[Array.length_toList,hcs,Nat.mul_one]
  refine⟨λn=>n=g∨ ∃j,j<ks.length/\fps (ks.getD j 0) n,Or.inr ⟨g,ks.length,cap,cur.toList,λj=>fps (ks.getD j 0),rfl,⟨te,by simpa using hg⟩,?_,?_,hnc,λn=>Iff.rfl,λj hj h=>?_,λi j n hi' hj' h1 h2=>?_,λi x hx=>?_⟩,λn h=>?_⟩
  ·show _=cap*1
   omega
  ·show List.length (ks.map λi=>xs.getD i [])=ks.length
   rw[List.length_map]
  ·have hk:ks.getD j 0∈ks:=by rw[List.getD_eq_getElem?_getD,List.getElem?_eq_getElem hj];exact List.getElem_mem hj
   have:=hlive _ _ (hlt _ hk) h
   omega
  ·have hki:ks.getD i 0=ks[i]:=by rw[List.getD_eq_getElem?_getD,List.getElem?_eq_getElem hi'];rfl
   have hkj:ks.getD j 0=ks[j]:=by rw[List.getD_eq_getElem?_getD,List.getElem?_eq_getElem hj'];rfl
   have e:=hinj _ _ n (by rw[hki];exact hlt _ (List.getElem_mem hi')) (by rw[hkj];exact hlt _ (List.getElem_mem hj')) h1 h2
   rw[hki,hkj]at e
   exact(List.getElem_inj hnd).1 e
  ·have hx:(ks.map λi=>xs.getD i [])[i]? =some x:=hx
   rw[List.getElem?_map]at hx
   obtain⟨k,hk,rfl⟩:=Option.map_eq_some_iff.1 hx
   have hik:i<ks.length:=by
    rcases Nat.lt_or_ge i ks.length with h|h
    ·exact h
    ·rw[List.getElem?_eq_none h]at hk;exact absurd hk (by simp)
   have hkk:ks.getD i 0=k:=by rw[List.getD_eq_getElem?_getD,hk];rfl
   have hkl:k<len:=hlt k (List.mem_of_getElem? hk)
   have hkd:k<dl.length:=by omega
   have hq:(dl[k]'hkd).i=k:=by
    have h1:(dl.map RowT.i)[k]? =some (dl[k]'hkd).i:=by rw[List.getElem?_map,List.getElem?_eq_getElem hkd];rfl
    rw[hi,List.getElem?_range' (by omega)]at h1
    have:=Option.some.inj h1
    omega
   have hrow:xs.getD k []=(dl[k]'hkd).row:=by
    rw[hxs,List.getD_eq_getElem?_getD,List.getElem?_map,List.getElem?_eq_getElem hkd];rfl
   have henc:(dl.map (·.x)).getD k ZM=(dl[k]'hkd).x:=by
    rw[List.getD_eq_getElem?_getD,List.getElem?_map,List.getElem?_eq_getElem hkd];rfl
   have hcell:(cur.toList.drop (i*1)).take 1= [RowE.enc (dl[k]'hkd).x]:=by
    have h1:(cur.toList.take (ks.length*1))[i]? =some (RowE.enc ((dl.map (·.x)).getD k ZM)):=by
     rw[htake,List.getElem?_map,hk];rfl
    rw[henc,Nat.mul_one,List.getElem?_take_of_lt hik]at h1
    have hic:i<cur.toList.length:=by omega
    rw[List.getElem?_eq_getElem hic]at h1
    rw[Nat.mul_one,List.drop_eq_getElem_cons hic,List.take_succ_cons,List.take_zero,Option.some.inj h1]
   show Rep w' F (.slice .int) dd ((cur.toList.drop (i*1)).take 1) (xs.getD k []) (fps (ks.getD i 0))
   rw[hcell,hrow,hkk]
   have hrep:=(dl[k]'hkd).ok
   rw[hq]at hrep
   exact Rep.keep _ hrep (λn hn=>hB.block n (hF n hn)) (λn hn=>hB.block n (hlive k n hkl hn))
  ·rcases h with rfl|⟨j,hj,h⟩
   ·exact Or.inr hbg
   ·have hk:ks.getD j 0∈ks:=by rw[List.getD_eq_getElem?_getD,List.getElem?_eq_getElem hj];exact List.getElem_mem hj
    exact Or.inl ⟨_,hlt _ hk,h⟩
theorem ZR {P:Program} {f:Nat} (te:TypeId) (dd:Nat)
  (core: ∀(w:World) (F:Fp) (a:Option Addr) (cap:Nat) (rows:List RowE),rows.length<=lim->(∀n,F n->n<w.heap.size)->(∀x∈rows,RowD w F x)->
   (∀(w':World),(∀n,n<w.heap.size->w'.heap[n]? =w.heap[n]?)-> ∀x∈rows,RowD w' F x)->
   (0<rows.length-> ∃b,a=some ⟨b,0,none⟩/\b<w.heap.size/\ ∀(i:Nat) (x:RowE),rows[i]? =some x->w.cell? ⟨b,i,none⟩=some (RowE.enc x))->
   Calls P f #[.slice a rows.length cap] w λe w'=> ∃v,e= .returned v/\w'.ownsRow w.heap.size te 1 v (Zm (rows.map (·.2))).length ((Zm (rows.map (·.2))).map λi=>RowE.enc (rows.getD i ZM))/\Below w.heap.size w w'):
  Holds P f (ZQ dd):=by
 refine fun(a:List (List Int)) (y:List (List Int)) hrun w F args vs fA hD hA hoff hdom=>?_
 have hrun:(if List.length a<=lim/\List.all a (λx=>decide (List.length x<=lim))=true then some (Zx a)else none)=some y:=hrun
 rcases Decidable.em (List.length a<=lim/\List.all a (λx=>decide (List.length x<=lim))=true)with hlim|hlim
 case inr=>rw[if_neg hlim]at hrun;exact absurd hrun (by simp)
 rw[if_pos hlim]at hrun
 obtain⟨hlim,hall⟩:=hlim
 have hall: ∀x∈a,List.length x<=lim:=λx hx=>by have:=List.all_eq_true.1 hall x hx;simpa using this
 obtain rfl:=Option.some.inj hrun
 have hvs:=hD.same
 obtain⟨v,rfl,cs,hr1,hs1⟩:=hA
 have hs1:cs= [v]:=hs1
 subst hs1
 have hargs:args= #[v]:=by
  apply Array.toList_inj.mp
  rw[←hvs]
 subst hargs
 have hr1:Rep w F (.slice (.slice .int)) (dd+1) [v] a fA:=hr1
 have hlA: ∀n,fA n->n<w.heap.size:=λn hn=>by obtain⟨c,hc⟩:=Rep.live _ hr1 n hn;exact hc.lt
 have key: ∃(len:Nat) (fps:Nat->Fp) (dl:List (RowT w F dd len fps)) (ad:Option Addr) (cap:Nat),v= .slice ad dl.length cap/\dl.map RowT.row=a/\dl.map RowT.i=List.range' 0 len/\(∀(i j n:Nat),i<len->j<len->fps i n->fps j n->i=j)/\(∀i n,i<len->fps i n->fA n)/\
   (0<dl.length-> ∃b,ad=some ⟨b,0,none⟩/\b<w.heap.size/\ ∀(i:Nat) (x:RowT w F dd len fps),dl[i]? =some x->w.cell? ⟨b,i,none⟩=some (RowE.enc x.x)):=by
  rcases hr1 with ⟨hcs,hx,_⟩|⟨b,len,cap,c,fps,hcs,hblk,hcl,hlen,hcap,hfb,hnb,hinj,hrow⟩
  ·have hv:v= .slice none 0 0:=by simpa using hcs
   exact⟨0,λ_=>Fp.none,[],none,0,hv,hx.symm,rfl,λi j n h=>absurd h (Nat.not_lt_zero _),λi n h=>absurd h (Nat.not_lt_zero _),λh=>absurd h (Nat.lt_irrefl 0)⟩
  ·have hv:v= .slice (some ⟨b,0,none⟩) len cap:=by simpa using hcs
   have hlen: @List.length (List Int) a=len:=hlen
   have hcl':c.length=cap:=by rw[hcl];show cap*1=cap;omega
   obtain⟨dl,e1,e2,e3⟩:=Zt (w:=w) (F:=F) (dd:=dd) (len:=len) (fps:=fps) a c 0 (by omega) hall (by rw[hcl',hlen];exact hcap) (λi x hx=>by have:=hrow i x hx;rw[show i*(Ty.slice Ty.int).cells=i from Nat.mul_one i]at this;rw[Nat.zero_add];exact this)
   have hdl:dl.length=len:=by have h1:=congrArg List.length e1;rw[List.length_map]at h1;omega
   rw[hlen]at e3 e2
   refine⟨len,fps,dl,some ⟨b,0,none⟩,cap,by rw[hdl];exact hv,e1,e3,hinj,λi n hi hn=>(hfb n).2 (Or.inr ⟨i,hi,hn⟩),λ_=>⟨b,rfl,hblk.lt,λi x hx=>?_⟩⟩
   have hil:i<dl.length:=by
    rcases Nat.lt_or_ge i dl.length with h|h
    ·exact h
    ·rw[List.getElem?_eq_none h]at hx;exact absurd hx (by simp)
   rw[hblk.lies]
   have h3:(dl.map RowT.enc)[i]? =(c.take len)[i]? :=by rw[e2]
   rw[List.getElem?_take_of_lt (by omega),List.getElem?_map,hx]at h3
   exact h3.symm
 obtain⟨len,fps,dl,ad,cap,hv,e1,e3,hinj,hsub,hcell⟩:=key
 have hlive: ∀i n,i<len->fps i n->n<w.heap.size:=λi n hi hn=>hlA n (hsub i n hi hn)
 have hrl:(dl.map (·.x)).length=dl.length:=List.length_map _
 have hr2:(dl.map (·.x)).map (·.2)=dl.map RowT.row:=by rw[List.map_map];rfl
 have hc:=core w F ad cap (dl.map (·.x)) (by rw[hrl];have:=congrArg List.length e1;rw[List.length_map]at this;omega) hdom
  (λx hx=>by obtain⟨q,hq,rfl⟩:=List.mem_map.1 hx;exact⟨⟨dd,_,q.ok⟩,q.small⟩)
  (λw' hk x hx=>by
   obtain⟨q,hq,rfl⟩:=List.mem_map.1 hx
   exact RowD.keep q.ok q.small (λn hn=>hk n (hdom n hn)) (λn hn=>hk n (hlive _ n q.hi hn)))
  (λh0=>by
   obtain⟨b,hb1,hb2,hb3⟩:=hcell (by rw[←hrl];exact h0)
   refine⟨b,hb1,hb2,λi x hx=>?_⟩
   rw[List.getElem?_map]at hx
   obtain⟨q,hq,rfl⟩:=Option.map_eq_some_iff.1 hx
   exact hb3 i q hq)
 rw[hrl]at hc
 rw[hv]
 refine hc.mono ?_
 rintro e w' ⟨u,rfl,hown,hB⟩
 rw[hr2]at hown
 obtain⟨fR,hR,hfR⟩:=ZF dl e3 hinj hlive hdom hown hB
 rw[e1]at hR
 have hown': ∀n,fR n->fA n∨w.heap.size<=n:=λn hn=>(hfR n hn).imp (λ⟨i,hi,h⟩=>hsub i n hi h) id
 refine⟨[u],F,fR,Fp.none,rfl,⟨⟨u,rfl,[u],hR,rfl⟩,⟨_,rfl,λcs _ _ n h=>h⟩,λn _ h=>h,λn h=>h.elim (hown' n) (λh=>h.elim),λn h=>h.elim (λh hF=>?_) (λh=>h.elim),λn h=>h,λn h=>Or.inl h,λn h=>Nat.lt_of_lt_of_le (hdom n h) hB.size,hB.size,λn h _=>hB.block n h,hB.os,?_⟩⟩
 ·rcases hown' n h with h|h
  ·exact hoff n h hF
  ·have:=hdom n hF;omega
 ·rw[hB.tape,hB.output]
end Go.Va
