/- The library's exchange of ranges, rotation and short merges of its stable sort; no conditions. -/
import Derived.Shelf.GgSortMore.Stable
set_option linter.unusedVariables false
set_option linter.unusedSimpArgs false
set_option linter.all false
namespace Go.Proofs
open Go.Shelf Go.RowKit Go.Lib Go.Sort
variable {P:Program} {ρ:Ren} {α:Type} [Inhabited α]
def Zj (a b:Nat):Nat->Array α->Array α
 |0,d=>d
 |n+1,d=>swp (Zj a b n d) (a+n) (b+n)
theorem Zf (a b:Nat): ∀(n:Nat) (d:Array α),(Zj a b n d).size=d.size
 |0,_=>rfl
 |n+1,d=>by rw[Zj,size_swp,Zf a b n d]
structure Fam (P:Program) (ρ:Ren) (α:Type) [Inhabited α] where
 enc:α->Value
 lt:α->α->Bool
 g:Nat
 lb:Array Value
 sf:Nat
 sb:Array Value
 blk:Nat
 off:Nat
 size:Nat
 w0:World
 d0:Array α
 h0:Holds enc w0 blk off d0
 s0:d0.size=size
 hblk:blk<w0.heap.size
 hsz:size<4611686018427387904
 eg: ∀args w,(callFunc g args).run P w= .ok (.enter g args) w
 hless:LessReads P g lb enc lt blk off size w0
 hswap:SwapSwaps P sf sb enc blk off size
 ord:SWO lt
def Fam.data (M:Fam P ρ α):Value:= .agg #[.func (.func M.g) #[] M.lb,.func (.func M.sf) #[] M.sb]
def Fam.At (M:Fam P ρ α) (d:Array α) (W:World):Prop:=d.size=M.size/\SW M.enc M.w0 M.blk M.off d W
def Fam.Go (M:Fam P ρ α) (d:Array α) (W w:World):Prop:=M.At d w/\W.heap.size<=w.heap.size/\ ∀x:Addr,x.block<W.heap.size->x.block≠M.blk->w.cell? x=W.cell? x
theorem Fam.At.go {M:Fam P ρ α} {d:Array α} {W:World} (h:M.At d W):M.Go d W W:=⟨h,Nat.le_refl _,λ_ _ _=>rfl⟩
theorem Fam.Go.trans {M:Fam P ρ α} {d d':Array α} {W w w':World} (h:M.Go d W w) (h':M.Go d' w w'):M.Go d' W w':=
 ⟨h'.1,Nat.le_trans h.2.1 h'.2.1,λx h1 h2=>(h'.2.2 x (Nat.lt_of_lt_of_le h1 h.2.1) h2).trans (h.2.2 x h1 h2)⟩
theorem Fam.At.swap {M:Fam P ρ α} {d:Array α} {W:World} (h:M.At d W) (i j:Nat) (hi:i<M.size) (hj:j<M.size):
  ∃W',(callFunc M.sf (#[.int .i64 i,.int .i64 j]++M.sb)).run P W= .ok (.value (.tuple #[])) W'/\M.Go (swp d i j) W W':=by
 obtain⟨hs,hW⟩:=h
 refine⟨_,M.hswap W d (hW.holds M.hblk M.h0 (by rw[hs,M.s0])) hs i j hi hj,⟨by rw[size_swp];exact hs,hW.swap M.hblk i j (by omega) (by omega)⟩,by simp,λx _ h2=>?_⟩
 rw[World.cell?_setCell_other _ _ _ _ (by rintro rfl;exact h2 rfl),World.cell?_setCell_other _ _ _ _ (by rintro rfl;exact h2 rfl)]
theorem Fam.At.alloc {M:Fam P ρ α} {d:Array α} {W:World} (h:M.At d W) (o:Obj):M.Go d W (W.alloc o):=
 ⟨⟨h.1,h.2.alloc o⟩,by simp,λx hx _=>by rw[alloc_eq_grow,cell?_grow _ _ _ hx]⟩
theorem Fam.At.drewN {M:Fam P ρ α} {d:Array α} {W:World} (h:M.At d W) (q:Nat):M.Go d W (W.drewN q):=⟨⟨h.1,h.2.drewN q⟩,Nat.le_refl _,λ_ _ _=>rfl⟩
theorem Fam.At.less {M:Fam P ρ α} {d:Array α} {W:World} (h:M.At d W) (i j:Nat) (hi:i<M.size) (hj:j<M.size):
  Calls P M.g (#[.int .i64 i,.int .i64 j]++M.lb) W λe w'=>e= .returned (.bool (M.lt d[i]! d[j]!))/\ ∃q,w'=W.drewN q:=h.2.less M.hless h.1 i j hi hj
theorem Fam.At.lt {M:Fam P ρ α} {d:Array α} {W:World} (h:M.At d W):M.blk<W.heap.size:=h.2.lt M.hblk
theorem Fam.Go.cell {M:Fam P ρ α} {d:Array α} {W w:World} {b k:Nat} {v:Value} (h:M.Go d W w) (hb:b<W.heap.size) (hn:b≠M.blk) (hv:W.cell? ⟨b,k,none⟩=some v):w.cell? ⟨b,k,none⟩=some v:=by
 rw[h.2.2 ⟨b,k,none⟩ hb hn];exact hv
set_option maxHeartbeats 1600000 in
set_option maxRecDepth 1000000 in
theorem Fam.swapRange (M:Fam P ρ α) (L:LaysGt.n49 P ρ) (a b n:Nat) (d:Array α) (W:World) (h:M.At d W) (ha:a+n<=M.size) (hb:b+n<=M.size):
  Calls P (ρ.f 49) #[M.data,.int .i64 a,.int .i64 b,.int .i64 n] W λe w'=>e= .returned (.tuple #[])/\M.Go (Zj a b n d) W w':=by
 have mixed:=L.mixed;have t0:=L.t0;have a0:=L.a0;have z0:=L.z0;have v0:=L.v0;have t3:=L.t3;have a3:=L.a3;have z3:=L.z3;have v3:=L.v3;have t4:=L.t4;have a4:=L.a4;have z4:=L.z4;have v4:=L.v4;have t26:=L.t26;have a26:=L.a26;have z26:=L.z26;have v26:=L.v26;have t38:=L.t38;have a38:=L.a38;have z38:=L.z38;have v38:=L.v38;have t42:=L.t42;have a42:=L.a42;have z42:=L.z42;have v42:=L.v42
 have u42:=run_underlying L.t42
 have hsz:=M.hsz
 have hlt0:=h.lt
 unfold Fam.data
 have hA:=h.alloc (.cells #[.func (.func M.g) #[] M.lb,.func (.func M.sf) #[] M.sb] (ρ.t 42))
 have k1:(W.alloc (.cells #[.func (.func M.g) #[] M.lb,.func (.func M.sf) #[] M.sb] (ρ.t 42))).cell? ⟨W.heap.size,1,none⟩=some (.func (.func M.sf) #[] M.sb):=by simp
 have kz:(W.alloc (.cells #[.func (.func M.g) #[] M.lb,.func (.func M.sf) #[] M.sb] (ρ.t 42))).heap.size=W.heap.size+1:=by simp
 go_enter L.f49,BodyGt.n49_ntmps ρ
 go_wp2
 go_loopg [8] n (λk s8 wr=> ∃i:Nat,s8= .int .i64 i/\i+k=n/\M.Go (Zj a b i d) (W.alloc (.cells #[.func (.func M.g) #[] M.lb,.func (.func M.sf) #[] M.sb] (ρ.t 42))) wr)
 case atStart=>exact⟨0,rfl,by omega,hA.1.go⟩
 case round=>
  obtain⟨i,rfl,hik,hGo⟩:=hrel
  by_cases hlt:i<n
  ·obtain⟨W',hs,hGo'⟩:=hGo.1.swap (a+i) (b+i) (by omega) (by omega)
   rw[show((a+i:Nat):Int)=(a:Int)+i by omega,show((b+i:Nat):Int)=(b:Int)+i by omega]at hs
   have c1:=hGo.cell (by omega) (by omega) k1
   go_wp2
   go_roundg (n-(i+1))
   case measure=>omega
   case rel=>exact⟨i+1,by simp,by omega,hGo.trans hGo'⟩
  ·go_wp2
   go_end0
   have e:i=n:=by omega
   subst e
   exact⟨rfl,hA.trans hGo⟩
end Go.Proofs
set_option linter.all false
namespace Go.Proofs
open Go.Shelf Go.RowKit Go.Lib Go.Sort
variable {P:Program} {ρ:Ren} {α:Type} [Inhabited α]
theorem Zk (a b:Nat) (d:Array α) (hd:a+0<=b∨b+0<=a): ∀(n:Nat),(a+n<=b∨b+n<=a)->a+n<=d.size->b+n<=d.size-> ∀k,(Zj a b n d)[k]! =if a<=k/\k<a+n then d[k-a+b]! else if b<=k/\k<b+n then d[k-b+a]! else d[k]!
 |0,_,_,_,k=>by
  rw[Zj,if_neg (by omega),if_neg (by omega)]
 |n+1,h,h1,h2,k=>by
  have ih:=Zk a b d hd n (by omega) (by omega) (by omega)
  rw[Zj]
  by_cases e1:k=a+n
  ·subst e1
   rw[swp_left _ _ _ (by rw[Zf];omega) (by omega),ih,if_neg (by omega),if_neg (by omega),if_pos (by omega)]
   congr 1;omega
  ·by_cases e2:k=b+n
   ·subst e2
    rw[swp_right _ _ _ (by rw[Zf];omega),ih,if_neg (by omega),if_neg (by omega),if_neg (by omega),if_pos (by omega)]
    congr 1;omega
   ·rw[swp_other _ _ _ _ e1 e2,ih]
    repeat' split
    all_goals first|rfl|(exfalso;omega)
theorem Zg (lo hi a b:Nat) (d:Array α) (hh:hi<=d.size): ∀n,lo<=a->a+n<=hi->lo<=b->b+n<=hi->PermIn lo hi d (Zj a b n d)
 |0,_,_,_,_=>permIn_refl _ _ _
 |n+1,h1,h2,h3,h4=>permIn_trans _ _ _ _ _ (Zg lo hi a b d hh n h1 (by omega) h3 (by omega)) (swp_permIn _ _ _ _ _ (by omega) (by omega) (by omega) (by omega) (by rw[Zf];exact hh))
def Rot (a m b:Nat) (d d':Array α):Prop:= ∀k,d'[k]! =if a<=k/\k<a+(b-m)then d[k+(m-a)]! else if a+(b-m)<=k/\k<b then d[k-(b-m)]! else d[k]!
theorem ZK {m i j:Nat} {d d':Array α} (hi:i<=m) (hj:j<i) (h0:0<j) (hs:m+j<=d.size) (h:Rot (m-(i-j)) m (m+j) (Zj (m-i) m j d) d'):Rot (m-i) m (m+j) d d':=by
 intro k
 have g:=Zk (m-i) m d (by omega) j (by omega) (by omega) (by omega)
 rw[h k,g,g,g]
 have e1:m-(i-j)+(m+j-m)=m-i+2*j:=by omega
 have e2:m-i+(m+j-m)=m-i+j:=by omega
 have e3:m-(m-(i-j))=i-j:=by omega
 have e4:m-(m-i)=i:=by omega
 have e5:m+j-m=j:=by omega
 rw[e1,e2,e3,e4,e5]
 repeat' split
 all_goals first|rfl|(congr 1;omega)|(exfalso;omega)
theorem ZB {m i j:Nat} {d d':Array α} (hi:i<=m) (hj:i<j) (h0:0<i) (hs:m+j<=d.size) (h:Rot (m-i) m (m+(j-i)) (Zj (m-i) (m+j-i) i d) d'):Rot (m-i) m (m+j) d d':=by
 intro k
 have g:=Zk (m-i) (m+j-i) d (by omega) i (by omega) (by omega) (by omega)
 rw[h k,g,g,g]
 have e1:m-i+(m+(j-i)-m)=m+j-2*i:=by omega
 have e2:m-i+(m+j-m)=m-i+j:=by omega
 have e3:m-(m-i)=i:=by omega
 have e5:m+j-m=j:=by omega
 have e6:m+(j-i)-m=j-i:=by omega
 rw[e1,e2,e3,e5,e6]
 repeat' split
 all_goals first|rfl|(congr 1;omega)|(exfalso;omega)
theorem ZN {m i:Nat} {d:Array α} (hi:i<=m) (hs:m+i<=d.size):Rot (m-i) m (m+i) d (Zj (m-i) m i d):=by
 intro k
 have g:=Zk (m-i) m d (by omega) i (by omega) (by omega) (by omega)
 rw[g]
 have e2:m-i+(m+i-m)=m:=by omega
 have e3:m-(m-i)=i:=by omega
 have e5:m+i-m=i:=by omega
 rw[e2,e3,e5]
 repeat' split
 all_goals first|rfl|(congr 1;omega)|(exfalso;omega)
set_option maxHeartbeats 3200000 in
set_option maxRecDepth 1000000 in
theorem Fam.rotate (M:Fam P ρ α) (L:LaysGt.n42 P ρ) (a m b:Nat) (d:Array α) (W:World) (h:M.At d W) (ham:a<m) (hmb:m<b) (hb:b<=M.size):
  Calls P (ρ.f 42) #[M.data,.int .i64 a,.int .i64 m,.int .i64 b] W λe w'=>e= .returned (.tuple #[])/\ ∃d',M.Go d' W w'/\Rot a m b d d'/\PermIn a b d d':=by
 have mixed:=L.mixed;have t0:=L.t0;have a0:=L.a0;have z0:=L.z0;have v0:=L.v0;have t3:=L.t3;have a3:=L.a3;have z3:=L.z3;have v3:=L.v3;have t4:=L.t4;have a4:=L.a4;have z4:=L.z4;have v4:=L.v4;have t26:=L.t26;have a26:=L.a26;have z26:=L.z26;have v26:=L.v26;have t38:=L.t38;have a38:=L.a38;have z38:=L.z38;have v38:=L.v38;have t42:=L.t42;have a42:=L.a42;have z42:=L.z42;have v42:=L.v42
 have u42:=run_underlying L.t42
 have hsz:=M.hsz
 have hlt0:=h.lt
 have L49:LaysGt.n49 P ρ:= { L with }
 have e49: ∀args w,(callFunc (ρ.f 49) args).run P w= .ok (.enter (ρ.f 49) args) w:=enters_of L.f49 (by kernel_rfl) rfl
 have SR: ∀(W1:World) (d1:Array α) (a b n:Nat),M.At d1 W1->a+n<=M.size->b+n<=M.size->Calls P (ρ.f 49) #[.agg #[.func (.func M.g) #[] M.lb,.func (.func M.sf) #[] M.sb],.int .i64 a,.int .i64 b,.int .i64 n] W1 λe w'=>e= .returned (.tuple #[])/\M.Go (Zj a b n d1) W1 w':=
  λW1 d1 a b n h1 h2 h3=>M.swapRange L49 a b n d1 W1 h1 h2 h3
 unfold Fam.data
 have hA:=h.alloc (.cells #[.func (.func M.g) #[] M.lb,.func (.func M.sf) #[] M.sb] (ρ.t 42))
 have k0:(W.alloc (.cells #[.func (.func M.g) #[] M.lb,.func (.func M.sf) #[] M.sb] (ρ.t 42))).cell? ⟨W.heap.size,0,none⟩=some (.func (.func M.g) #[] M.lb):=by simp
 have k1:(W.alloc (.cells #[.func (.func M.g) #[] M.lb,.func (.func M.sf) #[] M.sb] (ρ.t 42))).cell? ⟨W.heap.size,1,none⟩=some (.func (.func M.sf) #[] M.sb):=by simp
 have kz:(W.alloc (.cells #[.func (.func M.g) #[] M.lb,.func (.func M.sf) #[] M.sb] (ρ.t 42))).heap.size=W.heap.size+1:=by simp
 have hds:d.size=M.size:=h.1
 go_enter L.f42,BodyGt.n42_ntmps ρ
 go_wp2
 go_loopg [8,9] (b-a) (λk s8 s9 wr=> ∃(i j:Nat) (dk:Array α),s8= .int .i64 i/\s9= .int .i64 j/\i+j<=k/\0<i/\0<j/\i<=m-a/\j<=b-m/\M.Go dk (W.alloc (.cells #[.func (.func M.g) #[] M.lb,.func (.func M.sf) #[] M.sb] (ρ.t 42))) wr/\PermIn a b d dk/\ ∀d',Rot (m-i) m (m+j) dk d'->Rot a m b d d')
 case atStart=>exact⟨m-a,b-m,d,by go_num,by go_num,by omega,by omega,by omega,by omega,by omega,hA.1.go,permIn_refl _ _ _,λd' hr=>by rw[show m-(m-a)=a by omega,show m+(b-m)=b by omega]at hr;exact hr⟩
 case round=>
  obtain⟨i,j,dk,rfl,rfl,hk,hi0,hj0,hia,hjb,hGo,hP,hR⟩:=hrel
  have c0:=hGo.cell (by omega) (by omega) k0
  have c1:=hGo.cell (by omega) (by omega) k1
  by_cases hij:i=j
  ·subst hij
   have A:Aside (∀d',Rot (m-i) m (m+i) dk d'->Rot a m b d d'):=hR
   clear hR
   have hc:=SR wr dk (m-i) m i hGo.1 (by omega) (by omega)
   rw[show((m-i:Nat):Int)=(m:Int)-i by omega]at hc
   clear SR
   go_wp2_with (go_at_fn (ρ.f 49);refine hc.mono ?_;rintro e w' ⟨rfl,hG⟩)
   go_end0
   exact⟨rfl,_,hA.trans (hGo.trans hG),A.out _ (ZN (by omega) (by have:=hGo.1.1;omega)),permIn_trans _ _ _ _ _ hP (Zg a b (m-i) m dk (by have:=hGo.1.1;omega) i (by omega) (by omega) (by omega) (by omega))⟩
  ·by_cases hgt:j<i
   ·have hc:=SR wr dk (m-i) m j hGo.1 (by omega) (by omega)
    rw[show((m-i:Nat):Int)=(m:Int)-i by omega]at hc
    have A:Aside (∀d',Rot (m-i) m (m+j) dk d'->Rot a m b d d'):=hR
    clear hR SR
    go_wp2_with (go_at_fn (ρ.f 49);refine hc.mono ?_;rintro e w' ⟨rfl,hG⟩)
    go_roundg (i+j-j)
    case measure=>omega
    case rel=>exact⟨i-j,j,Zj (m-i) m j dk,by congr 1;omega,rfl,by omega,by omega,by omega,by omega,by omega,hGo.trans hG,permIn_trans _ _ _ _ _ hP (Zg a b (m-i) m dk (by have:=hGo.1.1;omega) j (by omega) (by omega) (by omega) (by omega)),λd' hr=>A.out _ (ZK (by omega) (by omega) (by omega) (by have:=hGo.1.1;omega) hr)⟩
   ·have hc:=SR wr dk (m-i) (m+j-i) i hGo.1 (by omega) (by omega)
    rw[show((m-i:Nat):Int)=(m:Int)-i by omega,show((m+j-i:Nat):Int)=(m:Int)+j-i by omega]at hc
    have A:Aside (∀d',Rot (m-i) m (m+j) dk d'->Rot a m b d d'):=hR
    clear hR SR
    go_wp2_with (go_at_fn (ρ.f 49);refine hc.mono ?_;rintro e w' ⟨rfl,hG⟩)
    go_roundg (i+j-i)
    case measure=>omega
    case rel=>exact⟨i,j-i,Zj (m-i) (m+j-i) i dk,rfl,by congr 1;omega,by omega,by omega,by omega,by omega,by omega,hGo.trans hG,permIn_trans _ _ _ _ _ hP (Zg a b (m-i) (m+j-i) dk (by have:=hGo.1.1;omega) i (by omega) (by omega) (by omega) (by omega)),λd' hr=>A.out _ (ZB (by omega) (by omega) (by omega) (by have:=hGo.1.1;omega) hr)⟩
end Go.Proofs
set_option linter.all false
namespace Go.Proofs
open Go.Shelf Go.RowKit Go.Lib Go.Sort
variable {α:Type} [Inhabited α] {lt:α->α->Bool}
theorem Zl (h:SWO lt) {x y:α} (hl:lt x y=true):lt y x=false:=by
 cases e:lt y x with
 |false=>rfl
 |true=>have:=h.trans x y x hl e;rw[h.irrefl]at this;exact absurd this (by simp)
theorem Zd (hS:SWO lt) {a b:Nat} {d:Array α} (h:SortedIn lt a b d) {i j:Nat} (ha:a<=i) (hij:i<=j) (hj:j<b):lt d[j]! d[i]! =false:=by
 rcases Nat.lt_or_ge i j with h1|h1
 ·exact h i j ha h1 hj
 ·have:i=j:=by omega
  subst this;exact hS.irrefl _
theorem Zh {m e:Nat} (d:Array α):Rot m m e d d:=by
 intro k;repeat' split
 all_goals first|rfl|(congr 1;omega)
theorem Ze {s m:Nat} (d:Array α):Rot s m m d d:=by
 intro k;repeat' split
 all_goals first|rfl|(congr 1;omega)
theorem ZS {a k:Nat} {d d1:Array α} (ha:a<=k) (hs:k+1<d1.size) (h:Rot a (a+1) (k+1) d d1):Rot a (a+1) (k+2) d (swp d1 k (k+1)):=by
 intro x
 by_cases e1:x=k
 ·subst e1
  rw[swp_left _ _ _ (by omega) (by omega),h]
  repeat' split
  all_goals first|rfl|(congr 1;omega)|(exfalso;omega)
 ·by_cases e2:x=k+1
  ·subst e2
   rw[swp_right _ _ _ (by omega),h]
   repeat' split
   all_goals first|rfl|(congr 1;omega)|(exfalso;omega)
  ·rw[swp_other _ _ _ _ e1 e2,h]
   repeat' split
   all_goals first|rfl|(congr 1;omega)|(exfalso;omega)
theorem ZJ {k m:Nat} {d d1:Array α} (hk:0<k) (hm:k<=m) (hs:m<d1.size) (h:Rot k m (m+1) d d1):Rot (k-1) m (m+1) d (swp d1 k (k-1)):=by
 intro x
 by_cases e1:x=k
 ·subst e1
  rw[swp_left _ _ _ (by omega) (by omega),h]
  repeat' split
  all_goals first|rfl|(congr 1;omega)|(exfalso;omega)
 ·by_cases e2:x=k-1
  ·subst e2
   rw[swp_right _ _ _ (by omega),h]
   repeat' split
   all_goals first|rfl|(congr 1;omega)|(exfalso;omega)
  ·rw[swp_other _ _ _ _ e1 e2,h]
   repeat' split
   all_goals first|rfl|(congr 1;omega)|(exfalso;omega)
theorem ZG (hS:SWO lt) {a b i:Nat} {d d':Array α} (hi:a+1<=i) (hib:i<=b) (hs:SortedIn lt (a+1) b d) (hlo:i=a+1∨lt d[i-1]! d[a]! =true) (hhi:i=b∨lt d[i]! d[a]! =false)
  (h:Rot a (a+1) i d d'):SortedIn lt a b d':=by
 intro x y hx hxy hy
 rw[h x,h y]
 rw[show a+(i-(a+1))=i-1 by omega,show a+1-a=1 by omega]
 by_cases c1:y<i-1
 ·rw[if_pos (by omega),if_pos (by omega)];exact hs _ _ (by omega) (by omega) (by omega)
 ·by_cases c2:y=i-1
  ·subst c2
   rw[if_neg (by omega),if_pos (by omega),if_pos (by omega),show i-1-(i-(a+1))=a by omega]
   rcases hlo with h1|h1
   ·omega
   ·exact hS.ntrans _ d[i-1]! _ (Zl hS h1) (Zd hS hs (by omega) (by omega) (by omega))
  ·rw[if_neg (by omega),if_neg (by omega)]
   by_cases c3:x<i-1
   ·rw[if_pos (by omega)];exact hs _ _ (by omega) (by omega) (by omega)
   ·by_cases c4:x=i-1
    ·subst c4
     rw[if_neg (by omega),if_pos (by omega),show i-1-(i-(a+1))=a by omega]
     rcases hhi with h1|h1
     ·omega
     ·exact hS.ntrans _ d[i]! _ (Zd hS hs (by omega) (by omega) (by omega)) h1
    ·rw[if_neg (by omega),if_neg (by omega)];exact hs _ _ (by omega) (by omega) (by omega)
theorem Zy (hS:SWO lt) {a m i:Nat} {d d':Array α} (hi:a<=i) (him:i<=m) (hs:SortedIn lt a m d) (hlo:i=a∨lt d[m]! d[i-1]! =false) (hhi:i=m∨lt d[m]! d[i]! =true)
  (h:Rot i m (m+1) d d'):SortedIn lt a (m+1) d':=by
 intro x y hx hxy hy
 rw[h x,h y]
 rw[show i+(m+1-m)=i+1 by omega,show m+1-m=1 by omega]
 by_cases c1:y<i
 ·rw[if_neg (by omega),if_neg (by omega),if_neg (by omega),if_neg (by omega)];exact hs _ _ (by omega) (by omega) (by omega)
 ·by_cases c2:y=i
  ·subst c2
   rw[if_pos (by omega),if_neg (by omega),if_neg (by omega),show y+(m-y)=m by omega]
   rcases hlo with h1|h1
   ·omega
   ·exact hS.ntrans _ d[y-1]! _ h1 (Zd hS hs (by omega) (by omega) (by omega))
  ·rw[if_neg (by omega),if_pos (by omega)]
   by_cases c3:x<i
   ·rw[if_neg (by omega),if_neg (by omega)];exact Zd hS hs (by omega) (by omega) (by omega)
   ·by_cases c4:x=i
    ·subst c4
     rw[if_pos (by omega),show x+(m-x)=m by omega]
     rcases hhi with h1|h1
     ·omega
     ·exact hS.ntrans _ d[x]! _ (Zd hS hs (by omega) (by omega) (by omega)) (Zl hS h1)
    ·rw[if_neg (by omega),if_pos (by omega)];exact hs _ _ (by omega) (by omega) (by omega)
def ZP (lt:α->α->Bool) (a m b:Nat) (d:Array α):Prop:= ∀x y,a<=x->x<m->m<=y->y<b->lt d[y]! d[x]! =false
theorem ZO (hS:SWO lt) {a m b mid start:Nat} {d d1:Array α} (hmid:mid=(a+b)/2) (ham:a<m) (hmb:m<b) (hA:SortedIn lt a m d) (hB:SortedIn lt m b d)
  (h1:start<=m) (h1':start<=mid) (h2:a<=start) (h3:mid+m-start<=b)
  (hlo:(start=a∨mid+m-start=b)∨lt d[mid+m-start]! d[start-1]! =false) (hhi:(start=m∨start=mid)∨lt d[mid+m-1-start]! d[start]! =true)
  (h:Rot start m (mid+m-start) d d1):ZP lt a mid b d1/\SortedIn lt a start d1/\SortedIn lt start mid d1/\SortedIn lt mid (mid+m-start) d1/\SortedIn lt (mid+m-start) b d1:=by
 have g1: ∀k,k<start->d1[k]! =d[k]! :=λk hk=>by rw[h k,if_neg (by omega),if_neg (by omega)]
 have g2: ∀k,start<=k->k<mid->d1[k]! =d[k+(m-start)]! :=λk hk hk'=>by rw[h k,if_pos (by omega)]
 have g3: ∀k,mid<=k->k<mid+m-start->d1[k]! =d[k-(mid-start)]! :=λk hk hk'=>by
  rw[h k,if_neg (by omega),if_pos (by omega)];congr 1;omega
 have g4: ∀k,mid+m-start<=k->d1[k]! =d[k]! :=λk hk=>by rw[h k,if_neg (by omega),if_neg (by omega)]
 refine⟨λx y hx hx' hy hy'=>?_,λx y hx hxy hy=>?_,λx y hx hxy hy=>?_,λx y hx hxy hy=>?_,λx y hx hxy hy=>?_⟩
 ·by_cases c1:x<start
  ·rw[g1 x c1]
   by_cases c2:y<mid+m-start
   ·rw[g3 y hy c2];exact hA _ _ (by omega) (by omega) (by omega)
   ·rw[g4 y (by omega)]
    rcases hlo with (h5|h5)|h5
    ·omega
    ·omega
    ·exact hS.ntrans _ d[mid+m-start]! _ (Zd hS hB (by omega) (by omega) (by omega)) (hS.ntrans _ _ _ h5 (Zd hS hA (by omega) (by omega) (by omega)))
  ·rw[g2 x (by omega) hx']
   by_cases c2:y<mid+m-start
   ·rw[g3 y hy c2]
    rcases hhi with (h5|h5)|h5
    ·omega
    ·omega
    ·exact hS.ntrans _ d[start]! _ (Zd hS hA (by omega) (by omega) (by omega)) (hS.ntrans _ _ _ (Zl hS h5) (Zd hS hB (by omega) (by omega) (by omega)))
   ·rw[g4 y (by omega)];exact hB _ _ (by omega) (by omega) (by omega)
 ·rw[g1 x (by omega),g1 y hy];exact hA _ _ hx hxy (by omega)
 ·rw[g2 x hx (by omega),g2 y (by omega) hy];exact hB _ _ (by omega) (by omega) (by omega)
 ·rw[g3 x hx (by omega),g3 y (by omega) hy];exact hA _ _ (by omega) (by omega) (by omega)
 ·rw[g4 x hx,g4 y (by omega)];exact hB _ _ (by omega) hxy hy
theorem ZL {a m b:Nat} {d1 d2 d3:Array α} (hab:a<=m) (hmb:m<=b) (hb:b<=d1.size) (hc:ZP lt a m b d1) (hP:PermIn a m d1 d2) (hs:SortedIn lt a m d2) (hP3:PermIn m b d2 d3) (hs3:SortedIn lt m b d3):SortedIn lt a b d3:=by
 have q1: ∀x,a<=x->x<m-> ∀y,m<=y->y<b->lt d1[y]! d2[x]! =false:=
  permIn_all d1 d2 a m (λz=> ∀y,m<=y->y<b->lt d1[y]! z=false) (by omega) hP (λx h1 h2 y h3 h4=>hc x y h1 h2 h3 h4)
 have q2: ∀y,m<=y->y<b-> ∀x,a<=x->x<m->lt d3[y]! d2[x]! =false:=
  permIn_all d2 d3 m b (λz=> ∀x,a<=x->x<m->lt z d2[x]! =false) (by rw[hP.1];exact hb) hP3 (λy h1 h2 x h3 h4=>by rw[hP.2.1 y (Or.inr h1)];exact q1 x h3 h4 y h1 h2)
 intro x y hx hxy hy
 by_cases c1:y<m
 ·rw[hP3.2.1 x (Or.inl (by omega)),hP3.2.1 y (Or.inl c1)];exact hs x y hx hxy c1
 ·by_cases c2:x<m
  ·rw[hP3.2.1 x (Or.inl c2)];exact q2 y (by omega) hy x hx c2
  ·exact hs3 x y (by omega) hxy hy
end Go.Proofs
set_option linter.all false
namespace Go.Proofs
open Go.Shelf Go.RowKit Go.Lib Go.Sort
variable {P:Program} {ρ:Ren} {α:Type} [Inhabited α]
set_option maxHeartbeats 6400000 in
set_option maxRecDepth 1000000 in
theorem Fam.symOne (M:Fam P ρ α) (L:LaysGt.n30 P ρ) (a m b:Nat) (d:Array α) (W:World) (h:M.At d W) (hm1:a+1<=m) (hm2:m<=a+1) (ham:a+1<b) (hb:b<=M.size):
  Calls P (ρ.f 30) #[M.data,.int .i64 a,.int .i64 m,.int .i64 b] W λe w'=>e= .returned (.tuple #[])/\ ∃d',M.Go d' W w'/\PermIn a b d d'/\(SortedIn M.lt (a+1) b d->SortedIn M.lt a b d'):=by
 have mixed:=L.mixed;have t0:=L.t0;have a0:=L.a0;have z0:=L.z0;have v0:=L.v0;have t3:=L.t3;have a3:=L.a3;have z3:=L.z3;have v3:=L.v3;have t4:=L.t4;have a4:=L.a4;have z4:=L.z4;have v4:=L.v4;have t26:=L.t26;have a26:=L.a26;have z26:=L.z26;have v26:=L.v26;have t38:=L.t38;have a38:=L.a38;have z38:=L.z38;have v38:=L.v38;have t42:=L.t42;have a42:=L.a42;have z42:=L.z42;have v42:=L.v42;have t47:=L.t47;have a47:=L.a47;have z47:=L.z47;have v47:=L.v47
 have u42:=run_underlying L.t42
 have hsz:=M.hsz
 have hlt0:=h.lt
 unfold Fam.data
 have hA:=h.alloc (.cells #[.func (.func M.g) #[] M.lb,.func (.func M.sf) #[] M.sb] (ρ.t 42))
 have k0:(W.alloc (.cells #[.func (.func M.g) #[] M.lb,.func (.func M.sf) #[] M.sb] (ρ.t 42))).cell? ⟨W.heap.size,0,none⟩=some (.func (.func M.g) #[] M.lb):=by simp
 have k1:(W.alloc (.cells #[.func (.func M.g) #[] M.lb,.func (.func M.sf) #[] M.sb] (ρ.t 42))).cell? ⟨W.heap.size,1,none⟩=some (.func (.func M.sf) #[] M.sb):=by simp
 have kz:(W.alloc (.cells #[.func (.func M.g) #[] M.lb,.func (.func M.sf) #[] M.sb] (ρ.t 42))).heap.size=W.heap.size+1:=by simp
 have hds:d.size=M.size:=h.1
 have eg:=M.eg
 have n1:((m:Int)-a==1)=true:=by simp;omega
 go_enter L.f30,BodyGt.n30_ntmps ρ
 go_wp2
 go_loopg [8,9] (b-a) (λk s8 s9 wr=> ∃(i j:Nat),s8= .int .i64 i/\s9= .int .i64 j/\j-i<=k/\a+1<=i/\i<=j/\j<=b/\M.Go d (W.alloc (.cells #[.func (.func M.g) #[] M.lb,.func (.func M.sf) #[] M.sb] (ρ.t 42))) wr/\(i=a+1∨M.lt d[i-1]! d[a]! =true)/\(j=b∨M.lt d[j]! d[a]! =false))
 case atStart=>exact⟨m,b,by go_num,by go_num,by omega,by omega,by omega,by omega,hA.1.go,Or.inl (by omega),Or.inl rfl⟩
 case round=>
  obtain⟨i,j,rfl,rfl,hk,hia,hij,hjb,hGo,hlo,hhi⟩:=hrel
  have c0:=hGo.cell (by omega) (by omega) k0
  have c1:=hGo.cell (by omega) (by omega) k1
  by_cases hlt:i<j
  ·have hl:=hGo.1.less ((i+j)/2) a (by omega) (by omega)
   have eH:((((i+j)/2:Nat)):Int)=((i:Int)+j)/2:=by omega
   rw[eH]at hl
   cases hv:M.lt d[(i+j)/2]! d[a]! with
   |true=>
    rw[hv]at hl
    go_wp2_with (go_at_fn M.g;refine hl.mono ?_;rintro e w' ⟨rfl,q,rfl⟩)
    go_roundg (j-((i+j)/2+1))
    case measure=>omega
    case rel=>exact⟨(i+j)/2+1,j,by congr 1,rfl,by omega,by omega,by omega,by omega,hGo.trans (hGo.1.drewN q),Or.inr hv,hhi⟩
   |false=>
    rw[hv]at hl
    go_wp2_with (go_at_fn M.g;refine hl.mono ?_;rintro e w' ⟨rfl,q,rfl⟩)
    go_roundg ((i+j)/2-i)
    case measure=>omega
    case rel=>exact⟨i,(i+j)/2,rfl,by congr 1,by omega,by omega,by omega,by omega,hGo.trans (hGo.1.drewN q),hlo,Or.inr hv⟩
  ·have e:i=j:=by omega
   subst e
   have B:Aside (i=b∨M.lt d[i]! d[a]! =false):=hhi
   have C:Aside (i=a+1∨M.lt d[i-1]! d[a]! =true):=hlo
   clear hhi hlo
   go_wp2
   go_loopg [11] (b-a) (λk s11 w2=> ∃(x:Nat) (dk:Array α),s11= .int .i64 x/\i-x<=k/\a<=x/\x<i/\M.Go dk wr w2/\Rot a (a+1) (x+1) d dk/\PermIn a b d dk)
   case atStart=>exact⟨a,d,rfl,by omega,by omega,by omega,hGo.1.go,Ze d,permIn_refl _ _ _⟩
   case round=>
    obtain⟨x,dk,rfl,hk2,hax,hxi,hG2,hR,hP⟩:=hrel
    have c3:=hG2.cell (by have:=hGo.2.1;omega) (by omega) c1
    by_cases hx:x+1<i
    ·obtain⟨W',hs,hG3⟩:=hG2.1.swap x (x+1) (by omega) (by omega)
     rw[show((x+1:Nat):Int)=(x:Int)+1 by omega]at hs
     go_wp2
     go_roundg (i-(x+1))
     case measure=>omega
     case rel=>exact⟨x+1,swp dk x (x+1),by simp,by omega,by omega,by omega,hG2.trans hG3,ZS (by omega) (by have:=hG2.1.1;omega) hR,permIn_trans _ _ _ _ _ hP (swp_permIn _ _ _ _ _ (by omega) (by omega) (by omega) (by omega) (by have:=hG2.1.1;omega))⟩
    ·go_wp2
     (try simp only[Exit.inBlock,Exit.then]);refine bodyPost_ret (results_none rfl _ _ _) rfl ?_
     have e:x+1=i:=by omega
     rw[e]at hR
     exact⟨rfl,dk,hA.trans (hGo.trans hG2),hP,λhs=>ZG M.ord (by omega) (by omega) hs C.out B.out hR⟩
set_option maxHeartbeats 6400000 in
set_option maxRecDepth 1000000 in
theorem Fam.symTwo (M:Fam P ρ α) (L:LaysGt.n30 P ρ) (a m b:Nat) (d:Array α) (W:World) (h:M.At d W) (ham:a+1<m) (hm1:m+1<=b) (hm2:b<=m+1) (hb:m+1<=M.size):
  Calls P (ρ.f 30) #[M.data,.int .i64 a,.int .i64 m,.int .i64 b] W λe w'=>e= .returned (.tuple #[])/\ ∃d',M.Go d' W w'/\PermIn a (m+1) d d'/\(SortedIn M.lt a m d->SortedIn M.lt a (m+1) d'):=by
 have mixed:=L.mixed;have t0:=L.t0;have a0:=L.a0;have z0:=L.z0;have v0:=L.v0;have t3:=L.t3;have a3:=L.a3;have z3:=L.z3;have v3:=L.v3;have t4:=L.t4;have a4:=L.a4;have z4:=L.z4;have v4:=L.v4;have t26:=L.t26;have a26:=L.a26;have z26:=L.z26;have v26:=L.v26;have t38:=L.t38;have a38:=L.a38;have z38:=L.z38;have v38:=L.v38;have t42:=L.t42;have a42:=L.a42;have z42:=L.z42;have v42:=L.v42;have t47:=L.t47;have a47:=L.a47;have z47:=L.z47;have v47:=L.v47
 have u42:=run_underlying L.t42
 have hsz:=M.hsz
 have hlt0:=h.lt
 unfold Fam.data
 have hA:=h.alloc (.cells #[.func (.func M.g) #[] M.lb,.func (.func M.sf) #[] M.sb] (ρ.t 42))
 have k0:(W.alloc (.cells #[.func (.func M.g) #[] M.lb,.func (.func M.sf) #[] M.sb] (ρ.t 42))).cell? ⟨W.heap.size,0,none⟩=some (.func (.func M.g) #[] M.lb):=by simp
 have k1:(W.alloc (.cells #[.func (.func M.g) #[] M.lb,.func (.func M.sf) #[] M.sb] (ρ.t 42))).cell? ⟨W.heap.size,1,none⟩=some (.func (.func M.sf) #[] M.sb):=by simp
 have kz:(W.alloc (.cells #[.func (.func M.g) #[] M.lb,.func (.func M.sf) #[] M.sb] (ρ.t 42))).heap.size=W.heap.size+1:=by simp
 have hds:d.size=M.size:=h.1
 have eg:=M.eg
 have n1:((m:Int)-a==1)=false:=by simp;omega
 have n2:((b:Int)-m==1)=true:=by simp;omega
 go_enter L.f30,BodyGt.n30_ntmps ρ
 go_wp2
 go_loopg [12,13] (m-a) (λk s8 s9 wr=> ∃(i j:Nat),s8= .int .i64 i/\s9= .int .i64 j/\j-i<=k/\a<=i/\i<=j/\j<=m/\M.Go d (W.alloc (.cells #[.func (.func M.g) #[] M.lb,.func (.func M.sf) #[] M.sb] (ρ.t 42))) wr/\(i=a∨M.lt d[m]! d[i-1]! =false)/\(j=m∨M.lt d[m]! d[j]! =true))
 case atStart=>exact⟨a,m,by go_num,by go_num,by omega,by omega,by omega,by omega,hA.1.go,Or.inl rfl,Or.inl rfl⟩
 case round=>
  obtain⟨i,j,rfl,rfl,hk,hia,hij,hjb,hGo,hlo,hhi⟩:=hrel
  have c0:=hGo.cell (by omega) (by omega) k0
  have c1:=hGo.cell (by omega) (by omega) k1
  by_cases hlt:i<j
  ·have hl:=hGo.1.less m ((i+j)/2) (by omega) (by omega)
   have eH:((((i+j)/2:Nat)):Int)=((i:Int)+j)/2:=by omega
   rw[eH]at hl
   cases hv:M.lt d[m]! d[(i+j)/2]! with
   |false=>
    rw[hv]at hl
    go_wp2_with (go_at_fn M.g;refine hl.mono ?_;rintro e w' ⟨rfl,q,rfl⟩)
    go_roundg (j-((i+j)/2+1))
    case measure=>omega
    case rel=>exact⟨(i+j)/2+1,j,by congr 1,rfl,by omega,by omega,by omega,by omega,hGo.trans (hGo.1.drewN q),Or.inr hv,hhi⟩
   |true=>
    rw[hv]at hl
    go_wp2_with (go_at_fn M.g;refine hl.mono ?_;rintro e w' ⟨rfl,q,rfl⟩)
    go_roundg ((i+j)/2-i)
    case measure=>omega
    case rel=>exact⟨i,(i+j)/2,rfl,by congr 1,by omega,by omega,by omega,by omega,hGo.trans (hGo.1.drewN q),hlo,Or.inr hv⟩
  ·have e:i=j:=by omega
   subst e
   have B:Aside (i=m∨M.lt d[m]! d[i]! =true):=hhi
   have C:Aside (i=a∨M.lt d[m]! d[i-1]! =false):=hlo
   clear hhi hlo
   go_wp2
   go_loopg [15] (m-a) (λk s11 w2=> ∃(x:Nat) (dk:Array α),s11= .int .i64 x/\x-i<=k/\x<=m/\i<=x/\M.Go dk wr w2/\Rot x m (m+1) d dk/\PermIn a (m+1) d dk)
   case atStart=>exact⟨m,d,rfl,by omega,by omega,by omega,hGo.1.go,Zh d,permIn_refl _ _ _⟩
   case round=>
    obtain⟨x,dk,rfl,hk2,hax,hxi,hG2,hR,hP⟩:=hrel
    have c3:=hG2.cell (by have:=hGo.2.1;omega) (by omega) c1
    by_cases hx:i<x
    ·obtain⟨W',hs,hG3⟩:=hG2.1.swap x (x-1) (by omega) (by omega)
     rw[show((x-1:Nat):Int)=(x:Int)-1 by omega]at hs
     go_wp2
     go_roundg (x-1-i)
     case measure=>omega
     case rel=>exact⟨x-1,swp dk x (x-1),by congr 1;omega,by omega,by omega,by omega,hG2.trans hG3,ZJ (by omega) (by omega) (by have:=hG2.1.1;omega) hR,permIn_trans _ _ _ _ _ hP (swp_permIn _ _ _ _ _ (by omega) (by omega) (by omega) (by omega) (by have:=hG2.1.1;omega))⟩
    ·go_wp2
     (try simp only[Exit.inBlock,Exit.then]);refine bodyPost_ret (results_none rfl _ _ _) rfl ?_
     have e:x=i:=by omega
     rw[e]at hR
     exact⟨rfl,dk,hA.trans (hGo.trans hG2),hP,λhs=>Zy M.ord (by omega) (by omega) hs C.out B.out hR⟩
end Go.Proofs
