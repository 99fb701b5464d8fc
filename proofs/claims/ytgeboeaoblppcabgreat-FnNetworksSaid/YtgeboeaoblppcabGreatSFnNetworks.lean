/- The order of rows, and the function that sorts them; no conditions. -/
import Derived.Test.YtgeboeaoblppcabGreatS3
import Derived.Test.YtgeboeaoblppcabGreatPFnNetworks
import Derived.OwnWalk
import Derived.Test.YtgeboeaoblppcabGreatProg
import Derived.Shelf.GgSortMore.Stable
import Derived.Deep.QuietTactic
import Derived.BigQuiet
import Derived.LoopTactic
set_option linter.all false
set_option linter.all false
namespace Go.Proofs
open Go.Shelf Go.RowKit Go.Lib Go.Sort Go.Va
def Tryz.sl8_ren:Go.Shelf.Ren:=⟨fun|8=>85|13=>87|14=>88|16=>90|15=>89|29=>100|30=>101|42=>102|49=>103|n=>n,fun|20=>20|26=>110|36=>114|0=>0|38=>116|42=>120|3=>3|4=>4|47=>92|17=>17|33=>111|34=>112|89=>140|12=>12|56=>132|82=>133|5=>5|83=>134|84=>135|85=>136|86=>137|87=>138|n=>n,fun|n=>n⟩
theorem Tryz.sl8:Go.Proofs.LaysGt.n8 Tryz.prog Tryz.sl8_ren:= {
 mixed:=by kernel_rfl
 f8:=Tryz.func85.trans (congrArg some (by kernel_rfl))
 f13:=Tryz.func87.trans (congrArg some (by kernel_rfl))
 f14:=Tryz.func88.trans (congrArg some (by kernel_rfl))
 f15:=Tryz.func89.trans (congrArg some (by kernel_rfl))
 f16:=Tryz.func90.trans (congrArg some (by kernel_rfl))
 f29:=Tryz.func100.trans (congrArg some (by kernel_rfl))
 f30:=Tryz.func101.trans (congrArg some (by kernel_rfl))
 f42:=Tryz.func102.trans (congrArg some (by kernel_rfl))
 f49:=Tryz.func103.trans (congrArg some (by kernel_rfl))
 t0:=Tryz.underlying0
 a0:=Tryz.isAgg0
 z0:=Tryz.sizeOf0
 v0:=Tryz.zeroValue0
 i0:=by kernel_rfl
 t3:=Tryz.underlying3
 a3:=Tryz.isAgg3
 z3:=Tryz.sizeOf3
 v3:=Tryz.zeroValue3
 i3:=by kernel_rfl
 t4:=Tryz.underlying4
 a4:=Tryz.isAgg4
 z4:=Tryz.sizeOf4
 v4:=Tryz.zeroValue4
 i4:=by kernel_rfl
 t5:=Tryz.underlying5
 a5:=Tryz.isAgg5
 z5:=Tryz.sizeOf5
 v5:=Tryz.zeroValue5
 i5:=by kernel_rfl
 t12:=Tryz.underlying12
 a12:=Tryz.isAgg12
 z12:=Tryz.sizeOf12
 v12:=Tryz.zeroValue12
 i12:=by kernel_rfl
 t17:=Tryz.underlying17
 a17:=Tryz.isAgg17
 z17:=Tryz.sizeOf17
 v17:=Tryz.zeroValue17
 i17:=by kernel_rfl
 t20:=Tryz.underlying20
 a20:=Tryz.isAgg20
 z20:=Tryz.sizeOf20
 v20:=Tryz.zeroValue20
 i20:=by kernel_rfl
 t26:=Tryz.underlying110
 a26:=Tryz.isAgg110
 z26:=Tryz.sizeOf110
 v26:=Tryz.zeroValue110
 i26:=by kernel_rfl
 t33:=Tryz.underlying111
 a33:=Tryz.isAgg111
 z33:=Tryz.sizeOf111
 v33:=Tryz.zeroValue111
 i33:=by kernel_rfl
 t34:=Tryz.underlying112
 a34:=Tryz.isAgg112
 z34:=Tryz.sizeOf112
 v34:=Tryz.zeroValue112
 i34:=by kernel_rfl
 t36:=Tryz.underlying114
 a36:=Tryz.isAgg114
 z36:=Tryz.sizeOf114
 v36:=Tryz.zeroValue114
 i36:=by kernel_rfl
 t38:=Tryz.underlying116
 a38:=Tryz.isAgg116
 z38:=Tryz.sizeOf116
 v38:=Tryz.zeroValue116
 i38:=by kernel_rfl
 t42:=Tryz.underlying120
 a42:=Tryz.isAgg120
 z42:=Tryz.sizeOf120
 v42:=Tryz.zeroValue120
 i42:=by kernel_rfl
 t47:=Tryz.underlying92
 a47:=Tryz.isAgg92
 z47:=Tryz.sizeOf92
 v47:=Tryz.zeroValue92
 i47:=by kernel_rfl
 t56:=Tryz.underlying132
 a56:=Tryz.isAgg132
 z56:=Tryz.sizeOf132
 v56:=Tryz.zeroValue132
 i56:=by kernel_rfl
 t82:=Tryz.underlying133
 a82:=Tryz.isAgg133
 z82:=Tryz.sizeOf133
 v82:=Tryz.zeroValue133
 i82:=by kernel_rfl
 t83:=Tryz.underlying134
 a83:=Tryz.isAgg134
 z83:=Tryz.sizeOf134
 v83:=Tryz.zeroValue134
 i83:=by kernel_rfl
 t84:=Tryz.underlying135
 a84:=Tryz.isAgg135
 z84:=Tryz.sizeOf135
 v84:=Tryz.zeroValue135
 i84:=by kernel_rfl
 t85:=Tryz.underlying136
 a85:=Tryz.isAgg136
 z85:=Tryz.sizeOf136
 v85:=Tryz.zeroValue136
 i85:=by kernel_rfl
 t86:=Tryz.underlying137
 a86:=Tryz.isAgg137
 z86:=Tryz.sizeOf137
 v86:=Tryz.zeroValue137
 i86:=by kernel_rfl
 t87:=Tryz.underlying138
 a87:=Tryz.isAgg138
 z87:=Tryz.sizeOf138
 v87:=Tryz.zeroValue138
 i87:=by kernel_rfl
 t89:=Tryz.underlying140
 a89:=Tryz.isAgg140
 z89:=Tryz.sizeOf140
 v89:=Tryz.zeroValue140
 i89:=by kernel_rfl }
set_option maxHeartbeats 4000000 in
set_option maxRecDepth 100000 in
theorem cmpLists_full (pa pb:Option Addr) (la lb ca cb:Nat) (W:World) (GA GB:Nat->Int) (R:Nat->Int) (hla:la<4611686018427387904) (hlb:lb<4611686018427387904)
  (ba oa bb ob:Nat) (ha: ∀t,t<la->W.cell? ⟨ba,oa+t,none⟩=some (.int .i64 (GA t))) (hb: ∀t,t<lb->W.cell? ⟨bb,ob+t,none⟩=some (.int .i64 (GB t)))
  (r1: ∀i,i<la->i<lb->GA i=GB i->R i=R (i+1)) (r2: ∀i,i<la->i<lb->GA i<GB i->R i= -1) (r3: ∀i,i<la->i<lb->GB i<GA i->R i=1)
  (r4: ∀i,i<=la->i<=lb->(i=la∨i=lb)->R i=if la<lb then-1 else if lb<la then 1 else 0):
  Calls Tryz.prog 81 #[.slice (some ⟨ba,oa,none⟩) la ca,.slice (some ⟨bb,ob,none⟩) lb cb] W λe w'=>e= .returned (.int .i64 (R 0))/\ ∃q,w'=W.drewN q:=by
 have A1:Aside (∀i,i<la->i<lb->GA i=GB i->R i=R (i+1)):=r1
 have A2:Aside (∀i,i<la->i<lb->GA i<GB i->R i= -1):=r2
 have A3:Aside (∀i,i<la->i<lb->GB i<GA i->R i=1):=r3
 have A4:Aside (∀i,i<=la->i<=lb->(i=la∨i=lb)->R i=if la<lb then-1 else if lb<la then 1 else 0):=r4
 have A5:Aside (∀t,t<la->W.cell? ⟨ba,oa+t,none⟩=some (.int .i64 (GA t))):=ha
 have A6:Aside (∀t,t<lb->W.cell? ⟨bb,ob+t,none⟩=some (.int .i64 (GB t))):=hb
 clear r1 r2 r3 r4 ha hb
 go_enter Tryz.func81,Tryz.ntmps81
 go_wp2
 go_loopg [5] (la+1) (λk s5 wr=> ∃i q:Nat,s5= .int .i64 i/\i+k=la+1/\i<=la/\i<=lb/\wr=W.drewN q/\Hid (R i=R 0))
 case atStart=>exact⟨0,0,rfl,by omega,by omega,by omega,rfl,rfl⟩
 case round=>
  obtain⟨i,q,rfl,hk,hia,hib,rfl,hR⟩:=hrel
  by_cases h1:i<la
  ·by_cases h2:i<lb
   ·have c1:=A5.out i h1
    have c2:=A6.out i h2
    rcases Int.lt_trichotomy (GA i) (GB i)with h3|h3|h3
    ·have e1:(GA i==GB i)=false:=by simp;omega
     have e2:R 0= -1:=by rw[←hR];exact A2.out i h1 h2 h3
     clear hR
     go_wp2
     go_quiet (fail)
     go_wp2
     go_quiet (fail)
     go_wp2
     go_ret
     exact⟨by rw[e2];rfl,_,by rw[World.drewN_drewN,World.drewN_drewN]⟩
    ·have e1:(GA i==GB i)=true:=by simp;omega
     go_wp2
     go_quiet (fail)
     go_wp2
     go_roundg (la-i)
     case measure=>omega
     case rel=>exact⟨i+1,q+nq,by congr 1,by omega,by omega,by omega,rfl,by rw[←A1.out i h1 h2 h3];exact hR⟩
    ·have e1:(GA i==GB i)=false:=by simp;omega
     have e2:R 0=1:=by rw[←hR];exact A3.out i h1 h2 h3
     have h4: ¬GA i<GB i:=by omega
     clear hR
     go_wp2
     go_quiet (fail)
     go_wp2
     go_quiet (fail)
     go_wp2
     go_ret
     exact⟨by rw[e2];rfl,_,by rw[World.drewN_drewN,World.drewN_drewN]⟩
   ·have e2:R 0=1:=by rw[←hR,A4.out i hia hib (by omega),if_neg (by omega),if_pos (by omega)]
    have h5:lb<la:=by omega
    clear hR
    go_wp2
    go_ret
    exact⟨by rw[e2];rfl,_,rfl⟩
  ·by_cases h5:la<lb
   ·have e2:R 0= -1:=by rw[←hR,A4.out i hia hib (by omega),if_pos h5]
    clear hR
    go_wp2
    go_ret
    exact⟨by rw[e2];rfl,_,rfl⟩
   ·have e2:R 0=0:=by rw[←hR,A4.out i hia hib (by omega),if_neg h5,if_neg (by omega)]
    have h6: ¬lb<la:=by omega
    clear hR
    go_wp2
    go_ret
    exact⟨by rw[e2];rfl,_,rfl⟩
set_option maxHeartbeats 4000000 in
set_option maxRecDepth 100000 in
theorem cmpLists_none (pa pb:Option Addr) (la lb ca cb:Nat) (W:World) (hla:la<4611686018427387904) (hlb:lb<4611686018427387904) (h0:la=0∨lb=0):
  Calls Tryz.prog 81 #[.slice pa la ca,.slice pb lb cb] W λe w'=>e= .returned (.int .i64 (if la<lb then-1 else if lb<la then 1 else 0))/\ ∃q,w'=W.drewN q:=by
 by_cases h1:la<lb
 ·have h2:la=0:=by omega
  subst h2
  rw[if_pos h1]
  go_enter Tryz.func81,Tryz.ntmps81
  go_wp2
  refine wp_loop_rounds 1 ?_
  rw[rounds_succ]
  go_wp2
  go_ret
  exact⟨rfl,0,rfl⟩
 ·by_cases h3:lb<la
  ·have h2:lb=0:=by omega
   subst h2
   rw[if_neg h1,if_pos h3]
   go_enter Tryz.func81,Tryz.ntmps81
   go_wp2
   refine wp_loop_rounds 1 ?_
   rw[rounds_succ]
   go_wp2
   go_ret
   exact⟨rfl,0,rfl⟩
  ·have h2:la=0:=by omega
   have h4:lb=0:=by omega
   subst h2;subst h4
   rw[if_neg h1,if_neg h3]
   go_enter Tryz.func81,Tryz.ntmps81
   go_wp2
   refine wp_loop_rounds 1 ?_
   rw[rounds_succ]
   go_wp2
   go_ret
   exact⟨rfl,0,rfl⟩
noncomputable def Tryz.siT:TypeInfo:=(Tryz.prog.info? 35).get (by kernel_rfl)
noncomputable def Tryz.siE:TypeInfo:=(Tryz.prog.info? 27).get (by kernel_rfl)
theorem Tryz.siK (n:Nat) (h2:2<=n):Lib.swapperK n Tryz.siE 23=9:=by
 have a:Tryz.siE.hasPointers=true:=by kernel_rfl
 have b:Tryz.siE.bytes=24:=by kernel_rfl
 have c:(n==0)=false:=by simp;omega
 have d:(n==1)=false:=by simp;omega
 simp[Lib.swapperK,a,b,c,d]
theorem cell_drewN (w:World) (n:Nat) (a:Addr):(w.drewN n).cell? a=w.cell? a:=rfl
structure RowAt (V:World) (F:Fp) (x:RowE):Prop where
 rep: ∃dd fp,Rep V F (.slice .int) dd [RowE.enc x] x.2 fp
 small:List.length x.2<=lim
theorem row_cells {V:World} {F:Fp} {x:RowE} (h:RowAt V F x):List.length x.2=x.1.2.1/\(0<List.length x.2-> ∃b off,x.1.1=some ⟨b,off,none⟩/\ ∀t,t<List.length x.2->V.cell? ⟨b,off+t,none⟩=some (.int .i64 (x.2.getD t 0))):=by
 obtain⟨⟨a,l,c⟩,xs⟩:=x
 obtain⟨dd,fp,hr⟩:=h.rep
 have hr:Rep V F (.slice .int) dd [.slice a l c] xs fp:=hr
 cases dd with
 |zero=>
  rcases hr.2 with ⟨⟨a',e⟩,e2⟩|⟨b,off,len,cap,e,hlen,_,_,hc⟩
  ·simp only[List.cons.injEq,Value.slice.injEq,and_true]at e
   obtain⟨_,rfl,_⟩:=e
   exact⟨by rw[e2];rfl,λh=>by rw[e2]at h;exact absurd h (Nat.lt_irrefl 0)⟩
  ·simp only[List.cons.injEq,Value.slice.injEq,and_true]at e
   obtain⟨rfl,rfl,rfl⟩:=e
   have hlen: @List.length Int xs=l:=hlen
   refine⟨hlen,λ_=>⟨b,off,rfl,λt ht=>?_⟩⟩
   have hx:xs[t]? =some (xs.getD t 0):=by rw[List.getD_eq_getElem?_getD,List.getElem?_eq_getElem ht];rfl
   obtain⟨ci,hl,hv⟩:=hc t _ hx
   have hv:ci= [.int .i64 (xs.getD t 0)]:=hv.1
   have:=hl 0 (.int .i64 (xs.getD t 0)) (by rw[hv];rfl)
   rw[show off+t*Ty.int.cells+0=off+t from by show off+t*1+0=off+t;omega]at this
   exact this
 |succ dd=>
  rcases hr with ⟨e,e2,_⟩|⟨b,len,cap,cs,fps,e,hblk,_,hlen,_,_,_,_,hc⟩
  ·simp only[List.cons.injEq,Value.slice.injEq,and_true]at e
   obtain⟨_,rfl,_⟩:=e
   exact⟨by rw[e2];rfl,λh=>by rw[e2]at h;exact absurd h (Nat.lt_irrefl 0)⟩
  ·simp only[List.cons.injEq,Value.slice.injEq,and_true]at e
   obtain⟨rfl,rfl,rfl⟩:=e
   have hlen: @List.length Int xs=l:=hlen
   refine⟨hlen,λ_=>⟨b,0,rfl,λt ht=>?_⟩⟩
   have hx:xs[t]? =some (xs.getD t 0):=by rw[List.getD_eq_getElem?_getD,List.getElem?_eq_getElem ht];rfl
   have hv:(cs.drop (t*1)).take 1= [.int .i64 (xs.getD t 0)]:=(hc t _ hx).1
   rw[hblk.lies,Nat.zero_add]
   have h1:((cs.drop (t*1)).take 1)[0]? =some (.int .i64 (xs.getD t 0)):=by rw[hv];rfl
   rw[List.getElem?_take_of_lt (by omega),List.getElem?_drop,Nat.mul_one,Nat.add_zero]at h1
   exact h1
theorem cmpL_step {A B:List Int} {i:Nat} (ha:i<A.length) (hb:i<B.length):T.cmpL (A.drop i) (B.drop i)=if A.getD i 0=B.getD i 0 then T.cmpL (A.drop (i+1)) (B.drop (i+1))else if A.getD i 0<B.getD i 0 then-1 else 1:=by
 rw[List.drop_eq_getElem_cons ha,List.drop_eq_getElem_cons hb,T.cmpL]
 rw[List.getD_eq_getElem?_getD,List.getD_eq_getElem?_getD,List.getElem?_eq_getElem ha,List.getElem?_eq_getElem hb]
 rfl
theorem cmpL_end {A B:List Int}: ∀ {i:Nat},i<=A.length->i<=B.length->(i=A.length∨i=B.length)->T.cmpL (A.drop i) (B.drop i)=if A.length<B.length then-1 else if B.length<A.length then 1 else 0:=by
 intro i ha hb h
 rcases h with h|h
 ·rw[List.drop_eq_nil_of_le (Nat.le_of_eq h.symm)]
  by_cases h2:A.length<B.length
  ·rw[if_pos h2,List.drop_eq_getElem_cons (by omega)];rfl
  ·rw[if_neg h2,if_neg (by omega),List.drop_eq_nil_of_le (by omega)];rfl
 ·rw[show B.drop i= [] from List.drop_eq_nil_of_le (Nat.le_of_eq h.symm)]
  by_cases h2:B.length<A.length
  ·rw[if_neg (by omega),if_pos h2,List.drop_eq_getElem_cons (by omega)];rfl
  ·rw[if_neg (by omega),if_neg h2,List.drop_eq_nil_of_le (by omega)];rfl
theorem cmp_rows {V:World} {F:Fp} {x y:RowE} (hx:RowAt V F x) (hy:RowAt V F y):
  Calls Tryz.prog 81 #[RowE.enc x,RowE.enc y] V λe w'=>e= .returned (.int .i64 (T.cmpL x.2 y.2))/\ ∃m,w'=V.drewN m:=by
 obtain⟨l1,c1⟩:=row_cells hx
 obtain⟨l2,c2⟩:=row_cells hy
 have z1:=hx.small;have z2:=hy.small
 have hlim:lim=1099511627776:=rfl
 have e0: ∀s:List Int,s.drop 0=s:=λs=>rfl
 show Calls Tryz.prog 81 #[.slice x.1.1 x.1.2.1 x.1.2.2,.slice y.1.1 y.1.2.1 y.1.2.2] V _
 rw[←l1,←l2]
 by_cases h0:List.length x.2=0∨List.length y.2=0
 ·have:=cmpLists_none x.1.1 y.1.1 (List.length x.2) (List.length y.2) x.1.2.2 y.1.2.2 V (by omega) (by omega) h0
  rw[←cmpL_end (A:=x.2) (B:=y.2) (i:=0) (Nat.zero_le _) (Nat.zero_le _) (by omega)]at this
  exact this
 ·obtain⟨b1,o1,e1,g1⟩:=c1 (by omega)
  obtain⟨b2,o2,e2,g2⟩:=c2 (by omega)
  rw[e1,e2]
  exact cmpLists_full none none _ _ _ _ V (λt=>x.2.getD t 0) (λt=>y.2.getD t 0) (λi=>T.cmpL (x.2.drop i) (y.2.drop i)) (by omega) (by omega) b1 o1 b2 o2 g1 g2
   (λi h1 h2 h3=>by show T.cmpL _ _=_;rw[cmpL_step h1 h2,if_pos h3])
   (λi h1 h2 h3=>by show T.cmpL _ _=_;rw[cmpL_step h1 h2,if_neg (by omega),if_pos h3])
   (λi h1 h2 h3=>by show T.cmpL _ _=_;rw[cmpL_step h1 h2,if_neg (by omega),if_neg (by omega)])
   (λi h1 h2 h3=>cmpL_end h1 h2 h3)
theorem cmp_cmpL:Cmp T.cmpL where
 refl:=T.cmpL_refl
 symm s t:=T.cmpL_symm s t
 eq s t h:=T.cmpL_eq.1 h
 trans s t u h1 h2:=T.cmpL_trans h1 h2
set_option maxHeartbeats 4000000 in
set_option maxRecDepth 100000 in
theorem less_rows_cmpL (Bo Br blk size cp i j:Nat) (W:World) (p:Nat->Option Addr) (l c:Nat->Nat) (R:Int) (hi:i<size) (hj:j<size)
  (hs:W.cell? ⟨Br,0,none⟩=some (.slice (some ⟨blk,0,none⟩) size cp)) (ho:W.cell? ⟨Bo,0,none⟩=some (.func (.func 81) #[] #[]))
  (hc: ∀t,t<size->W.cell? ⟨blk,t,none⟩=some (.slice (p t) (l t) (c t)))
  (hcmp: ∀q,Calls Tryz.prog 81 #[.slice (p i) (l i) (c i),.slice (p j) (l j) (c j)] (W.drewN q) λe w'=>e= .returned (.int .i64 R)/\ ∃m,w'=(W.drewN q).drewN m):
  Calls Tryz.prog 86 #[.int .i64 i,.int .i64 j,.pointer (some ⟨Bo,0,none⟩),.pointer (some ⟨Br,0,none⟩)] W λe w'=>e= .returned (.bool (decide (R<0)))/\ ∃q,w'=W.drewN q:=by
 have ci:=hc i hi
 have cj:=hc j hj
 go_enter Tryz.func86,Tryz.ntmps86
 go_wp2
 go_quiet (first|(go_at_call 81;refine Calls.quiet_of (hcmp _)))
 go_wp2
 go_ret
 exact⟨rfl,nq,rfl⟩
set_option maxHeartbeats 4000000 in
theorem less_reads_cmpL (w:World) (F:Fp) (dd len:Nat) (fps:Nat->Fp) [Inhabited (RowT w F dd len fps)] (b cap:Nat) (d:Array (RowT w F dd len fps)) (hnb: ∀i,i<len-> ¬fps i b) (hfl: ∀i n,i<len->fps i n->n<w.heap.size) (hH:Sort.Holds (RowT.enc (w:=w) (F:=F) (dd:=dd) (len:=len) (fps:=fps)) w b 0 d) (hbF: ¬F b) (hF: ∀n,F n->n<w.heap.size) (hb:b<w.heap.size):
  LessReads Tryz.prog 86 #[.pointer (some ⟨w.heap.size+1,0,none⟩),.pointer (some ⟨w.heap.size,0,none⟩)] (RowT.enc (w:=w) (F:=F) (dd:=dd) (len:=len) (fps:=fps)) (RowT.lt T.cmpL (w:=w) (F:=F) (dd:=dd) (len:=len) (fps:=fps)) b 0 d.size ((w.alloc (.cells #[.slice (some ⟨b,0,none⟩) d.size cap] 35)).alloc (.cells #[.func (.func 81) #[] #[]] 107)):=by
 intro m os dk hs i j hi hj
 obtain⟨w1,hw1⟩: ∃w1,w1=(w.alloc (.cells #[.slice (some ⟨b,0,none⟩) d.size cap] 35)).alloc (.cells #[.func (.func 81) #[] #[]] 107):=⟨_,rfl⟩
 rw[←hw1]
 have z1:w1.heap.size=w.heap.size+2:=by rw[hw1];simp
 have g1:w1=grow w #[.cells #[.slice (some ⟨b,0,none⟩) d.size cap] 35,.cells #[.func (.func 81) #[] #[]] 107]:=by rw[hw1,alloc_eq_grow,alloc_eq_grow,grow_grow];rfl
 have k1:w1.cell? ⟨w.heap.size,0,none⟩=some (.slice (some ⟨b,0,none⟩) d.size cap):=by rw[hw1,World.cell?_alloc_past _ _ _ (by simp)];simp
 have k2:w1.cell? ⟨w.heap.size+1,0,none⟩=some (.func (.func 81) #[] #[]):=by
  rw[hw1]
  have:w.heap.size+1=(w.alloc (.cells #[.slice (some ⟨b,0,none⟩) d.size cap] 35)).heap.size:=by simp
  rw[this];simp
 have hH1:Sort.Holds (RowT.enc (w:=w) (F:=F) (dd:=dd) (len:=len) (fps:=fps)) w1 b 0 d:=by rw[g1];exact holds_grow _ w _ b 0 d hb hH
 have hHk:=holds_sortWorld (RowT.enc (w:=w) (F:=F) (dd:=dd) (len:=len) (fps:=fps)) w1 b 0 m d dk os (by omega) hH1 hs
 obtain⟨V,hV⟩: ∃V,V=sortWorld (RowT.enc (w:=w) (F:=F) (dd:=dd) (len:=len) (fps:=fps)) w1 b 0 m dk os:=⟨_,rfl⟩
 rw[←hV]at hHk⊢
 have o1:V.cell? ⟨w.heap.size,0,none⟩=some (.slice (some ⟨b,0,none⟩) d.size cap):=by
  rw[hV];unfold sortWorld
  rw[cell?_grow _ _ _ (by rw[size_putRow];show w.heap.size<w1.heap.size;omega),cell?_putRow_other _ _ _ _ _ _ (Or.inl (by show w.heap.size≠b;omega))]
  exact k1
 have o2:V.cell? ⟨w.heap.size+1,0,none⟩=some (.func (.func 81) #[] #[]):=by
  rw[hV];unfold sortWorld
  rw[cell?_grow _ _ _ (by rw[size_putRow];show w.heap.size+1<w1.heap.size;omega),cell?_putRow_other _ _ _ _ _ _ (Or.inl (by show w.heap.size+1≠b;omega))]
  exact k2
 have hk0: ∀n,n<w.heap.size->n≠b->V.heap[n]? =w.heap[n]? :=λn h1 h2=>by
  rw[hV,Zr _ _ _ _ _ _ (by omega) (by omega) h2,g1,heap_grow_old _ _ h1]
 have ok: ∀x:RowT w F dd len fps,∀q,RowAt (V.drewN q) F x.x:=λx q=>⟨⟨dd,_,Rep.keep _ x.ok (λn hn=>hk0 n (hF n hn) (λe=>hbF (by rw[←e];exact hn))) (λn hn=>hk0 n (hfl _ n x.hi hn) (λe=>hnb _ x.hi (by rw[←e];exact hn)))⟩,x.small⟩
 exact less_rows_cmpL (w.heap.size+1) w.heap.size b d.size cap i j V (λt=>dk[t]!.x.1.1) (λt=>dk[t]!.x.1.2.1) (λt=>dk[t]!.x.1.2.2) _ hi hj o1 o2
  (λt ht=>by have:=(hHk t (by omega)).1;rw[Nat.zero_add]at this;exact this) (λq=>cmp_rows (ok dk[i]! q) (ok dk[j]! q))
set_option maxHeartbeats 4000000 in
theorem sort_tiny_cmpL (w:World) (a:Option Addr) (n c:Nat) (hn:n<=1):Calls Tryz.prog 80 #[.slice a n c,.func (.func 81) #[] #[]] w λe w'=>e= .returned (.tuple #[])/\ ∃os,w'=grow w os:=by
 have hS: ∀W,Calls Tryz.prog 85 #[.iface 35 (.slice a n c),.func (.func 86) #[] #[.pointer (some ⟨w.heap.size+1,0,none⟩),.pointer (some ⟨w.heap.size,0,none⟩)]] W λe w'=>e= .returned (.tuple #[])/\ ∃os,w'=grow W os:=by
  intro W
  rcases Nat.le_one_iff_eq_zero_or_eq_one.1 hn with rfl|rfl
  ·exact Any.sort_SliceStable_tiny Tryz.sl8 35 27 Tryz.siT Tryz.siE (by kernel_rfl) (by kernel_rfl) (by kernel_rfl) (by kernel_rfl) 23 (λ_=>by kernel_rfl) a 0 c (by omega) 91 (by kernel_rfl) (.func 86) #[] _ W
  ·exact Any.sort_SliceStable_tiny Tryz.sl8 35 27 Tryz.siT Tryz.siE (by kernel_rfl) (by kernel_rfl) (by kernel_rfl) (by kernel_rfl) 23 (λ_=>by kernel_rfl) a 1 c (by omega) 92 (by kernel_rfl) (.func 86) #[] _ W
 go_enter Tryz.func80,Tryz.ntmps80
 go_wp2_with (go_at_call 85;refine(hS _).mono ?_;rintro e w' ⟨rfl,os,rfl⟩)
 go_end0
 exact⟨rfl,_,by rw[alloc_eq_grow,alloc_eq_grow,grow_grow,grow_grow]⟩
set_option maxHeartbeats 4000000 in
theorem sort_core_cmpL (w:World) (F:Fp) (dd len:Nat) (fps:Nat->Fp) [Inhabited (RowT w F dd len fps)] (b cap:Nat) (d:Array (RowT w F dd len fps)) (hnb: ∀i,i<len-> ¬fps i b) (hfl: ∀i n,i<len->fps i n->n<w.heap.size) (h2:2<=d.size) (hlim:d.size<=lim) (hH:Sort.Holds (RowT.enc (w:=w) (F:=F) (dd:=dd) (len:=len) (fps:=fps)) w b 0 d) (hbF: ¬F b) (hF: ∀n,F n->n<w.heap.size) (hb:b<w.heap.size):
  Calls Tryz.prog 80 #[.slice (some ⟨b,0,none⟩) d.size cap,.func (.func 81) #[] #[]] w λe w'=>e= .returned (.tuple #[])/\ ∃d' n os,PermIn 0 d.size d d'/\SortedIn (RowT.lt T.cmpL) 0 d.size d'/\w'=sortWorld RowT.enc w b 0 n d' os:=by
 have hl:=less_reads_cmpL w F dd len fps b cap d hnb hfl hH hbF hF hb
 have hlimn:lim=1099511627776:=rfl
 have hsz:d.size<4611686018427387904:=by omega
 have hSW:=((SW.start hH).alloc (.cells #[.slice (some ⟨b,0,none⟩) d.size cap] 35)).alloc (.cells #[.func (.func 81) #[] #[]] 107)
 have hS:=ZC Tryz.sl8 35 27 Tryz.siT Tryz.siE (by kernel_rfl) (by kernel_rfl) (by kernel_rfl) (by kernel_rfl) 23 (λ_=>by kernel_rfl) (by kernel_rfl) (λ_=>by kernel_rfl) (RowT.enc (w:=w) (F:=F) (dd:=dd) (len:=len) (fps:=fps)) (λx=>RowE.one x.x) (RowT.lt T.cmpL) (cmp_cmpL.swo RowT.row) 86 _
  (enters_of Tryz.func86 (by kernel_rfl) rfl) b 0 cap d h2 hsz 99 false
  (λargs W=>run_callFunc_extern Tryz.func99 (by kernel_rfl) (by kernel_rfl) (by kernel_rfl) (e:=Extern.ReflectliteSwapper.swap false) (by kernel_rfl) args W)
  (λw R hp=>Any.sort_SliceStable_of_stable Tryz.sl8 35 27 Tryz.siT Tryz.siE (by kernel_rfl) (by kernel_rfl) (by kernel_rfl) (by kernel_rfl) 23 (λ_=>by kernel_rfl) _ d.size cap hsz 99 (by rw[Tryz.siK _ h2];kernel_rfl) (.func 86) #[] _ w R hp) _ hl (hSW.holds hb hH rfl) (hSW.lt hb)
 change Calls Tryz.prog 85 _ _ _ at hS
 have hfin: ∀(d':Array (RowT w F dd len fps)) n os,d'.size=d.size-> ∃n' os',sortWorld RowT.enc ((w.alloc (.cells #[.slice (some ⟨b,0,none⟩) d.size cap] 35)).alloc (.cells #[.func (.func 81) #[] #[]] 107)) b 0 n d' os=sortWorld RowT.enc w b 0 n' d' os':=
  λd' n os hs=>hSW.on hb n d' os hs
 have A:Aside (∀(d':Array (RowT w F dd len fps)) n os,d'.size=d.size-> ∃n' os',sortWorld RowT.enc ((w.alloc (.cells #[.slice (some ⟨b,0,none⟩) d.size cap] 35)).alloc (.cells #[.func (.func 81) #[] #[]] 107)) b 0 n d' os=sortWorld RowT.enc w b 0 n' d' os'):=hfin
 clear hl hSW hH hfin
 go_enter Tryz.func80,Tryz.ntmps80
 go_wp2_with (go_at_call 85;refine hS.mono ?_;rintro e w' ⟨rfl,d',n,os,hP,hs,rfl⟩)
 go_end0
 obtain⟨n',os',e⟩:=A.out d' n os hP.1
 exact⟨rfl,d',n',os',hP,hs,e⟩
theorem H_sort_cmpL (dd:Nat):Va.Holds Tryz.prog 80 (ZE 81 dd T.cmpL):=ZU dd cmp_cmpL sort_tiny_cmpL (λw F len fps _ b cap d hnb hfl h2 hl hH hbF hF hb=>sort_core_cmpL w F dd len fps b cap d hnb hfl h2 hl hH hbF hF hb)
theorem Tryz.infoD:(Tryz.prog.info? 27).map (λi=>(i.zero,i.size,i.bytes))=some (some (.slice none 0 0),1,24):=by kernel_rfl
set_option maxHeartbeats 4000000 in
set_option maxRecDepth 100000 in
theorem same_full (la ca cb:Nat) (W:World) (GA GB:Nat->Int) (R:Nat->Bool) (hla:la<4611686018427387904)
  (ba oa bb ob:Nat) (ha: ∀t,t<la->W.cell? ⟨ba,oa+t,none⟩=some (.int .i64 (GA t))) (hb: ∀t,t<la->W.cell? ⟨bb,ob+t,none⟩=some (.int .i64 (GB t)))
  (r1: ∀i,i<la->GA i=GB i->R i=R (i+1)) (r2: ∀i,i<la->GA i≠GB i->R i=false) (r3:R la=true):
  Calls Tryz.prog 66 #[.slice (some ⟨ba,oa,none⟩) la ca,.slice (some ⟨bb,ob,none⟩) la cb] W λe w'=>e= .returned (.bool (R 0))/\ ∃q,w'=W.drewN q:=by
 have A1:Aside (∀i,i<la->GA i=GB i->R i=R (i+1)):=r1
 have A2:Aside (∀i,i<la->GA i≠GB i->R i=false):=r2
 have A3:Aside (R la=true):=r3
 have A5:Aside (∀t,t<la->W.cell? ⟨ba,oa+t,none⟩=some (.int .i64 (GA t))):=ha
 have A6:Aside (∀t,t<la->W.cell? ⟨bb,ob+t,none⟩=some (.int .i64 (GB t))):=hb
 clear r1 r2 r3 ha hb
 go_enter Tryz.func66,Tryz.ntmps66
 go_wp2
 go_loopg [14] (la+1) (λk s14 wr=> ∃i q:Nat,s14= .int .i64 i/\i+k=la+1/\i<=la/\wr=W.drewN q/\Hid (R i=R 0))
 case atStart=>exact⟨0,0,rfl,by omega,by omega,rfl,rfl⟩
 case round=>
  obtain⟨i,q,rfl,hk,hia,rfl,hR⟩:=hrel
  by_cases h1:i<la
  ·have c1:=A5.out i h1
   have c2:=A6.out i h1
   by_cases h3:GA i=GB i
   ·have e1:(GB i !=GA i)=false:=by simp[h3]
    have e3:R (i+1)=R 0:=by rw[←A1.out i h1 h3];exact hR
    clear hR
    go_wp2
    go_roundg (la-i)
    case measure=>omega
    case rel=>exact⟨i+1,q,by congr 1,by omega,by omega,rfl,e3⟩
   ·have e1:(GB i !=GA i)=true:=by simp;exact λh=>h3 h.symm
    have e2:R 0=false:=by rw[←hR];exact A2.out i h1 h3
    clear hR
    go_wp2
    go_ret
    exact⟨by rw[e2];rfl,q,rfl⟩
  ·have hi:i=la:=by omega
   have e2:R 0=true:=by rw[←hR,hi];exact A3.out
   clear hR
   go_wp2
   go_ret
   exact⟨by rw[e2];rfl,q,rfl⟩
set_option maxHeartbeats 4000000 in
set_option maxRecDepth 100000 in
theorem same_ne (pa pb:Option Addr) (la lb ca cb:Nat) (W:World) (hne:la≠lb):
  Calls Tryz.prog 66 #[.slice pa la ca,.slice pb lb cb] W λe w'=>e= .returned (.bool false)/\ ∃q,w'=W.drewN q:=by
 have e1:((la:Int) !=(lb:Int))=true:=by simp;omega
 go_enter Tryz.func66,Tryz.ntmps66
 go_wp2
 go_ret
 exact⟨rfl,0,rfl⟩
set_option maxHeartbeats 4000000 in
set_option maxRecDepth 100000 in
theorem same_zero (pa pb:Option Addr) (ca cb:Nat) (W:World):
  Calls Tryz.prog 66 #[.slice pa 0 ca,.slice pb 0 cb] W λe w'=>e= .returned (.bool true)/\ ∃q,w'=W.drewN q:=by
 go_enter Tryz.func66,Tryz.ntmps66
 go_wp2
 refine wp_loop_rounds 1 ?_
 rw[rounds_succ]
 go_wp2
 go_ret
 exact⟨rfl,0,rfl⟩
theorem same_rows {V:World} {F:Fp} {x y:RowE} (hx:RowD V F x) (hy:RowD V F y):
  Calls Tryz.prog 66 #[RowE.enc x,RowE.enc y] V λe w'=>e= .returned (.bool (decide (x.2=y.2)))/\ ∃m,w'=V.drewN m:=by
 obtain⟨l1,c1⟩:=ZT hx
 obtain⟨l2,c2⟩:=ZT hy
 have z1:=hx.small
 have hlim:lim=1099511627776:=rfl
 show Calls Tryz.prog 66 #[.slice x.1.1 x.1.2.1 x.1.2.2,.slice y.1.1 y.1.2.1 y.1.2.2] V _
 rw[←l1,←l2]
 obtain⟨⟨p1,n1,k1⟩,A⟩:=x
 obtain⟨⟨p2,n2,k2⟩,B⟩:=y
 dsimp only at*
 by_cases hne:List.length A=List.length B
 case neg=>
  have e:decide (A=B)=false:=by simp;exact λh=>hne (by rw[h])
  rw[e]
  exact same_ne p1 p2 _ _ _ _ V hne
 by_cases h0:List.length A=0
 ·have eA:A= []:=List.eq_nil_of_length_eq_zero h0
  have eB:B= []:=List.eq_nil_of_length_eq_zero (by omega)
  subst eA;subst eB
  exact same_zero p1 p2 _ _ V
 ·obtain⟨b1,o1,e1,g1⟩:=c1 (by omega)
  obtain⟨b2,o2,e2,g2⟩:=c2 (by omega)
  rw[e1,e2,←hne]
  have dA: ∀i,i<List.length A->A.drop i=A.getD i 0::A.drop (i+1):=λi h=>by rw[List.drop_eq_getElem_cons h,List.getD_eq_getElem?_getD,List.getElem?_eq_getElem h];rfl
  have dB: ∀i,i<List.length A->B.drop i=B.getD i 0::B.drop (i+1):=λi h=>by rw[List.drop_eq_getElem_cons (show i<List.length B by omega),List.getD_eq_getElem?_getD,List.getElem?_eq_getElem (show i<List.length B by omega)];rfl
  have key:=same_full (List.length A) k1 k2 V (λt=>A.getD t 0) (λt=>B.getD t 0) (λi=>decide (A.drop i=B.drop i)) (by omega) b1 o1 b2 o2 g1 (λt ht=>g2 t (by omega))
   (λi h1 h2=>by
    show decide (A.drop i=B.drop i)=decide (A.drop (i+1)=B.drop (i+1))
    have h2:A.getD i 0=B.getD i 0:=h2
    rw[dA i h1,dB i h1,h2]
    exact decide_eq_decide.2 ⟨λh=>(List.cons.inj h).2,λh=>by rw[h]⟩)
   (λi h1 h2=>by
    show decide (A.drop i=B.drop i)=false
    rw[dA i h1,dB i h1]
    exact decide_eq_false λh=>h2 (List.cons.inj h).1)
   (by rw[List.drop_length,hne,List.drop_length];rfl)
  exact key
def keepK (S:Nat->Bool):Nat->List Nat
 |0=> []
 |k+1=>keepK S k++(if k=0∨S (k-1)=false then [k]else [])
theorem keepK_le (S:Nat->Bool): ∀k,(keepK S k).length<=k
 |0=>Nat.le_refl _
 |k+1=>by
  have:=keepK_le S k
  rw[keepK,List.length_append]
  split
  ·rw[List.length_singleton];omega
  ·rw[List.length_nil];omega
theorem keepK_eq (xs:List (List Int)) (S:Nat->Bool) (hS: ∀i,i+1<xs.length->S i=decide (xs.getD i []=xs.getD (i+1) [])):keepK S xs.length=Zm xs:=by
 have: ∀k,k<=xs.length->keepK S k=(List.range k).filter λi=>i==0||xs.getD (i-1) [] !=xs.getD i []:=by
  intro k
  induction k with
  |zero=>intro _;rfl
  |succ k ih=>
   intro hk
   rw[keepK,ih (by omega),List.range_succ,List.filter_append]
   congr 1
   cases k with
   |zero=>rfl
   |succ k=>
    rw[show k+1-1=k from rfl,hS k (by omega)]
    by_cases h:xs.getD k []=xs.getD (k+1) []
    ·rw[if_neg (by simp only[h];simp)]
     rw[List.filter_cons,if_neg (by rw[show k+1-1=k from rfl,h];simp),List.filter_nil]
    ·rw[if_pos (by simp only[h];simp)]
     rw[List.filter_cons,if_pos (by rw[show k+1-1=k from rfl];simpa using h),List.filter_nil]
 exact this _ (Nat.le_refl _)
theorem Below_drewN {B:Nat} {a w:World} (h:Below B a w) (n:Nat):Below B a (w.drewN n):=h.trans ⟨rfl,rfl,rfl,Nat.le_refl _,λ_ _=>rfl⟩
theorem rel_keep {S:Nat->Bool} {f:Nat->Value} {i:Nat} {w wr w1:World} {v v':Value} {o:Obj} {te:TypeId} (hK:keepK S (i+1)=keepK S i++ [i]) (hown:wr.ownsRow w.heap.size te 1 v (keepK S i).length ((keepK S i).map f)) (hB:Below w.heap.size w wr)
  (hown':w1.ownsRow w.heap.size te 1 v' ((keepK S i).length+1) ((keepK S i).map f++ [f i])) (hgrow:(wr.alloc o).grownBy w1 v.ownBlock):
  w1.ownsRow w.heap.size te 1 v' (keepK S (i+1)).length ((keepK S (i+1)).map f)/\Below w.heap.size w w1:=by
 rw[hK,List.length_append,List.map_append]
 refine⟨hown',(hB.alloc hB.size o).grown hgrow (by have:=hB.size;simp;omega) λk hk=>(hown.lt k hk).1⟩
set_option maxHeartbeats 4000000 in
set_option maxRecDepth 100000 in
theorem diff_walk (b len cap:Nat) (w:World) (p:Nat->Option Addr) (l c:Nat->Nat) (S:Nat->Bool) (hl:len<=lim) (hb:b<w.heap.size)
  (hc: ∀i,i<len->w.cell? ⟨b,i,none⟩=some (.slice (p i) (l i) (c i)))
  (hs: ∀W:World,(∀n,n<w.heap.size->W.heap[n]? =w.heap[n]?)-> ∀i,i+1<len->Calls Tryz.prog 66 #[.slice (p i) (l i) (c i),.slice (p (i+1)) (l (i+1)) (c (i+1))] W λe w'=>e= .returned (.bool (S i))/\ ∃m,w'=W.drewN m):
  Calls Tryz.prog 63 #[.slice (some ⟨b,0,none⟩) len cap] w λe w'=> ∃v,e= .returned v/\w'.ownsRow w.heap.size 27 1 v (keepK S len).length ((keepK S len).map λi=> .slice (p i) (l i) (c i))/\Below w.heap.size w w':=by
 obtain⟨i0,hi,hz0,hz1,hz2⟩:=info_parts Tryz.infoD
 have hlim:lim=1099511627776:=rfl
 have hlen:len<4611686018427387904:=by omega
 have A1:Aside (∀i,i<len->w.cell? ⟨b,i,none⟩=some (.slice (p i) (l i) (c i))):=hc
 have A2:Aside (∀W:World,(∀n,n<w.heap.size->W.heap[n]? =w.heap[n]?)-> ∀i,i+1<len->Calls Tryz.prog 66 #[.slice (p i) (l i) (c i),.slice (p (i+1)) (l (i+1)) (c (i+1))] W λe w'=>e= .returned (.bool (S i))/\ ∃m,w'=W.drewN m):=hs
 have hOwn:(w.alloc (.cells #[] 27)).ownsRow w.heap.size 27 1 (.slice (some ⟨w.heap.size,0,none⟩) 0 0) 0 []:=World.ownsRow_made w #[] 0 (Nat.le_refl _) (Nat.zero_le _) rfl
 have hB0:Below w.heap.size w (w.alloc (.cells #[] 27)):=(Below.refl _ _).alloc (Nat.le_refl _) _
 clear hc hs hlim
 go_enter Tryz.func63,Tryz.ntmps63
 go_wp2
 go_loopg [3,9] (len+1) (λk s3 s9 wr=> ∃i:Nat,s9= .int .i64 i/\i+k=len+1/\i<=len/\wr.ownsRow w.heap.size 27 1 s3 (keepK S i).length ((keepK S i).map λi=> .slice (p i) (l i) (c i))/\Below w.heap.size w wr)
 case atStart=>exact⟨0,rfl,by omega,by omega,hOwn,hB0⟩
 case round=>
  obtain⟨i,rfl,hk,hil,hown,hB⟩:=hrel
  have hsz:=hB.size
  have hkl:=keepK_le S i
  by_cases h1:i<len
  ·have c1:=(hB.cell (p:=⟨b,i,none⟩) hb).trans (A1.out i h1)
   rcases Nat.eq_zero_or_pos i with h0|h0
   ·subst h0
    have hK:keepK S (0+1)=keepK S 0++ [0]:=rfl
    go_wp2_with (first
     |(at_builtin;refine wpList_append_own _ rfl _ _ 35 rfl w.heap.size 27 i0 (.slice none 0 0) 1 24 Tryz.underlying35 hi hz0 hz1 hz2 rfl (by decide) _ _ _ rfl (hown.alloc _) ⟨wr.heap.size,0,none⟩ 1 1 [.slice (p 0) (l 0) (c 0)] rfl rfl ?c1 ?c2 ?c3 ?c4 ?c5 ?_)
     |go_in)
    case c1=>
     intro j u hj
     match j,hj with
     |0,hj=>simp at hj;subst hj;simp[Addr.add]
    case c2=>intro u hu;simp at hu;subst hu;rfl
    case c3=>have hlim:lim=1099511627776:=rfl;unfold maxLen;omega
    case c4=>have hlim:lim=1099511627776:=rfl;omega
    case c5=>simp;omega
    intro v' w1 hown' hgrow _
    have R:=rel_keep (f:=λi=> .slice (p i) (l i) (c i)) hK hown hB hown' hgrow
    clear hown' hgrow hown hB c1 hK
    go_wp2
    go_roundg len
    case measure=>omega
    case rel=>exact⟨0+1,by congr 1,by omega,by omega,R.1,R.2⟩
   ·obtain⟨j,rfl⟩: ∃j,i=j+1:=⟨i-1,by omega⟩
    have c2:=(hB.cell (p:=⟨b,j,none⟩) hb).trans (A1.out j (by omega))
    have hcall:=A2.out wr hB.block j h1
    have e0:(((j+1:Nat):Int)==0)=false:=by simp;omega
    cases hS:S j with
    |false=>
     rw[hS]at hcall
     have hK:keepK S (j+1+1)=keepK S (j+1)++ [j+1]:=by rw[keepK,if_pos (Or.inr (by exact hS))]
     go_wp2_with (first
      |(go_at_call 66;refine hcall.mono ?_;rintro e w' ⟨rfl,q,rfl⟩;have hown2:(wr.drewN q).ownsRow w.heap.size 27 1 u3 (keepK S (j+1)).length ((keepK S (j+1)).map λi=> .slice (p i) (l i) (c i)):=hown;have hB2:Below w.heap.size w (wr.drewN q):=Below_drewN hB q)
      |(at_builtin;refine wpList_append_own _ rfl _ _ 35 rfl w.heap.size 27 i0 (.slice none 0 0) 1 24 Tryz.underlying35 hi hz0 hz1 hz2 rfl (by decide) _ _ _ rfl (hown2.alloc _) ⟨(wr.drewN q).heap.size,0,none⟩ 1 1 [.slice (p (j+1)) (l (j+1)) (c (j+1))] rfl rfl ?c1 ?c2 ?c3 ?c4 ?c5 ?_)
      |go_in)
     case c1=>
      intro j u hj
      match j,hj with
      |0,hj=>simp at hj;subst hj;show((wr.drewN q).alloc _).cell? ⟨(wr.drewN q).heap.size,0,none⟩=_;rw[World.cell?_alloc_at _ _ _ _ rfl];rfl
     case c2=>intro u hu;simp at hu;subst hu;rfl
     case c3=>have hlim:lim=1099511627776:=rfl;unfold maxLen;omega
     case c4=>have hlim:lim=1099511627776:=rfl;omega
     case c5=>simp;omega
     intro v' w1 hown' hgrow _
     have R:=rel_keep (f:=λi=> .slice (p i) (l i) (c i)) hK hown2 hB2 hown' hgrow
     clear hown' hgrow hown hB hown2 hB2 c1 c2 hK hcall
     go_wp2
     go_roundg (len-(j+1))
     case measure=>omega
     case rel=>exact⟨j+1+1,by congr 1,by omega,by omega,R.1,R.2⟩
    |true=>
     rw[hS]at hcall
     have hK:keepK S (j+1+1)=keepK S (j+1):=by rw[keepK,if_neg (by simp[hS]),List.append_nil]
     go_wp2_with (go_at_call 66;refine hcall.mono ?_;rintro e w' ⟨rfl,q,rfl⟩)
     go_wp2
     go_roundg (len-(j+1))
     case measure=>omega
     case rel=>exact⟨j+1+1,by congr 1,by omega,by omega,by rw[hK];exact hown,Below_drewN hB q⟩
  ·have hi:i=len:=by omega
   subst hi
   go_wp2
   go_ret
   exact⟨_,rfl,hown,hB⟩
set_option maxHeartbeats 4000000 in
set_option maxRecDepth 100000 in
theorem diff_none (a:Option Addr) (cap:Nat) (w:World):
  Calls Tryz.prog 63 #[.slice a 0 cap] w λe w'=> ∃v,e= .returned v/\w'.ownsRow w.heap.size 27 1 v 0 []/\Below w.heap.size w w':=by
 have hOwn:(w.alloc (.cells #[] 27)).ownsRow w.heap.size 27 1 (.slice (some ⟨w.heap.size,0,none⟩) 0 0) 0 []:=World.ownsRow_made w #[] 0 (Nat.le_refl _) (Nat.zero_le _) rfl
 have hB0:Below w.heap.size w (w.alloc (.cells #[] 27)):=(Below.refl _ _).alloc (Nat.le_refl _) _
 go_enter Tryz.func63,Tryz.ntmps63
 go_wp2
 refine wp_loop_rounds 1 ?_
 rw[rounds_succ]
 go_wp2
 go_ret
 exact⟨_,rfl,hOwn,hB0⟩
theorem H_diff (dd:Nat):Va.Holds Tryz.prog 63 (ZQ dd):=ZR 27 dd λw F a cap rows hl hF hr hk hc=>by
 rcases Nat.eq_zero_or_pos rows.length with h0|h0
 ·have e:rows= []:=List.eq_nil_of_length_eq_zero h0
  subst e
  exact diff_none a cap w
 ·obtain⟨b,rfl,hb,hcell⟩:=hc h0
  obtain⟨xs,hxs⟩: ∃xs,xs=rows.map (·.2):=⟨_,rfl⟩
  have hxl:xs.length=rows.length:=by rw[hxs,List.length_map]
  have hget: ∀i,i<rows.length->rows[i]? =some (rows.getD i ZM):=λi hi=>by rw[List.getD_eq_getElem?_getD,List.getElem?_eq_getElem hi];rfl
  have hgx: ∀i,i<rows.length->xs.getD i []=(rows.getD i ZM).2:=λi hi=>by rw[hxs,List.getD_eq_getElem?_getD,List.getElem?_map,hget i hi];rfl
  have key:=diff_walk b rows.length cap w (λi=>(rows.getD i ZM).1.1) (λi=>(rows.getD i ZM).1.2.1) (λi=>(rows.getD i ZM).1.2.2) (λi=>decide (xs.getD i []=xs.getD (i+1) [])) hl hb
   (λi hi=>hcell i _ (hget i hi))
   (λW hW i hi=>by
    have h1:=hk W hW _ (List.mem_of_getElem? (hget i (by omega)))
    have h2:=hk W hW _ (List.mem_of_getElem? (hget (i+1) hi))
    have:=same_rows h1 h2
    rw[←hgx i (by omega),←hgx (i+1) hi]at this
    exact this)
  rw[←hxl,keepK_eq xs _ (λi _=>rfl),hxl]at key
  rw[←hxs]
  exact key
end Go.Proofs
