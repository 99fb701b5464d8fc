/- Regions, loops and whole functions are sound; no conditions. -/
import Derived.Test.YtgeboeaoblppcacV2
import Derived.Test.YtgeboeaoblppcacV3
import Derived.Orders
set_option linter.unusedVariables false
set_option linter.unusedSimpArgs false
namespace Go.Va
def TOk (P : Program) (T : Nat → Option Entry) : Prop := ∀ f en, T f = some en → Holds P (f % 65536) en ∧ ∃ fn c, P.funcs[f % 65536]? = some fn ∧ (fn.name == "runtime.NumGoroutine") = false ∧ fn.body = some c
section
variable {P:Program} {w:World} {F:Fp} {H V:Store} {loc:Loc} {fp:Nat->Fp} {G:Nat->AV} {a:Act} {cx:Cx} {o:Oper}
theorem Ydh (hs: ∀i,AVV w F H loc (G i) (a.tmps.getD i undef)): ∀(qs:List Operand) {l:List Nat},Ycu (qs.map (rdG G))=some l->CapsR H loc l (qs.map a.eval)
 | [],l,h=>by
  simp only[List.map_nil,Ycu,Option.some.injEq]at h;subst h
  exact⟨rfl,λi s x hs=>by simp at hs⟩
 |q::qs,l,h=>by
  rw[List.map_cons]at h⊢
  have hq:=Yt hs q
  generalize rdG G q=v at h hq
  unfold Ycu at h
  split at h
  ·rename_i hh;cases hh
  ·rename_i r l' hh
   obtain⟨rfl,rfl⟩:=List.cons.inj hh
   split at h
   ·rename_i q' hq'
    cases h
    exact CapsR.cons (YB.1 hq) (Ydh hs qs hq')
   ·cases h
  ·cases h
theorem Yez (hR:Roots w F H loc fp) (hs: ∀i,AVV w F H loc (G i) (a.tmps.getD i undef)) (hV:View V H) {fn:Fn} {first caps:Array Operand} (ho:o.op= .makeFunc fn first caps):Sound P w F H loc fp o a (opE cx o G V):=by
 cases fn with
 |func f=>
  unfold opE;simp only[ho]
  split
  rotate_left
  ·exact Sound.fail
  rename_i hf
  split
  rotate_left
  ·exact Sound.fail
  rename_i l hl
  have hcap:=Ydh hs caps.toList hl
  have hf':first= #[]:=by simpa using hf
  subst hf'
  split
  ·exact Sound.ok hR (v':= .func (.func f) #[] (caps.map a.eval)) (by simp[execOp,ho,Instr.makeFunc]) ⟨caps.toList.map a.eval,by rw[←Array.toList_map],hcap⟩
  rename_i t ht
  split
  rotate_left
  ·exact Sound.fail
  rename_i x u hx
  obtain⟨F2,fp2,f2,t2,r2,_⟩:=YeJ l hR hV hcap hx
  intro R k r hrun next Q hn
  simp only[OpE.run]at hrun
  refine Yv (v:= .func (.func f) #[] (caps.map a.eval)) (by simp[execOp,ho,Instr.makeFunc]) (hn _ _ _ w F2 loc fp2 hrun ⟨?_,t2.keep,t2.roots,Nat.le_refl _,λ_ _ _=>rfl,λr' m h=> .inl ⟨r',t2.sub r' m h⟩,λm h=>(t2.from_ m h).imp id .inl,t2.mono,rfl,rfl⟩)
  refine⟨[.func (.func f) #[] (caps.map a.eval)],⟨λ_ h=>h,.inr ⟨by omega,caps.toList.map a.eval,?_,r2⟩⟩,by simp[Shp,YF]⟩
  rw[←Array.toList_map]
 |_=>unfold opE;simp only[ho];exact Sound.fail
theorem Yg0 (hT:Xd P cx) (hC:TOk P cx.T) (hR:Roots w F H loc fp) (hs: ∀i,AVV w F H loc (G i) (a.tmps.getD i undef)) (hV:Xg o.op=false->View V H) (hO:Xg o.op=false-> ∀d,o.dst=some d->Own V H d):Sound P w F H loc fp o a (opE cx o G V):=by
 cases ho:o.op with
 |move x=>exact YfN hR hs V (.inl ho)
 |assign x=>exact YfN hR hs V (.inr ho)
 |pick c x y=>exact YhQ hR hs V ho
 |unOp op t x=>exact YiZ hR hs V ho
 |binOp op t x y t'=>exact Yiw hR hs V (λi h1 h2=>(hT t i h1).bool h2) (λi e h1 h2=>⟨_,((hT t i h1).slice e h2).1⟩) (λi h1 h2 h3 h4=>Ygr hT h1 h2 h3 h4) ho
 |convert s t x=>exact Yfc hR hs (hV (by rw[ho];rfl)) hT ho
 |makeMap t r=>
  cases r with
  |none=>exact Yfe hR (hO (by rw[ho];rfl)) ho
  |some r=>unfold opE;simp only[ho];exact Sound.fail
 |mapUpdate t m k v=>exact YdU hR hs (hV (by rw[ho];rfl)) hT ho
 |lookup t m k ok=>exact Ygh hR hs (hV (by rw[ho];rfl)) hT ho
 |extract x k=>exact Yfd hR hs ho
 |nilCheck x=>exact YeA hR hs ho
 |makeFunc fn first caps=>exact Yez hR hs (hV (by rw[ho];rfl)) ho
 |alloc t=>exact YgU hR (hO (by rw[ho];rfl)) hT ho
 |box t x=>exact Yix hR hs (hO (by rw[ho];rfl)) ho
 |fieldAddr t x k=>exact YdR hR hs hT ho
 |field t x k=>exact YgX hR hs hT ho
 |index t x i=>exact Ygg hR hs hT ho
 |indexAddr t x i=>exact YdS hR hs (hV (by rw[ho];rfl)) hT ho
 |load t x=>exact YhP hR hs (hV (by rw[ho];rfl)) (hO (by rw[ho];rfl)) hT ho
 |store t x y=>exact Yg1 hR hs (hV (by rw[ho];rfl)) hT ho
 |build t ps=>exact YgV hR hs hT ho
 |buildSlice t n ps=>exact Yc8 hR hs (hV (by rw[ho];rfl)) (hO (by rw[ho];rfl)) hT ho
 |makeSlice t x y=>exact YdT hR hs (hO (by rw[ho];rfl)) hT ho
 |slice t x lo hi mx=>
  cases mx with
  |none=>exact YgZ hR hs (hV (by rw[ho];rfl)) hT ho
  |some m=>unfold opE;simp only[ho];exact Sound.fail
 |call c=>
  have hV':View V H:=hV (by rw[ho];rfl)
  cases hc:c.callee with
  |builtin b=>
   cases b with
   |len=>exact Yiy hR hs hV' hT ho hc
   |max=>exact Yiz hR hs ho hc
   |copy=>exact YhO hR hs hV' hT ho hc
   |clear=>exact YgW hR hs hV' hT ho hc
   |append=>exact Ygf hR hs hV' (hO (by rw[ho];rfl)) hT ho hc
   |_=>unfold opE;simp only[ho,hc];exact Sound.fail
  |value x=>exact YhN hR hV' hs (hO (by rw[ho];rfl)) ho hc hC
  |invoke r m=>unfold opE;simp only[ho,hc];exact Sound.fail
 |_=>unfold opE;simp only[ho];exact Sound.fail
theorem YdX (hR:Roots w F H loc fp) (hV:View V H) {x:AV} {v:Value} (h:AVV w F H loc x v):AVV w F H loc (YiB V x) v:=by
 cases x with
 |ref r ver p=>
  cases p with
  |cons q p=>exact h
  |nil=>
   unfold YiB
   dsimp only
   split
   ·rename_i r2 ver2 j hVr
    have hHr:=hV.arr hVr (by simp)
    obtain⟨_,hv⟩:=Yk.1 h
    rw[hHr]at hv
    have hv:=hv rfl
    have hok:=hR.ok r
    rw[hHr]at hok
    obtain⟨v',e,hr⟩:=hok.2
    have e:=(List.cons.inj e).1
    rw[←e,←hv]at hr
    exact Yk.2 hr
   ·exact h
 |_=>exact h
def OpE.out:OpE->Option (AV×Ups)
 | .fail=>none
 | .ok v u=>some (v,u)
 | .chk c dec v u=> @ite _ c dec (some (v,u)) none
 | .call _ o c f=>o.bind λb=>if c b=true then f b else none
 | .pick c x y=>if c then some (x,[])else some (y,[])
 | .sel j l=>Ybx (λv=>some (v,[])) 0 j l
theorem YeG {R:Type} (k:AV->Ups->Option R) {v:AV} {u:Ups}: ∀(l:List AV) (i:Nat) (j:Int),Ybx (λv=>some (v,([]:Ups))) i j l=some (v,u)->Ybx (λv=>k v []) i j l=k v u
 | [],i,j,h=>by simp[Ybx]at h
 |x::l,i,j,h=>by
  simp only[Ybx]at h⊢
  by_cases hj:j=Int.ofNat i
  ·rw[if_pos hj]at h⊢;injection h with h;injection h with h1 h2;subst h1;subst h2;rfl
  ·rw[if_neg hj]at h⊢;exact YeG k l (i+1) j h
theorem YeH {R:Type} (k:AV->Ups->Option R) {r:R}: ∀(l:List AV) (i:Nat) (j:Int),Ybx (λv=>k v []) i j l=some r-> ∃v u,Ybx (λv=>some (v,([]:Ups))) i j l=some (v,u)/\k v u=some r
 | [],i,j,h=>by simp[Ybx]at h
 |x::l,i,j,h=>by
  simp only[Ybx]at h⊢
  by_cases hj:j=Int.ofNat i
  ·rw[if_pos hj]at h;exact⟨x,[],by rw[if_pos hj],h⟩
  ·rw[if_neg hj]at h
   obtain⟨v,u,h1,h2⟩:=YeH k l (i+1) j h
   exact⟨v,u,by rw[if_neg hj];exact h1,h2⟩
theorem OpE.run_out {R:Type} (E:OpE) (k:AV->Ups->Option R) (r:R) (h:E.run k=some r): ∃v u,E.out=some (v,u)/\k v u=some r:=by
 cases E with
 |fail=>simp[OpE.run]at h
 |ok v u=>exact⟨v,u,rfl,h⟩
 |chk c dec v u=>
  by_cases hc:c
  ·simp only[OpE.run,hc,if_true]at h;exact⟨v,u,by simp[OpE.out,hc],h⟩
  ·simp[OpE.run,hc]at h
 |call B o c f=>
  simp only[OpE.run]at h
  cases o with
  |none=>simp at h
  |some b=>
   simp only[Option.bind_some]at h
   by_cases hc:c b=true
   ·rw[if_pos hc]at h
    cases hf:f b with
    |none=>rw[hf]at h;cases h
    |some q=>rw[hf]at h;exact⟨q.1,q.2,by simp[OpE.out,hc,hf],h⟩
   ·rw[if_neg hc]at h;cases h
 |pick c x y=>
  cases c with
  |true=>exact⟨x,[],rfl,h⟩
  |false=>exact⟨y,[],rfl,h⟩
 |sel j l=>exact YeH k l 0 j h
theorem OpE.out_run {R:Type} (E:OpE) (k:AV->Ups->Option R) {v:AV} {u:Ups} (h:E.out=some (v,u)):E.run k=k v u:=by
 cases E with
 |fail=>cases h
 |ok v' u'=>cases h;rfl
 |chk c dec v' u'=>
  simp only[OpE.out]at h
  split at h
  ·cases h;rename_i hc;simp[OpE.run,hc]
  ·cases h
 |call B o c f=>
  simp only[OpE.out]at h
  cases o with
  |none=>simp at h
  |some b=>
   simp only[Option.bind_some]at h
   by_cases hc:c b=true
   ·rw[if_pos hc]at h;simp[OpE.run,hc,h]
   ·rw[if_neg hc]at h;cases h
 |pick c x y=>
  cases c with
  |true=>cases h;rfl
  |false=>cases h;rfl
 |sel j l=>exact YeG k l 0 j h
theorem Sound.out {E:OpE} (h:Sound P w F H loc fp o a E) {v:AV} {u:Ups} (hv:E.out=some (v,u)) {next:Act->World->Prop} {Q:Exit->Act->World->Prop}
  (hn: ∀v' w' F' loc' fp',Post w F H loc fp v u v' w' F' loc' fp'->next (a.put o.dst v') w'):o.wp P a w next Q:=by
 refine h (AV×Ups) (λv u=>some (v,u)) (v,u) (by rw[OpE.out_run E _ hv]) next Q λv1 u1 v' w' F' loc' fp' hk hp=>?_
 cases hk
 exact hn v' w' F' loc' fp' hp
theorem Yhn (hT:Xd P cx) (hC:TOk P cx.T) (hR:Roots w F H loc fp) (hs: ∀i,AVV w F H loc (G i) (a.tmps.getD i undef)) (hV:Xg o.op=false->View V H) (hO:Xg o.op=false-> ∀d,o.dst=some d->Own V H d)
  {v:AV} {u:Ups} (hv:(opE cx o G V).out=some (v,u)) {next:Act->World->Prop} {Q:Exit->Act->World->Prop} (hn: ∀v' w' F' loc' fp',Post w F H loc fp v u v' w' F' loc' fp'->next (a.put o.dst v') w'):o.wp P a w next Q:=
 Sound.out (Yg0 hT hC hR hs hV hO) hv hn
end
end Go.Va
namespace Go.Va
structure Since (w0:World) (F0 fA:Fp) (w:World) (F:Fp) (fp:Nat->Fp):Prop where
 own: ∀r m,fp r m->fA m∨w0.heap.size<=m
 frz: ∀m,F m->F0 m∨fA m∨w0.heap.size<=m
 mono: ∀m,F0 m->F m
 same: ∀m,m<w0.heap.size-> ¬fA m->w.heap[m]? =w0.heap[m]?
 big:w0.heap.size<=w.heap.size
 rest:w.os=w0.os/\(w.tape,w.output)=(w0.tape,w0.output)
def PinI (m:Nat) (pl:Loc) (H:Store) (loc:Loc):Prop:= ∀r,r<m*16->(Yn (H r)||Ym (H r))=true->loc r=pl r
structure Run where
 w0:World
 F0:Fp
 fA:Fp
 m:Nat
 pl:Loc
 n:Nat
def Rel (E:Run) (s:St) (a:Act) (w:World):Prop:=
 ∃F loc fp,Roots w F s.H loc fp/\(∀i,AVV w F s.H loc (s.G i) (a.tmps.getD i undef))/\Since E.w0 E.F0 E.fA w F fp/\PinI E.m E.pl s.H loc/\E.n<=a.tmps.size/\a.defers= []
section
variable {P:Program} {w w':World} {F F':Fp} {H V:Store} {loc loc':Loc} {fp fp':Nat->Fp} {a:Act} {cx:Cx} {o:Oper} {E:Run} {s:St}
theorem Since.step {w0:World} {F0 fA:Fp} {v:AV} {u:Ups} {v':Value} (h:Since w0 F0 fA w F fp) (hp:Post w F H loc fp v u v' w' F' loc' fp'):Since w0 F0 fA w' F' fp':=by
 have hown: ∀m,(∃r,fp r m)∨w.heap.size<=m->fA m∨w0.heap.size<=m:=λm hm=>by
  rcases hm with ⟨r,hm⟩|hm
  ·exact h.own r m hm
  ·exact .inr (Nat.le_trans h.big hm)
 refine⟨λr m hm=>hown m (hp.own r m hm),λm hm=>?_,λm hm=>hp.mono m (h.mono m hm),λm hm hA=>?_,Nat.le_trans h.big hp.big,⟨hp.rest.1.trans h.rest.1,hp.rest.2.trans h.rest.2⟩⟩
 ·rcases hp.frz m hm with hm|hm
  ·exact h.frz m hm
  ·exact .inr (hown m hm)
 ·rw[hp.same m (Nat.lt_of_lt_of_le hm h.big) λr hr=>(h.own r m hr).elim hA λh'=>by omega]
  exact h.same m hm hA
theorem YbE: ∀(u:Ups) (H:Store) (r:Nat),(H.upd u) r=H r∨ ∃q∈u,q.1=r/\(H.upd u) r=q.2
 | [],_,_=> .inl rfl
 |(r',R)::u,H,r=>by
  rcases YbE u (H.set r' R) r with h|⟨q,hq,h1,h2⟩
  ·by_cases e:r=r'
   ·subst e
    refine .inr ⟨(r,R),by simp,rfl,?_⟩
    rw[Store.set_same]at h;exact h
   ·rw[Store.set_other _ _ e]at h;exact .inl h
  ·exact .inr ⟨q,List.mem_cons_of_mem _ hq,h1,h2⟩
theorem YcK {m:Nat} {u:Ups} (h:YeD m V u=true) {r:Nat} (hr:r<m*16): ∀q∈u,q.1=r->(Yn q.2=true->Yn (V r)=true)/\(Ym q.2=true->Ym (V r)=true):=by
 intro q hq e
 have h:=(List.all_eq_true.1 h) q hq
 subst e
 simp only[Bool.or_eq_true,decide_eq_true_eq,Bool.and_eq_true,Bool.not_eq_true']at h
 rcases h with h|⟨h1,h2⟩
 ·omega
 ·exact⟨λe=>h1.resolve_left (by simp[e]),λe=>h2.resolve_left (by simp[e])⟩
theorem RootOk.oneA {e:Ty} {d:Nat} {xs:List e.den} {ver:Nat} {pin:Bool} {l:Value} {f:Fp} (h:RootOk w F H loc (.arr e d xs ver pin) l f):Xu l:=Rep.one (.slice e) h l (by simp)
theorem YfO {H':Store} (hR:Roots w F H loc fp) (k:Keep w F H loc w' F' H' loc') {r:Nat} (hp:Yn (H' r)=true) (hq:Yn (H r)=true):loc' r=loc r:=by
 have hok:=hR.ok r
 have h1:AVC w F H loc (.ref r 0 []) [loc r]:=by
  cases hH:H r with
  |arr e' d xs ver pin=>
   rw[hH]at hok
   exact⟨_,rfl,⟨hok.oneA,λ_ h=>by cases h⟩,by rw[hH];exact⟨Nat.zero_le _,λ_=>rfl,λh=>absurd rfl h⟩⟩
  |bf e' xs n ver pin=>
   rw[hH]at hok
   have h1:Xu (loc r):=by obtain⟨_,_,_,h,_⟩:=hok.2;rw[h];trivial
   exact⟨_,rfl,⟨h1,λ_ h=>by cases h⟩,by rw[hH];exact⟨Nat.zero_le _,λ_=>rfl,λ_ b h=>by cases h⟩⟩
  |_=>rw[hH]at hq;simp[Yn]at hq
 obtain⟨v,e1,_,hk⟩:=k.c _ _ h1
 have e1:=(List.cons.inj e1).1
 subst e1
 cases hH':H' r with
 |arr e2 d2 xs2 ver2 pin2=>rw[hH']at hk;exact(hk.2.1 rfl).symm
 |bf e2 xs2 n2 ver2 pin2=>rw[hH']at hk;exact(hk.2.1 rfl).symm
 |_=>rw[hH']at hp;simp[Yn]at hp
theorem PinI.keep {m:Nat} {pl:Loc} {H':Store} (h:PinI m pl H loc) (hR:Roots w F H loc fp) (k:Keep w F H loc w' F' H' loc')
  (hh: ∀r,r<m*16->(Yn (H' r)=true->Yn (H r)=true)/\(Ym (H' r)=true->Ym (H r)=true)):PinI m pl H' loc':=by
 intro r hr hp
 obtain⟨h1,h2⟩:=hh r hr
 have hok:=hR.ok r
 have hold:=h r hr
 rw[Bool.or_eq_true]at hp
 rcases hp with hp|hp
 ·have hq:=h1 hp
  have e:=hold (by rw[hq];rfl)
  rw[YfO hR k hp hq];exact e
 ·have hq:=h2 hp
  have e:=hold (by rw[hq];simp)
  cases hH:H r with
  |box c=>
   rw[hH]at hok
   obtain⟨b,cs,hl,_⟩:=hok
   obtain⟨v,e1,b',e2,hk⟩:=k.c (.bptr r 0) [loc r] ⟨_,rfl,b,hl,by rw[hH];exact hl⟩
   have e1:=(List.cons.inj e1).1
   rw[←e1]at e2
   cases hH':H' r with
   |box c2=>rw[hH']at hk;rw[hk,←e,e2]
   |_=>rw[hH']at hp;simp[Ym]at hp
  |_=>rw[hH]at hq;simp[Ym]at hq
theorem YgC {d:Nat} {v:Value} {i:Nat} (h:d<a.tmps.size):(a.put (some d) v).tmps.getD i undef=if i=d then v else a.tmps.getD i undef:=by
 by_cases e:i=d
 ·subst e;simp[Act.put,h]
 ·simp[Act.put,e,Array.getElem?_setIfInBounds_ne (Ne.symm e)]
theorem Rel.step {v:AV} {u:Ups} {v':Value} {dst:Option Nat} (hR:Roots w F s.H loc fp) (hs: ∀i,AVV w F s.H loc (s.G i) (a.tmps.getD i undef)) (hS:Since E.w0 E.F0 E.fA w F fp) (hI:PinI E.m E.pl s.H loc) (hn:E.n<=a.tmps.size) (hd:a.defers= [])
  (hp:Post w F s.H loc fp v u v' w' F' loc' fp') (hdst: ∀d,dst=some d->d<E.n)
  (hpin: ∀r,r<E.m*16->(Yn ((s.H.upd u) r)=true->Yn (s.H r)=true)/\(Ym ((s.H.upd u) r)=true->Ym (s.H r)=true)):
  Rel E (St.putO ⟨s.G,s.H.upd u⟩ dst v) (a.put dst v') w':=by
 cases dst with
 |none=>exact⟨F',loc',fp',hp.roots,λi=>hp.keep.v _ _ (hs i),hS.step hp,hI.keep hR hp.keep hpin,hn,hd⟩
 |some d=>
  have hlt:d<a.tmps.size:=Nat.lt_of_lt_of_le (hdst d rfl) hn
  refine⟨F',loc',fp',hp.roots,λi=>?_,hS.step hp,hI.keep hR hp.keep hpin,by simpa[Act.put]using hn,hd⟩
  rw[YgC hlt]
  by_cases e:i=d
  ·subst e;simp only[St.putO,St.put,beq_self_eq_true,if_true];exact hp.val
  ·simp only[St.putO,St.put,beq_iff_eq,e,if_false];exact hp.keep.v _ _ (hs i)
theorem YhU {m:Nat} {u:Ups} (h:YeD m H u=true): ∀r,r<m*16->(Yn ((H.upd u) r)=true->Yn (H r)=true)/\(Ym ((H.upd u) r)=true->Ym (H r)=true):=by
 intro r hr
 rcases YbE u H r with e|⟨q,hq,e1,e2⟩
 ·rw[e];exact⟨id,id⟩
 ·rw[e2];exact YcK h hr q hq e1
theorem Rel.skip {dst:Option Nat} (h:Rel E s a w) (hdst: ∀d,dst=some d->d<E.n):Rel E (St.putO s dst (.tup [])) (a.put dst undef) w:=by
 obtain⟨F,loc,fp,hR,hs,hS,hI,hn,hd⟩:=h
 have:=Rel.step (v:= .tup []) (u:= []) (v':=undef) (dst:=dst) hR hs hS hI hn hd (Post.pure hR ⟨#[],rfl,rfl,λi a u h=>by simp at h⟩) hdst (λr _=>⟨id,id⟩)
 exact this
theorem St.put_same {d:Nat} {x:AV} (h:s.G d=x):s.put d x=s:=by
 unfold St.put
 have:(λn=>if n==d then x else s.G n)=s.G:=funext λn=>by
  by_cases e:n=d
  ·subst e;simp[h]
  ·simp[e]
 rw[this]
theorem Yf5 {R:Type} {ops:Array Oper} {k go:St->Option R} {r:R} {w:World} {F:Fp} {H:Store} {loc:Loc} (hg:YbM ops.toList o s k go=some r) (hs: ∀i,AVV w F H loc (s.G i) (a.tmps.getD i undef)):
  (Region.wanted o (yielded ops a.tmps)=true/\go s=some r)∨(Region.wanted o (yielded ops a.tmps)=false/\k (St.putO s o.dst (.tup []))=some r):=by
 unfold YbM at hg
 unfold Region.wanted
 split at hg
 ·rename_i hn;rw[hn];exact .inl ⟨rfl,hg⟩
 ·rename_i j b hn
  rw[hn]
  dsimp only
  split at hg
  rotate_left
  ·cases hg
  rename_i d hd
  have hd':(ops[j]?).bind (·.dst)=some d:=by simpa using hd
  have hv:=hs d
  split at hg
  ·rename_i c hc
   rw[hc]at hv
   have hv:=Yp.1 hv
   have hy:yielded ops a.tmps j=some c:=by
    unfold yielded
    rw[hd']
    simp only[Option.bind_some]
    cases ht:a.tmps[d]? with
    |none=>rw[Array.getD_eq_getD_getElem?,ht]at hv;cases hv
    |some x=>rw[Array.getD_eq_getD_getElem?,ht]at hv;simp only[Option.getD_some]at hv;subst hv;rfl
   rw[hy]
   cases b with
   |true=>
    cases c with
    |true=>rw[St.put_same hc]at hg;exact .inl ⟨rfl,hg⟩
    |false=>rw[St.put_same hc]at hg;exact .inr ⟨rfl,hg⟩
   |false=>
    cases c with
    |true=>rw[St.put_same hc]at hg;exact .inr ⟨rfl,hg⟩
    |false=>rw[St.put_same hc]at hg;exact .inl ⟨rfl,hg⟩
  ·rename_i hc
   rw[hc]at hv
   obtain⟨vs,hv,hsz,_⟩:=hv
   refine .inr ⟨?_,hg⟩
   have hy:yielded ops a.tmps j=none:=by
    unfold yielded
    rw[hd']
    simp only[Option.bind_some]
    cases ht:a.tmps[d]? with
    |none=>rfl
    |some x=>rw[Array.getD_eq_getD_getElem?,ht]at hv;simp only[Option.getD_some]at hv;subst hv;rfl
   rw[hy];rfl
  ·cases hg
theorem YdV {R:Type} {ops:Array Oper} {Q:Exit->Act->World->Prop} {k:St->Option R} {r:R} (hT:Xd P cx) (hC:TOk P cx.T) (hm:E.m=cx.n) (hD: ∀o∈ops.toList,∀d,o.dst=some d->d<E.n)
  (hk: ∀s a w,k s=some r->Rel E s a w->Q .normal a w): ∀(l:List Oper) (j:Nat) (s:St) (a:Act) (w:World),ops.toList.drop j=l->Yff cx ops.toList l s k=some r->Rel E s a w->wpOps P ops Q (List.range' j l.length) a w
 | [],j,s,a,w,hj,h,hr=>by
  simp only[Yff]at h
  exact hk s a w h hr
 |o::l,j,s,a,w,hj,h,hr=>by
  have ho:ops.toList[j]? =some o:=by
   have:=congrArg (λl=>l[0]?) hj
   simpa using this
  have ho':ops[j]? =some o:=by simpa using ho
  have hmem:o∈ops.toList:=List.mem_of_getElem? ho
  have hj':ops.toList.drop (j+1)=l:=by
   have:=congrArg (List.drop 1) hj
   simpa[List.drop_drop]using this
  simp only[Yff]at h
  rw[List.length_cons,List.range'_succ]
  obtain⟨F,loc,fp,hR,hs,hS,hI,hn,hd⟩:=hr
  simp only[wpOps,ho']
  rcases Yf5 h hs with ⟨hw,h⟩|⟨hw,h⟩
  ·rw[if_pos hw]
   refine .inl ?_
   simp only[Yid]at h
   obtain⟨v,u,hout,h⟩:=OpE.run_out _ _ _ h
   split at h
   rotate_left
   ·cases h
   rename_i hpin
   refine Yhn hT hC hR (G:=Yg5 s.H s.G) (λi=>YdX hR (View.refl _) (hs i)) (λ_=>View.refl _) (λ_ d _=>Own.refl _ d) hout λv' w' F' loc' fp' hp=>?_
   exact YdV hT hC hm hD hk l (j+1) _ _ _ hj' h (Rel.step hR hs hS hI hn hd hp (hD o hmem) (by rw[hm];exact YhU hpin))
  ·rw[if_neg (by rw[hw];simp)]
   exact YdV hT hC hm hD hk l (j+1) _ _ _ hj' h (Rel.skip ⟨F,loc,fp,hR,hs,hS,hI,hn,hd⟩ (hD o hmem))
end
end Go.Va
namespace Go.Va
def bEq (a b:Bool):Bool:=a==b
def Yc4 (all:List Oper) (G:Nat->AV) (o:Oper):Option Bool:=match o.guard with
 |none=>some true
 |some (j,b)=>
  match (all[j]?).bind (·.dst)with
  |some d=>(match G d with| .val .bool c=>some (bEq c b)| .tup []=>some false|_=>none)
  |none=>none
def Xc (all:List Oper) (s:St) (i:Nat) (q:AV×Ups):St:=St.putO ⟨s.G,s.H.upd q.2⟩ ((all[i]?).bind (·.dst)) q.1
def XW (all:List Oper) (t:Nat->AV×Ups):List Nat->St->St
 | [],s=>s
 |i::l,s=>XW all t l (Xc all s i (t i))
def Yd6 (cx:Cx) (all:List Oper) (bef:Array Nat) (i:Nat) (s:St) (q:AV×Ups):Prop:=
 ∃o,all[i]? =some o/\YeC cx.fine all bef i o=true/\
  ((Yc4 all s.G o=some true/\(opE cx o (YfR o (YhW o (Yc7 cx.fine all bef i s.H) s.G)) (Yc7 cx.fine all bef i s.H)).out=some q/\Yc3 cx.fine all bef i o q.2=true/\YeD cx.n (Yc7 cx.fine all bef i s.H) q.2=true)∨(Yc4 all s.G o=some false/\q=(.tup [],[])))
def Can (cx:Cx) (all:List Oper) (bef:Array Nat) (t:Nat->AV×Ups):List Nat->St->Prop
 | [],_=>True
 |i::l,s=>Yd6 cx all bef i s (t i)/\Can cx all bef t l (Xc all s i (t i))
section
variable {P:Program} {w w':World} {F F':Fp} {H V:Store} {loc loc':Loc} {fp fp':Nat->Fp} {a:Act} {cx:Cx} {o:Oper} {E:Run} {s:St} {all:List Oper} {bef:Array Nat} {t:Nat->AV×Ups}
theorem Yeh {R:Type} {k go:St->Option R} {r:R} (hg:YbM all o s k go=some r):
  (Yc4 all s.G o=some true/\go s=some r)∨(Yc4 all s.G o=some false/\k (St.putO s o.dst (.tup []))=some r):=by
 unfold YbM at hg
 unfold Yc4
 split at hg
 ·rename_i hn;rw[hn];exact .inl ⟨rfl,hg⟩
 ·rename_i j b hn
  rw[hn]
  dsimp only
  split at hg
  rotate_left
  ·cases hg
  rename_i d hd
  rw[hd]
  dsimp only
  split at hg
  ·rename_i c hc
   rw[hc]
   cases b with
   |true=>
    cases c with
    |true=>rw[St.put_same hc]at hg;exact .inl ⟨rfl,hg⟩
    |false=>rw[St.put_same hc]at hg;exact .inr ⟨rfl,hg⟩
   |false=>
    cases c with
    |true=>rw[St.put_same hc]at hg;exact .inr ⟨rfl,hg⟩
    |false=>rw[St.put_same hc]at hg;exact .inl ⟨rfl,hg⟩
  ·rename_i hc
   rw[hc]
   exact .inr ⟨rfl,hg⟩
  ·cases hg
theorem YdC {ops:Array Oper} {G:Nat->AV} {b:Bool} (h:Yc4 ops.toList G o=some b) (hs: ∀d,YbL ops o=some d->AVV w F H loc (G d) (a.tmps.getD d undef)):Region.wanted o (yielded ops a.tmps)=b:=by
 unfold Yc4 at h
 unfold Region.wanted
 unfold YbL at hs
 split at h
 ·rename_i hn;rw[hn];cases h;rfl
 ·rename_i j b' hn
  rw[hn]at hs⊢
  dsimp only at hs⊢
  split at h
  rotate_left
  ·cases h
  rename_i d hd
  have hd':(ops[j]?).bind (·.dst)=some d:=by simpa using hd
  have hv:=hs d hd'
  split at h
  ·rename_i c hc
   rw[hc]at hv
   have hv:=Yp.1 hv
   have hy:yielded ops a.tmps j=some c:=by
    unfold yielded
    rw[hd']
    simp only[Option.bind_some]
    cases ht:a.tmps[d]? with
    |none=>rw[Array.getD_eq_getD_getElem?,ht]at hv;cases hv
    |some x=>rw[Array.getD_eq_getD_getElem?,ht]at hv;simp only[Option.getD_some]at hv;subst hv;rfl
   rw[hy]
   cases h
   cases c<;>cases b'<;>rfl
  ·rename_i hc
   rw[hc]at hv
   obtain⟨vs,hv,hsz,_⟩:=hv
   have hy:yielded ops a.tmps j=none:=by
    unfold yielded
    rw[hd']
    simp only[Option.bind_some]
    cases ht:a.tmps[d]? with
    |none=>rfl
    |some x=>rw[Array.getD_eq_getD_getElem?,ht]at hv;simp only[Option.getD_some]at hv;subst hv;rfl
   rw[hy];cases h;rfl
  ·cases h
theorem YcP {t':Nat->AV×Ups}: ∀(l:List Nat) (s:St),(∀i∈l,t i=t' i)->XW all t l s=XW all t' l s
 | [],_,_=>rfl
 |i::l,s,h=>by simp only[XW];rw[h i (by simp)];exact YcP l _ λj hj=>h j (List.mem_cons_of_mem _ hj)
theorem Can.congr {t':Nat->AV×Ups}: ∀(l:List Nat) (s:St),(∀i∈l,t i=t' i)->Can cx all bef t l s->Can cx all bef t' l s
 | [],_,_,_=>trivial
 |i::l,s,h,⟨h1,h2⟩=>by
  simp only[Can];rw[←h i (by simp)];exact⟨h1,Can.congr l _ (λj hj=>h j (List.mem_cons_of_mem _ hj)) h2⟩
theorem YcJ {R:Type} {k:St->Option R} {r:R}: ∀(l:List Nat) (s:St),l.Nodup->Ygi cx all bef l s k=some r-> ∃t,Can cx all bef t l s/\k (XW all t l s)=some r
 | [],s,_,h=>⟨λ_=>(.un,[]),trivial,h⟩
 |i::l,s,hn,h=>by
  obtain⟨hi,hn⟩:=List.nodup_cons.1 hn
  simp only[Ygi]at h
  split at h
  rotate_left
  ·cases h
  rename_i o ho
  split at h
  rotate_left
  ·cases h
  rename_i hown
  have fin: ∀q:AV×Ups,Yd6 cx all bef i s q->Ygi cx all bef l (Xc all s i q) k=some r-> ∃t,Can cx all bef t (i::l) s/\k (XW all t (i::l) s)=some r:=λq hq h=>by
   obtain⟨t',hc,hk⟩:=YcJ l _ hn h
   have e: ∀j∈l,t' j=(λj=>if j=i then q else t' j) j:=λj hj=>by
    have:j≠i:=λe=>hi (e▸hj)
    simp[this]
   refine⟨λj=>if j=i then q else t' j,⟨?_,?_⟩,?_⟩
   ·simpa using hq
   ·simp only[if_true];exact Can.congr l _ e hc
   ·simp only[XW,if_true];rw[←YcP l _ e];exact hk
  rcases Yeh h with ⟨hw,h⟩|⟨hw,h⟩
  ·simp only[Yie]at h
   obtain⟨v,u,hout,h⟩:=OpE.run_out _ _ _ h
   split at h
   rotate_left
   ·cases h
   rename_i hok
   rw[Bool.and_eq_true]at hok
   refine fin (v,u) ⟨o,ho,hown,.inl ⟨hw,hout,hok.1,hok.2⟩⟩ ?_
   unfold Xc;rw[ho];exact h
  ·refine fin (.tup [],[]) ⟨o,ho,hown,.inr ⟨hw,rfl⟩⟩ ?_
   unfold Xc;rw[ho];exact h
theorem Can.at {i:Nat} {l2:List Nat}: ∀(l1:List Nat) (s:St),Can cx all bef t (l1++i::l2) s->Yd6 cx all bef i (XW all t l1 s) (t i)
 | [],s,h=>h.1
 |j::l1,s,h=>Can.at l1 _ h.2
def Yc0 (t:Nat->AV×Ups) (j r:Nat):Prop:= ∃q∈(t j).2,q.1=r
theorem Yfu: ∀(u:Ups) {H H':Store} {r:Nat},H r=H' r->(H.upd u) r=(H'.upd u) r
 | [],_,_,_,h=>h
 |(r',R)::u,H,H',r,h=>Yfu u (by
  by_cases e:r=r'
  ·subst e;rw[Store.set_same,Store.set_same]
  ·rw[Store.set_other _ _ e,Store.set_other _ _ e];exact h)
theorem Ya1 {s:St} {i:Nat} {q:AV×Ups}:(Xc all s i q).H=s.H.upd q.2:=by
 unfold Xc St.putO
 cases (all[i]?).bind (·.dst)<;>rfl
theorem Ya0 {s:St} {i:Nat} {q:AV×Ups} {x:Nat}:(Xc all s i q).G x=if(all[i]?).bind (·.dst)=some x then q.1 else s.G x:=by
 unfold Xc St.putO
 cases h:(all[i]?).bind (·.dst)with
 |none=>simp
 |some d=>
  by_cases e:x=d
  ·subst e;simp[St.put]
  ·have e':d≠x:=Ne.symm e
   simp[St.put,e,e']
theorem YcO {r:Nat} {A B:Nat->Bool}: ∀(l:List Nat) (s1 s2:St),s1.H r=s2.H r->(∀j∈l,Yc0 t j r->A j=B j)->(XW all t (l.filter A) s1).H r=(XW all t (l.filter B) s2).H r
 | [],s1,s2,h,_=>h
 |j::l,s1,s2,h,hab=>by
  have ih:=λs1 s2 h=>YcO l s1 s2 h λj hj=>hab j (List.mem_cons_of_mem _ hj)
  by_cases ht:Yc0 t j r
  ·have e:=hab j (by simp) ht
   cases hA:A j with
   |true=>
    rw[List.filter_cons_of_pos hA,List.filter_cons_of_pos (e▸hA)]
    exact ih _ _ (by rw[Ya1,Ya1];exact Yfu _ h)
   |false=>
    rw[List.filter_cons_of_neg (by rw[hA];simp),List.filter_cons_of_neg (by rw[←e,hA];simp)]
    exact ih _ _ h
  ·have hno: ∀s:St,(Xc all s j (t j)).H r=s.H r:=λs=>by rw[Ya1];exact Yy _ λq hq e=>ht ⟨q,hq,e⟩
   cases hA:A j<;>cases hB:B j
   ·rw[List.filter_cons_of_neg (by rw[hA];simp),List.filter_cons_of_neg (by rw[hB];simp)];exact ih _ _ h
   ·rw[List.filter_cons_of_neg (by rw[hA];simp),List.filter_cons_of_pos hB];exact ih _ _ (by rw[hno];exact h)
   ·rw[List.filter_cons_of_pos hA,List.filter_cons_of_neg (by rw[hB];simp)];exact ih _ _ (by rw[hno];exact h)
   ·rw[List.filter_cons_of_pos hA,List.filter_cons_of_pos hB];exact ih _ _ (by rw[hno,hno];exact h)
theorem YdZ {x:Nat} {A B:Nat->Bool}: ∀(l:List Nat) (s1 s2:St),s1.G x=s2.G x->(∀j∈l,(all[j]?).bind (·.dst)=some x->A j=B j)->(XW all t (l.filter A) s1).G x=(XW all t (l.filter B) s2).G x
 | [],s1,s2,h,_=>h
 |j::l,s1,s2,h,hab=>by
  have ih:=λs1 s2 h=>YdZ l s1 s2 h λj hj=>hab j (List.mem_cons_of_mem _ hj)
  by_cases ht:(all[j]?).bind (·.dst)=some x
  ·have e:=hab j (by simp) ht
   cases hA:A j with
   |true=>
    rw[List.filter_cons_of_pos hA,List.filter_cons_of_pos (e▸hA)]
    exact ih _ _ (by rw[Ya0,Ya0,if_pos ht,if_pos ht])
   |false=>
    rw[List.filter_cons_of_neg (by rw[hA];simp),List.filter_cons_of_neg (by rw[←e,hA];simp)]
    exact ih _ _ h
  ·have hno: ∀s:St,(Xc all s j (t j)).G x=s.G x:=λs=>by rw[Ya0,if_neg ht]
   cases hA:A j<;>cases hB:B j
   ·rw[List.filter_cons_of_neg (by rw[hA];simp),List.filter_cons_of_neg (by rw[hB];simp)];exact ih _ _ h
   ·rw[List.filter_cons_of_neg (by rw[hA];simp),List.filter_cons_of_pos hB];exact ih _ _ (by rw[hno];exact h)
   ·rw[List.filter_cons_of_pos hA,List.filter_cons_of_neg (by rw[hB];simp)];exact ih _ _ (by rw[hno];exact h)
   ·rw[List.filter_cons_of_pos hA,List.filter_cons_of_pos hB];exact ih _ _ (by rw[hno,hno];exact h)
theorem YaN: ∀(l1 l2:List Nat) (s:St),XW all t (l1++l2) s=XW all t l2 (XW all t l1 s)
 | [],_,_=>rfl
 |i::l1,l2,s=>YaN l1 l2 _
theorem Ydl {l:List Nat}:l.filter (λ_=>false)= []:=by simp
theorem Ye2 {l:List Nat}:l.filter (λ_=>true)=l:=by simp
theorem Ygj {i:Nat} (l:List Nat) (s:St) (hH: ∀j∈l,∀r,Yc0 t j r-> ¬Yc0 t i r) (hG: ∀j∈l,∀d,(all[j]?).bind (·.dst)=some d->(all[i]?).bind (·.dst)≠some d):
  XW all t l (Xc all s i (t i))=Xc all (XW all t l s) i (t i):=by
 have ext: ∀s s':St,s.G=s'.G->s.H=s'.H->s=s':=λs s' h1 h2=>by cases s;cases s';cases h1;cases h2;rfl
 have e1: ∀s,XW all t (l.filter λ_=>true) s=XW all t l s:=λs=>congrArg (λl=>XW all t l s) (Ye2 (l:=l))
 refine ext _ _ (funext λx=>?_) (funext λr=>?_)
 ·rw[Ya0]
  by_cases h:(all[i]?).bind (·.dst)=some x
  ·rw[if_pos h]
   have:=YdZ (all:=all) (t:=t) (x:=x) (A:=λ_=>true) (B:=λ_=>false) l (Xc all s i (t i)) (Xc all s i (t i)) rfl (λj hj hd=>absurd h (hG j hj x hd))
   rw[e1]at this
   rw[this]
   simp only[Ydl,XW]
   rw[Ya0,if_pos h]
  ·rw[if_neg h]
   have:=YdZ (all:=all) (t:=t) (x:=x) (A:=λ_=>true) (B:=λ_=>true) l (Xc all s i (t i)) s (by rw[Ya0,if_neg h]) (λ_ _ _=>rfl)
   rw[e1,e1]at this
   exact this
 ·rw[Ya1]
  by_cases h:Yc0 t i r
  ·have h1:=YcO (all:=all) (t:=t) (r:=r) (A:=λ_=>true) (B:=λ_=>false) l (Xc all s i (t i)) (Xc all s i (t i)) rfl (λj hj hd=>absurd h (hH j hj r hd))
   have h2:=YcO (all:=all) (t:=t) (r:=r) (A:=λ_=>true) (B:=λ_=>false) l s s rfl (λj hj hd=>absurd h (hH j hj r hd))
   rw[e1]at h1 h2
   rw[h1]
   simp only[Ydl,XW]at h2⊢
   rw[Ya1]
   exact Yfu _ h2.symm
  ·have hno: ∀H:Store,(H.upd (t i).2) r=H r:=λH=>Yy _ λq hq e=>h ⟨q,hq,e⟩
   rw[hno]
   have:=YcO (all:=all) (t:=t) (r:=r) (A:=λ_=>true) (B:=λ_=>true) l (Xc all s i (t i)) s (by rw[Ya1,hno]) (λ_ _ _=>rfl)
   rw[e1,e1]at this
   exact this
end
end Go.Va
namespace Go.Va
section
variable {P:Program} {w w':World} {F F':Fp} {H V:Store} {loc loc':Loc} {fp fp':Nat->Fp} {a:Act} {cx:Cx} {o:Oper} {E:Run} {s:St} {all:List Oper} {bef:Array Nat} {t:Nat->AV×Ups}
theorem Ycx {acc:Array Nat} {j:Nat}: ∀(l:List Edge) (x:Nat),(l.foldl (λs e=>if Region.binds .any e then s|||2^e.on|||acc.getD e.on 0 else s) x).testBit j=true->x.testBit j=true∨ ∃e∈l,Region.binds .any e=true/\(j=e.on∨(acc.getD e.on 0).testBit j=true)
 | [],x,h=> .inl h
 |e::l,x,h=>by
  rcases Ycx l _ h with h|⟨e',he,h1,h2⟩
  ·by_cases hb:Region.binds .any e=true
   ·dsimp only at h
    rw[if_pos hb]at h
    simp only[Nat.testBit_or,Bool.or_eq_true]at h
    rcases h with (h|h)|h
    ·exact .inl h
    ·refine .inr ⟨e,by simp,hb,.inl ?_⟩
     rw[Nat.testBit_two_pow]at h
     exact(by simpa using h:e.on=j).symm
    ·exact .inr ⟨e,by simp,hb,.inr h⟩
   ·dsimp only at h
    rw[if_neg hb]at h;exact .inl h
  ·exact .inr ⟨e',List.mem_cons_of_mem _ he,h1,h2⟩
theorem Yd9 (l:List Oper): ∀(acc:Array Nat),(∀i,i<acc.size->(l.foldl (λacc o=>acc.push (o.after.foldl (λs e=>if Region.binds .any e then s|||2^e.on|||acc.getD e.on 0 else s) 0)) acc).getD i 0=acc.getD i 0)/\
  ∀i o,l[i]? =some o-> ∃acc':Array Nat,acc'.size=acc.size+i/\(l.foldl (λacc o=>acc.push (o.after.foldl (λs e=>if Region.binds .any e then s|||2^e.on|||acc.getD e.on 0 else s) 0)) acc).getD (acc.size+i) 0=o.after.foldl (λs e=>if Region.binds .any e then s|||2^e.on|||acc'.getD e.on 0 else s) 0/\
   ∀k,k<acc'.size->(l.foldl (λacc o=>acc.push (o.after.foldl (λs e=>if Region.binds .any e then s|||2^e.on|||acc.getD e.on 0 else s) 0)) acc).getD k 0=acc'.getD k 0:=by
 induction l with
 |nil=>intro acc;exact⟨λ_ _=>rfl,λi o h=>by simp at h⟩
 |cons x l ih=>
  intro acc
  have hx: ∀ {i:Nat} {y:Nat},i<acc.size->(acc.push y).getD i 0=acc.getD i 0:=fun {i y} h=>by
   simp[Array.getElem?_push,Nat.ne_of_lt h]
  obtain⟨h1,h2⟩:=ih (acc.push (x.after.foldl (λs e=>if Region.binds .any e then s|||2^e.on|||acc.getD e.on 0 else s) 0))
  refine⟨λi hi=>?_,λi o ho=>?_⟩
  ·rw[List.foldl_cons,h1 i (by simp;omega),hx hi]
  ·rw[List.foldl_cons]
   cases i with
   |zero=>
    simp at ho;subst ho
    refine⟨acc,rfl,?_,λk hk=>?_⟩
    ·rw[h1 _ (by simp)];simp
    ·rw[h1 k (by simp;omega),hx hk]
   |succ i=>
    obtain⟨acc',e1,e2,e3⟩:=h2 i o (by simpa using ho)
    refine⟨acc',by rw[e1];simp;omega,?_,e3⟩
    rw[←e2];congr 1;simp;omega
theorem YbY {ops:Array Oper} {i j:Nat} (ho:ops[i]? =some o) (h:((Region.before ops).getD i 0).testBit j=true):
  ∃e∈o.after,Region.binds .any e=true/\(j=e.on∨(e.on<i/\((Region.before ops).getD e.on 0).testBit j=true)):=by
 have hb:Region.before ops=ops.toList.foldl (λacc o=>acc.push (o.after.toList.foldl (λs e=>if Region.binds .any e then s|||2^e.on|||acc.getD e.on 0 else s) 0)) #[]:=by
  unfold Region.before
  simp only[←Array.foldl_toList]
 have hb':Region.before ops=ops.toList.foldl (λacc o=>acc.push (o.after.foldl (λs e=>if Region.binds .any e then s|||2^e.on|||acc.getD e.on 0 else s) 0)) #[]:=by
  unfold Region.before
  rw[←Array.foldl_toList]
 obtain⟨acc',e1,e2,e3⟩:=(Yd9 ops.toList #[]).2 i o (by simpa using ho)
 rw[←hb']at e2 e3
 simp only[List.size_toArray,List.length_nil,Nat.zero_add]at e1 e2
 rw[e2,←Array.foldl_toList]at h
 rcases Ycx _ _ h with h|⟨e,he,hbd,h⟩
 ·simp at h
 ·refine⟨e,by simpa using he,hbd,?_⟩
  rcases h with h|h
  ·exact .inl h
  ·right
   rcases Nat.lt_or_ge e.on i with hlt|hge
   ·exact⟨hlt,by rw[e3 e.on (by omega)];exact h⟩
   ·rw[Array.getD_eq_getD_getElem?,Array.getElem?_eq_none (by omega)]at h
    simp at h
theorem YbV {ops:Array Oper} (h:Yd3 ops=true) {i:Nat} (ho:ops[i]? =some o): ∀e∈o.after,Region.binds .any e=true->e.on<i:=by
 intro e he hbd
 have hi:=(Array.getElem?_eq_some_iff.1 ho).1
 have h:=(List.all_eq_true.1 h) i (by simpa using hi)
 rw[ho]at h
 have h:=(Array.all_eq_true_iff_forall_mem.1 h) e he
 rw[hbd]at h
 simpa using h
theorem YfY {ops:Array Oper} (h:Yd3 ops=true): ∀(i:Nat) {o:Oper},ops[i]? =some o-> ∀j,((Region.before ops).getD i 0).testBit j=true->j<i:=by
 intro i
 induction i using Nat.strongRecOn with
 |_ i ih=>
  intro o ho j hj
  obtain⟨e,he,hbd,h'⟩:=YbY ho hj
  have hlt:=YbV h ho e he hbd
  rcases h' with rfl|⟨_,h'⟩
  ·exact hlt
  ·have hes:e.on<ops.size:=Nat.lt_trans hlt (Array.getElem?_eq_some_iff.1 ho).1
   exact Nat.lt_trans (ih e.on hlt (Array.getElem?_eq_getElem hes) j h') hlt
theorem Ybc {ops:Array Oper} (h:YdH ops bef=true) {i j:Nat} {x y:Oper} (hx:ops[i]? =some x) (hy:ops[j]? =some y) (hij:i≠j) (hno:YQ bef i j=false):
  ∀d,x.dst=some d->d∉Yci y/\y.dst≠some d/\YbL ops y≠some d:=by
 intro d hd
 have hi:=(Array.getElem?_eq_some_iff.1 hx).1
 have hj:=(Array.getElem?_eq_some_iff.1 hy).1
 have h:=(List.all_eq_true.1 ((List.all_eq_true.1 h) i (by simpa using hi))) j (by simpa using hj)
 simp only[hno,Bool.false_or,hx,hy,hd,Bool.or_eq_true,beq_iff_eq,Bool.and_eq_true,Bool.not_eq_true',bne_iff_ne,ne_eq]at h
 obtain⟨_,⟨h1,h2⟩,h3⟩:=h.resolve_left hij
 exact⟨by simpa using h1,h2,h3⟩
theorem Yhm {i:Nat} {q:AV×Ups} {s:St} (h:Yd6 cx all bef i s q): ∃o,all[i]? =some o/\YeC cx.fine all bef i o=true/\Yc3 cx.fine all bef i o q.2=true:=by
 obtain⟨o,ho,hown,h⟩:=h
 refine⟨o,ho,hown,?_⟩
 rcases h with ⟨_,_,h,_⟩|⟨_,rfl⟩
 ·exact h
 ·simp[Yc3]
end
end Go.Va
namespace Go.Va
section
variable {P:Program} {w w':World} {F F':Fp} {H V:Store} {loc loc':Loc} {fp fp':Nat->Fp} {a:Act} {cx:Cx} {o:Oper} {E:Run} {s:St} {bef:Array Nat} {t:Nat->AV×Ups} {ops:Array Oper}
theorem Ybl {fine:Bool} {all:List Oper} {i:Nat} {u:Ups} (h:Yc3 fine all bef i o u=true):(Xg o.op=true->u= [])/\(∀q∈u,Yaq fine all bef i q.1=false)/\
  ∀q∈u,∀(j:Nat) (y:Oper),all[j]? =some y->j≠i->YQ bef i j=false->Xg y.op=true∨Yaq fine all bef j q.1=true:=by
 unfold Yc3 at h
 rw[Bool.and_eq_true]at h
 obtain⟨h1,h2⟩:=h
 refine⟨λhp=>?_,λq hq=>?_,λq hq j y hy hj hno=>?_⟩
 ·rw[hp]at h1;simpa using h1
 ·have:=(List.all_eq_true.1 h2) q hq
  rw[Bool.and_eq_true]at this
  simpa using this.1
 ·have:=(List.all_eq_true.1 h2) q hq
  rw[Bool.and_eq_true]at this
  have hlt:j<all.length:=(List.getElem?_eq_some_iff.1 hy).1
  have h3:=(List.all_eq_true.1 this.2) j (by simpa using hlt)
  simp only[hno,hy,Bool.or_false,Bool.or_eq_true,beq_iff_eq,hj,false_or]at h3
  exact h3
theorem Yc9 {i j:Nat} (h:YQ bef i j=true):(bef.getD i 0).testBit j=true∨(bef.getD j 0).testBit i=true:=by
 unfold YQ at h;rwa [Bool.or_eq_true]at h
theorem Yau {i j:Nat} (h:YQ bef i j=false):YQ bef j i=false:=by
 unfold YQ at*;rw[Bool.or_comm];exact h
def stL (ops:Array Oper) (t:Nat->AV×Ups) (s:St) (L:Nat->Bool):St:=XW ops.toList t ((List.range ops.size).filter L) s
theorem YhR {R:Type} {Q:Exit->Act->World->Prop} {k:St->Option R} {r:R} (hT:Xd P cx) (hC:TOk P cx.T) (hm:E.m=cx.n) (hD: ∀o∈ops.toList,∀d,o.dst=some d->d<E.n)
  (hb:bef=Region.before ops) (htopo:Yd3 ops=true) (hap:YdH ops bef=true)
  (hcan:Can cx ops.toList bef t (List.range ops.size) s) (hkr:k (XW ops.toList t (List.range ops.size) s)=some r)
  (hk: ∀s a w,k s=some r->Rel E s a w->Q .normal a w): ∀(fuel:Nat) (listed:Array Bool) (a:Act) (w:World),listed.size=ops.size->((List.range ops.size).filter λi=>!listed.getD i false).length=fuel->
   (∀i,listed.getD i false=true-> ∀j,(bef.getD i 0).testBit j=true->listed.getD j false=true)->Rel E (stL ops t s λi=>listed.getD i false) a w->wpAny P .any ops Q fuel listed a w:=by
 have hlt: ∀i {o:Oper},ops[i]? =some o-> ∀j,(bef.getD i 0).testBit j=true->j<i:=by subst hb;exact λi o=>YfY htopo i
 have hstep: ∀i o,ops[i]? =some o->Yd6 cx ops.toList bef i (stL ops t s λj=>decide (j<i)) (t i):=by
  intro i o ho
  have hi:=(Array.getElem?_eq_some_iff.1 ho).1
  have hsplit:List.range ops.size=List.range i++i::List.range' (i+1) (ops.size-i-1):=by
   rw[List.range_eq_range',List.range_eq_range']
   conv=>lhs;rw[show ops.size=i+((ops.size-i-1)+1) by omega]
   rw[←List.range'_append_1,List.range'_succ];simp
  have hfil:(List.range ops.size).filter (λj=>decide (j<i))=List.range i:=by
   rw[hsplit,List.filter_append]
   have e1:(List.range i).filter (λj=>decide (j<i))=List.range i:=List.filter_eq_self.2 λj hj=>by simpa using hj
   have e2:(i::List.range' (i+1) (ops.size-i-1)).filter (λj=>decide (j<i))= []:=List.filter_eq_nil_iff.2 λj hj=>by
    rcases List.mem_cons.1 hj with rfl|hj
    ·simp
    ·have:=(List.mem_range'.1 hj);obtain⟨k,_,rfl⟩:=this;simp;omega
   rw[e1,e2,List.append_nil]
  unfold stL
  rw[hfil]
  rw[hsplit]at hcan
  exact Can.at _ _ hcan
 have hups: ∀i o,ops[i]? =some o->YeC cx.fine ops.toList bef i o=true/\Yc3 cx.fine ops.toList bef i o (t i).2=true:=λi o ho=>by
  obtain⟨o',ho',h1,h2⟩:=Yhm (hstep i o ho)
  have:o'=o:=by
   have h3:ops.toList[i]? =some o:=by simpa using ho
   rw[h3]at ho';injection ho' with e;exact e.symm
  subst this
  exact And.intro h1 h2
 have hset: ∀(L:Nat->Bool) (i:Nat) (x:Oper),ops[i]? =some x->L i=false->(∀i,L i=true-> ∀j,(bef.getD i 0).testBit j=true->L j=true)->(∀j,(bef.getD i 0).testBit j=true->L j=true)->
   ∀(j:Nat) (y:Oper),ops[j]? =some y->j=i∨YQ bef i j=true->L j=decide (j<i):=by
  intro L i x hx hLi hdown hbef j y hy hj
  rcases hj with rfl|hj
  ·rw[hLi];simp
  ·rcases Yc9 hj with h|h
   ·rw[hbef j h];have:=hlt i hx j h;simp[this]
   ·have hj':=hlt j hy i h
    have:L j=false:=by
     cases hLj:L j with
     |false=>rfl
     |true=>have:=hdown j hLj i h;rw[hLi]at this;cases this
    rw[this];simp;omega
 have hend: ∀(listed:Array Bool) (a:Act) (w:World),listed.size=ops.size->(∀i,i<ops.size->listed.getD i false=true)->Rel E (stL ops t s λi=>listed.getD i false) a w->Q .normal a w:=by
  intro listed a w hsz hall hrel
  refine hk _ a w hkr ?_
  have:(List.range ops.size).filter (λi=>listed.getD i false)=List.range ops.size:=List.filter_eq_self.2 λi hi=>hall i (by simpa using hi)
  unfold stL at hrel
  rw[this]at hrel
  exact hrel
 have hready0: ∀(listed:Array Bool),listed.size=ops.size->Region.ready .any ops listed= []-> ∀i,i<ops.size->listed.getD i false=true:=by
  intro listed hsz hr i
  induction i using Nat.strongRecOn with
  |_ i ih=>
   intro hi
   cases hl:listed.getD i false with
   |true=>rfl
   |false=>
    have ho:ops[i]? =some ops[i]:=Array.getElem?_eq_getElem hi
    have:i∈Region.ready .any ops listed:=mem_ready.2 ⟨by
     have h':i<listed.size:=by omega
     simp[h']at hl⊢;exact hl,_,ho,λe he hbd=>ih e.on (YbV htopo ho e he hbd) (Nat.lt_trans (YbV htopo ho e he hbd) hi)⟩
    rw[hr]at this;cases this
 intro fuel
 induction fuel with
 |zero=>
  intro listed a w hsz hcount hdown hrel
  have hall: ∀i,i<ops.size->listed.getD i false=true:=λi hi=>by
   have:=List.filter_eq_nil_iff.1 (List.length_eq_zero_iff.1 hcount) i (by simpa using hi)
   simpa using this
  refine⟨?_,hend listed a w hsz hall hrel⟩
  cases hr:Region.ready .any ops listed with
  |nil=>rfl
  |cons i l=>
   have hi:i∈Region.ready .any ops listed:=by rw[hr];simp
   obtain⟨h1,o,ho,_⟩:=mem_ready.1 hi
   have h2:=hall i (Array.getElem?_eq_some_iff.1 ho).1
   have h':i<listed.size:=by rw[hsz];exact(Array.getElem?_eq_some_iff.1 ho).1
   simp[h']at h1 h2;rw[h1]at h2;cases h2
 |succ fuel ih=>
  intro listed a w hsz hcount hdown hrel
  refine⟨λhr=>hend listed a w hsz (hready0 listed hsz hr) hrel,λi hi=>?_⟩
  obtain⟨h1,o,ho,hall⟩:=mem_ready.1 hi
  have hilt:=(Array.getElem?_eq_some_iff.1 ho).1
  have hLi:listed.getD i false=false:=by
   have h':i<listed.size:=by omega
   simp[h']at h1⊢;exact h1
  have hbef: ∀j,(bef.getD i 0).testBit j=true->listed.getD j false=true:=λj hj=>by
   subst hb
   obtain⟨e,he,hbd,h⟩:=YbY ho hj
   have:=hall e he hbd
   rcases h with rfl|⟨_,h⟩
   ·exact this
   ·exact hdown e.on this j h
  have hset':=hset (λi=>listed.getD i false) i o ho hLi hdown hbef
  obtain⟨hown,hok⟩:=hups i o ho
  obtain⟨hok1,hok2,hok3⟩:=Ybl hok
  have hol:ops.toList[i]? =some o:=by simpa using ho
  have hbind: ∀j:Nat,(ops.toList[j]?).bind (·.dst)=(ops[j]?).bind (·.dst):=λj=>by simp
  have hG: ∀x,(∀j y,ops[j]? =some y->j≠i->YQ bef i j=false->y.dst≠some x)->(stL ops t s λi=>listed.getD i false).G x=(stL ops t s λj=>decide (j<i)).G x:=λx hx=>
   YdZ _ _ _ rfl λj hj hd=>by
    rw[hbind]at hd
    cases hy:ops[j]? with
    |none=>rw[hy]at hd;cases hd
    |some y=>
     rw[hy]at hd
     by_cases hji:j=i
     ·exact hset' j y hy (.inl hji)
     ·cases hord:YQ bef i j with
      |true=>exact hset' j y hy (.inr hord)
      |false=>exact absurd hd (hx j y hy hji hord)
  have hGr: ∀x,x∈Yci o->(stL ops t s λi=>listed.getD i false).G x=(stL ops t s λj=>decide (j<i)).G x:=λx hx=>hG x λj y hy hji hno hd=>(Ybc hap hy ho hji (Yau hno) x hd).1 hx
  have hGg: ∀x,YbL ops o=some x->(stL ops t s λi=>listed.getD i false).G x=(stL ops t s λj=>decide (j<i)).G x:=λx hx=>hG x λj y hy hji hno hd=>(Ybc hap hy ho hji (Yau hno) x hd).2.2 hx
  have hH:Xg o.op=false-> ∀q,Yaq cx.fine ops.toList bef i q=false->(stL ops t s λi=>listed.getD i false).H q=(stL ops t s λj=>decide (j<i)).H q:=λhnp q hq=>
   YcO _ _ _ rfl λj hj ht=>by
    cases hy:ops[j]? with
    |none=>have:=(Array.getElem?_eq_none_iff.1 hy);have:=List.mem_range.1 hj;omega
    |some y=>
     by_cases hji:j=i
     ·exact hset' j y hy (.inl hji)
     ·cases hord:YQ bef i j with
      |true=>exact hset' j y hy (.inr hord)
      |false=>
       obtain⟨p,hp,e⟩:=ht
       rcases(Ybl (hups j y hy).2).2.2 p hp i o hol (Ne.symm hji) (Yau hord)with h|h
       ·rw[hnp]at h;cases h
       ·rw[e,hq]at h;cases h
  have hnext:stL ops t s (λj=>(listed.setIfInBounds i true).getD j false)=Xc ops.toList (stL ops t s λj=>listed.getD j false) i (t i):=by
   have hsplit:List.range ops.size=List.range i++i::List.range' (i+1) (ops.size-i-1):=by
    rw[List.range_eq_range',List.range_eq_range']
    conv=>lhs;rw[show ops.size=i+((ops.size-i-1)+1) by omega]
    rw[←List.range'_append_1,List.range'_succ];simp
   have hne: ∀j,j≠i->(listed.setIfInBounds i true).getD j false=listed.getD j false:=λj hj=>getD_set_ne false (Ne.symm hj)
   have hself:(listed.setIfInBounds i true).getD i false=true:=by
    have h':i<listed.size:=by omega
    simp[h']
   unfold stL
   rw[hsplit,List.filter_append,List.filter_append,List.filter_cons_of_pos (p:=λj=>(listed.setIfInBounds i true).getD j false) hself,List.filter_cons_of_neg (p:=λj=>listed.getD j false) (by rw[hLi];simp)]
   have e1:(List.range i).filter (λj=>(listed.setIfInBounds i true).getD j false)=(List.range i).filter (λj=>listed.getD j false):=List.filter_congr λj hj=>hne j (by have:=List.mem_range.1 hj;omega)
   have e2:(List.range' (i+1) (ops.size-i-1)).filter (λj=>(listed.setIfInBounds i true).getD j false)=(List.range' (i+1) (ops.size-i-1)).filter (λj=>listed.getD j false):=List.filter_congr λj hj=>hne j (by obtain⟨k,_,rfl⟩:=List.mem_range'.1 hj;omega)
   rw[e1,e2,YaN,YaN]
   have hlate: ∀j∈(List.range' (i+1) (ops.size-i-1)).filter (λj=>listed.getD j false),j≠i/\YQ bef i j=false/\ ∃y,ops[j]? =some y:=λj hj=>by
    obtain⟨hj1,hj2⟩:=List.mem_filter.1 hj
    obtain⟨k,hk1,rfl⟩:=List.mem_range'.1 hj1
    have hjs:i+1+1*k<ops.size:=by omega
    have hy:ops[i+1+1*k]? =some ops[i+1+1*k]:=Array.getElem?_eq_getElem hjs
    refine⟨by omega,?_,_,hy⟩
    cases hord:YQ bef i (i+1+1*k)with
    |false=>rfl
    |true=>
     have:=hset' _ _ hy (.inr hord)
     rw[hj2]at this
     have:=of_decide_eq_true this.symm
     omega
   refine Ygj _ _ (λj hj r ht hti=>?_) λj hj d hd hdi=>?_
   ·obtain⟨hji,hno,y,hy⟩:=hlate j hj
    obtain⟨p,hp,e⟩:=ht
    obtain⟨p',hp',e'⟩:=hti
    have hyl:ops.toList[j]? =some y:=by simpa using hy
    obtain⟨k1,k2,k3⟩:=Ybl (hups j y hy).2
    rcases hok3 p' hp' j y hyl hji hno with h|h
    ·rw[k1 h]at hp;cases hp
    ·have:=k2 p hp
     rw[e]at this;rw[e',this]at h;cases h
   ·obtain⟨hji,hno,y,hy⟩:=hlate j hj
    rw[hbind,hy]at hd
    rw[hbind,ho]at hdi
    exact(Ybc hap ho hy (Ne.symm hji) hno d hdi).2.1 hd
  have hcount':((List.range ops.size).filter λj=>!(listed.setIfInBounds i true).getD j false).length=fuel:=by
   have key: ∀(l:List Nat),l.Nodup->i∈l->(l.filter λj=>!listed.getD j false).length=(l.filter λj=>!(listed.setIfInBounds i true).getD j false).length+1:=by
    intro l
    induction l with
    |nil=>intro _ h;cases h
    |cons x l ihl=>
     intro hn hx
     obtain⟨hxl,hn⟩:=List.nodup_cons.1 hn
     by_cases e:x=i
     ·subst e
      have hself:(listed.setIfInBounds x true).getD x false=true:=by
       have h':x<listed.size:=by omega
       simp[h']
      rw[List.filter_cons_of_pos (p:=λj=>!listed.getD j false) (by rw[hLi];rfl),List.filter_cons_of_neg (p:=λj=>!(listed.setIfInBounds x true).getD j false) (by rw[hself];simp)]
      have:l.filter (λj=>!listed.getD j false)=l.filter (λj=>!(listed.setIfInBounds x true).getD j false):=List.filter_congr λj hj=>by
       have hxj:x≠j:=λe=>hxl (e▸hj)
       rw[getD_set_ne false hxj]
      rw[this];rfl
     ·have hx':i∈l:=(List.mem_cons.1 hx).resolve_left (Ne.symm e)
      have e1:(listed.setIfInBounds i true).getD x false=listed.getD x false:=getD_set_ne false (Ne.symm e)
      have:=ihl hn hx'
      cases hv:listed.getD x false with
      |true=>rw[List.filter_cons_of_neg (p:=λj=>!listed.getD j false) (by rw[hv];simp),List.filter_cons_of_neg (p:=λj=>!(listed.setIfInBounds i true).getD j false) (by rw[e1,hv];simp)];exact this
      |false=>rw[List.filter_cons_of_pos (p:=λj=>!listed.getD j false) (by rw[hv];simp),List.filter_cons_of_pos (p:=λj=>!(listed.setIfInBounds i true).getD j false) (by rw[e1,hv];simp),List.length_cons,List.length_cons,this]
   have:=key (List.range ops.size) List.nodup_range (by simpa using hilt)
   omega
  have hdown': ∀x,(listed.setIfInBounds i true).getD x false=true-> ∀j,(bef.getD x 0).testBit j=true->(listed.setIfInBounds i true).getD j false=true:=λx hx j hj=>by
   by_cases e:x=i
   ·subst e;exact getD_set_true (hbef j hj)
   ·rw[getD_set_ne false (Ne.symm e)]at hx;exact getD_set_true (hdown x hx j hj)
  have hnx:=λa' w' h=>ih (listed.setIfInBounds i true) a' w' (by simpa using hsz) hcount' hdown' h
  rw[hnext]at hnx
  obtain⟨F,loc,fp,hR,hs,hS,hI,hn,hd⟩:=hrel
  have hmem:o∈ops.toList:=List.mem_of_getElem? hol
  have hnd: ∀(q:AV×Ups),Xc ops.toList (stL ops t s λj=>listed.getD j false) i q=St.putO ⟨(stL ops t s λj=>listed.getD j false).G,(stL ops t s λj=>listed.getD j false).H.upd q.2⟩ o.dst q.1:=λq=>by
   unfold Xc;rw[hol];rfl
  unfold wpOp
  rw[ho]
  dsimp only
  obtain⟨o',ho',_,hcase⟩:=hstep i o ho
  have:o'=o:=by rw[hol]at ho';injection ho' with e;exact e.symm
  subst this
  have hguard: ∀d,YbL ops o'=some d->AVV w F (stL ops t s λj=>listed.getD j false).H loc ((stL ops t s λj=>decide (j<i)).G d) (a.tmps.getD d undef):=λd hd=>by rw[←hGg d hd];exact hs d
  rcases hcase with ⟨hw,hout,_,hpin⟩|⟨hw,hq⟩
  ·rw[if_pos (YdC hw hguard)]
   refine .inl ?_
   have hview:Xg o'.op=false->View (Yc7 cx.fine ops.toList bef i (stL ops t s λj=>decide (j<i)).H) (stL ops t s λj=>listed.getD j false).H:=λhnp q hq=>by
    unfold Yc7 at hq⊢
    cases hh:Yaq cx.fine ops.toList bef i q with
    |true=>rw[hh]at hq;simp at hq
    |false=>rw[if_neg (by simp)];exact(hH hnp q hh).symm
   refine Yhn hT hC hR (G:=YfR o' (YhW o' (Yc7 cx.fine ops.toList bef i (stL ops t s λj=>decide (j<i)).H) (stL ops t s λj=>decide (j<i)).G)) (λx=>?_) hview (λhnp d hd k' hk' hf=>?_) hout λv' w' F' loc' fp' hp=>?_
   ·unfold YfR
    split
    ·rename_i hx
     have base:AVV w F (stL ops t s λj=>listed.getD j false).H loc ((stL ops t s λj=>decide (j<i)).G x) (a.tmps.getD x undef):=by rw[←hGr x (by simpa using hx)];exact hs x
     unfold YhW
     cases hpu:Xg o'.op with
     |true=>exact base
     |false=>exact YdX hR (hview hpu) base
    ·trivial
   ·have hh:Yaq cx.fine ops.toList bef i (d*16+k')=false:=by
     unfold YeC at hown
     rw[hd]at hown
     have:=List.all_eq_true.1 hown k' (List.mem_range.2 hk')
     simpa using this
    rw[hH hnp _ hh]
    unfold Yc7 at hf
    rw[if_neg (by rw[hh];simp)]at hf
    exact hf
   ·refine hnx _ _ ?_
    rw[hnd]
    refine Rel.step hR hs hS hI hn hd hp (hD o' hmem) λr hr=>?_
    rcases YbE (t i).2 (stL ops t s λj=>listed.getD j false).H r with e|⟨q,hq,e1,e2⟩
    ·rw[e];exact⟨id,id⟩
    ·rw[e2]
     have hnp:Xg o'.op=false:=by
      cases hp:Xg o'.op with
      |false=>rfl
      |true=>rw[hok1 hp]at hq;cases hq
     obtain⟨p1,p2⟩:=YcK (m:=cx.n) hpin (by rw[←hm];exact hr) q hq e1
     refine⟨λh=>?_,λh=>?_⟩
     ·have:=p1 h
      rw[←hview hnp r (by intro e;rw[e]at this;cases this)];exact this
     ·have:=p2 h
      rw[←hview hnp r (by intro e;rw[e]at this;cases this)];exact this
  ·rw[if_neg (by rw[YdC hw hguard];simp)]
   refine hnx _ _ ?_
   rw[hnd,hq]
   exact Rel.skip ⟨F,loc,fp,hR,hs,hS,hI,hn,hd⟩ (hD o' hmem)
end
end Go.Va
namespace Go.Va
def Yb7 (pl:Loc) (slot:Nat):Nat->AD->List Value->Prop
 |k,.io _ _,cs=>k<16/\cs= [pl (slot*16+k)]
 |k,.bf _,cs=>k<16/\cs= [pl (slot*16+k)]
 |k,.bx a,cs=>k<16/\cs= [pl (slot*16+k)]/\Ya8 a=true
 |k,.pr a b,cs=> ∃c1 c2,cs=c1++c2/\c1.length=a.cells/\Yb7 pl slot k a c1/\Yb7 pl slot (k+a.parts) b c2
 |_,_,_=>True
section
variable {P:Program} {w w':World} {F F':Fp} {H H' V:Store} {loc loc':Loc} {fp fp':Nat->Fp} {a:Act} {cx:Cx} {E:Run} {s:St}
theorem YiA (hR:Roots w F H loc fp) (k:Keep w F H loc w' F' H' loc') {r:Nat} (h:(Yn (H' r)=true/\Yn (H r)=true)∨(Ym (H' r)=true/\Ym (H r)=true)):loc' r=loc r:=by
 have hok:=hR.ok r
 rcases h with ⟨hp,hq⟩|⟨hp,hq⟩
 ·exact YfO hR k hp hq
 ·cases hH:H r with
  |box c=>
   rw[hH]at hok
   obtain⟨b,cs,hl,_⟩:=hok
   obtain⟨v,e1,b',e2,hk⟩:=k.c (.bptr r 0) [loc r] ⟨_,rfl,b,hl,by rw[hH];exact hl⟩
   have e1:=(List.cons.inj e1).1
   rw[←e1]at e2
   cases hH':H' r with
   |box c2=>rw[hH']at hk;rw[hk,e2]
   |_=>rw[hH']at hp;simp[Ym]at hp
  |_=>rw[hH]at hq;simp[Ym]at hq
theorem X6 (a:AV) {V:Store} {t:Ty} {d:Nat} {x:t.den} {u:Ups} (h:Ya V a t d=some (x,u)): ∀q∈u,Yn q.2=false/\Ym q.2=false:=λq hq=>by
 rcases Ya2 a h q hq with h|⟨e,xs,h⟩|⟨e,d,xs,ver,i,h⟩<;>rw[h]<;>exact⟨rfl,rfl⟩
theorem YeO (a:AV) {V:Store} {t:Ty} {x:t.den} {u:Ups} (h:Ybj V a t=some (x,u)): ∀q∈u,Yn q.2=false/\Ym q.2=false:=by
 unfold Ybj at h
 split at h
 ·split at h
  rotate_left
  ·cases h
  split at h
  rotate_left
  ·cases h
  split at h
  rotate_left
  ·cases h
  rename_i h1
  cases h
  intro q hq
  rcases List.mem_cons.1 hq with rfl|hq
  ·exact⟨rfl,rfl⟩
  ·exact X6 _ h1 q hq
 ·exact X6 _ h
theorem Yfq (a:AV) {V:Store} {t:Ty} {x:t.den} {u:Ups} (h:YeN V a t=some (x,u)): ∀q∈u,Yn q.2=false/\Ym q.2=false:=by
 unfold YeN at h
 split at h
 ·split at h<;>cases h
  intro q hq;cases hq
 ·exact YeO a h
theorem Yfl {V:Store} {a:AV} {e:Ty} {d:Nat} {x:Bool×List e.den} {u:Ups} (h:Yay V e d a=some (x,u)): ∀q∈u,Yn q.2=false/\Ym q.2=false:=by
 unfold Yay at h
 split at h
 ·cases h;simp
 ·split at h
  ·rename_i h1;cases h;exact X6 _ h1
  ·cases h
 ·split at h
  ·rename_i h1;cases h;exact X6 _ h1
  ·cases h
 ·cases h
theorem Ygl {kd:MK} {a:AV} {V:Store} {ks:List ByteArray} {u:Ups} (h:YbB V kd a=some (ks,u)): ∀q∈u,Yn q.2=false/\Ym q.2=false:=by
 unfold YbB at h
 split at h
 rotate_left
 ·cases h
 split at h
 rotate_left
 ·cases h
 split at h
 ·cases h;intro q hq;simp at hq;subst hq;exact⟨rfl,rfl⟩
 ·cases h
theorem Xo {slot:Nat}: ∀(ad:AD) {V:Store} {k k':Nat} {a:AV} {x:ad.den} {u:Ups},Yi V slot k ad a=some (x,u,k')->(∀q∈u,Yn q.2=false/\Ym q.2=false)/\k'=k+ad.parts
 | .v t,V,k,k',a,x,u,h=>by
  simp only[Yi]at h
  split at h
  ·rename_i h1;cases h;exact⟨Yfq _ h1,rfl⟩
  ·cases h
 | .mv e d,V,k,k',a,x,u,h=>by
  simp only[Yi]at h
  split at h
  ·rename_i h1;cases h;exact⟨X6 _ h1,rfl⟩
  ·cases h
 | .mp _,V,k,k',a,x,u,h=>by
  simp only[Yi]at h
  split at h
  ·rename_i h1;cases h;exact⟨Ygl h1,rfl⟩
  ·cases h
 | .nv e d,V,k,k',a,x,u,h=>by
  simp only[Yi]at h
  split at h
  ·rename_i h1;cases h;exact⟨Yfl h1,rfl⟩
  ·cases h
 | .io e d,V,k,k',a,x,u,h=>by
  cases a with
  |ref r ver p=>
   cases p with
   |nil=>
    simp only[Yi]at h
    split at h
    ·split at h
     ·split at h
      ·split at h<;>cases h;exact⟨by intro q hq;rw[List.mem_singleton]at hq;subst hq;exact⟨rfl,rfl⟩,rfl⟩
      ·cases h
     ·cases h
    ·cases h
   |cons=>simp[Yi]at h
  |_=>simp[Yi]at h
 | .pr a b,V,k,k',x,y,u,h=>by
  simp only[Yi]at h
  split at h
  rotate_left
  ·cases h
  split at h
  rotate_left
  ·cases h
  rename_i x1 u1 k1 h1
  split at h
  rotate_left
  ·cases h
  rename_i x2 u2 k2 h2
  cases h
  obtain⟨p1,p2⟩:=Xo a h1
  obtain⟨q1,q2⟩:=Xo b h2
  refine⟨λq hq=>(List.mem_append.1 hq).elim (p1 q) (q1 q),?_⟩
  rw[q2,p2];simp only[AD.parts];omega
 | .bx ad,V,k,k',a,x,u,h=>by
  cases a with
  |bptr r o=>
   cases o with
   |zero=>
    simp only[Yi]at h
    split at h
    rotate_left
    ·cases h
    split at h
    rotate_left
    ·cases h
    split at h
    rotate_left
    ·cases h
    rename_i y u1 k1 h1
    cases h
    obtain⟨p1,p2⟩:=Xo ad h1
    refine⟨λq hq=>?_,?_⟩
    ·rcases List.mem_cons.1 hq with rfl|hq
     ·exact⟨rfl,rfl⟩
     ·exact p1 q hq
    ·rw[p2];simp only[AD.parts];omega
   |succ=>simp[Yi]at h
  |_=>simp[Yi]at h
 | .jk n,V,k,k',a,x,u,h=>by
  cases a with
  |jk m=>
   simp only[Yi]at h
   split at h<;>cases h
   exact⟨by simp,rfl⟩
  |_=>simp[Yi]at h
 | .un,V,k,k',a,x,u,h=>by simp[Yi]at h
 | .bf _,V,k,k',a,x,u,h=>by
  cases a with
  |ref r ver p=>
   cases p with
   |nil=>
    simp only[Yi]at h
    split at h
    ·split at h
     ·split at h<;>cases h;exact⟨by intro q hq;rw[List.mem_singleton]at hq;subst hq;exact⟨rfl,rfl⟩,rfl⟩
     ·cases h
    ·cases h
   |cons=>simp[Yi]at h
  |_=>simp[Yi]at h
 | .gs _ _,V,k,k',a,x,u,h=>by
  cases a with
  |ref r ver p=>
   cases p with
   |nil=>
    simp only[Yi]at h
    split at h
    ·split at h
     ·split at h<;>cases h;exact⟨by intro q hq;rw[List.mem_singleton]at hq;subst hq;exact⟨rfl,rfl⟩,rfl⟩
     ·cases h
    ·split at h
     ·split at h<;>cases h;exact⟨by intro q hq;rw[List.mem_singleton]at hq;subst hq;exact⟨rfl,rfl⟩,rfl⟩
     ·cases h
    ·cases h
   |cons=>simp[Yi]at h
  |_=>simp[Yi]at h
 | .pz _,V,k,k',a,x,u,h=>by
  simp only[Yi]at h
  split at h
  rotate_left
  ·cases h
  rename_i h1
  cases h
  refine⟨λq hq=>?_,rfl⟩
  unfold YaS at h1
  split at h1
  rotate_left
  ·cases h1
  split at h1
  ·split at h1<;>cases h1
   cases hq
  ·split at h1
   rotate_left
   ·cases h1
   split at h1<;>cases h1
   rw[List.mem_singleton]at hq;subst hq;exact⟨rfl,rfl⟩
  ·cases h1
theorem PinI.taken {m:Nat} {pl:Loc} {u:Ups} (h:PinI m pl H loc) (hu: ∀q∈u,Yn q.2=false/\Ym q.2=false):PinI m pl (H.upd u) loc:=by
 intro r hr hp
 rcases YbE u H r with e|⟨q,hq,_,e2⟩
 ·rw[e]at hp;exact h r hr hp
 ·rw[e2,(hu q hq).1,(hu q hq).2]at hp;simp at hp
theorem YbT {m:Nat} {pl:Loc} {slot:Nat} (hslot:slot<m): ∀(ad:AD) {F:Fp} {H V:Store} {fp:Nat->Fp} {k k':Nat} {a:AV} {x:ad.den} {u:Ups} {cs:List Value},Roots w F H loc fp->View V H->PinI m pl H loc->
  AVC w F H loc a cs->Yi V slot k ad a=some (x,u,k')->YeE slot k ad a=true->Yb7 pl slot k ad cs
 | .v t,F,H,V,fp,k,k',a,x,u,cs,hR,hV,hI,hc,ht,hp=>trivial
 | .mv _ _,F,H,V,fp,k,k',a,x,u,cs,hR,hV,hI,hc,ht,hp=>trivial
 | .mp _,F,H,V,fp,k,k',a,x,u,cs,hR,hV,hI,hc,ht,hp=>trivial
 | .nv _ _,F,H,V,fp,k,k',a,x,u,cs,hR,hV,hI,hc,ht,hp=>trivial
 | .jk _,F,H,V,fp,k,k',a,x,u,cs,hR,hV,hI,hc,ht,hp=>trivial
 | .un,F,H,V,fp,k,k',a,x,u,cs,hR,hV,hI,hc,ht,hp=>trivial
 | .gs _ _,F,H,V,fp,k,k',a,x,u,cs,hR,hV,hI,hc,ht,hp=>trivial
 | .pz _,F,H,V,fp,k,k',a,x,u,cs,hR,hV,hI,hc,ht,hp=>trivial
 | .io e d,F,H,V,fp,k,k',a,x,u,cs,hR,hV,hI,hc,ht,hp=>by
  simp only[YeE,decide_eq_true_eq]at hp
  cases a with
  |ref r ver p=>
   cases p with
   |nil=>
    simp only[Yi]at ht
    split at ht
    rotate_left
    ·cases ht
    rename_i hr
    split at ht
    rotate_left
    ·cases ht
    rename_i e' d' xs ver' hVr
    have hHr:=hV.arr hVr (by simp)
    obtain⟨v,rfl,_,hv⟩:=hc
    rw[hHr]at hv
    have:=hI r (by omega) (by rw[hHr];rfl)
    exact⟨hp,by rw[←hr,←this,hv.2.1 rfl]⟩
   |cons=>simp[Yi]at ht
  |_=>simp[Yi]at ht
 | .bf e,F,H,V,fp,k,k',a,x,u,cs,hR,hV,hI,hc,ht,hp=>by
  simp only[YeE,decide_eq_true_eq]at hp
  cases a with
  |ref r ver p=>
   cases p with
   |nil=>
    simp only[Yi]at ht
    split at ht
    rotate_left
    ·cases ht
    rename_i hr
    split at ht
    rotate_left
    ·cases ht
    rename_i e' xs n ver' hVr
    have hHr:=hV.arr hVr (by simp)
    obtain⟨v,rfl,_,hv⟩:=hc
    rw[hHr]at hv
    have:=hI r (by omega) (by rw[hHr];rfl)
    exact⟨hp,by rw[←hr,←this,hv.2.1 rfl]⟩
   |cons=>simp[Yi]at ht
  |_=>simp[Yi]at ht
 | .bx ad,F,H,V,fp,k,k',a,x,u,cs,hR,hV,hI,hc,ht,hp=>by
  cases a with
  |bptr r o=>
   cases o with
   |zero=>
    simp only[YeE,decide_eq_true_eq,Bool.and_eq_true,beq_iff_eq]at hp
    obtain⟨⟨hr,hk⟩,hno⟩:=hp
    simp only[Yi]at ht
    split at ht
    rotate_left
    ·cases ht
    rename_i c hVr
    have hHr:=hV.arr hVr (by simp)
    obtain⟨v,rfl,b,hvv,hl⟩:=hc
    rw[hHr]at hl
    have:=hI r (by omega) (by rw[hHr];rfl)
    exact⟨hk,by rw[←hr,←this,hl,hvv],hno⟩
   |succ=>simp[Yi]at ht
  |_=>simp[Yi]at ht
 | .pr ad bd,F,H,V,fp,k,k',a,x,u,cs,hR,hV,hI,hc,ht,hp=>by
  simp only[Yi]at ht
  simp only[YeE]at hp
  split at ht
  rotate_left
  ·cases ht
  rename_i y z hy hz
  rw[hy,hz]at hp
  simp only[Bool.and_eq_true]at hp
  obtain⟨c1,c2,rfl,hc1,hc2⟩:=XD (b:=a) hc hy hz
  split at ht
  rotate_left
  ·cases ht
  rename_i x1 u1 k1 h1
  split at ht
  rotate_left
  ·cases ht
  rename_i x2 u2 k2 h2
  cases ht
  obtain⟨F1,fp1,f1,ht1,hr1⟩:=XN ad hR hV hc1 h1
  obtain⟨hu1,hk1⟩:=Xo ad h1
  subst hk1
  exact⟨c1,c2,rfl,DR.len ad hr1,YbT hslot ad hR hV hI hc1 h1 hp.1,YbT hslot bd ht1.roots (hV.upd u1) (hI.taken hu1) (ht1.keep.c _ _ hc2) h2 hp.2⟩
theorem XJ {slot:Nat}: ∀(ad:AD) {V:Store} {k k':Nat} {a:AV} {x:ad.den} {u:Ups},mkD V slot k ad x=some (a,u,k')->k'=k+ad.parts/\(∀q∈u,∃j,k<=j/\j<k'/\j<16/\q.1=slot*16+j)/\(u.map (·.1)).Nodup
 | .v t,V,k,k',a,x,u,h=>by
  simp only[mkD]at h;cases h;exact⟨rfl,by simp,by simp⟩
 | .jk n,V,k,k',a,x,u,h=>by
  simp only[mkD]at h;cases h;exact⟨rfl,by simp,by simp⟩
 | .un,V,k,k',a,x,u,h=>by simp[mkD]at h
 | .mv e d,V,k,k',a,x,u,h=>by
  simp only[mkD]at h
  split at h
  ·rename_i hf
   cases h
   unfold YS at hf
   rw[Bool.and_eq_true,decide_eq_true_eq]at hf
   exact⟨rfl,by intro q hq;rw[List.mem_singleton]at hq;subst hq;exact⟨k,by omega,by omega,hf.1,rfl⟩,by simp⟩
  ·cases h
 | .mp _,V,k,k',a,x,u,h=>by
  simp only[mkD]at h
  split at h
  ·rename_i hf
   cases h
   unfold YS at hf
   rw[Bool.and_eq_true,decide_eq_true_eq]at hf
   exact⟨rfl,by intro q hq;rw[List.mem_singleton]at hq;subst hq;exact⟨k,by omega,by omega,hf.1,rfl⟩,by simp⟩
  ·cases h
 | .nv _ _,V,k,k',a,x,u,h=>by
  simp only[mkD]at h
  split at h
  ·rename_i hf
   cases h
   unfold YS at hf
   rw[Bool.and_eq_true,decide_eq_true_eq]at hf
   exact⟨rfl,by intro q hq;rw[List.mem_singleton]at hq;subst hq;exact⟨k,by omega,by omega,hf.1,rfl⟩,by simp⟩
  ·cases h
 | .gs _ _,V,k,k',a,x,u,h=>by
  simp only[mkD]at h
  split at h
  ·rename_i hf
   cases h
   unfold YS at hf
   rw[Bool.and_eq_true,decide_eq_true_eq]at hf
   exact⟨rfl,by intro q hq;rw[List.mem_singleton]at hq;subst hq;exact⟨k,by omega,by omega,hf.1,rfl⟩,by simp⟩
  ·cases h
 | .bf _,V,k,k',a,x,u,h=>by
  simp only[mkD]at h
  split at h
  ·rename_i hf
   cases h
   unfold YS at hf
   rw[Bool.and_eq_true,decide_eq_true_eq]at hf
   exact⟨rfl,by intro q hq;rw[List.mem_singleton]at hq;subst hq;exact⟨k,by omega,by omega,hf.1,rfl⟩,by simp⟩
  ·cases h
 | .pz _,V,k,k',a,x,u,h=>by
  simp only[mkD]at h
  split at h
  ·rename_i hf
   cases h
   unfold YS at hf
   rw[Bool.and_eq_true,decide_eq_true_eq]at hf
   exact⟨rfl,by intro q hq;rw[List.mem_singleton]at hq;subst hq;exact⟨k,by omega,by omega,hf.1,rfl⟩,by simp⟩
  ·cases h
 | .io e d,V,k,k',a,x,u,h=>by
  simp only[mkD]at h
  split at h
  ·rename_i hf
   cases h
   unfold YS at hf
   rw[Bool.and_eq_true,decide_eq_true_eq]at hf
   exact⟨rfl,by intro q hq;rw[List.mem_singleton]at hq;subst hq;exact⟨k,by omega,by omega,hf.1,rfl⟩,by simp⟩
  ·cases h
 | .pr ad bd,V,k,k',a,x,u,h=>by
  simp only[mkD]at h
  split at h
  rotate_left
  ·cases h
  rename_i y u1 k1 h1
  split at h
  rotate_left
  ·cases h
  rename_i z u2 k2 h2
  cases h
  obtain⟨p1,p2,p3⟩:=XJ ad h1
  obtain⟨q1,q2,q3⟩:=XJ bd h2
  refine⟨by rw[q1,p1];simp only[AD.parts];omega,λq hq=>?_,?_⟩
  ·rcases List.mem_append.1 hq with hq|hq
   ·obtain⟨j,j1,j2,j3,j4⟩:=p2 q hq;exact⟨j,j1,by omega,j3,j4⟩
   ·obtain⟨j,j1,j2,j3,j4⟩:=q2 q hq;exact⟨j,by omega,j2,j3,j4⟩
  ·rw[List.map_append]
   refine List.nodup_append.2 ⟨p3,q3,λr hr r' hr' e=>?_⟩
   obtain⟨p,hp,rfl⟩:=List.mem_map.1 hr
   obtain⟨q,hq,rfl⟩:=List.mem_map.1 hr'
   obtain⟨j,j1,j2,j3,j4⟩:=p2 p hp
   obtain⟨i,i1,i2,i3,i4⟩:=q2 q hq
   rw[j4,i4]at e
   omega
 | .bx ad,V,k,k',a,x,u,h=>by
  simp only[mkD]at h
  split at h
  rotate_left
  ·cases h
  rename_i hf
  split at h
  rotate_left
  ·cases h
  rename_i y u1 k1 h1
  split at h
  rotate_left
  ·cases h
  split at h
  rotate_left
  ·cases h
  cases h
  unfold YS at hf
  rw[Bool.and_eq_true,decide_eq_true_eq]at hf
  obtain⟨p1,p2,p3⟩:=XJ ad h1
  refine⟨by rw[p1];simp only[AD.parts];omega,λq hq=>?_,?_⟩
  ·rcases List.mem_append.1 hq with hq|hq
   ·obtain⟨j,j1,j2,j3,j4⟩:=p2 q hq;exact⟨j,by omega,j2,j3,j4⟩
   ·rw[List.mem_singleton]at hq;subst hq;exact⟨k,by omega,by omega,hf.1,rfl⟩
  ·rw[List.map_append]
   refine List.nodup_append.2 ⟨p3,by simp,λr hr r' hr' e=>?_⟩
   obtain⟨p,hp,rfl⟩:=List.mem_map.1 hr
   simp only[List.map_cons,List.map_nil,List.mem_singleton]at hr'
   obtain⟨j,j1,j2,j3,j4⟩:=p2 p hp
   rw[j4,hr']at e
   omega
theorem YdB: ∀(u:Ups) (H:Store),(u.map (·.1)).Nodup-> ∀q∈u,(H.upd u) q.1=q.2
 | [],_,_,q,hq=>by cases hq
 |(r,R)::u,H,hn,q,hq=>by
  simp only[List.map_cons]at hn
  obtain⟨hr,hn⟩:=List.nodup_cons.1 hn
  rcases List.mem_cons.1 hq with rfl|hq
  ·show((H.set r R).upd u) r=R
   have:((H.set r R).upd u) r=(H.set r R) r:=Yy u λp hp e=>hr (e▸List.mem_map_of_mem (f:=(·.1)) hp)
   rw[this,Store.set_same]
  ·exact YdB u _ hn q hq
theorem YbQ {slot:Nat}: ∀(ad:AD) {V:Store} {k k':Nat} {a:AV} {x:ad.den} {u:Ups},Ya8 ad=true->mkD V slot k ad x=some (a,u,k')-> ∀q∈u,Yn q.2=false/\Ym q.2=false
 | .v t,V,k,k',a,x,u,_,h=>by simp only[mkD]at h;cases h;simp
 | .jk n,V,k,k',a,x,u,_,h=>by simp only[mkD]at h;cases h;simp
 | .un,V,k,k',a,x,u,_,h=>by simp[mkD]at h
 | .mv e d,V,k,k',a,x,u,_,h=>by
  simp only[mkD]at h
  split at h<;>cases h
  intro q hq;rw[List.mem_singleton]at hq;subst hq;exact⟨rfl,rfl⟩
 | .mp _,V,k,k',a,x,u,_,h=>by
  simp only[mkD]at h
  split at h<;>cases h
  intro q hq;rw[List.mem_singleton]at hq;subst hq;exact⟨rfl,rfl⟩
 | .nv _ _,V,k,k',a,x,u,_,h=>by
  simp only[mkD]at h
  split at h<;>cases h
  intro q hq;rw[List.mem_singleton]at hq;subst hq;exact⟨rfl,rfl⟩
 | .gs _ _,V,k,k',a,x,u,_,h=>by
  simp only[mkD]at h
  split at h<;>cases h
  intro q hq;rw[List.mem_singleton]at hq;subst hq;exact⟨rfl,rfl⟩
 | .pz _,V,k,k',a,x,u,_,h=>by
  simp only[mkD]at h
  split at h<;>cases h
  intro q hq;rw[List.mem_singleton]at hq;subst hq;exact⟨rfl,rfl⟩
 | .io e d,V,k,k',a,x,u,hn,h=>by simp[Ya8]at hn
 | .bf e,V,k,k',a,x,u,hn,h=>by simp[Ya8]at hn
 | .bx ad,V,k,k',a,x,u,hn,h=>by simp[Ya8]at hn
 | .pr ad bd,V,k,k',a,x,u,hn,h=>by
  simp only[Ya8,Bool.and_eq_true]at hn
  simp only[mkD]at h
  split at h
  rotate_left
  ·cases h
  rename_i y u1 k1 h1
  split at h
  rotate_left
  ·cases h
  rename_i z u2 k2 h2
  cases h
  exact λq hq=>(List.mem_append.1 hq).elim (YbQ ad hn.1 h1 q) (YbQ bd hn.2 h2 q)
theorem Ycf {slot:Nat}: ∀(ad:AD) {V:Store} {k k':Nat} {a:AV} {x:ad.den} {u:Ups} {cs:List Value},mkD V slot k ad x=some (a,u,k')->AVC w F H loc a cs->cs.length=ad.cells
 | .v t,V,k,k',a,x,u,cs,h,hc=>by simp only[mkD]at h;cases h;exact Rep.len t hc
 | .jk n,V,k,k',a,x,u,cs,h,hc=>by simp only[mkD]at h;cases h;exact hc
 | .un,V,k,k',a,x,u,cs,h,hc=>by simp[mkD]at h
 | .mv e d,V,k,k',a,x,u,cs,h,hc=>by
  simp only[mkD]at h
  split at h<;>cases h
  obtain⟨v,rfl,_⟩:=hc;rfl
 | .mp _,V,k,k',a,x,u,cs,h,hc=>by
  simp only[mkD]at h
  split at h<;>cases h
  obtain⟨v,rfl,_⟩:=hc;rfl
 | .nv _ _,V,k,k',a,x,u,cs,h,hc=>by
  simp only[mkD]at h
  split at h<;>cases h
  obtain⟨v,rfl,_⟩:=hc;rfl
 | .gs _ _,V,k,k',a,x,u,cs,h,hc=>by
  simp only[mkD]at h
  split at h<;>cases h
  obtain⟨v,rfl,_⟩:=hc;rfl
 | .bf _,V,k,k',a,x,u,cs,h,hc=>by
  simp only[mkD]at h
  split at h<;>cases h
  obtain⟨v,rfl,_⟩:=hc;rfl
 | .pz _,V,k,k',a,x,u,cs,h,hc=>by
  simp only[mkD]at h
  split at h<;>cases h
  obtain⟨v,rfl,_⟩:=hc;rfl
 | .io e d,V,k,k',a,x,u,cs,h,hc=>by
  simp only[mkD]at h
  split at h<;>cases h
  obtain⟨v,rfl,_⟩:=hc;rfl
 | .bx ad,V,k,k',a,x,u,cs,h,hc=>by
  simp only[mkD]at h
  split at h
  rotate_left
  ·cases h
  split at h
  rotate_left
  ·cases h
  split at h
  rotate_left
  ·cases h
  split at h
  rotate_left
  ·cases h
  cases h
  obtain⟨v,rfl,_⟩:=hc;rfl
 | .pr ad bd,V,k,k',a,x,u,cs,h,hc=>by
  simp only[mkD]at h
  split at h
  rotate_left
  ·cases h
  rename_i y u1 k1 h1
  split at h
  rotate_left
  ·cases h
  rename_i z u2 k2 h2
  cases h
  obtain⟨c1,c2,rfl,g1,g2⟩:=hc
  rw[List.length_append,Ycf ad h1 g1,Ycf bd h2 g2];rfl
theorem YdP {pl:Loc} {slot:Nat}: ∀(ad:AD) {V:Store} {k k':Nat} {a:AV} {x:ad.den} {u:Ups} {cs:List Value},mkD V slot k ad x=some (a,u,k')->AVC w F H loc a cs->Yb7 pl slot k ad cs->
  ∀q∈u,H q.1=q.2->(Yn q.2||Ym q.2)=true->loc q.1=pl q.1
 | .v t,V,k,k',a,x,u,cs,h,hc,hp=>by simp only[mkD]at h;cases h;simp
 | .jk n,V,k,k',a,x,u,cs,h,hc,hp=>by simp only[mkD]at h;cases h;simp
 | .un,V,k,k',a,x,u,cs,h,hc,hp=>by simp[mkD]at h
 | .mv e d,V,k,k',a,x,u,cs,h,hc,hp=>by
  simp only[mkD]at h
  split at h<;>cases h
  intro q hq _ h;rw[List.mem_singleton]at hq;subst hq;simp[Yn,Ym]at h
 | .mp _,V,k,k',a,x,u,cs,h,hc,hp=>by
  simp only[mkD]at h
  split at h<;>cases h
  intro q hq _ h;rw[List.mem_singleton]at hq;subst hq;simp[Yn,Ym]at h
 | .nv _ _,V,k,k',a,x,u,cs,h,hc,hp=>by
  simp only[mkD]at h
  split at h<;>cases h
  intro q hq _ h;rw[List.mem_singleton]at hq;subst hq;simp[Yn,Ym]at h
 | .gs _ _,V,k,k',a,x,u,cs,h,hc,hp=>by
  simp only[mkD]at h
  split at h<;>cases h
  intro q hq _ h;rw[List.mem_singleton]at hq;subst hq;simp[Yn,Ym]at h
 | .pz _,V,k,k',a,x,u,cs,h,hc,hp=>by
  simp only[mkD]at h
  split at h<;>cases h
  intro q hq _ h;rw[List.mem_singleton]at hq;subst hq;simp[Yn,Ym]at h
 | .bf e,V,k,k',a,x,u,cs,h,hc,⟨hk,hp⟩=>by
  simp only[mkD]at h
  split at h<;>cases h
  intro q hq hH _;rw[List.mem_singleton]at hq;subst hq
  obtain⟨v,e1,_,hv⟩:=hc
  rw[hp]at e1
  rw[hH]at hv
  rw[←hv.2.1 rfl];exact(List.cons.inj e1).1.symm
 | .io e d,V,k,k',a,x,u,cs,h,hc,⟨hk,hp⟩=>by
  simp only[mkD]at h
  split at h<;>cases h
  intro q hq hH _;rw[List.mem_singleton]at hq;subst hq
  obtain⟨v,e1,_,hv⟩:=hc
  rw[hp]at e1
  rw[hH]at hv
  rw[←hv.2.1 rfl];exact(List.cons.inj e1).1.symm
 | .bx ad,V,k,k',a,x,u,cs,h,hc,⟨hk,hp,hno⟩=>by
  simp only[mkD]at h
  split at h
  rotate_left
  ·cases h
  split at h
  rotate_left
  ·cases h
  rename_i y u1 k1 h1
  split at h
  rotate_left
  ·cases h
  split at h
  rotate_left
  ·cases h
  cases h
  intro q hq hH hpin
  rcases List.mem_append.1 hq with hq|hq
  ·obtain⟨p1,p2⟩:=YbQ ad hno h1 q hq
   rw[p1,p2]at hpin;simp at hpin
  ·rw[List.mem_singleton]at hq;subst hq
   obtain⟨v,e1,b,hv1,hv⟩:=hc
   rw[hp]at e1
   rw[hH]at hv
   have e1:=(List.cons.inj e1).1
   rw[e1,hv1];exact hv
 | .pr ad bd,V,k,k',a,x,u,cs,h,hc,⟨c1,c2,hcs,hl,hp1,hp2⟩=>by
  simp only[mkD]at h
  split at h
  rotate_left
  ·cases h
  rename_i y u1 k1 h1
  split at h
  rotate_left
  ·cases h
  rename_i z u2 k2 h2
  cases h
  obtain⟨c1',c2',hcs',g1,g2⟩:=hc
  obtain⟨e1,e2⟩:=List.append_inj (hcs.symm.trans hcs') (hl.trans (Ycf ad h1 g1).symm)
  subst e1;subst e2
  have hk1:=(XJ ad h1).1
  subst hk1
  exact λq hq=>(List.mem_append.1 hq).elim (YdP ad h1 g1 hp1 q) (YdP bd h2 g2 hp2 q)
theorem YcF {slot:Nat}: ∀(ad:AD) {V:Store} {k k':Nat} {a:AV} {x:ad.den} {u:Ups} {cs:List Value},YcI ad=true->mkD V slot k ad x=some (a,u,k')->AVC w F H loc a cs->
  (∀q∈u,H q.1=q.2)->Yb7 loc slot k ad cs
 | .v t,V,k,k',a,x,u,cs,ho,h,hc,hH=>trivial
 | .jk n,V,k,k',a,x,u,cs,ho,h,hc,hH=>trivial
 | .un,V,k,k',a,x,u,cs,ho,h,hc,hH=>trivial
 | .gs _ _,V,k,k',a,x,u,cs,ho,h,hc,hH=>trivial
 | .pz _,V,k,k',a,x,u,cs,ho,h,hc,hH=>trivial
 | .mv e d,V,k,k',a,x,u,cs,ho,h,hc,hH=>trivial
 | .mp _,V,k,k',a,x,u,cs,ho,h,hc,hH=>trivial
 | .nv _ _,V,k,k',a,x,u,cs,ho,h,hc,hH=>trivial
 | .bf e,V,k,k',a,x,u,cs,ho,h,hc,hH=>by
  simp only[mkD]at h
  split at h
  rotate_left
  ·cases h
  rename_i hf
  cases h
  unfold YS at hf
  rw[Bool.and_eq_true,decide_eq_true_eq]at hf
  obtain⟨v,rfl,_,hv⟩:=hc
  have:=hH _ (List.mem_singleton.2 rfl)
  dsimp only at this
  rw[this]at hv
  exact⟨hf.1,by rw[hv.2.1 rfl]⟩
 | .io e d,V,k,k',a,x,u,cs,ho,h,hc,hH=>by
  simp only[mkD]at h
  split at h
  rotate_left
  ·cases h
  rename_i hf
  cases h
  unfold YS at hf
  rw[Bool.and_eq_true,decide_eq_true_eq]at hf
  obtain⟨v,rfl,_,hv⟩:=hc
  have:=hH _ (List.mem_singleton.2 rfl)
  dsimp only at this
  rw[this]at hv
  exact⟨hf.1,by rw[hv.2.1 rfl]⟩
 | .bx ad,V,k,k',a,x,u,cs,ho,h,hc,hH=>by
  simp only[mkD]at h
  split at h
  rotate_left
  ·cases h
  rename_i hf
  split at h
  rotate_left
  ·cases h
  rename_i y u1 k1 h1
  split at h
  rotate_left
  ·cases h
  split at h
  rotate_left
  ·cases h
  cases h
  unfold YS at hf
  rw[Bool.and_eq_true,decide_eq_true_eq]at hf
  obtain⟨v,rfl,b,hv1,hv⟩:=hc
  have:=hH _ (List.mem_append_right _ (List.mem_singleton.2 rfl))
  dsimp only at this
  rw[this]at hv
  exact⟨hf.1,by rw[hv,hv1],ho⟩
 | .pr ad bd,V,k,k',a,x,u,cs,ho,h,hc,hH=>by
  simp only[YcI,Bool.and_eq_true]at ho
  simp only[mkD]at h
  split at h
  rotate_left
  ·cases h
  rename_i y u1 k1 h1
  split at h
  rotate_left
  ·cases h
  rename_i z u2 k2 h2
  cases h
  obtain⟨c1,c2,rfl,g1,g2⟩:=hc
  have hk1:=(XJ ad h1).1
  subst hk1
  exact⟨c1,c2,rfl,Ycf ad h1 g1,YcF ad ho.1 h1 g1 λq hq=>hH q (List.mem_append_left _ hq),YcF bd ho.2 h2 g2 λq hq=>hH q (List.mem_append_right _ hq)⟩
end
end Go.Va
namespace Go.Va
def Yii (m:Nat) (pl:Loc) (sh:Xb) (T:Nat->Value):Prop:= ∀q∈sh,Ya5 q.1=false->q.1<m-> ∀cs,X7 q.2 (T q.1) cs->cs.length=q.2.cells->Yb7 pl q.1 0 q.2 cs
def YeU (w:World) (T:Nat->Value) (n:Nat) (h:Value):Prop:=match alC n with
 |0=>T (alM n)=h
 |c+1=> ∃b,T (alM n)= .pointer (some ⟨b,0,none⟩)/\w.cell? ⟨b,c,none⟩=some h
def Yi5 (w:World) (T:Nat->Value) (n:Nat) (j:Int):Prop:=
 ∃blk len cap,YeU w T n (.slice (some ⟨blk,0,none⟩) len cap)/\0<=j/\j<(len:Int)/\w.cell? ⟨blk,j.toNat,none⟩=some (T (n%65536))/\Yc6 (T (n%65536))
def AlP (w:World) (T:Nat->Value) (n:Nat):(a:AD)->a.den->Prop
 | .jk _,_=>YeU w T n (T (n%65536))
 | .v t,x=> ∃j,YiY t x=some j/\Yi5 w T n j
 |_,_=>False
def EntR (w:World) (F:Fp) (T:Nat->Value) (n:Nat) (a:AD) (x:a.den) (f:Fp):Prop:=match Ya5 n with
 |true=>AlP w T n a x/\ ∀k,¬f k
 |false=>DV w F a (T n) x f
def ShR (w:World) (F:Fp) (T:Nat->Value):(sh:Xb)->YH (sh.map (·.2))->Fp->Prop
 | [],_,f=> ∀k,¬f k
 | [(n,a)],x,f=>EntR w F T n a x f
 |(n,a)::b::l,x,f=> ∃(f1 f2:Fp),(∀k,f k↔f1 k∨f2 k)/\(∀k,f1 k->f2 k->False)/\EntR w F T n a x.1 f1/\ShR w F T (b::l) x.2 f2
def Yih (cod:List (Nat×Cod)) (E:Run) (sh:Xb) (x:YH (sh.map (·.2))) (a:Act) (w:World):Prop:=
 ∃F f T,DressR w F (Ygx cod sh) (λi=>a.tmps.getD i undef) T/\ShR w F T sh x f/\(∀n,f n-> ¬F n)/\(∀n,F n->n<w.heap.size)/\Since E.w0 E.F0 E.fA w F (λ_=>f)/\Yii E.m E.pl sh T/\E.n<=a.tmps.size/\a.defers= []
section
variable {T:Nat->Value} {P:Program} {w w':World} {F F':Fp} {H H' V:Store} {loc loc':Loc} {fp fp':Nat->Fp} {a:Act} {cx:Cx} {E:Run} {s:St}
theorem YcS {ad:AD} {v:Value} {cs cs':List Value} (h:X7 ad v cs) (h':X7 ad v cs') (hn: ∀n,ad≠ .jk n):cs=cs':=by
 unfold X7 at h h'
 cases ad with
 |jk n=>exact absurd rfl (hn n)
 |_=>
  dsimp only at h h'
  split at h
  ·rename_i hp;rw[if_pos hp]at h';rw[h]at h';injection h' with h';exact congrArg Array.toList h'
  ·rename_i hp;rw[if_neg hp]at h';rw[h,h']
theorem YhX {m n:Nat} {pl:Loc} {ad:AD} {v:Value} {k':Nat} {x:ad.den} {u:Ups} (hR:Roots w F s.H loc fp) (hI:PinI m pl s.H loc) (hs:AVV w F s.H loc (s.G n) v) (hok:Yfh m n ad (s.G n)=true) (ht:Yi s.H n 0 ad (s.G n)=some (x,u,k')):
  ∃F' fp' f,Taken w F s.H loc fp u F' fp' f/\DV w F' ad v x f/\(n<m-> ∀cs,X7 ad v cs->cs.length=ad.cells->Yb7 pl n 0 ad cs):=by
 unfold Yfh at hok
 rw[Bool.and_eq_true,Bool.or_eq_true,decide_eq_true_eq]at hok
 obtain⟨h1,h2⟩:=hok
 obtain⟨cs,hc,hsh⟩:=YaO hs h1 λj e=>by
  subst e
  cases hg:s.G n with
  |jk m=>
   rw[hg]at ht
   simp only[Yi]at ht
   split at ht
   ·rename_i hm;rw[hm]
   ·cases ht
  |_=>rw[hg]at ht;simp[Yi]at ht
 obtain⟨F',fp',f,htk,hr⟩:=XN ad hR (View.refl _) hc ht
 refine⟨F',fp',f,htk,⟨cs,hr,hsh⟩,λhlt cs' hs' hl'=>?_⟩
 by_cases hj: ∃j,ad= .jk j
 ·obtain⟨j,rfl⟩:=hj;trivial
 ·have:=YcS hsh hs' λj e=>hj ⟨j,e⟩
  subst this
  exact YbT hlt ad hR (View.refl _) hI hc ht (h2.resolve_left (by omega))
theorem YiN (m:Nat) (s:St):YcX m s []=some ():=rfl
theorem Ygk (m:Nat) (s:St) (n:Nat) (a:AD):YcX m s [(n,a)]=(match Yb3 m s n a with|some (x,_)=>some x|none=>none):=rfl
theorem Yfk (m:Nat) (s:St) (n:Nat) (a:AD) (b:Nat×AD) (l:Xb):YcX m s ((n,a)::b::l)=(match Yb3 m s n a with|some (x,u)=>(match YcX m ⟨s.G,s.H.upd u⟩ (b::l)with|some y=>some (x,y)|none=>none)|none=>none):=rfl
theorem Ygn {ad:AD} {n:Nat} {m:Nat} {x:ad.den} {u:Ups} (h:Yb3 m s n ad=some (x,u)): ∀q∈u,Yn q.2=false/\Ym q.2=false:=by
 unfold Yb3 at h
 split at h
 ·split at h
  ·cases h;simp
  ·cases h
 ·split at h
  ·split at h
   ·rename_i h1;cases h;exact(Xo ad h1).1
   ·cases h
  ·cases h
theorem Yhs {a:AV} {v:Value} (h:AVC w F H loc a [v]) (hp:YF a=false):AVV w F H loc a v:=by
 cases a with
 |un=>trivial
 |jk n=>trivial
 |clo f l=>exact h.elim
 |ptr r ver t p=>exact h.elim
 |vptr t x=>exact h.elim
 |tup l=>exact h.elim
 |_=>exact⟨[v],h,by simp[Shp,hp]⟩
theorem Yd2 {n:Nat} {h:Value} (hR:Roots w F H loc fp) {G:Nat->AV} (hs: ∀i,AVV w F H loc (G i) (T i)) (ht:YeU w T n h):AVV w F H loc (Yba G H n) h:=by
 unfold YeU at ht
 unfold Yba
 cases hc:alC n with
 |zero=>rw[hc]at ht;dsimp only at ht⊢;rw[←ht];exact hs _
 |succ c=>
  rw[hc]at ht
  obtain⟨b,h1,h2⟩:=ht
  dsimp only
  split
  rotate_left
  ·trivial
  rename_i r hG
  have g:=hs (alM n)
  rw[hG]at g
  obtain⟨b',g1,g2⟩:=YB.1 g
  split
  rotate_left
  ·trivial
  rename_i l hH
  rw[hH]at g2
  have hok:=hR.ok r
  rw[hH]at hok
  obtain⟨b2,cs,e1,e2,e3,_,e5⟩:=hok
  have g2:loc r= .pointer (some ⟨b',0,none⟩):=g2
  rw[g2]at e1
  rw[h1]at g1
  injection g1 with g1;injection g1 with g1;injection g1 with g1
  injection e1 with e1;injection e1 with e1;injection e1 with e1
  subst g1;subst e1
  split
  ·rename_i a hl
   have hcell:=e2.lies c
   rw[h2]at hcell
   obtain⟨k1,k2⟩:=e5 c a h hl hcell.symm
   exact Yhs k1 k2
  ·trivial
theorem Yhi {n:Nat} {r ver:Nat} {p:List PE} (hR:Roots w F H loc fp) {G:Nat->AV} (hs: ∀i,AVV w F H loc (G i) (T i)) (ht:Yba G H n= .ref r ver p): ∃h,YeU w T n h:=by
 unfold YeU
 unfold Yba at ht
 cases hc:alC n with
 |zero=>exact⟨_,rfl⟩
 |succ c=>
  rw[hc]at ht
  dsimp only at ht⊢
  split at ht
  rotate_left
  ·cases ht
  rename_i r0 hG
  have g:=hs (alM n)
  rw[hG]at g
  obtain⟨b',g1,g2⟩:=YB.1 g
  split at ht
  rotate_left
  ·cases ht
  rename_i l hH
  rw[hH]at g2
  have hok:=hR.ok r0
  rw[hH]at hok
  obtain⟨b2,cs,e1,e2,e3,_,e5⟩:=hok
  have g2:loc r0= .pointer (some ⟨b',0,none⟩):=g2
  rw[g2]at e1
  injection e1 with e1;injection e1 with e1;injection e1 with e1
  subst e1
  split at ht
  rotate_left
  ·cases ht
  rename_i a hl
  have hlt:c<cs.length:=by rw[e3];exact(List.getElem?_eq_some_iff.1 hl).1
  exact⟨cs[c],b',g1,by rw[e2.lies c];exact List.getElem?_eq_getElem hlt⟩
theorem YfA {e:Ty} {d:Nat} {xs:List e.den} {fp:Fp} {v:Value} (h:Rep w F (.slice e) (d+1) [v] xs fp):(v= .slice none 0 0/\xs= [])∨ ∃b len cap,v= .slice (some ⟨b,0,none⟩) len cap/\List.length xs=len:=by
 rcases h with ⟨h1,h2,_⟩|⟨b,len,cap,c,fps,h1,_,_,h2,_⟩
 ·exact .inl ⟨(List.cons.inj h1).1,h2⟩
 ·exact .inr ⟨b,len,cap,(List.cons.inj h1).1,h2⟩
theorem Yhq {n:Nat} {a:AD} {x:a.den} (hR:Roots w F s.H loc fp) (hs: ∀i,AVV w F s.H loc (s.G i) (T i)) (ht:alV s n a=some x):AlP w T n a x:=by
 cases a with
 |jk k=>
  have ht:(if k=1/\Yij s.H (s.G (n%65536)) (Yba s.G s.H n)=true then some ()else none)=some x:=ht
  split at ht
  rotate_left
  ·cases ht
  rename_i hk
  obtain⟨_,hok⟩:=hk
  unfold Yij at hok
  split at hok
  rotate_left
  ·cases hok
  rename_i r ver r' ver' h1 h2
  rw[Bool.and_eq_true,beq_iff_eq]at hok
  obtain⟨rfl,hok⟩:=hok
  obtain⟨h,hh⟩:=Yhi hR hs h2
  have g2:=Yd2 hR hs hh
  have g1:=hs (n%65536)
  rw[h1]at g1;rw[h2]at g2
  obtain⟨_,g1⟩:=Yk.1 g1
  obtain⟨_,g2⟩:=Yk.1 g2
  show YeU w T n (T (n%65536))
  cases hH:s.H r with
  |arr e d xs v p=>
   rw[hH]at g1 g2
   rw[g1.2.1 rfl,←g2.2.1 rfl];exact hh
  |bf e xs m v p=>
   rw[hH]at g1 g2
   rw[g1.2.1 rfl,←g2.2.1 rfl];exact hh
  |_=>rw[hH]at hok;simp[YgH]at hok
 |v t=>
  cases t with
  |num k=>
   have ht:Yg6 s.H (s.G (n%65536)) (Yba s.G s.H n)=some x:=ht
   unfold Yg6 at ht
   split at ht
   rotate_left
   ·cases ht
   rename_i r ver j r' ver' h1 h2
   split at ht
   rotate_left
   ·cases ht
   rename_i er
   subst er
   split at ht
   rotate_left
   ·cases ht
   rename_i e d xs ver2 pin hH
   split at ht
   rotate_left
   ·cases ht
   rename_i ev
   subst ev
   injection ht with ht
   obtain⟨h,hh⟩:=Yhi hR hs h2
   have g2:=Yd2 hR hs hh
   have g1:=hs (n%65536)
   rw[h1]at g1;rw[h2]at g2
   obtain⟨_,g1⟩:=Yk.1 g1
   obtain⟨_,g2⟩:=Yk.1 g2
   rw[hH]at g1 g2
   have eh:h=loc r:=g2.2.1 rfl
   subst eh
   obtain⟨hin,b,o,ha,hc,hsl⟩:=g1.2.2 (by simp) rfl
   have hok:=hR.ok r
   rw[hH]at hok
   have hin1:inb j xs:=hin.1
   refine⟨x,rfl,?_⟩
   rcases YfA hok with ⟨_,k2⟩|⟨blk,len,cap,k1,k2⟩
   ·have:=hin1.2
    have k3:List.length xs=0:=by rw[k2];rfl
    have:=hin1.1
    omega
   ·rw[k1]at ha hh
    have ha:some (blk,0+j.toNat*1)=some (b,o):=ha
    injection ha with ha
    injection ha with e1 e2
    subst e1;subst e2
    subst ht
    refine⟨blk,len,cap,hh,hin1.1,by have:=hin1.2;omega,?_,hsl⟩
    rw[←hc];congr 2;omega
  |_=>cases (show(none:Option _)=some x from ht)
 |_=>cases (show(none:Option _)=some x from ht)
theorem Yfy {n:Nat} {a:AD} {x:a.den} {s':St} (hR:Roots w F s.H loc fp) (hs: ∀i,AVV w F s.H loc (s.G i) (T i)) (hal:AlP w T n a x) (hm:mkA s n a x=some s'):s'.H=s.H/\ ∀i,AVV w F s.H loc (s'.G i) (T i):=by
 have put: ∀y,AVV w F s.H loc y (T (n%65536))-> ∀i,AVV w F s.H loc ((s.put (n%65536) y).G i) (T i):=λy hy i=>by
  by_cases e:i=n%65536
  ·subst e;simp only[St.put,beq_self_eq_true,if_true];exact hy
  ·simp only[St.put,beq_iff_eq,e,if_false];exact hs i
 cases a with
 |jk k=>
  simp only[mkA]at hm
  cases hm
  exact⟨rfl,put _ (Yd2 hR hs hal)⟩
 |v t=>
  simp only[mkA]at hm
  obtain⟨j,hj,blk,len,cap,hh,h0,hlt,hc,hsl⟩:=hal
  rw[hj]at hm
  dsimp only at hm
  split at hm
  rotate_left
  ·cases hm
  rename_i y hy
  cases hm
  refine⟨rfl,put _ ?_⟩
  have g2:=Yd2 hR hs hh
  unfold Yic at hy
  split at hy
  rotate_left
  ·cases hy
  rename_i r ver h2
  split at hy
  rotate_left
  ·cases hy
  rename_i e d xs ver2 pin hH
  injection hy with hy
  subst hy
  rw[h2]at g2
  obtain⟨_,g2⟩:=Yk.1 g2
  rw[hH]at g2
  have hl:Value.slice (some ⟨blk,0,none⟩) len cap=loc r:=g2.2.1 rfl
  have hok:=hR.ok r
  rw[hH]at hok
  have hok:Rep w F (.slice (.slice e)) (d+1) [loc r] xs (fp r):=hok
  rw[←hl]at hok
  rcases YfA hok with ⟨k1,_⟩|⟨b,l2,c2,k1,k2⟩
  ·cases k1
  ·injection k1 with k1 k3
   have:len=l2:=k3
   subst this
   refine Yk.2 ⟨?_,?_⟩
   ·generalize T (n%65536)=v at hsl
    cases v<;>first|exact hsl.elim|exact⟨trivial,λe=>by cases e⟩
   ·rw[hH]
    refine⟨Nat.le_refl _,(λh=>by cases h),λ_ _=>⟨?_,blk,j.toNat,?_,hc,hsl⟩⟩
    ·have hin:inb j xs:=⟨h0,by omega⟩
     cases d<;>exact⟨hin,trivial⟩
    ·rw[←hl]
     show some (blk,0+j.toNat*1)=_
     congr 2;omega
 |_=>simp[mkA]at hm
theorem YcZ {m n:Nat} {pl:Loc} {ad:AD} {x:ad.den} {u:Ups} (hR:Roots w F s.H loc fp) (hI:PinI m pl s.H loc) (hs: ∀i,AVV w F s.H loc (s.G i) (T i)) (ht:Yb3 m s n ad=some (x,u)):
  ∃F' fp' f,Taken w F s.H loc fp u F' fp' f/\EntR w F' T n ad x f/\(Ya5 n=false->n<m-> ∀cs,X7 ad (T n) cs->cs.length=ad.cells->Yb7 pl n 0 ad cs):=by
 unfold Yb3 at ht
 split at ht
 ·rename_i hal
  split at ht
  rotate_left
  ·cases ht
  rename_i y hy
  cases ht
  refine⟨F,fp,Fp.none,Taken.nil hR,?_,(λh=>by rw[hal]at h;cases h)⟩
  unfold EntR
  rw[hal]
  exact⟨Yhq hR hs hy,λ_ h=>h⟩
 ·rename_i hal
  split at ht
  rotate_left
  ·cases ht
  rename_i hok
  split at ht
  rotate_left
  ·cases ht
  rename_i y u' k' h1
  cases ht
  obtain⟨F',fp',f,htk,hdv,hp⟩:=YhX hR hI (hs n) hok h1
  refine⟨F',fp',f,htk,?_,λ_=>hp⟩
  unfold EntR
  rw[hal];exact hdv
theorem EntR.mono {n:Nat} {a:AD} {x:a.den} {f:Fp} (h:EntR w F T n a x f) (hF: ∀n,F n->F' n):EntR w F' T n a x f:=by
 unfold EntR at h⊢
 split
 ·rename_i hn;rw[hn]at h;exact h
 ·rename_i hn;rw[hn]at h;exact DV.mono hF h
theorem YeK {m:Nat} {pl:Loc}: ∀(sh:Xb) {s:St} {F:Fp} {fp:Nat->Fp} {x:YH (sh.map (·.2))},Roots w F s.H loc fp->PinI m pl s.H loc->(∀i,AVV w F s.H loc (s.G i) (T i))->YcX m s sh=some x->
  ∃F' f,ShR w F' T sh x f/\(∀n,f n-> ¬F' n)/\(∀n,F' n->n<w.heap.size)/\(∀n,f n-> ∃r,fp r n)/\(∀n,F n->F' n)/\(∀n,F' n->F n∨ ∃r,fp r n)/\Yii m pl sh T
 | [],s,F,fp,x,hR,hI,hs,ht=>⟨F,Fp.none,λ_ h=>h,λ_ h=>h.elim,hR.dom,λ_ h=>h.elim,λ_ h=>h,λ_ h=> .inl h,(λ_ h=>by cases h)⟩
 | [(n,ad)],s,F,fp,x,hR,hI,hs,ht=>by
  rw[Ygk]at ht
  split at ht
  rotate_left
  ·cases ht
  rename_i y u h1
  cases ht
  obtain⟨F',fp',f,htk,hdv,hp⟩:=YcZ hR hI hs h1
  exact⟨F',f,hdv,htk.offF,htk.roots.dom,htk.own,htk.mono,htk.from_,(λq hq h0 hlt=>by rw[List.mem_singleton]at hq;subst hq;exact hp h0 hlt)⟩
 |(n,ad)::b::l,s,F,fp,x,hR,hI,hs,ht=>by
  rw[Yfk]at ht
  split at ht
  rotate_left
  ·cases ht
  rename_i y u h1
  split at ht
  rotate_left
  ·cases ht
  rename_i z h2
  cases ht
  obtain⟨F1,fp1,f1,htk,hdv,hp⟩:=YcZ hR hI hs h1
  obtain⟨F2,f2,hr2,g1,g2,g3,g4,g5,g6⟩:=YeK (b::l) (s:=⟨s.G,s.H.upd u⟩) htk.roots (hI.taken (Ygn h1)) (λi=>htk.keep.v _ _ (hs i)) h2
  have hdis: ∀n,f1 n->f2 n->False:=λn h h'=>by obtain⟨r,hr⟩:=g3 n h';exact htk.offR n r h hr
  refine⟨F2,λn=>f1 n∨f2 n,⟨f1,f2,λ_=>Iff.rfl,hdis,hdv.mono g4,hr2⟩,?_,g2,?_,λn h=>g4 n (htk.mono n h),?_,?_⟩
  ·rintro n (h|h) h'
   ·rcases g5 n h' with h'|⟨r,h'⟩
    ·exact htk.offF n h h'
    ·exact htk.offR n r h h'
   ·exact g1 n h h'
  ·rintro n (h|h)
   ·exact htk.own n h
   ·obtain⟨r,h⟩:=g3 n h;exact⟨r,htk.sub r n h⟩
  ·intro n h
   rcases g5 n h with h|⟨r,h⟩
   ·exact htk.from_ n h
   ·exact .inr ⟨r,htk.sub r n h⟩
  ·intro q hq h0 hlt
   rcases List.mem_cons.1 hq with rfl|hq
   ·exact hp h0 hlt
   ·exact g6 q hq h0 hlt
theorem Ya3 {cod:List (Nat×Cod)} {sh:Xb} {x:YH (sh.map (·.2))} (hr:Rel E s a w) (ht:Yb5 cod E.m s sh=some x):Yih cod E sh x a w:=by
 obtain⟨F,loc,fp,hR,hs,hS,hI,hn,hd⟩:=hr
 unfold Yb5 at ht
 split at ht
 rotate_left
 ·cases ht
 rename_i G hG
 obtain⟨T,hdr,hs'⟩:=Yc2 (T:=λi=>a.tmps.getD i undef) hR (View.refl _) hs hG
 obtain⟨F',f,h1,h2,h3,h4,h5,h6,h7⟩:=YeK (T:=T) sh (s:=⟨Yg5 s.H G,s.H⟩) hR hI (λi=>YdX hR (View.refl _) (hs' i)) ht
 have hown: ∀m,(∃r,fp r m)->E.fA m∨E.w0.heap.size<=m:=λm ⟨r,h⟩=>hS.own r m h
 refine⟨F',f,T,hdr.keep h5 (λ_ _=>rfl),h1,h2,h3,⟨λ_ m h=>hown m (h4 m h),λm h=>?_,λm h=>h5 m (hS.mono m h),hS.same,hS.big,hS.rest⟩,h7,hn,hd⟩
 rcases h6 m h with h|h
 ·exact hS.frz m h
 ·exact .inr (hown m h)
theorem YhG (s:St) (x:YH (([]:Xb).map (·.2))):mkL s [] x=some s:=rfl
theorem YhH (s:St) (n:Nat) (a:AD) (x:a.den) (hn:Ya5 n=false):mkL s [(n,a)] (show YH (List.map (λq:Nat×AD=>q.2) [(n,a)]) from x)=(match mkD s.H n 0 a x with|some (y,u,_)=>some (St.put ⟨s.G,s.H.upd u⟩ n y)|none=>none):=by
 show(match Ya5 n with|true=>_|false=>_)=_
 rw[hn];rfl
theorem YgP (s:St) (n:Nat) (a:AD) (x:a.den) (hn:Ya5 n=true):mkL s [(n,a)] (show YH (List.map (λq:Nat×AD=>q.2) [(n,a)]) from x)=mkA s n a x:=by
 show(match Ya5 n with|true=>_|false=>_)=_
 rw[hn]
theorem YgO (s:St) (n:Nat) (a:AD) (b:Nat×AD) (l:Xb) (x:a.den×YH (List.map (λq:Nat×AD=>q.2) (b::l))) (hn:Ya5 n=false):mkL s ((n,a)::b::l) (show YH (List.map (λq:Nat×AD=>q.2) ((n,a)::b::l)) from x)=(match mkD s.H n 0 a x.1 with|some (y,u,_)=>mkL (St.put ⟨s.G,s.H.upd u⟩ n y) (b::l) x.2|none=>none):=by
 show(match Ya5 n with|true=>_|false=>_)=_
 rw[hn];rfl
theorem Ygc (s:St) (n:Nat) (a:AD) (b:Nat×AD) (l:Xb) (x:a.den×YH (List.map (λq:Nat×AD=>q.2) (b::l))) (hn:Ya5 n=true):mkL s ((n,a)::b::l) (show YH (List.map (λq:Nat×AD=>q.2) ((n,a)::b::l)) from x)=(match mkL s (b::l) x.2 with|some s'=>mkA s' n a x.1|none=>none):=by
 show(match Ya5 n with|true=>_|false=>_)=_
 rw[hn];rfl
theorem YfM {m n:Nat} {pl:Loc} {ad:AD} {y:AV} {u:Ups} {k':Nat} {x:ad.den} {f:Fp} (hR:Roots w F s.H loc fp) (hI:PinI m pl s.H loc) (hs: ∀i,AVV w F s.H loc (s.G i) (T i))
  (hdv:DV w F ad (T n) x f) (hd: ∀k r,f k-> ¬fp r k) (hF: ∀k,f k-> ¬F k) (hp:n<m-> ∀cs,X7 ad (T n) cs->cs.length=ad.cells->Yb7 pl n 0 ad cs)
  (hm:mkD s.H n 0 ad x=some (y,u,k')): ∃loc' fp',Roots w F (s.H.upd u) loc' fp'/\PinI m pl (s.H.upd u) loc'/\(∀i,AVV w F (s.H.upd u) loc' ((St.put ⟨s.G,s.H.upd u⟩ n y).G i) (T i))/\ ∀r k,fp' r k->fp r k∨f k:=by
 obtain⟨cs,hr,hsh⟩:=hdv
 obtain⟨loc',fp',hg,hc⟩:=YaL ad hR (Own.refl _ _) hr hd hF hm
 obtain⟨_,hkey,hnd⟩:=XJ ad hm
 refine⟨loc',fp',hg.roots,λr hr' hpin=>?_,λi=>?_,hg.from_⟩
 ·rcases YbE u s.H r with e|⟨q,hq,e1,e2⟩
  ·rw[e]at hpin
   have:loc' r=loc r:=YiA hR hg.keep (by
    rw[e]
    rw[Bool.or_eq_true]at hpin
    exact hpin.imp (λh=>⟨h,h⟩) λh=>⟨h,h⟩)
   rw[this];exact hI r hr' hpin
  ·obtain⟨j,_,_,hj,hq1⟩:=hkey q hq
   have hlt:n<m:=by have:=hr';omega
   rw[e2]at hpin
   have:=YdP ad hm hc (hp hlt cs hsh (DR.len ad hr)) q hq (by rw[e1];exact e2) hpin
   rw[e1]at this;exact this
 ·by_cases e:i=n
  ·subst e
   simp only[St.put,beq_self_eq_true,if_true]
   exact(Yce hm hc hsh).2
  ·simp only[St.put,beq_iff_eq,e,if_false]
   exact hg.keep.v _ _ (hs i)
theorem Yfa {m:Nat} {pl:Loc}: ∀(sh:Xb) {s s':St} {loc:Loc} {fp:Nat->Fp} {x:YH (sh.map (·.2))} {f:Fp},Roots w F s.H loc fp->PinI m pl s.H loc->(∀i,AVV w F s.H loc (s.G i) (T i))->
  ShR w F T sh x f->(∀k r,f k-> ¬fp r k)->(∀k,f k-> ¬F k)->Yii m pl sh T->mkL s sh x=some s'->
  ∃loc' fp',Roots w F s'.H loc' fp'/\PinI m pl s'.H loc'/\(∀i,AVV w F s'.H loc' (s'.G i) (T i))/\ ∀r k,fp' r k->fp r k∨f k
 | [],s,s',loc,fp,x,f,hR,hI,hs,hA,hd,hF,hp,hm=>by
  rw[YhG]at hm;cases hm
  exact⟨loc,fp,hR,hI,hs,λ_ _ h=> .inl h⟩
 | [(n,ad)],s,s',loc,fp,x,f,hR,hI,hs,hA,hd,hF,hp,hm=>by
  have hA:EntR w F T n ad x f:=hA
  unfold EntR at hA
  cases hn:Ya5 n with
  |true=>
   rw[hn]at hA
   have hm:=(YgP s n ad x hn).symm.trans hm
   obtain⟨e,hs2⟩:=Yfy hR hs hA.1 hm
   rw[e]
   exact⟨loc,fp,hR,hI,hs2,λ_ _ h=> .inl h⟩
  |false=>
   rw[hn]at hA
   have hm:=(YhH s n ad x hn).symm.trans hm
   split at hm
   rotate_left
   ·cases hm
   rename_i y u k' h1
   cases hm
   exact YfM hR hI hs hA hd hF (λhlt=>hp (n,ad) (by simp) hn hlt) h1
 |(n,ad)::b::l,s,s',loc,fp,x,f,hR,hI,hs,hA,hd,hF,hp,hm=>by
  obtain⟨f1,f2,g1,g2,hdv,hA2⟩:=hA
  unfold EntR at hdv
  cases hn:Ya5 n with
  |true=>
   rw[hn]at hdv
   have hm:=(Ygc s n ad b l x hn).symm.trans hm
   split at hm
   rotate_left
   ·cases hm
   rename_i s1 h1
   obtain⟨loc2,fp2,hR2,hI2,hs2,hf2⟩:=Yfa (b::l) hR hI hs hA2 (λk r h=>hd k r ((g1 k).2 (.inr h))) (λk h=>hF k ((g1 k).2 (.inr h))) (λq hq=>hp q (List.mem_cons_of_mem _ hq)) h1
   obtain⟨e,hs3⟩:=Yfy hR2 hs2 hdv.1 hm
   rw[e]
   exact⟨loc2,fp2,hR2,hI2,hs3,λr k h=>(hf2 r k h).imp id λh=>(g1 k).2 (.inr h)⟩
  |false=>
   rw[hn]at hdv
   have hm:=(YgO s n ad b l x hn).symm.trans hm
   split at hm
   rotate_left
   ·cases hm
   rename_i y u k' h1
   obtain⟨loc1,fp1,hR1,hI1,hs1,hf1⟩:=YfM hR hI hs hdv (λk r h=>hd k r ((g1 k).2 (.inl h))) (λk h=>hF k ((g1 k).2 (.inl h))) (λhlt=>hp (n,ad) (by simp) hn hlt) h1
   obtain⟨loc2,fp2,hR2,hI2,hs2,hf2⟩:=Yfa (b::l) (s:=St.put ⟨s.G,s.H.upd u⟩ n y) hR1 hI1 hs1 hA2 (λk r h h'=>(hf1 r k h').elim (hd k r ((g1 k).2 (.inr h))) λh'=>g2 k h' h) (λk h=>hF k ((g1 k).2 (.inr h))) (λq hq=>hp q (List.mem_cons_of_mem _ hq)) hm
   refine⟨loc2,fp2,hR2,hI2,hs2,λr k h=>?_⟩
   rcases hf2 r k h with h|h
   ·exact(hf1 r k h).imp id λh=>(g1 k).2 (.inl h)
   ·exact .inr ((g1 k).2 (.inr h))
theorem Yb2 (hdom: ∀n,F n->n<w.heap.size) (loc:Loc):Roots w F St.empty.H loc (λ_=>Fp.none):=
 ⟨λ_ _ h=>h,λ_ _ _ h=>h.elim,λ_ _ h=>h.elim,hdom⟩
theorem YdQ {cod:List (Nat×Cod)} {sh:Xb} {x:YH (sh.map (·.2))} (hr:Yih cod E sh x a w) (hm:mkC cod sh x=some s):Rel E s a w:=by
 obtain⟨F,f,T,hdr,h1,h2,h3,hS,h5,hn,hd⟩:=hr
 unfold mkC at hm
 split at hm
 rotate_left
 ·cases hm
 rename_i s1 hm1
 obtain⟨loc',fp',hR,hI,hs,hf⟩:=Yfa (m:=E.m) (pl:=E.pl) (T:=T) sh (s:= .empty) (loc:=λ_=>undef) (Yb2 h3 _) (λr _ h=>by simp[St.empty,Yn,Ym]at h) (λi=>trivial) h1 (λ_ _ _ h=>h) h2 h5 hm1
 obtain⟨loc2,fp2,hR2,_,hs2,hsub,hpin⟩:=Yec hR hs hdr hm
 refine⟨F,loc2,fp2,hR2,hs2,⟨λr m h=>(hf r m (hsub r m h)).elim (λh=>h.elim) (hS.own 0 m),hS.frz,hS.mono,hS.same,hS.big,hS.rest⟩,λr hr hp=>?_,hn,hd⟩
 rw[Bool.or_eq_true]at hp
 obtain⟨e1,e2⟩:=hpin r hp
 rw[e1]at hp
 rw[e2];exact hI r hr (by rw[Bool.or_eq_true];exact hp)
end
end Go.Va
namespace Go.Va
def toE:AExit->Exit
 | .normal=> .normal
 | .exit i=> .exit i
 | .ret=> .ret
def YbG (cx:Cx) (c:Code) (L:LoopSpec):Prop:=
 ∃step:Nat->YH (L.sh.map (·.2))->Option (Ybq L.ex),(∀x,step 0 x=none)/\(∀n x,step (n+1) x=Yfg cx c L x (step n))/\ ∃N,∀x,L.run x=step N x
def XH (p:Code->Prop):Code->Prop
 | .loop c=>p c/\XH p c
 | .seq a b=>XH p a/\XH p b
 | .cond _ a b=>XH p a/\XH p b
 | .block _ a=>XH p a
 |_=>True
section
variable {P:Program} {w w':World} {F F':Fp} {H H' V:Store} {loc loc':Loc} {fp fp':Nat->Fp} {a:Act} {cx:Cx} {E:Run} {s:St}
theorem Ye1 {p:Nat->Prop} (h: ∃n,p n): ∃n,p n/\ ∀m,p m->n<=m:=by
 obtain⟨n,hn⟩:=h
 induction n using Nat.strongRecOn with
 |_ n ih=>
  by_cases hex: ∃m,m<n/\p m
  ·obtain⟨m,h1,h2⟩:=hex;exact ih m h1 h2
  ·exact⟨n,hn,λm hm=>Nat.le_of_not_lt λh=>hex ⟨m,h,hm⟩⟩
theorem AExit.beq_eq {e e':AExit} (h:e.beq e'=true):e=e':=by
 cases e<;>cases e'<;>simp[AExit.beq]at h⊢;exact h
theorem Ycy {R:Type} {k:AExit->St->Option R} {r:R} {e:AExit} (hr:Rel E s a w): ∀(ex:List (AExit×Xb)) {y:Ybq ex},Yf7 cx.cod E.m e s ex=some y->YgA cx.cod ex y k=some r-> ∃s',k e s'=some r/\Rel E s' a w
 | [],y,h,_=>by simp[Yf7]at h
 | [(e',sh)],y,h,h'=>by
  have h:(if e.beq e'=true then Yb5 cx.cod E.m s sh else none)=some y:=h
  by_cases hb:e.beq e'=true
  ·have h:=(if_pos hb).symm.trans h
   have:=AExit.beq_eq hb;subst this
   have hl:=Ya3 hr h
   have h':(match mkC cx.cod sh y with|some s=>k e s|none=>none)=some r:=h'
   split at h'
   ·rename_i s' hs';exact⟨s',h',YdQ hl hs'⟩
   ·cases h'
  ·have h:=(if_neg hb).symm.trans h;cases h
 |(e',sh)::b::l,y,h,h'=>by
  have h:(if e.beq e'=true then(match Yb5 cx.cod E.m s sh with|some x=>some (.inl x)|none=>none)
   else(match Yf7 cx.cod E.m e s (b::l)with|some x=>some (.inr x)|none=>none))=some y:=h
  by_cases hb:e.beq e'=true
  ·have h:=(if_pos hb).symm.trans h
   have:=AExit.beq_eq hb;subst this
   split at h
   rotate_left
   ·cases h
   rename_i x hx
   cases h
   have hl:=Ya3 hr hx
   have h':(match mkC cx.cod sh x with|some s=>k e s|none=>none)=some r:=h'
   split at h'
   ·rename_i s' hs';exact⟨s',h',YdQ hl hs'⟩
   ·cases h'
  ·have h:=(if_neg hb).symm.trans h
   split at h
   rotate_left
   ·cases h
   rename_i x hx
   cases h
   exact Ycy hr (b::l) hx h'
theorem Rel.same (h:Rel E s a w) (hh:w'.heap=w.heap) (ho:w'.os=w.os) (hp:(w'.tape,w'.output)=(w.tape,w.output)):Rel E s a w':=by
 obtain⟨F,loc,fp,hR,hs,hS,hI,hn,hd⟩:=h
 have hk: ∀n:Nat,w'.heap[n]? =w.heap[n]? :=λn=>by rw[hh]
 have hK:Keep w F s.H loc w' F s.H loc:=Yas hR (λ_ h=>h) (λn _=>hk n) λr=> .same (s.H r) (loc r) (fp r) (λn _=>hk n)
 refine⟨F,loc,fp,⟨λr=>(hR.ok r).keep hK (λ_ h=>h) (λn _=>hk n) (λn _=>hk n),hR.disj,hR.frz,λn h=>by rw[hh];exact hR.dom n h⟩,λi=>hK.v _ _ (hs i),⟨hS.own,hS.frz,hS.mono,λm h1 h2=>(hk m).trans (hS.same m h1 h2),by rw[hh];exact hS.big,⟨ho.trans hS.rest.1,hp.trans hS.rest.2⟩⟩,hI,hn,hd⟩
theorem Yhz {n:Nat} {s':St} (h:Yiq s n=some s') (hr:Rel E s a w):Rel E s' a w:=by
 unfold Yiq at h
 split at h
 ·rename_i r ver hg
  split at h
  ·rename_i e d xs ver' hH
   cases h
   obtain⟨F,loc,fp,hR,hs,hS,hI,hn,hd⟩:=hr
   have htx:Ya s.H (s.G n) (.slice e) 0=some (xs,[(r,.fz e xs)]):=by rw[hg];simp[Ya,hH,YJ];rfl
   have hx:=hs n
   obtain⟨csx,hcx,hsx⟩:=Xi hx htx
   obtain⟨F1,fp1,f,ht,_⟩:=Yw _ hR (View.refl _) hcx htx
   have:=Rel.step (v:= .tup []) (v':=undef) (dst:=none) hR hs hS hI hn hd (Post.taken ht ⟨#[],rfl,rfl,λi a u h=>by simp at h⟩) (λd h=>by cases h) (λq hq=>by
    rcases Decidable.em (q=r)with e1|e1
    ·subst e1
     simp[Store.upd,Store.set,Yn,Ym]
    ·have:(s.H.upd [(r,Root.fz e xs)]) q=s.H q:=by simp[Store.upd,Store.set,e1]
     rw[this];exact⟨id,id⟩)
   exact this
  ·cases h;exact hr
  ·cases h
 ·rename_i r hg
  split at h
  ·rename_i t x0 hH
   split at h
   ·rename_i x u hx
    cases h
    obtain⟨F,loc,fp,hR,hs,hS,hI,hn,hd⟩:=hr
    have hv:=hs n
    rw[hg]at hv
    obtain⟨F1,fp1,f,ht,_⟩:=YbD hR (View.refl _) (show AVC w F s.H loc (.bptr r 0) [_] from⟨_,rfl,YB.1 hv⟩) hx
    have:=Rel.step (v:= .tup []) (v':=undef) (dst:=none) hR hs hS hI hn hd (Post.taken ht ⟨#[],rfl,rfl,λi a u h=>by simp at h⟩) (λd h=>by cases h) (λq hq=>by
     rcases Yfn hx with e0|e0
     ·subst e0;exact⟨id,id⟩
     ·subst e0
      rcases Decidable.em (q=r)with e1|e1
      ·subst e1
       simp[Store.upd,Store.set,Yn,Ym]
      ·have:(s.H.upd [(r,Root.pz t x)]) q=s.H q:=by simp[Store.upd,Store.set,e1]
       rw[this];exact⟨id,id⟩)
    exact this
   ·cases h
  ·cases h
 ·cases h
theorem YfP: ∀(l:List Nat) {s s':St},Yg3 s l=some s'->Rel E s a w->Rel E s' a w
 | [],s,s',h,hr=>by simp only[Yg3]at h;cases h;exact hr
 |n::l,s,s',h,hr=>by
  simp only[Yg3]at h
  split at h
  ·rename_i s1 h1;exact YfP l h (Yhz h1 hr)
  ·cases h
theorem X2 (hT:Xd P cx) (hC:TOk P cx.T) (hmix:P.follows .mixedOrders=true) (hm:E.m=cx.n): ∀(c:Code),Yad E.n c=true->XH (λc=> ∀L,cx.L (YZ c)=some L->YbG cx c L) c->
  ∀ {R:Type} {k:AExit->St->Option R} {r:R} {s:St} {a:Act} {w:World} {Q:Exit->Act->World->Prop},XA cx c s k=some r->Rel E s a w->(∀e s' a' w',k e s'=some r->Rel E s' a' w'->Q (toE e) a' w')->c.wp P Q a w
 | .skip,_,_,R,k,r,s,a,w,Q,h,hr,hk=>wp_skip (hk .normal s a w h hr)
 | .exit i,_,_,R,k,r,s,a,w,Q,h,hr,hk=>wp_exit (hk (.exit i) s a w h hr)
 | .ret,_,_,R,k,r,s,a,w,Q,h,hr,hk=>wp_ret (hk .ret s a w h hr)
 | .region id ops false,hd,_,R,k,r,s,a,w,Q,h,hr,hk=>by
  have hD: ∀o∈ops.toList,∀d,o.dst=some d->d<E.n:=λo ho d hd'=>by
   have:=(List.all_eq_true.1 hd) o ho
   rw[hd']at this;simpa using this
  have h:Yff cx ops.toList ops.toList s (λs=>k .normal s)=some r:=h
  refine wp_region ?_
  have:=YdV (P:=P) (Q:=Q) hT hC hm hD (λs a w h hr=>hk .normal s a w h hr) ops.toList 0 s a w rfl h hr
  rw[List.range_eq_range']
  simpa using this
 | .region id ops true,hd,_,R,k,r,s,a,w,Q,h,hr,hk=>by
  have hD: ∀o∈ops.toList,∀d,o.dst=some d->d<E.n:=λo ho d hd'=>by
   have:=(List.all_eq_true.1 hd) o ho
   rw[hd']at this;simpa using this
  simp only[XA]at h
  split at h
  rotate_left
  ·cases h
  rename_i hok
  rw[Bool.and_eq_true]at hok
  split at h
  rotate_left
  ·cases h
  rename_i s' hpre
  have hr:=YfP _ hpre hr
  obtain⟨t,hcan,hkr⟩:=YcJ _ s' List.nodup_range h
  refine wp_region_any hmix ?_
  refine YhR hT hC hm hD rfl hok.1 hok.2 hcan hkr (λs a w h hr=>hk .normal s a w h hr) ops.size _ a _ (by simp) ?_ (λi hi=>?_) ?_
  ·have:(List.range ops.size).filter (λi=>!(Array.replicate ops.size false).getD i false)=List.range ops.size:=List.filter_eq_self.2 λi hi=>by
    have:=List.mem_range.1 hi
    simp[this]
   rw[this];simp
  ·rw[Array.getD_eq_getD_getElem?]at hi
   by_cases hlt:i<ops.size
   ·simp[hlt]at hi
   ·simp[hlt]at hi
  ·have:(List.range ops.size).filter (λi=>(Array.replicate ops.size false).getD i false)= []:=List.filter_eq_nil_iff.2 λi hi=>by
    have:=List.mem_range.1 hi
    simp[this]
   unfold stL
   rw[this]
   exact hr.same rfl rfl rfl
 | .seq x y,hd,hl,R,k,r,s,a,w,Q,h,hr,hk=>by
  simp only[Yad,Bool.and_eq_true]at hd
  simp only[XA]at h
  refine wp_seq (X2 hT hC hmix hm x hd.1 hl.1 h hr λe s' a' w' h' hr'=>?_)
  cases e with
  |normal=>exact X2 hT hC hmix hm y hd.2 hl.2 h' hr' hk
  |exit i=>exact hk (.exit i) s' a' w' h' hr'
  |ret=>exact hk .ret s' a' w' h' hr'
 | .cond c x y,hd,hl,R,k,r,s,a,w,Q,h,hr,hk=>by
  simp only[Yad,Bool.and_eq_true]at hd
  simp only[XA]at h
  split at h
  rotate_left
  ·cases h
  rename_i t hc
  have hv:a.eval c= .bool t:=by
   obtain⟨F,loc,fp,hR,hs,_⟩:=hr
   have:=Yt hs c
   rw[hc]at this
   exact Yp.1 this
  cases t with
  |true=>exact wp_cond_true hv (X2 hT hC hmix hm x hd.1 hl.1 h hr hk)
  |false=>exact wp_cond_false hv (X2 hT hC hmix hm y hd.2 hl.2 h hr hk)
 | .block id c,hd,hl,R,k,r,s,a,w,Q,h,hr,hk=>by
  simp only[XA]at h
  refine wp_block (X2 hT hC hmix hm c hd hl h hr λe s' a' w' h' hr'=>?_)
  cases e with
  |normal=>exact hk .normal s' a' w' h' hr'
  |ret=>exact hk .ret s' a' w' h' hr'
  |exit i=>
   dsimp only at h'
   simp only[toE,Exit.inBlock]
   split at h'
   ·rename_i he;rw[if_pos he];exact hk .normal s' a' w' h' hr'
   ·rename_i he;rw[if_neg he];exact hk (.exit i) s' a' w' h' hr'
 | .loop c,hd,hl,R,k,r,s,a,w,Q,h,hr,hk=>by
  simp only[XA]at h
  split at h
  rotate_left
  ·cases h
  rename_i L hL
  split at h
  rotate_left
  ·cases h
  rename_i x hx
  rw[←hm]at hx
  cases hrun:L.run x with
  |none=>rw[hrun]at h;simp at h
  |some y=>
   rw[hrun]at h
   simp only[Option.bind_some]at h
   obtain⟨step,h0,hstep,N,hN⟩:=hl.1 L hL
   let J:Nat->Act->World->Prop:=λn a w=> ∃x,Yih cx.cod E L.sh x a w/\step n x=some y
   let I:Act->World->Prop:=λa w=> ∃n,J n a w
   have hmin: ∀a w,I a w-> ∃n,J n a w/\ ∀m,J m a w->n<=m:=λa w hI=>by
    exact Ye1 hI
   classical
   let μ:Act->World->Nat:=λa w=>if h:I a w then(hmin a w h).choose else 0
   refine wp_loop I μ ⟨N,x,Ya3 hr hx,by rw[←hN];exact hrun⟩ λa w hI=>?_
   have hμ:μ a w=(hmin a w hI).choose:=dif_pos hI
   obtain⟨⟨x',hl',hst⟩,_⟩:=(hmin a w hI).choose_spec
   rw[←hμ]at hst
   cases hn:μ a w with
   |zero=>rw[hn,h0]at hst;cases hst
   |succ n=>
    rw[hn,hstep]at hst
    unfold Yfg at hst
    split at hst
    rotate_left
    ·cases hst
    rename_i s0 hs0
    refine X2 hT hC hmix hm c hd hl.2 hst (YdQ hl' hs0) λe s' a' w' h' hr'=>?_
    cases e with
    |normal=>
     dsimp only at h'
     split at h'
     rotate_left
     ·cases h'
     rename_i y' hy'
     rw[←hm]at hy'
     have hJ:J n a' w':=⟨y',Ya3 hr' hy',h'⟩
     have hI':I a' w':=⟨n,hJ⟩
     refine⟨hI',?_⟩
     have:μ a' w'=(hmin a' w' hI').choose:=dif_pos hI'
     rw[this]
     exact Nat.lt_succ_of_le ((hmin a' w' hI').choose_spec.2 n hJ)
    |exit i=>
     dsimp only at h'
     rw[←hm]at h'
     obtain⟨s'',k1,k2⟩:=Ycy hr' L.ex h' h
     exact hk (.exit i) s'' a' w' k1 k2
    |ret=>
     dsimp only at h'
     rw[←hm]at h'
     obtain⟨s'',k1,k2⟩:=Ycy hr' L.ex h' h
     exact hk .ret s'' a' w' k1 k2
 | .rangeFunc _ _ _ _,_,_,R,k,r,s,a,w,Q,h,hr,hk=>by simp[XA]at h
 | .scope _,_,_,R,k,r,s,a,w,Q,h,hr,hk=>by simp[XA]at h
 | .label _,_,_,R,k,r,s,a,w,Q,h,hr,hk=>by simp[XA]at h
 | .goto _,_,_,R,k,r,s,a,w,Q,h,hr,hk=>by simp[XA]at h
 | .refuse _,_,_,R,k,r,s,a,w,Q,h,hr,hk=>by simp[XA]at h
end
end Go.Va
namespace Go.Va
section
variable {P:Program} {w w':World} {F F':Fp} {H H' V:Store} {loc loc':Loc} {fp fp':Nat->Fp} {a:Act} {cx:Cx} {E:Run} {s:St}
theorem YhZ {ad:AD} {av:AV} {v:Value} {slot k k':Nat} {x:ad.den} {u:Ups} (hR:Roots w F H loc fp) (hs:AVV w F H loc av v) (hok:Yav ad av=true) (ht:Yi H slot k ad av=some (x,u,k')):
  ∃F' fp' f,Taken w F H loc fp u F' fp' f/\DV w F' ad v x f:=by
 obtain⟨cs,hc,hsh⟩:=YaO hs hok λj e=>by
  subst e
  cases av with
  |jk m=>
   simp only[Yi]at ht
   split at ht
   ·rename_i hm;rw[hm]
   ·cases ht
  |_=>simp[Yi]at ht
 obtain⟨F',fp',f,htk,hr⟩:=XN ad hR (View.refl _) hc ht
 exact⟨F',fp',f,htk,cs,hr,hsh⟩
def Yhp (P:Program) (w:World) (a:Act):List ResultVar->List Value->Prop
 | [],vs=>vs= []
 |r::rs,vs=> ∃v q,vs=v::q/\(match r with| .tmp t=>v=a.tmps.getD t undef| .cell t ty=> ∃p,a.tmps.getD t undef= .pointer (some p)/\(loadVar ty p).run P w= .ok v w)/\Yhp P w a rs q
theorem Yfo (tt:Nat->Option TI) (s:St) (rs:List ResultVar):YaT tt s [] rs=(match rs with| []=>some ((),s.H)|_=>none):=rfl
theorem Yfp (tt:Nat->Option TI) (s:St) (a:AD) (rs:List ResultVar):YaT tt s [a] rs=(match rs with
  | [r]=>(match YcN tt s a r with|some v=>(match Yi s.H 0 0 a v with|some (x,u,_)=>some (x,s.H.upd u)|none=>none)|none=>none)
  |_=>none):=rfl
theorem YeM (tt:Nat->Option TI) (s:St) (a b:AD) (l:List AD) (rs:List ResultVar):YaT tt s (a::b::l) rs=(match rs with
  |r::rs=>
   (match YcN tt s a r with
   |some v=>
    (match Yi s.H 0 0 a v with
    |some (x,u,_)=>(match YaT tt ⟨s.G,s.H.upd u⟩ (b::l) rs with|some (y,H)=>some ((x,y),H)|none=>none)
    |none=>none)
   |none=>none)
  | []=>none):=by cases rs<;>rfl
theorem YfQ (hT:Xd P cx) {ad:AD} {r:ResultVar} {av:AV} {x:ad.den} {u:Ups} {k:Nat} (hR:Roots w F s.H loc fp) (hs: ∀i,AVV w F s.H loc (s.G i) (a.tmps.getD i undef)) (hv:YcN cx.tt s ad r=some av) (ht:Yi s.H 0 0 ad av=some (x,u,k)):
  ∃v,(match r with| .tmp t=>v=a.tmps.getD t undef| .cell t ty=> ∃p,a.tmps.getD t undef= .pointer (some p)/\(loadVar ty p).run P w= .ok v w)/\ ∃F' fp' f,Taken w F s.H loc fp u F' fp' f/\DV w F' ad v x f:=by
 cases r with
 |tmp t=>
  simp only[YcN]at hv
  split at hv
  ·rename_i hok
   cases hv
   exact⟨_,rfl,YhZ hR (hs t) hok ht⟩
  ·cases hv
 |cell t ty=>
  simp only[YcN]at hv
  split at hv
  rotate_left
  ·cases hv
  rename_i r' i hG hi
  split at hv
  rotate_left
  ·cases hv
  rename_i c hH
  split at hv
  rotate_left
  ·cases hv
  rename_i hc
  obtain⟨hc1,hc2,hc3⟩:=hc
  cases hv
  have hp:=hs t
  rw[hG]at hp
  obtain⟨b,hpv,hl⟩:=YB.1 hp
  rw[hH]at hl
  have hok:=hR.ok r'
  rw[hH]at hok
  obtain⟨b',cs,h1,h2,h3,h4,h5⟩:=hok
  rw[hl]at h1
  simp only[Value.pointer.injEq,Option.some.injEq,Addr.mk.injEq,and_true]at h1
  subst h1
  have hcw:CW w F s.H loc c cs:=⟨h3,h5⟩
  have hav:=Xl ad hcw hc1
  obtain⟨F',fp',f,htk,hr⟩:=XN ad hR (View.refl _) hav ht
  have hlen:cs.length=i.ty.cells:=by rw[h3,hc1,hc2]
  refine⟨mkV i.ty cs,⟨⟨b,0,none⟩,hpv,Yer (hT ty i hi) (by simpa using h2.lies' 0 cs.length) hlen⟩,F',fp',f,htk,cs,hr,?_⟩
  ·unfold X7
   split
   ·trivial
   ·rw[←hc3]
    unfold mkV
    split
    ·rfl
    ·rename_i hnp
     have:i.ty.cells=1:=by cases hty:i.ty<;>simp[hty,Yr]at hnp<;>rfl
     match cs,hlen.trans this with
     | [v],_=>rfl
theorem Ydy (hT:Xd P cx) {m:Nat} {pl:Loc}: ∀(l:List AD) (rs:List ResultVar) {s:St} {F:Fp} {fp:Nat->Fp} {x:YH l} {H':Store},Roots w F s.H loc fp->PinI m pl s.H loc->(∀i,AVV w F s.H loc (s.G i) (a.tmps.getD i undef))->YaT cx.tt s l rs=some (x,H')->
  ∃vs F' fp' f,Yhp P w a rs vs/\ArgsR w F' l vs x f/\Roots w F' H' loc fp'/\PinI m pl H' loc/\(∀n,f n-> ¬F' n)/\(∀n,f n-> ∃r,fp r n)/\(∀r n,fp' r n->fp r n)/\(∀n r,f n-> ¬fp' r n)/\(∀n,F n->F' n)/\(∀n,F' n->F n∨ ∃r,fp r n)
 | [],rs,s,F,fp,x,H',hR,hI,hs,ht=>by
  rw[Yfo]at ht
  cases rs with
  |nil=>cases ht;exact⟨[],F,fp,Fp.none,rfl,⟨rfl,λ_ h=>h⟩,hR,hI,λ_ h=>h.elim,λ_ h=>h.elim,λ_ _ h=>h,λ_ _ h=>h.elim,λ_ h=>h,λ_ h=> .inl h⟩
  |cons=>cases ht
 | [ad],rs,s,F,fp,x,H',hR,hI,hs,ht=>by
  rw[Yfp]at ht
  match rs with
  | []=>cases ht
  |_::_::_=>cases ht
  | [r]=>
   dsimp only at ht
   split at ht
   rotate_left
   ·cases ht
   rename_i av hv
   split at ht
   rotate_left
   ·cases ht
   rename_i y u k h1
   cases ht
   obtain⟨v,hrv,F',fp',f,htk,hdv⟩:=YfQ hT hR hs hv h1
   exact⟨[v],F',fp',f,⟨v,[],rfl,hrv,rfl⟩,⟨v,rfl,hdv⟩,htk.roots,hI.taken (Xo ad h1).1,htk.offF,htk.own,htk.sub,htk.offR,htk.mono,htk.from_⟩
 |ad::bd::l,rs,s,F,fp,x,H',hR,hI,hs,ht=>by
  rw[YeM]at ht
  match rs with
  | []=>cases ht
  |r::rs=>
   dsimp only at ht
   split at ht
   rotate_left
   ·cases ht
   rename_i av hv
   split at ht
   rotate_left
   ·cases ht
   rename_i y u k h1
   split at ht
   rotate_left
   ·cases ht
   rename_i z H2 h2
   cases ht
   obtain⟨v,hrv,F1,fp1,f1,htk,hdv⟩:=YfQ hT hR hs hv h1
   obtain⟨vs,F2,fp2,f2,g0,hA,hR2,hI2,g1,g2,g3,g4,g5,g6⟩:=Ydy hT (bd::l) rs (s:=⟨s.G,s.H.upd u⟩) htk.roots (hI.taken (Xo ad h1).1) (λi=>htk.keep.v _ _ (hs i)) h2
   refine⟨v::vs,F2,fp2,λn=>f1 n∨f2 n,⟨v,vs,rfl,hrv,g0⟩,⟨_,_,f1,f2,rfl,λ_=>Iff.rfl,λn h h'=>by obtain⟨r,hr⟩:=g2 n h';exact htk.offR n r h hr,hdv.mono g5,hA⟩,hR2,hI2,?_,?_,λr n h=>htk.sub r n (g3 r n h),?_,λn h=>g5 n (htk.mono n h),?_⟩
   ·rintro n (h|h) h'
    ·rcases g6 n h' with h'|⟨r,h'⟩
     ·exact htk.offF n h h'
     ·exact htk.offR n r h h'
    ·exact g1 n h h'
   ·rintro n (h|h)
    ·exact htk.own n h
    ·obtain⟨r,h⟩:=g2 n h;exact⟨r,htk.sub r n h⟩
   ·rintro n r (h|h) h'
    ·exact htk.offR n r h (g3 r n h')
    ·exact g4 n r h h'
   ·intro n h
    rcases g6 n h with h|⟨r,h⟩
    ·exact htk.from_ n h
    ·exact .inr ⟨r,htk.sub r n h⟩
theorem YbC {m n:Nat} {pl:Loc} (hn:n<m): ∀(ad:AD) {F:Fp} {H:Store} {fp:Nat->Fp} {k k':Nat} {y:ad.out} {u:Ups} {cs:List Value},Roots w F H loc fp->PinI m pl H loc->Yb7 pl n k ad cs->cs.length=ad.cells->
  Xz H n k ad=some (y,u,k')->(∃F' fp' f,Taken w F H loc fp u F' fp' f/\OutR w F' ad cs y f)/\(∀q∈u,Yn q.2=false/\Ym q.2=false)/\k'=k+ad.parts
 | .v t,F,H,fp,k,k',y,u,cs,hR,hI,hp,hl,ht=>by
  simp only[Xz]at ht;cases ht
  exact⟨⟨F,fp,Fp.none,Taken.nil hR,λ_ h=>h⟩,by simp,rfl⟩
 | .jk j,F,H,fp,k,k',y,u,cs,hR,hI,hp,hl,ht=>by
  simp only[Xz]at ht;cases ht
  exact⟨⟨F,fp,Fp.none,Taken.nil hR,λ_ h=>h⟩,by simp,rfl⟩
 | .un,F,H,fp,k,k',y,u,cs,hR,hI,hp,hl,ht=>by
  simp only[Xz]at ht;cases ht
  exact⟨⟨F,fp,Fp.none,Taken.nil hR,λ_ h=>h⟩,by simp,rfl⟩
 | .gs _ _,F,H,fp,k,k',y,u,cs,hR,hI,hp,hl,ht=>by
  simp only[Xz]at ht;cases ht
  exact⟨⟨F,fp,Fp.none,Taken.nil hR,λ_ h=>h⟩,by simp,rfl⟩
 | .pz _,F,H,fp,k,k',y,u,cs,hR,hI,hp,hl,ht=>by
  simp only[Xz]at ht;cases ht
  exact⟨⟨F,fp,Fp.none,Taken.nil hR,λ_ h=>h⟩,by simp,rfl⟩
 | .mv e d,F,H,fp,k,k',y,u,cs,hR,hI,hp,hl,ht=>by
  simp only[Xz]at ht;cases ht
  exact⟨⟨F,fp,Fp.none,Taken.nil hR,λ_ h=>h⟩,by simp,rfl⟩
 | .mp _,F,H,fp,k,k',y,u,cs,hR,hI,hp,hl,ht=>by
  simp only[Xz]at ht;cases ht
  exact⟨⟨F,fp,Fp.none,Taken.nil hR,λ_ h=>h⟩,by simp,rfl⟩
 | .nv _ _,F,H,fp,k,k',y,u,cs,hR,hI,hp,hl,ht=>by
  simp only[Xz]at ht;cases ht
  exact⟨⟨F,fp,Fp.none,Taken.nil hR,λ_ h=>h⟩,by simp,rfl⟩
 | .bf e,F,H,fp,k,k',y,u,cs,hR,hI,⟨hk,hp⟩,hl,ht=>by
  simp only[Xz]at ht
  split at ht
  rotate_left
  ·cases ht
  rename_i e' xs n' ver hH
  split at ht
  rotate_left
  ·cases ht
  rename_i ys hys
  cases ht
  have hok:=hR.ok (n*16+k)
  rw[hH]at hok
  have hI:=hI (n*16+k) (by omega) (by rw[hH];rfl)
  refine⟨⟨F,_,fp (n*16+k),Taken.one (r:=n*16+k) (R':= .gone) (F':=F) (f:=fp (n*16+k)) hR (.gone ..) (λ_ h=>h) (λ_ h=> .inl h) (λm h=>⟨h,hR.frz _ m h⟩) (λ_ _ h=>h),pl (n*16+k),hp,?_⟩,by intro q hq;rw[List.mem_singleton]at hq;subst hq;exact⟨rfl,rfl⟩,rfl⟩
  rw[←hI];exact hok.1.cast hys
 | .io e d,F,H,fp,k,k',y,u,cs,hR,hI,⟨hk,hp⟩,hl,ht=>by
  simp only[Xz]at ht
  split at ht
  rotate_left
  ·cases ht
  rename_i e' d' xs ver hH
  split at ht
  rotate_left
  ·cases ht
  rename_i hd
  subst hd
  split at ht
  rotate_left
  ·cases ht
  rename_i ys hys
  cases ht
  have hok:=hR.ok (n*16+k)
  rw[hH]at hok
  have hloc:=hI (n*16+k) (by omega) (by rw[hH];rfl)
  subst hp
  rw[←hloc]
  exact⟨⟨F,_,fp (n*16+k),Taken.one (r:=n*16+k) (R':= .gone) (F':=F) (f:=fp (n*16+k)) hR (.gone ..) (λ_ h=>h) (λ_ h=> .inl h) (λi h=>⟨h,hR.frz _ i h⟩) (λ_ _ h=>h),Rep.cast hys hok⟩,
   by intro q hq;rw[List.mem_singleton]at hq;subst hq;exact⟨rfl,rfl⟩,rfl⟩
 | .bx ad,F,H,fp,k,k',y,u,cs,hR,hI,⟨hk,hp,hno⟩,hl,ht=>by
  simp only[Xz]at ht
  split at ht
  rotate_left
  ·cases ht
  rename_i c hH
  by_cases hcl:c.length=ad.cells
  rotate_left
  ·have ht:=(if_neg hcl).symm.trans ht;cases ht
  have ht:=(if_pos hcl).symm.trans ht
  split at ht
  rotate_left
  ·cases ht
  rename_i x u1 k1 h1
  cases ht
  have hok:=hR.ok (n*16+k)
  rw[hH]at hok
  have hloc:=hI (n*16+k) (by omega) (by rw[hH];rfl)
  obtain⟨b,cs',hl',hb,hlen,hfp,hcw⟩:=hok
  subst hp
  rw[←hloc,hl']
  have t1:Taken w F H loc fp [(n*16+k,.gone)] F (λr'=>if r'=n*16+k then Fp.none else fp r') (fp (n*16+k)):=
   Taken.one (r:=n*16+k) (R':= .gone) (F':=F) (f:=fp (n*16+k)) hR (.gone ..) (λ_ h=>h) (λ_ h=> .inl h) (λi h=>⟨h,hR.frz _ i h⟩) (λ_ _ h=>h)
  have hcw':CW w F H loc c cs':=⟨hlen,hcw⟩
  have hc1:AVC w F (H.set (n*16+k) .gone) loc (YN ad c) cs':=t1.keep.c _ _ (Xl ad hcw' hcl)
  obtain⟨F2,fp2,f2,ht2,hr2⟩:=XN ad t1.roots (View.refl _) hc1 h1
  obtain⟨ht,hd⟩:=t1.seq ht2
  obtain⟨p1,p2⟩:=Xo ad h1
  refine⟨⟨F2,fp2,_,ht,b,cs',f2,rfl,hb,λi=>or_congr (hfp i) Iff.rfl,λhh=>hd b ((hfp b).2 rfl) hh,hr2⟩,λq hq=>?_,by rw[p2];simp only[AD.parts];omega⟩
  rcases List.mem_cons.1 hq with rfl|hq
  ·exact⟨rfl,rfl⟩
  ·exact p1 q hq
 | .pr ad bd,F,H,fp,k,k',y,u,cs,hR,hI,⟨c1,c2,hcs,hl1,hp1,hp2⟩,hl,ht=>by
  simp only[Xz]at ht
  split at ht
  rotate_left
  ·cases ht
  rename_i x u1 k1 h1
  split at ht
  rotate_left
  ·cases ht
  rename_i z u2 k2 h2
  cases ht
  subst hcs
  have hl2:c2.length=bd.cells:=by
   rw[List.length_append,hl1]at hl
   have:(AD.pr ad bd).cells=ad.cells+bd.cells:=rfl
   omega
  obtain⟨⟨F1,fp1,f1,ht1,hr1⟩,p1,p2⟩:=YbC hn ad hR hI hp1 hl1 h1
  subst p2
  obtain⟨⟨F2,fp2,f2,ht2,hr2⟩,q1,q2⟩:=YbC hn bd ht1.roots (hI.taken p1) hp2 hl2 h2
  obtain⟨ht,hd⟩:=ht1.seq ht2
  refine⟨⟨F2,fp2,_,ht,c1,c2,f1,f2,rfl,hl1,λ_=>Iff.rfl,hd,OutR.mono ht2.mono ad hr1,hr2⟩,λq hq=>(List.mem_append.1 hq).elim (p1 q) (q1 q),by rw[q2];simp only[AD.parts];omega⟩
theorem YiE (H:Store) (n:Nat):YaR H n []=some ():=rfl
theorem Yfm (H:Store) (n:Nat) (a:AD):YaR H n [a]=(match Xz H n 0 a with|some (x,_)=>some x|none=>none):=rfl
theorem YeL (H:Store) (n:Nat) (a b:AD) (l:List AD):YaR H n (a::b::l)=(match Xz H n 0 a with|some (x,u,_)=>(match YaR (H.upd u) (n+1) (b::l)with|some y=>some (x,y)|none=>none)|none=>none):=rfl
def Ygq (pl:Loc):Nat->List AD->List Value->Prop
 |n,ad::l,vs=> ∃v r,vs=v::r/\(∀cs,X7 ad v cs->cs.length=ad.cells->Yb7 pl n 0 ad cs)/\Ygq pl (n+1) l r
 |_,[],vs=>vs= []
theorem OutV.of {ad:AD} {v:Value} {y:ad.out} {f:Fp} {cs:List Value} (hs:X7 ad v cs) (hf:(∀n,ad≠ .jk n)∨ ∀n,¬f n) (h:OutR w F ad cs y f):OutV w F ad v y f:=by
 intro cs' hs' hl'
 by_cases hj: ∃j,ad= .jk j
 ·obtain⟨j,rfl⟩:=hj;exact h
 ·rw[←YcS hs hs' λj e=>hj ⟨j,e⟩];exact h
theorem Ydx {m:Nat} {pl:Loc}: ∀(l:List AD) (n:Nat) {F:Fp} {H:Store} {fp:Nat->Fp} {y:XK l} {vs:List Value},n+l.length<=m->Roots w F H loc fp->PinI m pl H loc->Ygq pl n l vs->(∀(i:Nat) ad v,l[i]? =some ad->vs[i]? =some v-> ∃cs,X7 ad v cs/\cs.length=ad.cells)->
  YaR H n l=some y-> ∃F' f,OutsR w F' l vs y f/\(∀i,f i-> ¬F' i)/\(∀i,f i-> ∃r,fp r i)/\(∀i,F i->F' i)/\(∀i,F' i->F i∨ ∃r,fp r i)/\(∀i,F' i->i<w.heap.size)
 | [],n,F,H,fp,y,vs,hm,hR,hI,hp,hv,ht=>⟨F,Fp.none,λ_ h=>h,λ_ h=>h.elim,λ_ h=>h.elim,λ_ h=>h,λ_ h=> .inl h,hR.dom⟩
 | [ad],n,F,H,fp,y,vs,hm,hR,hI,⟨v,r,hvs,hp,hpr⟩,hv,ht=>by
  rw[Yfm]at ht
  split at ht
  rotate_left
  ·cases ht
  rename_i x q h1
  cases ht
  obtain⟨u,k⟩:=q
  subst hvs
  have hr:r= []:=hpr
  subst hr
  obtain⟨cs,hs,hl⟩:=hv 0 ad v rfl rfl
  obtain⟨⟨F',fp',f,htk,ho⟩,_,_⟩:=YbC (by simp at hm;omega:n<m) ad hR hI (hp cs hs hl) hl h1
  exact⟨F',f,⟨v,rfl,OutV.of hs (by
   by_cases hj: ∃j,ad= .jk j
   ·obtain⟨j,rfl⟩:=hj;exact .inr ho
   ·exact .inl λj e=>hj ⟨j,e⟩) ho⟩,htk.offF,htk.own,htk.mono,htk.from_,htk.roots.dom⟩
 |ad::bd::l,n,F,H,fp,y,vs,hm,hR,hI,⟨v,r,hvs,hp,hpr⟩,hv,ht=>by
  rw[YeL]at ht
  split at ht
  rotate_left
  ·cases ht
  rename_i x u k h1
  split at ht
  rotate_left
  ·cases ht
  rename_i z h2
  cases ht
  subst hvs
  obtain⟨cs,hs,hl⟩:=hv 0 ad v rfl rfl
  simp only[List.length_cons]at hm
  obtain⟨⟨F1,fp1,f1,htk,ho⟩,p1,_⟩:=YbC (by omega:n<m) ad hR hI (hp cs hs hl) hl h1
  obtain⟨F2,f2,ho2,g1,g2,g3,g4,g5⟩:=Ydx (bd::l) (n+1) (by simp only[List.length_cons];omega) htk.roots (hI.taken p1) hpr (λi ad v ha hv'=>hv (i+1) ad v ha hv') h2
  have hdis: ∀i,f1 i->f2 i->False:=λi h h'=>by obtain⟨r,hr⟩:=g2 i h';exact htk.offR i r h hr
  refine⟨F2,λi=>f1 i∨f2 i,⟨v,r,f1,f2,rfl,λ_=>Iff.rfl,hdis,OutV.of hs (by
   by_cases hj: ∃j,ad= .jk j
   ·obtain⟨j,rfl⟩:=hj;exact .inr ho
   ·exact .inl λj e=>hj ⟨j,e⟩) (OutR.mono g3 ad ho),ho2⟩,?_,?_,λi h=>g3 i (htk.mono i h),?_,g5⟩
  ·rintro i (h|h) h'
   ·rcases g4 i h' with h'|⟨r,h'⟩
    ·exact htk.offF i h h'
    ·exact htk.offR i r h h'
   ·exact g1 i h h'
  ·rintro i (h|h)
   ·exact htk.own i h
   ·obtain⟨r,h⟩:=g2 i h;exact⟨r,htk.sub r i h⟩
  ·intro i h
   rcases g4 i h with h|⟨r,h⟩
   ·exact htk.from_ i h
   ·exact .inr ⟨r,htk.sub r i h⟩
end
end Go.Va
namespace Go.Va
section
variable {P:Program} {w w':World} {F F':Fp} {H H' V:Store} {loc loc':Loc} {fp fp':Nat->Fp} {a:Act} {cx:Cx} {E:Run} {s:St}
def Made (w:World) (F:Fp) (H:Store) (loc:Loc) (slot:Nat) (ad:AD) (v:Value):Prop:=
 ∃(V:Store) (k':Nat) (y:AV) (u:Ups) (cs:List Value) (x:ad.den),mkD V slot 0 ad x=some (y,u,k')/\AVC w F H loc y cs/\X7 ad v cs/\cs.length=ad.cells/\ ∀q∈u,H q.1=q.2
def Mades (w:World) (F:Fp) (H:Store) (loc:Loc):Nat->List AD->List Value->Prop
 |n,ad::l,vs=> ∃v r,vs=v::r/\Made w F H loc n ad v/\Mades w F H loc (n+1) l r
 |_,[],vs=>vs= []
theorem Made.keep {slot n':Nat} {ad:AD} {v:Value} {u:Ups} (h:Made w F H loc slot ad v) (k:Keep w F H loc w F (H.upd u) loc') (hu: ∀q∈u,∃j,j<16/\q.1=n'*16+j) (hn:n'≠slot):Made w F (H.upd u) loc' slot ad v:=by
 obtain⟨V,k',y,u0,cs,x,h1,h2,h3,h4,h5⟩:=h
 refine⟨V,k',y,u0,cs,x,h1,k.c _ _ h2,h3,h4,λq hq=>?_⟩
 rw[←h5 q hq]
 obtain⟨_,hk,_⟩:=XJ ad h1
 obtain⟨j,_,_,hj,e⟩:=hk q hq
 refine Yy u λp hp e'=>?_
 obtain⟨i,hi,e2⟩:=hu p hp
 rw[e,e2]at e'
 omega
theorem Made.pinD {slot:Nat} {ad:AD} {v:Value} (ho:YcI ad=true) (h:Made w F H loc slot ad v): ∀cs,X7 ad v cs->cs.length=ad.cells->Yb7 loc slot 0 ad cs:=by
 intro cs' hs' hl'
 obtain⟨V,k',y,u0,cs,x,h1,h2,h3,h4,h5⟩:=h
 by_cases hj: ∃j,ad= .jk j
 ·obtain⟨j,rfl⟩:=hj;trivial
 ·rw[←YcS h3 hs' λj e=>hj ⟨j,e⟩]
  exact YcF ad ho h1 h2 h5
theorem Mades.pinDs: ∀(l:List AD) (n:Nat) (vs:List Value),l.all YcI=true->Mades w F H loc n l vs->Ygq loc n l vs
 | [],_,_,_,h=>h
 |ad::l,n,vs,ho,⟨v,r,h1,h2,h3⟩=>by
  rw[List.all_cons,Bool.and_eq_true]at ho
  exact⟨v,r,h1,h2.pinD ho.1,Mades.pinDs l (n+1) r ho.2 h3⟩
theorem Mades.cells: ∀(l:List AD) (n:Nat) (vs:List Value),Mades w F H loc n l vs-> ∀(i:Nat) ad v,l[i]? =some ad->vs[i]? =some v-> ∃cs,X7 ad v cs/\cs.length=ad.cells
 | [],_,_,_,i,ad,v,h,_=>by simp at h
 |ad::l,n,vs,⟨v,r,h1,h2,h3⟩,i,ad',v',ha,hv=>by
  subst h1
  cases i with
  |zero=>
   simp at ha hv;subst ha;subst hv
   obtain⟨V,k',y,u0,cs,x,_,_,g3,g4,_⟩:=h2
   exact⟨cs,g3,g4⟩
  |succ i=>exact Mades.cells l (n+1) r h3 i ad' v' (by simpa using ha) (by simpa using hv)
theorem Mades.len: ∀(l:List AD) (n:Nat) (vs:List Value),Mades w F H loc n l vs->vs.length=l.length
 | [],_,_,h=>by have h:_= []:=h;rw[h];rfl
 |ad::l,n,vs,⟨v,r,h1,h2,h3⟩=>by rw[h1,List.length_cons,List.length_cons,Mades.len l (n+1) r h3]
theorem YgQ (s:St) (n:Nat) (x:YH []):Yfb s n [] x=some s:=rfl
theorem YgR (s:St) (n:Nat) (a:AD) (x:YH [a]):Yfb s n [a] x=(match mkD s.H n 0 a x with|some (y,u,_)=>some (St.put ⟨s.G,s.H.upd u⟩ n y)|none=>none):=rfl
theorem Ygd (s:St) (n:Nat) (a b:AD) (l:List AD) (x:YH (a::b::l)):Yfb s n (a::b::l) x=(match mkD s.H n 0 a x.1 with|some (y,u,_)=>Yfb (St.put ⟨s.G,s.H.upd u⟩ n y) (n+1) (b::l) x.2|none=>none):=rfl
theorem Yev {n:Nat} {ad:AD} {y:AV} {u:Ups} {k':Nat} {x:ad.den} {f:Fp} {v:Value} (hR:Roots w F s.H loc fp) (hdv:DV w F ad v x f) (hd: ∀k r,f k-> ¬fp r k) (hF: ∀k,f k-> ¬F k) (hm:mkD s.H n 0 ad x=some (y,u,k')):
  ∃loc' fp',Roots w F (s.H.upd u) loc' fp'/\Keep w F s.H loc w F (s.H.upd u) loc'/\AVV w F (s.H.upd u) loc' y v/\Made w F (s.H.upd u) loc' n ad v/\(∀r k,fp' r k->fp r k∨f k)/\ ∀q∈u,∃j,j<16/\q.1=n*16+j:=by
 obtain⟨cs,hr,hsh⟩:=hdv
 obtain⟨loc',fp',hg,hc⟩:=YaL ad hR (Own.refl _ _) hr hd hF hm
 obtain⟨_,hkey,hnd⟩:=XJ ad hm
 exact⟨loc',fp',hg.roots,hg.keep,(Yce hm hc hsh).2,⟨_,_,_,_,cs,x,hm,hc,hsh,DR.len ad hr,YdB u _ hnd⟩,hg.from_,λq hq=>by obtain⟨j,_,_,hj,e⟩:=hkey q hq;exact⟨j,hj,e⟩⟩
def YhA (n:Nat) (vs:List Value) (T:Nat->Value):Prop:= ∀(i:Nat) v,vs[i]? =some v->T (n+i)=v
theorem YfK {T:Nat->Value}: ∀(l:List AD) (n:Nat) {s s':St} {loc:Loc} {fp:Nat->Fp} {x:YH l} {f:Fp} {vs:List Value},Roots w F s.H loc fp->(∀i,AVV w F s.H loc (s.G i) (T i))->YhA n vs T->
  ArgsR w F l vs x f->(∀k r,f k-> ¬fp r k)->(∀k,f k-> ¬F k)->Yfb s n l x=some s'->
  ∃loc' fp',Roots w F s'.H loc' fp'/\(∀i,AVV w F s'.H loc' (s'.G i) (T i))/\Mades w F s'.H loc' n l vs/\(∀r k,fp' r k->fp r k∨f k)/\(∀m ad v,m<n->Made w F s.H loc m ad v->Made w F s'.H loc' m ad v)
 | [],n,s,s',loc,fp,x,f,vs,hR,hs,hT,hA,hd,hF,hm=>by
  rw[YgQ]at hm;cases hm
  obtain⟨rfl,_⟩:=hA
  exact⟨loc,fp,hR,hs,rfl,λ_ _ h=> .inl h,λ_ _ _ _ h=>h⟩
 | [ad],n,s,s',loc,fp,x,f,vs,hR,hs,hT,hA,hd,hF,hm=>by
  rw[YgR]at hm
  split at hm
  rotate_left
  ·cases hm
  rename_i y u k' h1
  cases hm
  obtain⟨v,rfl,hdv⟩:=hA
  obtain⟨loc',fp',hR',hK,hv,hM,hf,hu⟩:=Yev hR hdv hd hF h1
  refine⟨loc',fp',hR',λi=>?_,⟨v,[],rfl,hM,rfl⟩,hf,λm ad v hlt h=>h.keep hK hu (by omega)⟩
  by_cases e:i=n
  ·subst e
   have:T i=v:=hT 0 v rfl
   simp only[St.put,beq_self_eq_true,if_true];rw[this];exact hv
  ·simp only[St.put,beq_iff_eq,e,if_false];exact hK.v _ _ (hs i)
 |ad::bd::l,n,s,s',loc,fp,x,f,vs,hR,hs,hT,hA,hd,hF,hm=>by
  rw[Ygd]at hm
  split at hm
  rotate_left
  ·cases hm
  rename_i y u k' h1
  obtain⟨v,r,f1,f2,rfl,g1,g2,hdv,hA2⟩:=hA
  obtain⟨loc1,fp1,hR1,hK,hv,hM,hf,hu⟩:=Yev hR hdv (λk r h=>hd k r ((g1 k).2 (.inl h))) (λk h=>hF k ((g1 k).2 (.inl h))) h1
  have hs1: ∀i,AVV w F (s.H.upd u) loc1 ((St.put ⟨s.G,s.H.upd u⟩ n y).G i) (T i):=λi=>by
   by_cases e:i=n
   ·subst e
    have:T i=v:=hT 0 v rfl
    simp only[St.put,beq_self_eq_true,if_true];rw[this];exact hv
   ·simp only[St.put,beq_iff_eq,e,if_false];exact hK.v _ _ (hs i)
  obtain⟨loc2,fp2,hR2,hs2,hM2,hf2,hk2⟩:=YfK (bd::l) (n+1) (s:=St.put ⟨s.G,s.H.upd u⟩ n y) hR1 hs1 (λi v h=>by rw[show n+1+i=n+(i+1) by omega];exact hT (i+1) v (by simpa using h)) hA2 (λk r h h'=>(hf r k h').elim (hd k r ((g1 k).2 (.inr h))) λh'=>g2 k h' h) (λk h=>hF k ((g1 k).2 (.inr h))) hm
  refine⟨loc2,fp2,hR2,hs2,⟨v,r,rfl,hk2 n ad v (by omega) hM,hM2⟩,λr k h=>?_,λm ad v hlt h=>hk2 m ad v (by omega) (h.keep hK hu (by omega))⟩
  rcases hf2 r k h with h|h
  ·exact(hf r k h).imp id λh=>(g1 k).2 (.inl h)
  ·exact .inr ((g1 k).2 (.inr h))
theorem Yfs (l:List Value):(if h:l.toArray.size=1 then l.toArray[0]else .tuple l.toArray)=Yfr l:=by
 match l with
 | []=>rfl
 | [v]=>rfl
 |_::_::_=>simp[Yfr]
theorem YeF {fn:Func} {a:Act} {w:World} {vs:List Value} (h:Yhp P w a fn.results.toList vs):(results fn a.tmps).run P w= .ok (Yfr vs) w:=by
 have key: ∀(g:ResultVar->Sem Value),(∀t,g (.tmp t)=pure (a.tmps.getD t undef))->(∀t ty p,a.tmps.getD t undef= .pointer (some p)->g (.cell t ty)=loadVar ty p)-> ∀(l:List ResultVar) (vs:List Value),Yhp P w a l vs->(l.mapM (m:=Sem) g).run P w= .ok vs w:=by
  intro g hg hg2 l
  induction l with
  |nil=>intro vs h;have h:vs= []:=h;subst h;rfl
  |cons r l ih=>
   rintro vs ⟨v,q,rfl,hr,hq⟩
   rw[List.mapM_cons]
   cases r with
   |tmp t=>
    dsimp only at hr
    subst hr
    simp[hg,Sem.run_bind,ih q hq]
   |cell t ty=>
    dsimp only at hr
    obtain⟨p,h1,h2⟩:=hr
    simp[hg2 t ty p h1,Sem.run_bind,h2,ih q hq]
 unfold results
 rw[Array.mapM_eq_mapM_toList,map_eq_pure_bind,bind_assoc,Sem.run_bind,key _ (λ_=>rfl) (λt ty p h=>by simp[h,asAddr]) _ _ h]
 simp only[pure_bind]
 rw[←Yfs]
 rfl
theorem YgE {f:FuncId} {fn:Func} {c:Code} {en:Entry} (hT:Xd P cx) (hC:TOk P cx.T) (hmix:P.follows .mixedOrders=true) (hf:P.funcs[f]? =some fn) (hb:fn.body=some c)
  (hL:XH (λc=> ∀L,cx.L (YZ c)=some L->YbG cx c L) c) {enc:XK en.params->YH en.results->en.B} (henc: ∀o r,en.out (enc o r)=o/\en.res (enc o r)=r)
  (hrun: ∀x,en.run x=Yir cx fn en.params en.results x λo r=>some (enc o r)) (hcod:en.cod=cx.cod:=by rfl):Holds P f en:=by
 intro x b hxb w F args vs fA hDr hA hAF hdom
 rw[hrun]at hxb
 unfold Yir at hxb
 rw[hb]at hxb
 dsimp only at hxb
 split at hxb
 ·cases hxb
 rename_i hchk
 simp only[Bool.or_eq_true,not_or,Bool.not_eq_true',Bool.not_eq_false,bne_iff_ne,ne_eq,Classical.not_not]at hchk
 obtain⟨⟨hd,hn⟩,hok⟩:=hchk
 split at hxb
 ·cases hxb
 rename_i s hs
 split at hs
 rotate_left
 ·cases hs
 rename_i s1 hs1
 obtain⟨loc,fp,hR1,hG1,hM,hf',_⟩:=YfK (w:=w) (F:=F) (T:=λi=>vs.getD i undef) (vs:=vs) en.params 0 (Yb2 hdom λ_=>undef) (λ_=>trivial)
  (λi v h=>by
   simp only[Nat.zero_add,List.getD_eq_getElem?_getD,h,Option.getD_some]) hA (λ_ _ _ h=>h) hAF hs1
 have hlen:args.size=en.params.length:=by
  have:=hM.len;have:=hDr.1;simp at this;omega
 have htm:(λi=>(args++Array.replicate (fn.ntmps-args.size) undef).getD i undef)=λi=>args.toList.getD i undef:=by
  funext i
  rw[Array.getD_eq_getD_getElem?,Array.getElem?_append,List.getD_eq_getElem?_getD]
  split
  ·simp
  ·rename_i h
   rw[List.getElem?_eq_none (by simpa using h),Array.getElem?_replicate]
   split<;>rfl
 have hdr:DressR w F cx.cod (λi=>(args++Array.replicate (fn.ntmps-args.size) undef).getD i undef) (λi=>vs.getD i undef):=by
  rw[htm,←hcod];exact hDr.2
 obtain⟨loc2,fp2,hR,_,hG,hsub,hpin⟩:=Yec hR1 hG1 hdr hs
 let E:Run:= { w0:=w,F0:=F,fA:=fA,m:=cx.n,pl:=loc,n:=fn.ntmps }
 refine calls_of_wp hf hb ?_
 have hrel:Rel E s { tmps:=args++Array.replicate (fn.ntmps-args.size) undef,defers:= [] } w:=
  ⟨F,loc2,fp2,hR,hG,⟨λr m h=> .inl ((hf' r m (hsub r m h)).resolve_left id),λ_ h=> .inl h,λ_ h=>h,λ_ _ _=>rfl,Nat.le_refl _,rfl,rfl⟩,λr _ hp=>by
   rw[Bool.or_eq_true]at hp
   exact(hpin r hp).2,by show fn.ntmps<=_;simp;omega,rfl⟩
 refine X2 (E:=E) hT hC hmix rfl c hd hL hxb hrel λe s' a' w' hk hr=>?_
 have fin:(∃y H' o,YaT cx.tt s' en.results fn.results.toList=some (y,H')/\YaR H' 0 en.params=some o/\enc o y=b)->a'.defers= []/\ ∃v,(results fn a'.tmps).run P w'= .ok v w'/\ ∃rs F' fR fO,Ending.returned v= .returned (Yfr rs)/\Ret w F en b vs fA rs w' F' fR fO:=by
  rintro ⟨y,H',o,hRs,hOs,rfl⟩
  obtain⟨F1,loc1,fp1,hR1,hs1,hS,hI,hn1,hd1⟩:=hr
  obtain⟨rs,F2,fp2,fR,g0,hres,hR2,hI2,g1,g2,g3,g4,g5,g6⟩:=Ydy hT en.results fn.results.toList hR1 hI hs1 hRs
  obtain⟨F3,fO,hout,k1,k2,k3,k4,k5⟩:=Ydx en.params 0 (m:=cx.n) (pl:=loc) (by omega) hR2 hI2 (Mades.pinDs en.params 0 _ hok hM) (Mades.cells en.params 0 _ hM) hOs
  have hown: ∀m,(∃r,fp1 r m)->fA m∨w.heap.size<=m:=λm ⟨r,h⟩=>hS.own r m h
  refine⟨hd1,_,YeF g0,rs,F3,fR,fO,rfl,⟨by rw[(henc o y).2];exact ArgsR.mono k3 hres,by rw[(henc o y).1];exact hout,λm h h'=>?_,λm h=>?_,λm h=>?_,λm h=>k3 m (g5 m (hS.mono m h)),λm h=>?_,k5,hS.big,hS.same,hS.rest⟩⟩
  ·obtain⟨r,h'⟩:=k2 m h';exact g4 m r h h'
  ·rcases h with h|h
   ·exact hown m (g2 m h)
   ·obtain⟨r,h⟩:=k2 m h;exact hown m ⟨r,g3 r m h⟩
  ·rcases h with h|h
   ·intro h'
    rcases k4 m h' with h'|⟨r,h'⟩
    ·exact g1 m h h'
    ·exact g4 m r h h'
   ·exact k1 m h
  ·rcases k4 m h with h|⟨r,h⟩
   ·rcases g6 m h with h|h
    ·exact hS.frz m h
    ·exact .inr (hown m h)
   ·exact .inr (hown m ⟨r,g3 r m h⟩)
 cases e with
 |exit i=>cases hk
 |normal=>
  dsimp only at hk
  split at hk
  rotate_left
  ·cases hk
  rename_i y H' hRs
  split at hk
  rotate_left
  ·cases hk
  rename_i o hOs
  cases hk
  exact fin ⟨y,H',o,hRs,hOs,rfl⟩
 |ret=>
  dsimp only at hk
  split at hk
  rotate_left
  ·cases hk
  rename_i y H' hRs
  split at hk
  rotate_left
  ·cases hk
  rename_i o hOs
  cases hk
  exact fin ⟨y,H',o,hRs,hOs,rfl⟩
end
end Go.Va
