/- Plain lemmas on the typed functions of the program, and the plain law of FnNetworks; no conditions. -/
import Derived.Test.YtgeboeaoblppcabGreatV1
import Derived.Test.YtgeboeaoblppcabGreatV5
import Derived.KernelRfl
import Derived.Test.YtgeboeaoblppcabGreatOFnNetworks
set_option linter.all false
open Go Go.Va
namespace T
def Gj (l:List C8):Prop:=l.length<=5/\ ∀r∈l,rowsB 601 3 r.2
def HD (o:Option (Int×List C8)):Bool:=match o with
 |some (n,rels)=>decide (0<=n/\n<=5)&&(decide (rels.length<=5)&&rels.all λr=>decide (r.2.length<=601)&&r.2.all λt=>decide (t.length<=3))
 |none=>false
theorem H9 (x:Int):HD (Dg x)=true:=by
 unfold Dg
 repeat' split
 all_goals rfl
theorem HE (x:Int): ∃n rels,Dg x=some (n,rels)/\0<=n/\n<=5/\Gj rels:=by
 have h:=H9 x
 unfold HD at h
 split at h
 ·rename_i n rels e
  simp only[Bool.and_eq_true,decide_eq_true_eq,List.all_eq_true]at h
  exact⟨n,rels,e,h.1.1,h.1.2,h.2.1,λr hr=>h.2.2 r hr⟩
 ·simp at h
theorem IR {l:List C8} {i:Nat} (hi:i<l.length) (hr:rowsB 1000 1000 l[i].2) (c:CR) (n:Int) (o:List C8) (ar:Int):AZ Ad (c,n,l,o,(i:Int),(ar,[]),0)=some (c,n,l,o,(i:Int),(ar,l[i].2)):=by
 have h1:=hr.1
 have:=D0 l[i].2.length (λm (q:List (List Int)) k=>AZ m (c,n,l,o,(i:Int),(ar,q),k)) (λk=>l[i].2.take k) (r:=some (c,n,l,o,(i:Int),(ar,l[i].2))) (λm k hk=>?_) (λm=>?_) (n:=Ad) (by unfold Ad;omega)
 ·exact this
 ·have e:=DI (l:=l[i].2[k]) (by have:=hr.2 _ (List.getElem_mem hk);omega)
  simp only[AZ,AA,hi,AC hi,hk,AC hk,if_true,e,Option.bind_some,Aw (show k<4611686018427387904 by omega)]
  rw[if_pos (by simp;omega),if_pos (by simp;unfold lim;omega),List.take_succ_eq_append_getElem hk]
 ·simp only[AZ,AA,hi,AC hi,if_true,List.take_length]
  rw[if_neg (by simp)]
theorem IQ {l:List C8} (h:Gj l) (c:CR) (n:Int):AY Ad (c,n,l,[],0)=some (c,n,l):=by
 have h1:=h.1
 have:=D0 l.length (λm (q:List C8) k=>AY m (c,n,l,q,k)) (λk=>l.take k) (r:=some (c,n,l)) (λm k hk=>?_) (λm=>?_) (n:=Ad) (by unfold Ad;omega)
 ·exact this
 ·have e:=IR hk ((h.2 _ (List.getElem_mem hk)).mono (by omega) (by omega)) c n (l.take k) l[k].1
  have e:AZ Ad ((c.1,(c.2.1,c.2.2)),n,l,l.take k,(k:Int),(l[k].1,[]),0)=_:=e
  simp only[AY,AA,hk,AC hk,if_true,e,Option.bind_some,Aw (show k<4611686018427387904 by omega)]
  rw[if_pos (by simp;omega),if_pos (by simp;unfold lim;omega),List.take_succ_eq_append_getElem hk]
 ·simp only[AY,List.take_length]
  rw[if_neg (by simp)]
theorem Io {n:Int} (hn:n<=100): ∀(d f k:Nat) (c:CR) (o:List C8),d<f->Cur k c->k+300*d<=50000->o.length+d<=5->(∀r∈o,rowsB 601 3 r.2)->
  ∃c' o',Be f (c,n,o,(d:Int))=some (c',n,o')/\Cur (k+300*d) c'/\Gj o':=by
 intro d
 induction d with
 |zero=>
  intro f k c o hf hc hk ho hr
  obtain⟨f,rfl⟩: ∃z,f=z+1:=⟨f-1,by omega⟩
  refine⟨c,o,?_,hc,⟨by omega,hr⟩⟩
  simp only[Be]
  rw[if_neg (by simp)]
 |succ d ih=>
  intro f k c o hf hc hk ho hr
  obtain⟨f,rfl⟩: ∃z,f=z+1:=⟨f-1,by omega⟩
  obtain⟨c1,x1,e1,g1,_⟩:=CA hc (by omega) (l:= [1,2,2,3]) (by simp) (by simp)
  have e1:Ab (c.1,(c.2.1,c.2.2)) [1,2,2,3]=_:=e1
  obtain⟨c2,r,e2,g2,h2⟩:=D6 (N:=n) (A:=x1) g1 (by omega) hn
  have e2:A9 (c1.1,(c1.2.1,c1.2.2)) n x1=_:=e2
  obtain⟨c',o',e3,g3,h3⟩:=ih f (k+202) c2 (o++ [r]) (by omega) (g2.mono (by omega)) (by omega) (by simp;omega) (λq hq=>by
   rcases List.mem_append.1 hq with hq|hq
   ·exact hr q hq
   ·rw[List.mem_singleton.1 hq];exact h2)
  refine⟨c',o',?_,g3.mono (by omega),h3⟩
  have ew:w64 (((d+1:Nat):Int)-1)=(d:Int):=by rw[Bp (by omega) (by omega)];omega
  simp only[Be,e1,e2,Option.bind_some,ew]
  rw[if_pos (by simp),if_pos (by simp;unfold lim;omega)]
  exact e3
theorem EI {k:Nat} {c:CR} (hc:Cur k c) (hk:k<=1000000) (l:List Int) (b m:Nat) (hm:11<=m/\m<=24) (hb:0<b) (hl:b+(23/m)<=l.length) (hl2:l.length<=100):
  ∃c1 x1 c' x,Ae (c.1,(c.2.1,c.2.2)) 24=some (c1,x1)/\((0:Int)<=0/\0<=(w64 ((b:Int)+(w64 (Int.tdiv x1 (m:Int)))))/\(w64 ((b:Int)+(w64 (Int.tdiv x1 (m:Int)))))<=(l.length:Int))/\
   Ab (c1.1,(c1.2.1,c1.2.2)) ((l.take (Int.toNat (w64 ((b:Int)+(w64 (Int.tdiv x1 (m:Int))))))).drop (Int.toNat 0))=some (c',x)/\Cur (k+4) c'/\x∈l:=by
 obtain⟨c1,x1,e1,g1,a1,b1,_⟩:=Ck hc (by omega) 24 (by omega)
 have b1:=b1 (by omega)
 obtain⟨y,rfl⟩: ∃y:Nat,x1=(y:Int):=⟨x1.toNat,by omega⟩
 have hqb:y/m<=23/m:=Nat.div_le_div_right (by omega)
 have hq:Int.tdiv (y:Int) (m:Int)=((y/m:Nat):Int):=by rw[Int.tdiv_eq_ediv_of_nonneg (by omega)];rfl
 obtain⟨q,eq⟩: ∃q,q=y/m:=⟨_,rfl⟩
 obtain⟨z,ez⟩: ∃z,z=23/m:=⟨_,rfl⟩
 rw[←ez]at hqb hl
 rw[←eq]at hqb hq
 clear eq ez
 refine⟨c1,(y:Int),?_⟩
 rw[hq]
 clear hq
 have w1:w64 ((q:Nat):Int)=(q:Int):=Bp (by omega) (by omega)
 have w2:w64 ((b:Int)+(q:Int))=((b+q:Nat):Int):=by rw[Bp (by omega) (by omega)];omega
 rw[w1,w2]
 have e0:(l.take (Int.toNat ((b+q:Nat):Int))).drop (Int.toNat 0)=l.take (b+q):=by rw[Int.toNat_natCast];rfl
 rw[e0]
 obtain⟨c2,x2,e2,g2,m2⟩:=CA g1 (by omega) (l:=l.take (b+q)) (by rw[List.length_take];omega) (by rw[List.length_take];omega)
 exact⟨c2,x2,e1,by omega,e2,g2.mono (by omega),List.mem_of_mem_take m2⟩
theorem Gr {k:Nat} {c:CR} (hc:Cur k c) (hk:k<=10000): ∃c' n rels,Cl c=some (c',n,rels)/\Cur (k+2000) c'/\0<=n/\n<=5/\Gj rels:=by
 obtain⟨c1,b1,e1,g1⟩:=D5 hc (by omega) 3 (by omega)
 have e1:Av (c.1,(c.2.1,c.2.2)) 3=_:=e1
 unfold Cl
 simp only[e1,Option.bind_some]
 cases b1 with
 |false=>
  obtain⟨c2,x2,e2,g2,_⟩:=Ck g1 (by omega) 11 (by omega)
  have e2:Ae (c1.1,(c1.2.1,c1.2.2)) 11=_:=e2
  obtain⟨n,rels,e3,h1,h2,h3⟩:=HE x2
  have e4:=IQ h3 c2 n
  have e4:AY Ad ((c2.1,(c2.2.1,c2.2.2)),n,rels,[],0)=_:=e4
  simp only[Bool.not_false,if_true,e2,e3,e4,Option.bind_some]
  exact⟨_,_,_,rfl,g2.mono (by omega),h1,h2,h3⟩
 |true=>
  simp only[Bool.not_true,Bool.false_eq_true,if_false]
  obtain⟨d1,y1,c2,n,e2,i2,f2,g2,m2⟩:=EI g1 (by omega) [1,2,2,2,3,3,4,0,5] 7 11 (by omega) (by omega) (by simp) (by simp)
  obtain⟨d2,y2,c3,d,e3,i3,f3,g3,m3⟩:=EI g2 (by omega) [0,1,1,2,4,5] 5 23 (by omega) (by omega) (by simp) (by simp)
  have hn:0<=n/\n<=5:=by simp at m2;omega
  have hd:0<=d/\d<=5:=by simp at m3;omega
  obtain⟨D,rfl⟩: ∃D:Nat,d=(D:Int):=⟨d.toNat,by omega⟩
  obtain⟨c4,rels,e4,g4,h4⟩:=Io (n:=n) (by omega) D Ad (k+10) c3 [] (by unfold Ad;omega) (g3.mono (by omega)) (by omega) (by simp;omega) (by simp)
  have e4:Be Ad ((c3.1,(c3.2.1,c3.2.2)),n,[],(D:Int))=_:=e4
  simp only[e2,Option.bind_some]
  rw[if_pos (by decide),if_pos (show(0:Int)<=0/\0<=(w64 (7+(w64 (Int.tdiv y1 11))))/\(w64 (7+(w64 (Int.tdiv y1 11))))<=([1,2,2,2,3,3,4,0,5].length:Int) from i2)]
  have f2:Ab (d1.1,(d1.2.1,d1.2.2)) (([1,2,2,2,3,3,4,0,5].take (Int.toNat (w64 (7+(w64 (Int.tdiv y1 11)))))).drop (Int.toNat 0))=_:=f2
  rw[f2]
  simp only[Option.bind_some,e3]
  rw[if_pos (by decide),if_pos (show(0:Int)<=0/\0<=(w64 (5+(w64 (Int.tdiv y2 23))))/\(w64 (5+(w64 (Int.tdiv y2 23))))<=([0,1,1,2,4,5].length:Int) from i3)]
  have f3:Ab (d2.1,(d2.2.1,d2.2.2)) (([0,1,1,2,4,5].take (Int.toNat (w64 (5+(w64 (Int.tdiv y2 23)))))).drop (Int.toNat 0))=_:=f3
  rw[f3]
  simp only[Option.bind_some,e4]
  exact⟨_,_,_,rfl,g4.mono (by omega),hn.1,hn.2,h4⟩
end T
open Go Go.Va
namespace T
theorem GN {α:Type} [DecidableEq α] {l l':List α} (d:α) (h:l.length=l'.length):(List.range l.length).all (λk=>decide (l.getD k d=l'.getD k d))=decide (l=l'):=by
 rw[Bool.eq_iff_iff]
 simp only[List.all_eq_true,List.mem_range,decide_eq_true_eq]
 constructor
 ·intro hx
  refine List.ext_getElem h λi h1 h2=>?_
  have:=hx i h1
  rwa [AF h1,AF h2]at this
 ·rintro rfl _ _;rfl
section
variable {A B:Nat->Nat} {m j:Nat}
end
section
variable {n k m:Nat} {r:C8} {rels:List C8}
end
end T
open Go Go.Va
namespace T
def Ho (t:List Int) (s:Int):Option (Int×Bool):=Cu t s
theorem F4 (rec): ∀f x,Aq rec f x=hM f x
 |0,_=>rfl
 |f+1,(a,b,c,d,e,g,x,y,z,u,v)=>by simp only[Aq,hM,F4 rec f]
theorem FZ (rec): ∀f x,Aj rec f x=hL rec f x
 |0,_=>rfl
 |f+1,(a,b,c,d,e,g,x)=>by simp only[Aj,hL,FZ rec f,F4]
theorem Hu: ∀d x,Au d x=hF Ho d x
 |0,_=>rfl
 |d+1,(a,t,s,ps,g,u)=>by
  have e:Au d=hF Ho d:=funext λx=>Hu d x
  simp only[Au,hF,EL,Bg,FZ,e]
  split
  ·unfold Ho;cases Cu t s<;>rfl
  ·congr 1;funext z;cases z<;>rfl
theorem E3 {cb:List Int->Int->Option (Int×Bool)} (hc: ∀t s,cb t s=some (w64 (s+1),true)): ∀(l:List (List Int)) (s:Int),0<=s->s+l.length<=4611686018427387904->Bq cb l s=some (s+l.length,true)
 | [],s,_,_=>by simp[Bq]
 |t::l,s,h0,hl=>by
  simp only[Bq,hc]
  have hl':s+((l.length:Int)+1)<=4611686018427387904:=by simpa using hl
  have ew:w64 (s+1)=s+1:=by rw[EU];omega
  rw[ew,E3 hc l (s+1) (by omega) (by omega)]
  simp only[List.length_cons]
  congr 2;push_cast;omega
section
variable {V n k:Nat} {cs:List Con} {rels:List C8}
theorem Dk {given:List Int} {t:List Int} (h:t∈AB V n cs given):t.length=V:=by
 have:=(FM (n:=n) (given:=given) (ok:=okN cs) V [] t h).1
 simpa using this
theorem FD (h:SrchOk V n cs):Ey ((V:Int),((n:Int),cs)):=by
 have hc:=h.hc
 refine⟨by show cs.length<=1048576;omega,λc hcm=>?_⟩
 have h1:=h.con c hcm
 have h2:=h1.ar
 have h3:=h1.sl
 have h4:=h1.many
 exact⟨by omega,by omega,λr hr=>by have:=h1.tl r hr;omega⟩
theorem Df (h:SrchOk V n cs):B2 ((V:Int),((n:Int),cs))=true:=by
 have hv:=h.hv
 have hn:=h.hn
 have hc:=h.hc
 unfold B2
 simp only[Bool.and_eq_true,decide_eq_true_eq,List.all_eq_true]
 refine⟨⟨⟨by omega,by omega⟩,hc⟩,λc hcm=>?_⟩
 have h1:=h.con c hcm
 have h3:=h1.sl
 unfold DM Fm Bf
 simp only[Bool.and_eq_true,decide_eq_true_eq,List.all_eq_true]
 refine⟨⟨⟨⟨h1.ar,λt ht=>⟨by have:=h1.tl t ht;omega,λx hx=>?_⟩⟩,h1.inc⟩,h3⟩,λx hx=>?_⟩
 ·obtain⟨j,hj,rfl⟩:=List.mem_iff_getElem.1 hx
  exact h1.tv t ht j hj
 ·obtain⟨j,hj,rfl⟩:=List.mem_iff_getElem.1 hx
  exact h1.sv j hj
theorem FT (h:SrchOk V n cs) (hz:(AB V n cs (List.replicate V (-1))).length<=4611686018427387904):BD ((V:Int),((n:Int),cs))=some (((AB V n cs (List.replicate V (-1))).length:Int),true):=by
 have hV:=h.hv
 have e0:=Bs (FD h)
 rw[Df h]at e0
 have e1:=DL h
 have hfold:=E3 (cb:=Ho) (λt s=>rfl) (AB V n cs (List.replicate V (-1))) 0 (by omega) (by omega)
 rw[Int.zero_add]at hfold
 obtain⟨tab',_,_,_,h4⟩:=Gb h (given:=List.replicate V (-1)) (by simp) Ho V Ad 0 (List.replicate V 0) 0 (by omega) (by unfold Ad;omega) (by simp) (λx hx=>by rw[List.eq_of_mem_replicate hx];omega) _ _ (by simpa[AB]using hfold)
 have h4:Au Ad (0,List.replicate V 0,0,D4 V n cs,List.replicate V (-1),())=_:=(Hu Ad _).trans h4
 unfold BD BK BB
 have hr:List.replicate (Int.toNat ((List.replicate V (-1:Int)).length:Int)) (0:Int)=List.replicate V 0:=by simp
 simp only[e0,e1,Et (show V<=1000 by omega),Option.bind_some,Bool.not_true,Bool.false_eq_true,if_false,hr,h4]
 rw[if_pos (by simp;unfold lim;omega)];rfl
end
end T
open Go Go.Va
namespace T
def Gv (t:List Int) (s:List (List Int)):Option (List (List Int)×Bool):=Cd t s
theorem FY (rec): ∀f x,As rec f x=hM f x
 |0,_=>rfl
 |f+1,(a,b,c,d,e,g,x,y,z,u,v)=>by simp only[As,hM,FY rec f]
theorem FX (rec): ∀f x,An rec f x=hL rec f x
 |0,_=>rfl
 |f+1,(a,b,c,d,e,g,x)=>by simp only[An,hL,FX rec f,FY]
theorem Ht: ∀d x,Ay d x=hF Gv d x
 |0,_=>rfl
 |d+1,(a,t,s,ps,g,u)=>by
  have e:Ay d=hF Gv d:=funext λx=>Ht d x
  simp only[Ay,hF,EL,Bn,FX,e]
  split
  ·unfold Gv;cases Cd t s<;>rfl
  ·congr 1;funext z;cases z<;>rfl
theorem Hy: ∀(l f:List (List Int)),(∀t∈l,t.length<=1000)->f.length<=300-> ∃s b,Bq Gv l f=some (s,b)/\(f.length+l.length<=300->s=f++l)/\(300<f.length+l.length->300<s.length)
 | [],f,_,hf=>⟨f,true,rfl,λ_=>by simp,λh=>by simp at h;omega⟩
 |t::l,f,ht,hf=>by
  have hcl:C4 t=some t:=Hq (by have:=ht t (by simp);omega)
  have hcb:Gv t f=some (f++ [t],decide (((f++ [t]).length:Int)<=300)):=by
   unfold Gv Cd
   simp only[hcl,Option.bind_some]
   rw[if_pos (by rw[List.length_singleton];unfold lim;omega)]
  simp only[Bq,hcb]
  by_cases hc:f.length+1<=300
  ·rw[decide_eq_true (by simp;omega)]
   obtain⟨s,b,h1,h2,h3⟩:=Hy l (f++ [t]) (λt ht'=>ht t (List.mem_cons_of_mem _ ht')) (by simp;omega)
   refine⟨s,b,h1,λh=>?_,λh=>h3 (by simp at h⊢;omega)⟩
   rw[h2 (by simp at h⊢;omega)];simp
  ·rw[decide_eq_false (by simp;omega)]
   refine⟨_,_,rfl,λh=>?_,λh=>?_⟩
   ·simp at h;omega
   ·show 300<(f++ [t]).length
    simp;omega
section
variable {V n k:Nat} {cs:List Con} {rels:List C8}
def FV (l:List (List Int)):List (List Int)×Bool:=if l.length<=300 then(l,true)else([],false)
theorem G0 (h:SrchOk V n cs):BR ((V:Int),((n:Int),cs))=some (FV (AB V n cs (List.replicate V (-1)))):=by
 have hV:=h.hv
 have e0:=Bs (FD h)
 rw[Df h]at e0
 have e1:=DL h
 obtain⟨s,b,hfold,h2,h3⟩:=Hy (AB V n cs (List.replicate V (-1))) [] (λt ht=>by rw[Dk ht];omega) (by simp)
 obtain⟨tab',_,_,_,h4⟩:=Gb h (given:=List.replicate V (-1)) (by simp) Gv V Ad 0 (List.replicate V 0) [] (by omega) (by unfold Ad;omega) (by simp) (λx hx=>by rw[List.eq_of_mem_replicate hx];omega) _ _ (by simpa[AB]using hfold)
 have h4:Ay Ad (0,List.replicate V 0,[],D4 V n cs,List.replicate V (-1),())=_:=(Ht Ad _).trans h4
 unfold BR BP BL
 have hr:List.replicate (Int.toNat ((List.replicate V (-1:Int)).length:Int)) (0:Int)=List.replicate V 0:=by simp
 have hlim:0<=((List.replicate V (-1:Int)).length:Int)/\((List.replicate V (-1:Int)).length:Int)<=((List.replicate V (-1:Int)).length:Int)/\((List.replicate V (-1:Int)).length:Int)<=lim:=by rw[List.length_replicate];unfold lim;omega
 simp only[e0,e1,Et (show V<=1000 by omega),Option.bind_some,Bool.not_true,Bool.false_eq_true,if_false,hr,h4]
 rw[if_pos hlim]
 simp only[Option.bind_some]
 unfold FV
 by_cases hc:(AB V n cs (List.replicate V (-1))).length<=300
 ·have:=h2 (by simpa using hc)
  rw[this,if_pos hc,if_neg (by simp;omega)];simp
 ·have:=h3 (by simp;omega)
  rw[if_pos (by simp;omega),if_neg hc]
theorem Fa {a b:List Int} (h:a.length<=1048576):CM a b=some (decide (a=b)):=by
 unfold CM
 by_cases h2:a.length=b.length
 ·rw[if_neg (by simp[h2])]
  have:=H4 a.length (λn (_:Unit) i=>CG n (a,b,i)) (λ_=>()) (λk=>decide (a.getD k 0=b.getD k 0)) (r:=some (.inr false)) (e:=some (.inl ())) (λf k hk=>?_) (λf=>?_) (n:=Ad) (by unfold Ad;omega)
  ·rw[GN 0 h2]at this
   have this:CG Ad (a,b,0)=_:=this
   rw[this]
   by_cases e:a=b
   ·subst e;simp
   ·simp[e]
  ·simp only[CG,AA,hk,AC hk,h2▸hk,AC (h2▸hk),if_true,AF hk,AF (h2▸hk:k<b.length),Aw (show k<4611686018427387904 by omega)]
   rw[if_pos (by simp;omega)]
   by_cases e:a[k]=b[k]<;>simp[e]
  ·simp only[CG]
   rw[if_neg (by simp)]
 ·rw[if_pos (by simpa using λh=>h2 (by omega))]
  rw[decide_eq_false λh=>h2 (by rw[h])]
theorem FF {a b:List (List Int)} (h:a.length<=1048576) (ht: ∀t∈a,t.length<=1048576):AP a b=some (decide (a=b)):=by
 unfold AP
 by_cases h2:a.length=b.length
 ·rw[if_neg (by simp[h2])]
  have:=H4 a.length (λn (_:Unit) i=>Cr n (a,b,i)) (λ_=>()) (λk=>decide (a.getD k []=b.getD k [])) (r:=some (.inr false)) (e:=some (.inl ())) (λf k hk=>?_) (λf=>?_) (n:=Ad) (by unfold Ad;omega)
  ·rw[GN [] h2]at this
   have this:Cr Ad (a,b,0)=_:=this
   rw[this]
   by_cases e:a=b
   ·subst e;simp
   ·simp[e]
  ·have e:=Fa (a:=a[k]) (b:=b[k]) (ht _ (List.getElem_mem hk))
   simp only[Cr,AA,hk,AC hk,h2▸hk,AC (h2▸hk),e,Option.bind_some,if_true,AF hk,AF (h2▸hk:k<b.length),Aw (show k<4611686018427387904 by omega)]
   rw[if_pos (by simp;omega)]
   by_cases e:a[k]=b[k]<;>simp[e]
  ·simp only[Cr]
   rw[if_neg (by simp)]
 ·rw[if_pos (by simpa using λh=>h2 (by omega))]
  rw[decide_eq_false λh=>h2 (by rw[h])]
end
end T
open Go Go.Va
namespace T
section
variable {n k m:Nat} {r:C8} {rels:List C8} {given t:List Int}
theorem DA {ok:List Int->Bool}: ∀(m:Nat) (pre t:List Int),t∈CB n given ok m pre↔t.length=pre.length+m/\t.take pre.length=pre/\
  ∀q,pre.length<=q->q<t.length->(0<=t.getD q 0/\t.getD q 0<(n:Int))/\Dp given q (t.getD q 0).toNat=true/\ok (t.take (q+1))=true
 |0,pre,t=>by
  simp only[CB,List.mem_singleton,Nat.add_zero]
  constructor
  ·rintro rfl
   exact⟨rfl,by simp,λq h1 h2=>by omega⟩
  ·rintro ⟨h1,h2,_⟩
   rw[←h2,List.take_of_length_le (by omega)]
 |m+1,pre,t=>by
  simp only[CB,List.mem_flatMap,List.mem_range]
  constructor
  ·rintro ⟨x,hx,h⟩
   by_cases hc:(Dp given pre.length x&&ok (pre++ [(x:Int)]))=true
   ·rw[if_pos hc]at h
    obtain⟨h1,h2,h3⟩:=(DA m (pre++ [(x:Int)]) t).1 h
    rw[Bool.and_eq_true]at hc
    rw[List.length_append,List.length_singleton]at h1 h2 h3
    have hv:t.getD pre.length 0=(x:Int):=by
     have hl:pre.length<t.length:=by omega
     have e:(t.take (pre.length+1)).getD pre.length 0=t.getD pre.length 0:=by simp[List.getD_eq_getElem?_getD,List.getElem?_take]
     rw[←e,h2];simp[List.getD_eq_getElem?_getD]
    refine⟨by omega,?_,λq h4 h5=>?_⟩
    ·have:(t.take (pre.length+1)).take pre.length=pre:=by rw[h2];simp
     rw[List.take_take]at this
     rwa [Nat.min_eq_left (by omega)]at this
    ·by_cases e:q=pre.length
     ·subst e
      rw[hv,h2]
      exact⟨by omega,by rw[Int.toNat_natCast];exact hc.1,hc.2⟩
     ·exact h3 q (by omega) h5
   ·rw[if_neg hc]at h;simp at h
  ·rintro ⟨h1,h2,h3⟩
   have hl:pre.length<t.length:=by omega
   obtain⟨a1,a2,a3⟩:=h3 pre.length (Nat.le_refl _) hl
   have hx:(((t.getD pre.length 0).toNat:Nat):Int)=t.getD pre.length 0:=Int.toNat_of_nonneg a1.1
   have ht:t.take (pre.length+1)=pre++ [(((t.getD pre.length 0).toNat:Nat):Int)]:=by
    rw[hx,List.take_succ_eq_append_getElem hl,h2,AF hl]
   refine⟨(t.getD pre.length 0).toNat,by omega,?_⟩
   rw[if_pos (by rw[Bool.and_eq_true];exact⟨a2,by rw[←ht];exact a3⟩)]
   refine(DA m _ t).2 ⟨by simp;omega,by rw[List.length_append,List.length_singleton];exact ht,λq h4 h5=>h3 q (by rw[List.length_append,List.length_singleton]at h4;omega) h5⟩
theorem E7 {N q x:Nat} (hq:q<N):Dp (List.replicate N (-1)) q x=true:=by
 unfold Dp
 rw[AF (by simpa using hq)];simp
theorem HW {b:Nat}: ∀(k:Nat) (ys:List Nat),ys.length=k->(∀y∈ys,y<b)-> ∃i,i<b^k/\dg b k i=ys:=by
 intro k
 induction k with
 |zero=>intro ys hl _;exact⟨0,by simp,by rw[List.eq_nil_of_length_eq_zero hl];rfl⟩
 |succ k ih=>
  intro ys hl hy
  obtain⟨z,y,rfl⟩: ∃z y,ys=z++ [y]:=⟨ys.dropLast,ys.getLast (by intro e;rw[e]at hl;simp at hl),(List.dropLast_concat_getLast _).symm⟩
  have hyb:=hy y (by simp)
  obtain⟨i,h1,h2⟩:=ih z (by simpa using hl) λx hx=>hy x (by simp[hx])
  refine⟨i*b+y,?_,?_⟩
  ·rw[Nat.pow_succ]
   calc i*b+y<i*b+b:=by omega
    _=(i+1)*b:=by rw[Nat.succ_mul]
    _<=b^k*b:=Nat.mul_le_mul_right _ h1
  ·simp only[dg]
   have e1:(i*b+y)/b=i:=by rw[Nat.mul_comm,Nat.mul_add_div (by omega),Nat.div_eq_of_lt hyb];omega
   have e2:(i*b+y)%b=y:=by rw[Nat.mul_comm,Nat.mul_add_mod,Nat.mod_eq_of_lt hyb]
   rw[e1,e2,h2]
end
end T
open Go Go.Va
namespace T
section
variable {a:Net}
theorem Hc (hN:NetOk a):SrchOk a.1.toNat a.2.1.toNat a.2.2/\a=((a.1.toNat:Int),((a.2.1.toNat:Int),a.2.2)):=by
 have hv:=hN.hv
 have hn:=hN.hn
 refine⟨⟨by omega,by omega,hN.hc,λc hc=>?_⟩,?_⟩
 ·rw[Int.toNat_of_nonneg hv.1,Int.toNat_of_nonneg (by omega)];exact hN.con c hc
 ·rw[Int.toNat_of_nonneg hv.1,Int.toNat_of_nonneg (by omega)]
end
end T
set_option linter.unusedVariables false
open Go Go.Va
namespace T
def AG:Nat->((List Int)×(Int×Int×(List ((List Int)×Int×(List (List Int)))))×(Int×(List (List Int)))×(Int×(List (List Int)))×Int×(List Int)×(List Int)×Bool×Int)->Option ((List Int)×(Int×Int×(List ((List Int)×Int×(List (List Int)))))×(Int×(List (List Int)))×(Int×(List (List Int)))×Int×(List Int)×(List Int)×Bool)
 |0,_=>none
 |n+1,(t1,t2,t4,t6,t7,t8,t9,t10,t11)=>
 if decide (t11<(t1.length:Int))then
 if t10 then
 if inb t11 t1 then
 if inb (gd t1 t11 0) t9 then
 if decide ((gd t9 (gd t1 t11 0) 0)<0)then
 if inb t11 t1 then
 if inb t11 t8 then
 if inb (gd t1 t11 0) t9 then
 AG n (t1,(t2.1,(t2.2.1,t2.2.2)),(t4.1,t4.2),(t6.1,t6.2),t7,t8,stt t9 (gd t1 t11 0) (gd t8 t11 0),true,w64 (t11+1))
 else none
 else none
 else none
 else
 if inb t11 t1 then
 if inb (gd t1 t11 0) t9 then
 if inb t11 t8 then
 if inb t11 t1 then
 if inb t11 t8 then
 if inb (gd t1 t11 0) t9 then
 AG n (t1,(t2.1,(t2.2.1,t2.2.2)),(t4.1,t4.2),(t6.1,t6.2),t7,t8,stt t9 (gd t1 t11 0) (gd t8 t11 0),(gd t9 (gd t1 t11 0) 0)==(gd t8 t11 0),w64 (t11+1))
 else none
 else none
 else none
 else none
 else none
 else none
 else none
 else none
 else
 if inb t11 t1 then
 if inb t11 t8 then
 if inb (gd t1 t11 0) t9 then
 AG n (t1,(t2.1,(t2.2.1,t2.2.2)),(t4.1,t4.2),(t6.1,t6.2),t7,t8,stt t9 (gd t1 t11 0) (gd t8 t11 0),false,w64 (t11+1))
 else none
 else none
 else none
 else
 some (t1,(t2.1,(t2.2.1,t2.2.2)),(t4.1,t4.2),(t6.1,t6.2),t7,t8,t9,t10)
def AL:Nat->((List Int)×(Int×Int×(List ((List Int)×Int×(List (List Int)))))×(Int×(List (List Int)))×(Int×(List (List Int)))×Int)->Option ((Int×(List (List Int)))×(Int×(List (List Int))))
 |0,_=>none
 |n+1,(t1,t2,t4,t6,t7)=>
 (CP t2.2.1 (t1.length:Int)).bind λr4=>
 if decide (t7<r4)then
 (Dm t2.2.1 (t1.length:Int) t7).bind λr5=>
 (CX t2.1).bind λr6=>
 (AG Ad (t1,(t2.1,(t2.2.1,t2.2.2)),(t4.1,t4.2),(t6.1,t6.2),t7,r5,r6,true,0)).bind λs7=>
 if s7.2.2.2.2.2.2.2 then
 (BY (s7.2.1.1,(s7.2.1.2.1,s7.2.1.2.2)) s7.2.1.2.2 s7.2.2.2.2.2.2.1 1 true).bind λr8=>
 if decide (r8.2.1>0)then
 if s7.2.2.2.1.2.length+ [s7.2.2.2.2.2.1].length<=lim then
 AL n (s7.1,(s7.2.1.1,(s7.2.1.2.1,s7.2.1.2.2)),(s7.2.2.1.1,s7.2.2.1.2),(s7.2.2.2.1.1,s7.2.2.2.1.2++ [s7.2.2.2.2.2.1]),w64 (s7.2.2.2.2.1+1))
 else none
 else
 AL n (s7.1,(s7.2.1.1,(s7.2.1.2.1,s7.2.1.2.2)),(s7.2.2.1.1,s7.2.2.1.2),(s7.2.2.2.1.1,s7.2.2.2.1.2),w64 (s7.2.2.2.2.1+1))
 else
 AL n (s7.1,(s7.2.1.1,(s7.2.1.2.1,s7.2.1.2.2)),(s7.2.2.1.1,s7.2.2.1.2),(s7.2.2.2.1.1,s7.2.2.2.1.2),w64 (s7.2.2.2.2.1+1))
 else
 some ((t4.1,t4.2),(t6.1,t6.2))
def Am (t0:Int×Int×(List ((List Int)×Int×(List (List Int))))) (t1:List Int):Option ((Int×(List (List Int)))×Bool):=
 (BZ (t0.1,(t0.2.1,t0.2.2))).bind λr1=>
 if !r1 then
 some ((0,[]),false)
 else
 (CH (t1.length:Int) 1 3).bind λr2=>
 if !r2 then
 some ((0,[]),false)
 else
 (Cc t0.1 t1).bind λr3=>
 if !r3 then
 some ((0,[]),false)
 else
 (AL Ad (t1,(t0.1,(t0.2.1,t0.2.2)),(0,[]),((t1.length:Int),[]),0)).bind λs4=>
 some ((s4.2.1,s4.2.2),true)
def BO (values:List Int) (t1:List Int) (t2:List ByteArray) (t3:List (List Int)):Option ((List ByteArray)×(List (List Int))×Bool):=
 (Bi t1 values).bind λr1=>
 (BX r1).bind λr2=>
 if !(Xs t2 r2)then
 if t3.length+ [r1].length<=lim then
 some (YhI t2 r2,t3++ [r1],true)
 else none
 else
 some (t2,t3,true)
def Ao (rec:(Int×(List Int)×((List Int)×((List ByteArray)×(List (List Int))))×(Bool×Int×(List (List (List Int)))×(List (List (List ByteArray))))×(List Int)×Unit)->Option ((List Int)×(Unit×((List ByteArray)×(List (List Int))))×(Bool×Int×(List (List (List Int)))×(List (List (List ByteArray))))×(List Int)×Bool)):Nat->(Int×(List Int)×((List Int)×((List ByteArray)×(List (List Int))))×(Bool×Int×(List (List (List Int)))×(List (List (List ByteArray))))×(List Int)×Unit×Int×Bool×(List (List Int))×Int×Int)->Option (Int×(List Int)×((List Int)×((List ByteArray)×(List (List Int))))×(Bool×Int×(List (List (List Int)))×(List (List (List ByteArray))))×(List Int)×Unit×Int×Bool)
 |0,_=>none
 |n+1,(t0,t1,t2,t3,t4,t5,t8,t9,t50,t51,t52)=>
 if decide (t52<t51)then
 if inb t52 t50 then
 if t9 then
 if t3.1=true then
 if inb t0 t3.2.2.2 then
 if inb t52 (gd t3.2.2.2 t0 [])then
 (Bi (gd t50 t52 []) t1).bind λr2=>
 (BX r2).bind λr3=>
 Ao rec n (t0,t1,(t2.1,(t2.2.1,t2.2.2)),t3,t4,(),t8,Xs (gd (gd t3.2.2.2 t0 []) t52 []) r3,t50,t51,w64 (t52+1))
 else none
 else none
 else none
 else
 Ao rec n (t0,t1,(t2.1,(t2.2.1,t2.2.2)),t3,t4,(),t8,false,t50,t51,w64 (t52+1))
 else none
 else
 some (t0,t1,(t2.1,(t2.2.1,t2.2.2)),t3,t4,(),t8,t9)
def Af (rec:(Int×(List Int)×((List Int)×((List ByteArray)×(List (List Int))))×(Bool×Int×(List (List (List Int)))×(List (List (List ByteArray))))×(List Int)×Unit)->Option ((List Int)×(Unit×((List ByteArray)×(List (List Int))))×(Bool×Int×(List (List (List Int)))×(List (List (List ByteArray))))×(List Int)×Bool)):Nat->(Int×(List Int)×((List Int)×((List ByteArray)×(List (List Int))))×(Bool×Int×(List (List (List Int)))×(List (List (List ByteArray))))×(List Int)×Unit×Int)->Option (((List Int)×((List Int)×((List ByteArray)×(List (List Int))))×(Bool×Int×(List (List (List Int)))×(List (List (List ByteArray))))×(List Int)×Unit)⊕((List Int)×((List Int)×((List ByteArray)×(List (List Int))))×(Bool×Int×(List (List (List Int)))×(List (List (List ByteArray))))×(List Int)×Unit×Bool))
 |0,_=>none
 |n+1,(t0,t1,t2,t3,t4,t5,t8)=>
 if t3.1=true then
 if decide (t8<t3.2.1)then
 if inb t0 t4 then
 if decide ((gd t4 t0 0)≥0)then
 if inb t0 t4 then
 if(gd t4 t0 0) !=t8 then
 Af rec n (t0,t1,(t2.1,(t2.2.1,t2.2.2)),t3,t4,(),w64 (t8+1))
 else
 if inb t0 t1 then
 if t3.1=true then
 if inb t0 t3.2.2.1 then
 (Ao rec Ad (t0,stt t1 t0 t8,(t2.1,(t2.2.1,t2.2.2)),t3,t4,(),t8,true,gd t3.2.2.1 t0 [],((gd t3.2.2.1 t0 []).length:Int),0)).bind λs2=>
 if s2.2.2.2.2.2.2.2 then
 (rec (w64 (s2.1+1),s2.2.1,(s2.2.2.1.1,(s2.2.2.1.2.1,s2.2.2.1.2.2)),s2.2.2.2.1,s2.2.2.2.2.1,())).bind λr3=>
 if !r3.2.2.2.2 then
 some (.inr (r3.1,(s2.2.2.1.1,(r3.2.1.2.1,r3.2.1.2.2)),r3.2.2.1,r3.2.2.2.1,(),false))
 else
 Af rec n (s2.1,r3.1,(s2.2.2.1.1,(r3.2.1.2.1,r3.2.1.2.2)),r3.2.2.1,r3.2.2.2.1,(),w64 (s2.2.2.2.2.2.2.1+1))
 else
 Af rec n (s2.1,s2.2.1,(s2.2.2.1.1,(s2.2.2.1.2.1,s2.2.2.1.2.2)),s2.2.2.2.1,s2.2.2.2.2.1,(),w64 (s2.2.2.2.2.2.2.1+1))
 else none
 else none
 else none
 else none
 else
 if inb t0 t1 then
 if t3.1=true then
 if inb t0 t3.2.2.1 then
 (Ao rec Ad (t0,stt t1 t0 t8,(t2.1,(t2.2.1,t2.2.2)),t3,t4,(),t8,true,gd t3.2.2.1 t0 [],((gd t3.2.2.1 t0 []).length:Int),0)).bind λs4=>
 if s4.2.2.2.2.2.2.2 then
 (rec (w64 (s4.1+1),s4.2.1,(s4.2.2.1.1,(s4.2.2.1.2.1,s4.2.2.1.2.2)),s4.2.2.2.1,s4.2.2.2.2.1,())).bind λr5=>
 if !r5.2.2.2.2 then
 some (.inr (r5.1,(s4.2.2.1.1,(r5.2.1.2.1,r5.2.1.2.2)),r5.2.2.1,r5.2.2.2.1,(),false))
 else
 Af rec n (s4.1,r5.1,(s4.2.2.1.1,(r5.2.1.2.1,r5.2.1.2.2)),r5.2.2.1,r5.2.2.2.1,(),w64 (s4.2.2.2.2.2.2.1+1))
 else
 Af rec n (s4.1,s4.2.1,(s4.2.2.1.1,(s4.2.2.1.2.1,s4.2.2.1.2.2)),s4.2.2.2.1,s4.2.2.2.2.1,(),w64 (s4.2.2.2.2.2.2.1+1))
 else none
 else none
 else none
 else none
 else
 some (.inl (t1,(t2.1,(t2.2.1,t2.2.2)),t3,t4,()))
 else none
def Ba (rec:(Int×(List Int)×((List Int)×((List ByteArray)×(List (List Int))))×(Bool×Int×(List (List (List Int)))×(List (List (List ByteArray))))×(List Int)×Unit)->Option ((List Int)×(Unit×((List ByteArray)×(List (List Int))))×(Bool×Int×(List (List (List Int)))×(List (List (List ByteArray))))×(List Int)×Bool)) (t0:Int) (t1:List Int) (t2:(List Int)×((List ByteArray)×(List (List Int)))) (t3:Bool×Int×(List (List (List Int)))×(List (List (List ByteArray)))) (t4:List Int) (t5:Unit):Option ((List Int)×(Unit×((List ByteArray)×(List (List Int))))×(Bool×Int×(List (List (List Int)))×(List (List (List ByteArray))))×(List Int)×Bool):=
 if t0==(t1.length:Int)then
  (BO t1 t2.1 t2.2.1 t2.2.2).bind λr1=>
   some (t1,((),(r1.1,r1.2.1)),t3,t4,r1.2.2)
 else
  (Af rec Ad (t0,t1,(t2.1,(t2.2.1,t2.2.2)),t3,t4,(),0)).bind λs2=>
   match s2 with
   | .inl s3=>
    some (s3.1,((),(s3.2.1.2.1,s3.2.1.2.2)),s3.2.2.1,s3.2.2.2.1,true)
   | .inr s4=>
    some (s4.1,((),(s4.2.1.2.1,s4.2.1.2.2)),s4.2.2.1,s4.2.2.2.1,s4.2.2.2.2.2)
def AE:Nat->(Int×(List Int)×((List Int)×((List ByteArray)×(List (List Int))))×(Bool×Int×(List (List (List Int)))×(List (List (List ByteArray))))×(List Int)×Unit)->Option ((List Int)×(Unit×((List ByteArray)×(List (List Int))))×(Bool×Int×(List (List (List Int)))×(List (List (List ByteArray))))×(List Int)×Bool)
 |0,_=>none
 |d+1,x=>Ba (AE d) x.1 x.2.1 x.2.2.1 x.2.2.2.1 x.2.2.2.2.1 x.2.2.2.2.2
def Bw (s:Bool×Int×(List (List (List Int)))×(List (List (List ByteArray)))) (partial_:List Int) (found:(List Int)×((List ByteArray)×(List (List Int)))):Option ((Unit×((List ByteArray)×(List (List Int))))):=
 if 0<=(partial_.length:Int)/\(partial_.length:Int)<=(partial_.length:Int)/\(partial_.length:Int)<=lim then
 (AE Ad (0,List.replicate (Int.toNat (partial_.length:Int)) (0:Int),(found.1,(found.2.1,found.2.2)),s,partial_,())).bind λr1=>
 some ((),(r1.2.1.2.1,r1.2.1.2.2))
 else none
def AW (net:Int×Int×(List ((List Int)×Int×(List (List Int))))) (found:(List Int)×((List ByteArray)×(List (List Int)))):Option ((Unit×((List ByteArray)×(List (List Int))))):=
 (BC (net.1,(net.2.1,net.2.2))).bind λr1=>
 (Co net.1).bind λr2=>
 (Bw r1 r2 (found.1,(found.2.1,found.2.2))).bind λr3=>
 some ((),(r3.2.1,r3.2.2))
def Al (net:Int×Int×(List ((List Int)×Int×(List (List Int))))) (vars:List Int):Option ((Int×(List (List Int)))×Bool):=
 (BA (net.1,(net.2.1,net.2.2))).bind λr1=>
 if !r1 then
 some ((0,[]),false)
 else
 if decide ((vars.length:Int)<1)then
 some ((0,[]),false)
 else
 if decide ((vars.length:Int)>3)then
 some ((0,[]),false)
 else
 (C6 vars net.1).bind λr2=>
 if !r2 then
 some ((0,[]),false)
 else
 (AW (net.1,(net.2.1,net.2.2)) (vars,([],[]))).bind λr3=>
 (Da (vars.length:Int) r3.2.2).bind λr4=>
 some ((r4.1,r4.2),true)
end T
open Go Go.Va
namespace T
abbrev SRs:=List ByteArray×List (List Int)
def Fs (vars:List Int) (t:List Int) (s:SRs):Option (SRs×Bool):=(BO t vars s.1 s.2).bind λr=>some ((r.1,r.2.1),r.2.2)
theorem Bz {c:Prop} [Decidable c] {α β:Type} {g:α->β} {a b:Option β} {a' b':Option α} (h1:a=a'.map g) (h2:b=b'.map g):(if c then a else b)=(if c then a' else b').map g:=by
 by_cases h:c
 ·rw[if_pos h,if_pos h,h1]
 ·rw[if_neg h,if_neg h,h2]
section
variable {vars:List Int}
theorem E1 (rec): ∀f t0 t1 (s:SRs) t3 t4 t5 t8 t9 t50 t51 t52,Ao rec f (t0,t1,(vars,s),t3,t4,t5,t8,t9,t50,t51,t52)=(hM f (t0,t1,s,t3,t4,t5,t8,t9,t50,t51,t52)).map λy=>(y.1,y.2.1,(vars,y.2.2.1),y.2.2.2)
 |0,_,_,_,_,_,_,_,_,_,_,_=>rfl
 |f+1,t0,t1,s,t3,t4,t5,t8,t9,t50,t51,t52=>by
  simp only[Ao,hM]
  split
  ·split
   ·split
    ·split
     ·split
      ·split
       ·cases Bi (gd t50 t52 []) t1 with
        |none=>rfl
        |some r2=>
         simp only[Option.bind_some]
         cases BX r2 with
         |none=>rfl
         |some r3=>simp only[Option.bind_some];exact E1 rec f ..
       ·rfl
      ·rfl
     ·rfl
    ·exact E1 rec f ..
   ·rfl
  ·rfl
abbrev Jf:=Int×List Int×(List Int×SRs)×NS×List Int×Unit
abbrev IV:=List Int×(Unit×SRs)×NS×List Int×Bool
theorem F8 (rec:Jf->Option IV) (rec0:NIn SRs->Option (G2 SRs)) (hrec: ∀a t (s:SRs) n g u,rec (a,t,(vars,s),n,g,u)=(rec0 (a,t,s,n,g,u)).map λy=>(y.1,((),y.2.1),y.2.2)):
    ∀f t0 t1 (s:SRs) t3 t4 t5 t8,Af rec f (t0,t1,(vars,s),t3,t4,t5,t8)=(hL rec0 f (t0,t1,s,t3,t4,t5,t8)).map λy=>match y with
      | .inl y=> .inl (y.1,(vars,y.2.1),y.2.2)
      | .inr y=> .inr (y.1,(vars,y.2.1),y.2.2)
  |0,_,_,_,_,_,_,_=>rfl
  |f+1,t0,t1,(p,q),t3,t4,t5,t8=>by
    have ih:=F8 rec rec0 hrec f
    have key : (Ao rec Ad (t0, stt t1 t0 t8, (vars, (p, q)), t3, t4, (), t8, true, gd t3.2.2.1 t0 [], ((gd t3.2.2.1 t0 []).length : Int), 0)).bind (fun s2 =>
                        if s2.2.2.2.2.2.2.2 then
                          (rec (w64 (s2.1+1),s2.2.1,(s2.2.2.1.1,(s2.2.2.1.2.1,s2.2.2.1.2.2)),s2.2.2.2.1,s2.2.2.2.2.1,())).bind λr3=>
                            if !r3.2.2.2.2 then
                              some (.inr (r3.1,(s2.2.2.1.1,(r3.2.1.2.1,r3.2.1.2.2)),r3.2.2.1,r3.2.2.2.1,(),false))
                            else
                              Af rec f (s2.1,r3.1,(s2.2.2.1.1,(r3.2.1.2.1,r3.2.1.2.2)),r3.2.2.1,r3.2.2.2.1,(),w64 (s2.2.2.2.2.2.2.1+1))
                        else
                          Af rec f (s2.1,s2.2.1,(s2.2.2.1.1,(s2.2.2.1.2.1,s2.2.2.1.2.2)),s2.2.2.2.1,s2.2.2.2.2.1,(),w64 (s2.2.2.2.2.2.2.1+1)))
        = ((hM Ad (t0, stt t1 t0 t8, (p, q), t3, t4, (), t8, true, gd t3.2.2.1 t0 [], ((gd t3.2.2.1 t0 []).length : Int), 0)).bind fun s2 =>
                        if s2.2.2.2.2.2.2.2 then
                          (rec0 (w64 (s2.1+1),s2.2.1,s2.2.2.1,s2.2.2.2.1,s2.2.2.2.2.1,())).bind λr3=>
                            if !r3.2.2.2.2 then
                              some (.inr (r3.1,r3.2.1,r3.2.2.1,r3.2.2.2.1,(),false))
                            else
                              hL rec0 f (s2.1,r3.1,r3.2.1,r3.2.2.1,r3.2.2.2.1,(),w64 (s2.2.2.2.2.2.2.1+1))
                        else
                          hL rec0 f (s2.1,s2.2.1,s2.2.2.1,s2.2.2.2.1,s2.2.2.2.2.1,(),w64 (s2.2.2.2.2.2.2.1+1))).map λy=>match y with
      | .inl y=> .inl (y.1,(vars,y.2.1),y.2.2)
      | .inr y=> .inr (y.1,(vars,y.2.1),y.2.2):=by
      rw[E1]
      generalize hM Ad (t0,stt t1 t0 t8,(p,q),t3,t4,(),t8,true,gd t3.2.2.1 t0 [],((gd t3.2.2.1 t0 []).length:Int),0)=o
      cases o with
      |none=>rfl
      |some y=>
        obtain⟨y0,y1,⟨y2,y3⟩,y4,y5,y6,y7,y8⟩:=y
        rw[Option.map_some,Option.bind_some,Option.bind_some]
        dsimp only
        cases y8 with
        |false=>exact ih ..
        |true=>
          rw[if_pos rfl,if_pos rfl,hrec]
          generalize rec0 (w64 (y0+1),y1,(y2,y3),y4,y5,())=o
          cases o with
          |none=>rfl
          |some z=>
            obtain⟨z0,⟨z1,z2⟩,z3,z4,z5⟩:=z
            rw[Option.map_some,Option.bind_some,Option.bind_some]
            dsimp only
            cases z5 with
            |false=>rfl
            |true=>exact ih ..
    rw[Af,hL]
    dsimp only
    rw[key]
    exact Bz (Bz (Bz (Bz (Bz (Bz (ih ..) (Bz (Bz (Bz rfl rfl) rfl) rfl)) rfl) (Bz (Bz (Bz rfl rfl) rfl) rfl)) rfl) rfl) rfl
theorem Hx: ∀d a t (s:SRs) n g u,AE d (a,t,(vars,s),n,g,u)=(hF (Fs vars) d (a,t,s,n,g,u)).map λy=>(y.1,((),y.2.1),y.2.2)
 |0,_,_,_,_,_,_=>rfl
 |d+1,a,t,s,n,g,u=>by
  have ih:=Hx d
  rw[AE,hF]
  unfold EL Ba
  dsimp only
  split
  ·unfold Fs
   cases BO t vars s.1 s.2<;>rfl
  ·have:=F8 _ (hF (Fs vars) d) ih Ad a t s n g () 0
   rw[this]
   cases hL (hF (Fs vars) d) Ad (a,t,s,n,g,(),0)with
   |none=>rfl
   |some z=>cases z<;>rfl
def Er (vars:List Int) (acc:List (List Int)) (t:List Int):List (List Int):=if vars.map (CY t)∈acc then acc else acc++ [vars.map (CY t)]
theorem FU {u:List Int}: ∀(l acc:List (List Int)),u∈l.foldl (Er vars) acc↔u∈acc∨ ∃t∈l,u=vars.map (CY t)
 | [],acc=>by simp
 |t::l,acc=>by
  rw[List.foldl_cons,FU l]
  unfold Er
  split
  ·rename_i h
   constructor
   ·rintro (h1|⟨s,h1,h2⟩)
    ·exact .inl h1
    ·exact .inr ⟨s,List.mem_cons_of_mem _ h1,h2⟩
   ·rintro (h1|⟨s,h1,h2⟩)
    ·exact .inl h1
    ·rcases List.mem_cons.1 h1 with rfl|h1
     ·exact .inl (h2▸h)
     ·exact .inr ⟨s,h1,h2⟩
  ·constructor
   ·rintro (h1|⟨s,h1,h2⟩)
    ·rcases List.mem_append.1 h1 with h1|h1
     ·exact .inl h1
     ·rw[List.mem_singleton]at h1;exact .inr ⟨t,List.mem_cons_self ..,h1⟩
    ·exact .inr ⟨s,List.mem_cons_of_mem _ h1,h2⟩
   ·rintro (h1|⟨s,h1,h2⟩)
    ·exact .inl (List.mem_append_left _ h1)
    ·rcases List.mem_cons.1 h1 with rfl|h1
     ·exact .inl (List.mem_append_right _ (by simp[h2]))
     ·exact .inr ⟨s,h1,h2⟩
theorem G9 {l:List (List Int)} {t:List Int}:Dc (l++ [t])=YhI (Dc l) (E6 t):=by unfold Dc;rw[List.foldl_append];rfl
variable {V n:Nat}
theorem GT (hn:n<=4) (hvl:vars.length<=3) (hv: ∀v∈vars,0<=v/\v<(V:Int)): ∀(l acc:List (List Int)),(∀t∈l,t.length=V/\ ∀u,u<V->0<=t.getD u 0/\t.getD u 0<(n:Int))->(∀r∈acc,∀x∈r,0<=x/\x<256)->acc.length+l.length<=1000000->
  Bq (Fs vars) l (Dc acc,acc)=some ((Dc (l.foldl (Er vars) acc),l.foldl (Er vars) acc),true)
 | [],acc,_,_,_=>by simp[Bq]
 |t::l,acc,h,ha,hb=>by
  obtain⟨h1,h2⟩:=h t (List.mem_cons_self ..)
  simp only[List.length_cons]at hb
  have hx: ∀x∈vars.map (CY t),0<=x/\x<256:=λx hx=>by
   obtain⟨v,hv',rfl⟩:=List.mem_map.1 hx
   have hv':=hv v hv'
   have:=h2 v.toNat (by omega)
   unfold CY;omega
  have e1:=C2 (f:=vars) (g:=t) (by omega) (λv hv'=>by have:=hv v hv';omega)
  have e2:=DE (l:=vars.map (CY t)) (by simp;omega) hx
  have e3:=FB (l:=acc) (t:=vars.map (CY t)) ha hx
  have e:Fs vars t (Dc acc,acc)=some ((Dc (Er vars acc t),Er vars acc t),true):=by
   unfold Fs BO Er
   simp only[e1,e2,e3,Option.bind_some]
   by_cases hm:vars.map (CY t)∈acc
   ·rw[decide_eq_true hm,if_pos hm];rfl
   ·rw[decide_eq_false hm,if_neg hm,G9]
    rw[if_pos (show(!false)=true from rfl),if_pos (by unfold lim;simp only[List.length_singleton];omega)];rfl
  simp only[Bq,e,List.foldl_cons]
  refine GT hn hvl hv l _ (λt ht=>h t (List.mem_cons_of_mem _ ht)) (λr hr=>?_) ?_
  ·unfold Er at hr
   split at hr
   ·exact ha r hr
   ·rcases List.mem_append.1 hr with hr|hr
    ·exact ha r hr
    ·rw[List.mem_singleton]at hr;subst hr;exact hx
  ·have:(Er vars acc t).length<=acc.length+1:=by unfold Er;split<;>simp
   omega
end
end T
open Go Go.Va
namespace T
def Hl (n k:Nat):List (List Int):=(List.range (n^k)).map λi=>cI (dg n k i)
theorem FO {n:Nat}: ∀(k i:Nat),i<n^k->Ew (n:Int) 0 (cI (dg n k i))=(i:Int)
 |0,i,h=>by
  have:i=0:=by simpa using h
  subst this;rfl
 |k+1,i,h=>by
  have hn:0<n:=by
   rcases Nat.eq_zero_or_pos n with h0|h0
   ·subst h0;simp at h
   ·exact h0
  have hi:i/n<n^k:=by rw[Nat.div_lt_iff_lt_mul hn];rw[Nat.pow_succ]at h;exact h
  simp only[dg,G3]
  rw[show cI [i%n]= [((i%n:Nat):Int)] from rfl,Fy,FO k _ hi]
  have:=Nat.div_add_mod i n
  have e:((i/n:Nat):Int)*(n:Int)=((n*(i/n):Nat):Int):=by rw[Nat.mul_comm];simp
  rw[e];omega
theorem Ee {n k i:Nat}:(cI (dg n k i)).length=k:=by rw[Gw,GC]
theorem EY {n k i:Nat} (hn:0<n): ∀x∈cI (dg n k i),0<=x/\x<(n:Int):=λx hx=>by
 unfold cI at hx
 obtain⟨y,hy,rfl⟩:=List.mem_map.1 hx
 have:=It hn y hy
 omega
theorem FW {n k i:Nat} (hn:0<n):Bf (n:Int) (cI (dg n k i))=true:=by
 unfold Bf
 rw[List.all_eq_true]
 exact λx hx=>by simpa using EY hn x hx
theorem HR {n k:Nat} (hn:0<n):CT (Hl n k)=true:=by
 rw[CU]
 unfold Hl
 rw[List.pairwise_map]
 refine List.Pairwise.imp_of_mem ?_ (List.pairwise_lt_range (n:=n^k))
 intro i j hi hj hij
 have hi:=List.mem_range.1 hi
 have hj:=List.mem_range.1 hj
 refine(FQ (FW hn) (FW hn) (by rw[Ee,Ee])).1.2 ?_
 unfold idx
 rw[FO k i hi,FO k j hj];omega
theorem Gq {n k:Nat} {u:List Int} (hl:u.length=k) (hv: ∀x∈u,0<=x/\x<(n:Int)):u∈Hl n k:=by
 obtain⟨i,h1,h2⟩:=HW (b:=n) k (u.map Int.toNat) (by simpa using hl) (λy hy=>by
  obtain⟨x,hx,rfl⟩:=List.mem_map.1 hy
  have:=hv x hx;omega)
 refine List.mem_map.2 ⟨i,List.mem_range.2 h1,?_⟩
 rw[h2]
 unfold cI
 rw[List.map_map]
 have:u.map ((λx:Nat=>(x:Int)) ∘ Int.toNat)=u.map id:=List.map_congr_left λx hx=>by
  have:=hv x hx
  simp;omega
 rw[this,List.map_id]
section
variable {V n:Nat} {cs:List Con} {P s:List Int} {g:Bool}
def pgS (q:List Int×Bool) (z:Int×Int):List Int×Bool:=(q.1.set z.1.toNat z.2,q.2&&(decide (q.1.getD z.1.toNat 0<0)||q.1.getD z.1.toNat 0==z.2))
def agr (V:Nat) (P s:List Int):Prop:= ∀q,q<V->P.getD q 0<0∨s.getD q 0=P.getD q 0
theorem EJ: ∀(l:List (Int×Int)) (q:List Int×Bool),(l.foldl pgS q).1.length=q.1.length
 | [],_=>rfl
 |z::l,q=>by rw[List.foldl_cons,EJ l];simp[pgS]
theorem GK: ∀(l:List (Int×Int)) (P:List Int) (g:Bool),P.length=V->(∀z∈l,0<=z.1/\z.1<(V:Int)/\0<=z.2)->
  ((l.foldl pgS (P,g)).2=true/\agr V (l.foldl pgS (P,g)).1 s↔g=true/\agr V P s/\ ∀z∈l,s.getD z.1.toNat 0=z.2)
 | [],P,g,_,_=>by simp
 |z::l,P,g,hP,hz=>by
  obtain⟨z1,z2,z3⟩:=hz z (List.mem_cons_self ..)
  rw[List.foldl_cons]
  have:=GK l (pgS (P,g) z).1 (pgS (P,g) z).2 (by simp[pgS,hP]) λy hy=>hz y (List.mem_cons_of_mem _ hy)
  rw[this]
  have hset: ∀q,q<V->(P.set z.1.toNat z.2).getD q 0=if z.1.toNat=q then z.2 else P.getD q 0:=λq hq=>by
   rw[AF (by simpa[hP]using hq),List.getElem_set]
   split
   ·rfl
   ·rw[AF (by rw[hP];exact hq)]
  simp only[pgS,List.forall_mem_cons,Bool.and_eq_true,Bool.or_eq_true,decide_eq_true_eq,beq_iff_eq]
  constructor
  ·rintro ⟨⟨h1,h2⟩,h3,h4⟩
   have hs:s.getD z.1.toNat 0=z.2:=by
    rcases h3 z.1.toNat (by omega)with h|h
    ·rw[hset _ (by omega),if_pos rfl]at h;omega
    ·rw[hset _ (by omega),if_pos rfl]at h;exact h
   refine⟨h1,λq hq=>?_,hs,h4⟩
   by_cases e:z.1.toNat=q
   ·subst e
    rcases h2 with h2|h2
    ·exact .inl h2
    ·exact .inr (by rw[hs,h2])
   ·have:=h3 q hq
    rw[hset q hq,if_neg e]at this;exact this
  ·rintro ⟨h1,h2,h3,h4⟩
   refine⟨⟨h1,?_⟩,λq hq=>?_,h4⟩
   ·rcases h2 z.1.toNat (by omega)with h|h
    ·exact .inl h
    ·exact .inr (by rw[←h,h3])
   ·rw[hset q hq]
    by_cases e:z.1.toNat=q
    ·rw[if_pos e];subst e;exact .inr h3
    ·rw[if_neg e];exact h2 q hq
theorem Gm (hP:P.length=V) {t:List Int}:t∈AB V n cs P↔t∈AB V n cs (List.replicate V (-1))/\agr V P t:=by
 unfold AB
 rw[DA,DA]
 simp only[List.length_nil,Nat.zero_add,List.take_zero,true_and,Nat.zero_le,true_implies]
 have hm: ∀q,q<V->0<=t.getD q 0->(Dp P q (t.getD q 0).toNat=true↔(P.getD q 0<0∨t.getD q 0=P.getD q 0)):=λq hq h0=>by
  unfold Dp
  simp only[Bool.not_eq_true',Bool.and_eq_false_iff,decide_eq_false_iff_not,bne_eq_false_iff_eq]
  have e:(((t.getD q 0).toNat:Nat):Int)=t.getD q 0:=Int.toNat_of_nonneg h0
  rw[e]
  constructor
  ·rintro (h|h)
   ·exact .inl (by omega)
   ·exact .inr h.symm
  ·rintro (h|h)
   ·exact .inl (by omega)
   ·exact .inr h.symm
 constructor
 ·rintro ⟨h1,h2⟩
  exact⟨⟨h1,λq hq=>⟨(h2 q hq).1,E7 (by omega),(h2 q hq).2.2⟩⟩,λq hq=>(hm q hq (h2 q (by omega)).1.1).1 (h2 q (by omega)).2.1⟩
 ·rintro ⟨⟨h1,h2⟩,h3⟩
  exact⟨h1,λq hq=>⟨(h2 q hq).1,(hm q (by omega) (h2 q hq).1.1).2 (h3 q (by omega)),(h2 q hq).2.2⟩⟩
theorem F9 (h:SrchOk V n cs) (hP:P.length=V): ∃s:S19,BY ((V:Int),((n:Int),cs)) cs P 1 true=some s/\decide (s.2.1>0)=!(AB V n cs P).isEmpty:=by
 cases hs:AB V n cs P with
 |nil=>
  have:=Dt (cs0:=cs) (given:=P) (most:=1) (one:=true) h hP (by omega) (s':=([],0,1,true)) (b:=true) (by rw[hs];rfl)
  exact⟨_,this,rfl⟩
 |cons t l=>
  have:=Dt (cs0:=cs) (given:=P) (most:=1) (one:=true) h hP (by omega) (s':=([t],1,1,true)) (b:=false) (by rw[hs];rfl)
  exact⟨_,this,rfl⟩
variable {vars t:List Int}
def CZ (V n:Nat) (cs:List Con) (vars:List Int):List (List Int):=(AB V n cs (List.replicate V (-1))).map λt=>vars.map (CY t)
theorem Gh (hvl:vars.length=t.length) (hv: ∀v∈vars,0<=v/\v<(V:Int)) (ht: ∀x∈t,0<=x):
  (((vars.zip t).foldl pgS (List.replicate V (-1),true)).2&&!(AB V n cs ((vars.zip t).foldl pgS (List.replicate V (-1),true)).1).isEmpty)=decide (t∈CZ V n cs vars):=by
 have hlen:((vars.zip t).foldl pgS (List.replicate V (-1),true)).1.length=V:=by rw[EJ];simp
 have hz: ∀z∈vars.zip t,0<=z.1/\z.1<(V:Int)/\0<=z.2:=λz hz=>by
  obtain⟨h1,h2⟩:=List.of_mem_zip (show(z.1,z.2)∈vars.zip t from hz)
  exact⟨(hv _ h1).1,(hv _ h1).2,ht _ h2⟩
 have hfr: ∀s,agr V (List.replicate V (-1)) s:=λs q hq=>by
  left;rw[AF (by simpa using hq)];simp
 have hzip: ∀s:List Int,(∀z∈vars.zip t,s.getD z.1.toNat 0=z.2)↔t=vars.map (CY s):=λs=>by
  constructor
  ·intro h
   refine List.ext_getElem (by simp[hvl]) λi h1 h2=>?_
   have h3:i<vars.length:=by simpa using h2
   have:=h (vars[i],t[i]) (by
    have:(vars.zip t)[i]'(by simp;omega)=(vars[i],t[i]):=List.getElem_zip
    rw[←this];exact List.getElem_mem _)
   simp only[List.getElem_map,CY]
   exact this.symm
  ·intro h z hz
   obtain⟨i,hi,rfl⟩:=List.mem_iff_getElem.1 hz
   rw[List.getElem_zip]
   dsimp only
   have hi':i<vars.length/\i<t.length:=by simpa[Nat.lt_min]using hi
   have:t[i]=(vars.map (CY s))[i]'(by simp;omega):=by simp only[←h]
   rw[this,List.getElem_map];rfl
 rw[Bool.eq_iff_iff,Bool.and_eq_true,decide_eq_true_eq]
 unfold CZ
 rw[List.mem_map]
 constructor
 ·rintro ⟨h1,h2⟩
  cases hl:AB V n cs ((vars.zip t).foldl pgS (List.replicate V (-1),true)).1 with
  |nil=>rw[hl]at h2;simp at h2
  |cons s l=>
   obtain⟨h3,h4⟩:=(Gm hlen).1 (show s∈_ by rw[hl];exact List.mem_cons_self ..)
   have:=(GK (s:=s) _ _ _ (by simp) hz).1 ⟨h1,h4⟩
   exact⟨s,h3,((hzip s).1 this.2.2).symm⟩
 ·rintro ⟨s,h1,h2⟩
  have:=(GK (s:=s) _ _ true (by simp) hz).2 ⟨rfl,hfr s,(hzip s).2 h2.symm⟩
  refine⟨this.1,?_⟩
  have hm:=(Gm (n:=n) (cs:=cs) hlen).2 ⟨h1,this.2⟩
  cases hl:AB V n cs ((vars.zip t).foldl pgS (List.replicate V (-1),true)).1 with
  |nil=>rw[hl]at hm;simp at hm
  |cons=>rfl
theorem IN (hvl:vars.length=t.length) (hl:vars.length<=3) (hv: ∀v∈vars,0<=v/\v<(V:Int)) (N:Net) (t4 t6:Int×List (List Int)) (t7:Int):
  AG Ad (vars,N,t4,t6,t7,t,List.replicate V (-1),true,0)=some (vars,N,t4,t6,t7,t,((vars.zip t).foldl pgS (List.replicate V (-1),true)).1,((vars.zip t).foldl pgS (List.replicate V (-1),true)).2):=by
 have:=D0 vars.length (λf (q:List Int×Bool) i=>AG f (vars,N,t4,t6,t7,t,q.1,q.2,i)) (λk=>((vars.zip t).take k).foldl pgS (List.replicate V (-1),true)) (r:=some (vars,N,t4,t6,t7,t,((vars.zip t).foldl pgS (List.replicate V (-1),true)).1,((vars.zip t).foldl pgS (List.replicate V (-1),true)).2)) (λf k hk=>?_) (λf=>?_) (n:=Ad) (by unfold Ad;omega)
 ·exact this
 ·have hkz:k<(vars.zip t).length:=by simp;omega
  have hkt:k<t.length:=by omega
  have e:(vars.zip t).take (k+1)=(vars.zip t).take k++ [(vars[k],t[k])]:=by
   rw[List.take_succ_eq_append_getElem hkz,List.getElem_zip]
  have hlen:(((vars.zip t).take k).foldl pgS (List.replicate V (-1),true)).1.length=V:=by rw[EJ];simp
  rw[e,List.foldl_append]
  generalize ((vars.zip t).take k).foldl pgS (List.replicate V (-1),true)=q at*
  obtain⟨P,g⟩:=q
  have hlen:P.length=V:=hlen
  have hvk:=hv vars[k] (List.getElem_mem hk)
  obtain⟨v,ev⟩: ∃v:Nat,vars[k]=(v:Int):=⟨vars[k].toNat,by omega⟩
  have hvP:v<P.length:=by omega
  simp only[AG,List.foldl_cons,List.foldl_nil,pgS,AA,hk,hkt,AC hk,AC hkt,ev,hvP,if_true,AC hvP,Int.toNat_natCast,DD,Aw (show k<4611686018427387904 by omega),AF hvP]
  rw[if_pos (by rw[decide_eq_true_eq];omega)]
  cases g with
  |false=>simp
  |true=>
   rw[if_pos rfl]
   by_cases h:P[v]<0
   ·simp[h]
   ·simp[h]
 ·simp only[AG]
  rw[if_neg (by simp),List.take_of_length_le (by simp;omega)]
theorem EA (_:SrchOk V n cs) (hv: ∀v∈vars,0<=v/\v<(V:Int)) {u:List Int} (hu:u∈CZ V n cs vars):u.length=vars.length/\ ∀x∈u,0<=x/\x<(n:Int):=by
 unfold CZ at hu
 obtain⟨s,hs,rfl⟩:=List.mem_map.1 hu
 obtain⟨h1,_,h2⟩:=(DA V [] s).1 (show s∈CB n (List.replicate V (-1)) (okN cs) V [] from hs)
 refine⟨by simp,λx hx=>?_⟩
 obtain⟨v,hv',rfl⟩:=List.mem_map.1 hx
 have:=hv v hv'
 simp only[List.length_nil,Nat.zero_add]at h1
 exact(h2 v.toNat (by simp) (by omega)).1
theorem Hi (hS:SrchOk V n cs) (hv: ∀v∈vars,0<=v/\v<(V:Int)):Eh (CZ V n cs vars)=(Hl n vars.length).filter λt=>decide (t∈CZ V n cs vars):=by
 have hn:=hS.hn
 refine GZ ?_ λu=>?_
 ·rw[CU]
  exact(CU.1 (HR (by omega))).filter _
 ·rw[List.mem_filter,decide_eq_true_eq]
  refine⟨λh=>h.2,λh=>⟨?_,h⟩⟩
  obtain⟨h1,h2⟩:=EA hS hv h
  exact Gq h1 h2
theorem Im (hS:SrchOk V n cs) (h1:1<=vars.length) (hl:vars.length<=3) (hv: ∀v∈vars,0<=v/\v<(V:Int)):
  AL Ad (vars,((V:Int),((n:Int),cs)),(0,[]),((vars.length:Int),[]),0)=some ((0,[]),((vars.length:Int),Eh (CZ V n cs vars))):=by
 have hn:=hS.hn
 have hV:=hS.hv
 rw[Hi hS hv]
 have hpow:n^vars.length<=64:=Nat.le_trans (Nat.pow_le_pow_left hn.2 _) (Nat.le_trans (Nat.pow_le_pow_right (by omega) hl) (by decide))
 have:=D0 (n^vars.length) (λf (q:List (List Int)) i=>AL f (vars,((V:Int),((n:Int),cs)),(0,[]),((vars.length:Int),q),i)) (λk=>((List.range k).map λi=>cI (dg n vars.length i)).filter λt=>decide (t∈CZ V n cs vars)) (r:=some ((0,[]),((vars.length:Int),(Hl n vars.length).filter λt=>decide (t∈CZ V n cs vars)))) (λf k hk=>?_) (λf=>?_) (n:=Ad) (by unfold Ad;omega)
 ·exact this
 ·have e1:=DT (b:=n) (k:=vars.length) (by omega) hl
  have e2:=Dx (b:=n) (k:=vars.length) (i:=k) (by omega) (by omega) (by omega)
  have e3:=Eu (N:=V) (by omega)
  have hq:=EY (n:=n) (k:=vars.length) (i:=k) (by omega)
  have hql:=Ee (n:=n) (k:=vars.length) (i:=k)
  have e4:=λt6=>IN (V:=V) (t:=cI (dg n vars.length k)) (vars:=vars) hql.symm hl hv ((V:Int),((n:Int),cs)) (0,[]) t6 (k:Int)
  have hpl:((vars.zip (cI (dg n vars.length k))).foldl pgS (List.replicate V (-1),true)).1.length=V:=by rw[EJ];simp
  obtain⟨s,e5,e6⟩:=F9 hS hpl
  have e7:=Gh (V:=V) (n:=n) (cs:=cs) (t:=cI (dg n vars.length k)) hql.symm hv λx hx=>(hq x hx).1
  rw[List.range_succ,List.map_append,List.filter_append,List.map_singleton]
  simp only[AL,e1,e2,e3,e4,e5,e6,Option.bind_some,Aw (show k<4611686018427387904 by omega)]
  rw[if_pos (by rw[decide_eq_true_eq];omega)]
  have hfl:((List.filter (λt=>decide (t∈CZ V n cs vars)) (List.map (λi=>cI (dg n vars.length i)) (List.range k))).length)<=k:=Nat.le_trans (List.length_filter_le _ _) (by simp)
  rw[List.filter_cons,List.filter_nil,←e7]
  clear e7 e6 e5 e4
  generalize ((vars.zip (cI (dg n vars.length k))).foldl pgS (List.replicate V (-1),true)).2=g at*
  generalize (AB V n cs ((vars.zip (cI (dg n vars.length k))).foldl pgS (List.replicate V (-1),true)).1).isEmpty=z at*
  cases g with
  |false=>simp
  |true=>
   cases z with
   |false=>
    simp only[Bool.not_false,Bool.and_self,if_true]
    rw[if_pos (by unfold lim;simp only[List.length_singleton];omega)]
   |true=>simp
 ·have e1:=DT (b:=n) (k:=vars.length) (by omega) hl
  simp only[AL,e1,Option.bind_some]
  rw[if_neg (by simp)]
  rfl
end
end T
open Go Go.Va
namespace T
section
variable {a:Net} {vars:List Int}
theorem EW: ∀(l acc:List (List Int)),acc.Nodup->(l.foldl (Er vars) acc).Nodup
 | [],_,h=>h
 |t::l,acc,h=>by
  rw[List.foldl_cons]
  refine EW l _ ?_
  unfold Er
  split
  ·exact h
  ·rename_i hn
   rw[List.nodup_append]
   refine⟨h,by simp,λx hx y hy=>?_⟩
   rw[List.mem_singleton]at hy;subst hy
   exact λe=>hn (e▸hx)
theorem Hj {l:List (List Int)} {u:List Int}:u∈Zn cmpL l↔u∈l:=(List.mergeSort_perm l _).mem_iff
theorem Il {V n:Nat} {cs:List Con} (hS:SrchOk V n cs) (hl:vars.length<=3) (hv: ∀v∈vars,0<=v/\v<(V:Int)):
  ∃k L,AW ((V:Int),((n:Int),cs)) (vars,([],[]))=some ((),(k,L))/\L.length<=64/\(∀r∈L,r.length<=3)/\Eh L=Eh (CZ V n cs vars):=by
 have hV:=hS.hv
 have hn:=hS.hn
 have e1:=DL hS
 have hin: ∀t∈AB V n cs (List.replicate V (-1)),t.length=V/\ ∀u,u<V->0<=t.getD u 0/\t.getD u 0<(n:Int):=λt ht=>by
  obtain⟨h1,_,h2⟩:=(DA V [] t).1 (show t∈CB n (List.replicate V (-1)) (okN cs) V [] from ht)
  simp only[List.length_nil,Nat.zero_add]at h1
  exact⟨h1,λu hu=>(h2 u (by simp) (by omega)).1⟩
 have hlen:(AB V n cs (List.replicate V (-1))).length<=262144:=by
  refine Nat.le_trans (ET (n:=n) (given:=List.replicate V (-1)) V []) ?_
  exact Nat.le_trans (Nat.pow_le_pow_left hn.2 V) (Nat.le_trans (Nat.pow_le_pow_right (by omega) hV) (by decide))
 have hfold:=GT (vars:=vars) (V:=V) (n:=n) hn.2 hl hv (AB V n cs (List.replicate V (-1))) [] hin (by simp) (by simp;omega)
 have hfold:Bq (Fs vars) (CB n (List.replicate V (-1)) (okN cs) V ((List.replicate V (0:Int)).take 0)) ([],[])=_:=hfold
 have hmem: ∀u,u∈(AB V n cs (List.replicate V (-1))).foldl (Er vars) []↔u∈CZ V n cs vars:=λu=>by
  rw[FU]
  unfold CZ
  rw[List.mem_map]
  constructor
  ·rintro (h|⟨t,h1,h2⟩)
   ·simp at h
   ·exact⟨t,h1,h2.symm⟩
  ·rintro ⟨t,h1,h2⟩;exact .inr ⟨t,h1,h2.symm⟩
 have hnd:=EW (vars:=vars) (AB V n cs (List.replicate V (-1))) [] List.nodup_nil
 generalize (AB V n cs (List.replicate V (-1))).foldl (Er vars) []=L at*
 have hL: ∀u∈L,u.length=vars.length/\ ∀x∈u,0<=x/\x<(n:Int):=λu hu=>EA hS hv ((hmem u).1 hu)
 obtain⟨tab',_,_,_,h4⟩:=Gb hS (given:=List.replicate V (-1)) (by simp) (Fs vars) V Ad 0 (List.replicate V 0) ([],[]) (by omega) (by unfold Ad;omega) (by simp) (λx hx=>by rw[List.eq_of_mem_replicate hx];omega) _ _ hfold
 have h5:=Hx (vars:=vars) Ad 0 (List.replicate V 0) ([],[]) (D4 V n cs) (List.replicate V (-1)) ()
 have h4:hF (Fs vars) Ad (0,List.replicate V 0,([],[]),D4 V n cs,List.replicate V (-1),())=_:=h4
 rw[h4]at h5
 refine⟨Dc L,L,?_,?_,λr hr=>by rw[(hL r hr).1];omega,GZ (Fb _) λu=>setL_mem.trans (hmem u).symm⟩
 ·unfold AW Bw
  have hr:List.replicate (Int.toNat ((List.replicate V (-1:Int)).length:Int)) (0:Int)=List.replicate V 0:=by simp
  have hlim:0<=((List.replicate V (-1:Int)).length:Int)/\((List.replicate V (-1:Int)).length:Int)<=((List.replicate V (-1:Int)).length:Int)/\((List.replicate V (-1:Int)).length:Int)<=lim:=by rw[List.length_replicate];unfold lim;omega
  simp only[e1,Et (show V<=1000 by omega),Option.bind_some,hr,h5,Option.map_some]
  rw[if_pos hlim];rfl
 ·have hi:=GF hnd
  have:=EG (n:=(n:Int)) (k:=vars.length) hi λt ht=>by
   obtain⟨h1,h2⟩:=hL t (Hj.1 ht)
   refine⟨h1,?_⟩
   unfold Bf
   rw[List.all_eq_true]
   exact λx hx=>by simpa using h2 x hx
  have hp:(Zn cmpL L).length=L.length:=(List.mergeSort_perm L _).length_eq
  rcases this with h|h
  ·rw[hp]at h
   have hpow:n^vars.length<=64:=Nat.le_trans (Nat.pow_le_pow_left hn.2 _) (Nat.le_trans (Nat.pow_le_pow_right (by omega) hl) (by decide))
   have e:((n:Int)^vars.length)=((n^vars.length:Nat):Int):=by simp
   rw[e]at h;omega
  ·rw[h]at hp;rw[←hp];simp
def srR (a:Net) (vars:List Int):C8×Bool:=if B2 a&&(decide (1<=vars.length/\vars.length<=3)&&Bf a.1 vars)then(((vars.length:Int),Eh (CZ a.1.toNat a.2.1.toNat a.2.2 vars)),true)else((0,[]),false)
theorem Ef (h:Ey a) (hvs:vars.length<=1048576):Al a vars=some (srR a vars)/\Am a vars=some (srR a vars)/\(srR a vars).1.2.length<=64/\ ∀r∈(srR a vars).1.2,r.length<=3:=by
 unfold Al Am srR
 rw[Bs (a:=(a.1,(a.2.1,a.2.2))) h,BH (a:=(a.1,(a.2.1,a.2.2))) h,show B2 (a.1,(a.2.1,a.2.2))=B2 a from rfl]
 cases hb:B2 a with
 |false=>simp
 |true=>
  have hN:=EH hb
  have hv:=hN.hv
  obtain⟨hS,ea⟩:=Hc hN
  have eV:((a.1.toNat:Nat):Int)=a.1:=Int.toNat_of_nonneg hv.1
  have ex:((a.1.toNat:Int),((a.2.1.toNat:Int),a.2.2))=(a.1,(a.2.1,a.2.2)):=ea.symm
  have i1:=C9 (l:=vars) a.1 (by omega)
  have i2:=Cz (l:=vars) (n:=a.1) (by omega) (by omega) (by omega)
  have i3:=Ch (vars.length:Int) 1 3
  by_cases hk:1<=vars.length/\vars.length<=3
  ·have c1:decide ((vars.length:Int)<1)=false:=by simp;omega
   have c2:decide ((vars.length:Int)>3)=false:=by simp;omega
   have c3:decide ((1:Int)<=(vars.length:Int)/\(vars.length:Int)<=3)=true:=by simp;omega
   rw[c3]at i3
   cases hbl:Bf a.1 vars with
   |false=>
    rw[hbl]at i1 i2
    simp only[Option.bind_some,i1,i2,i3,c1,c2]
    simp
   |true=>
    rw[hbl]at i1 i2
    have hvv: ∀v∈vars,0<=v/\v<(a.1.toNat:Int):=λv hv'=>by
     unfold Bf at hbl
     have:=List.all_eq_true.1 hbl v hv'
     rw[eV];simpa using this
    obtain⟨K,L,g1,g2,g3,g4⟩:=Il hS hk.2 hvv
    rw[ex]at g1
    have g5:=GG (ar:=(vars.length:Int)) (l:=L) (by omega) (λr hr=>by have:=g3 r hr;omega)
    have g6:=Im hS hk.1 hk.2 hvv
    rw[ex]at g6
    have g7:(Eh (CZ a.1.toNat a.2.1.toNat a.2.2 vars)).length<=64:=by rw[←g4];exact Nat.le_trans (Ik L) g2
    rw[decide_eq_true hk]
    simp only[Option.bind_some,i1,i2,i3,c1,c2,g1,g5,g6,g4,Bool.not_true,Bool.false_eq_true,if_false,Bool.and_self,if_true]
    refine⟨trivial,trivial,g7,λr hr=>?_⟩
    rw[←g4]at hr
    exact g3 r (setL_mem.1 hr)
  ·have c3:decide ((1:Int)<=(vars.length:Int)/\(vars.length:Int)<=3)=false:=by simp;omega
   rw[c3]at i3
   rw[decide_eq_false hk]
   by_cases h1:(vars.length:Int)<1
   ·simp only[Option.bind_some,i3,decide_eq_true h1];simp
   ·have h2:(vars.length:Int)>3:=by omega
    simp only[Option.bind_some,i3,decide_eq_true h2];simp
end
end T
open Go Go.Va
namespace T
section
variable {n:Nat} {t:List Int}
def HU (n:Nat) (t:List Int) (x y:Nat):Nat:=(t.getD (x*n+y) 0).toNat
structure TabOk (n:Nat) (t:List Int):Prop where
 hn:1<=n/\n<=4
 len:t.length=n*n
 val: ∀x∈t,0<=x/\x<(n:Int)
theorem ix2 (hn:n<=4) {x y:Nat} (hx:x<n) (hy:y<n):w64 (w64 ((x:Int)*(n:Int))+(y:Int))=((x*n+y:Nat):Int)/\x*n+y<n*n:=by
 have h1:x*n+y<n*n:=by
  calc x*n+y<x*n+n:=by omega
   _=(x+1)*n:=by rw[Nat.succ_mul]
   _<=n*n:=Nat.mul_le_mul_right _ hx
 have h2:n*n<=4*4:=Nat.mul_le_mul hn hn
 have e:(x:Int)*(n:Int)=((x*n:Nat):Int):=by simp
 have a1:w64 ((x*n:Nat):Int)=((x*n:Nat):Int):=Bp (by omega) (by omega)
 rw[e,a1,Bp (by omega) (by omega)]
 exact⟨by omega,h1⟩
theorem TabOk.at (h:TabOk n t) {x y:Nat} (hx:x<n) (hy:y<n):w64 (w64 ((x:Int)*(n:Int))+(y:Int))=((x*n+y:Nat):Int)/\inb ((x*n+y:Nat):Int) t/\gd t ((x*n+y:Nat):Int) 0=((HU n t x y:Nat):Int)/\HU n t x y<n:=by
 obtain⟨h1,h2⟩:=ix2 h.hn.2 hx hy
 have hl:x*n+y<t.length:=by rw[h.len];exact h2
 have hv:=h.val _ (List.getElem_mem hl)
 refine⟨h1,by rw[AA];exact hl,?_,?_⟩
 ·rw[AC hl];unfold HU;rw[AF hl];omega
 ·unfold HU;rw[AF hl];omega
end
end T
set_option linter.unusedVariables false
open Go Go.Va
namespace T
def AI:Nat->(((List Int)×Int×Int)×(Int×(Int×(List ((List Int)×Int×(List (List Int))))))×Int×(List (Int×(List (List Int))))×(Int×(Int×(List ((List Int)×Int×(List (List Int))))))×Int×(Int×(List (List Int)))×((List Int)×(Int×(List (List Int))))×Int)->Option (((List Int)×Int×Int)×(Int×(Int×(List ((List Int)×Int×(List (List Int))))))×Int×(List (Int×(List (List Int))))×(Int×(Int×(List ((List Int)×Int×(List (List Int))))))×Int×((List Int)×(Int×(List (List Int)))))
 |0,_=>none
 |n+1,(t0,t2,t3,t4,t5,t6,t7,t8,t9)=>
 if decide (t9<t7.1)then
 if decide (t9<4)then
 (BI t5.1 1).bind λr9=>
 (Ae (t0.1,(t0.2.1,t0.2.2)) r9).bind λr10=>
 if t8.1.length+ [r10.2].length<=lim then
 AI n ((r10.1.1,(r10.1.2.1,r10.1.2.2)),(t2.1,(t2.2.1,t2.2.2)),t3,t4,(t5.1,(t5.2.1,t5.2.2)),t6,(t7.1,t7.2),(t8.1++ [r10.2],(t8.2.1,t8.2.2)),w64 (t9+1))
 else none
 else
 some ((t0.1,(t0.2.1,t0.2.2)),(t2.1,(t2.2.1,t2.2.2)),t3,t4,(t5.1,(t5.2.1,t5.2.2)),t6,(t8.1,(t8.2.1,t8.2.2)))
 else
 some ((t0.1,(t0.2.1,t0.2.2)),(t2.1,(t2.2.1,t2.2.2)),t3,t4,(t5.1,(t5.2.1,t5.2.2)),t6,(t8.1,(t8.2.1,t8.2.2)))
def AO:Nat->(((List Int)×Int×Int)×(Int×(Int×(List ((List Int)×Int×(List (List Int))))))×Int×(List (Int×(List (List Int))))×(Int×(Int×(List ((List Int)×Int×(List (List Int))))))×Int)->Option (((List Int)×Int×Int)×(Int×(Int×(List ((List Int)×Int×(List (List Int))))))×(Int×(Int×(List ((List Int)×Int×(List (List Int)))))))
 |0,_=>none
 |n+1,(t0,t2,t3,t4,t5,t6)=>
 if decide (t6>0)then
 (BI t3 1).bind λr4=>
 (Ab (t0.1,(t0.2.1,t0.2.2)) [1,2,2,3]).bind λr5=>
 (A9 (r5.1.1,(r5.1.2.1,r5.1.2.2)) r4 r5.2).bind λr6=>
 if decide ((t4.length:Int)>0)then
 (Av (r6.1.1,(r6.1.2.1,r6.1.2.2)) 5).bind λr7=>
 if !r7.2 then
 (Ae (r7.1.1,(r7.1.2.1,r7.1.2.2)) (t4.length:Int)).bind λr8=>
 if inb r8.2 t4 then
 (AI Ad ((r8.1.1,(r8.1.2.1,r8.1.2.2)),(t2.1,(t2.2.1,t2.2.2)),t3,t4,(t5.1,(t5.2.1,t5.2.2)),t6,((gd t4 r8.2 (0,[])).1,(gd t4 r8.2 (0,[])).2),([],((gd t4 r8.2 (0,[])).1,(gd t4 r8.2 (0,[])).2)),0)).bind λs9=>
 if s9.2.2.2.2.1.2.2.length+ [(s9.2.2.2.2.2.2.1,(s9.2.2.2.2.2.2.2.1,s9.2.2.2.2.2.2.2.2))].length<=lim then
 AO n ((s9.1.1,(s9.1.2.1,s9.1.2.2)),(s9.2.1.1,(s9.2.1.2.1,s9.2.1.2.2)),s9.2.2.1,s9.2.2.2.1,(s9.2.2.2.2.1.1,(s9.2.2.2.2.1.2.1,s9.2.2.2.2.1.2.2++ [(s9.2.2.2.2.2.2.1,(s9.2.2.2.2.2.2.2.1,s9.2.2.2.2.2.2.2.2))])),w64 (s9.2.2.2.2.2.1-1))
 else none
 else none
 else
 (AI Ad ((r7.1.1,(r7.1.2.1,r7.1.2.2)),(t2.1,(t2.2.1,t2.2.2)),t3,t4,(t5.1,(t5.2.1,t5.2.2)),t6,(r6.2.1,r6.2.2),([],(r6.2.1,r6.2.2)),0)).bind λs10=>
 if s10.2.2.2.2.1.2.2.length+ [(s10.2.2.2.2.2.2.1,(s10.2.2.2.2.2.2.2.1,s10.2.2.2.2.2.2.2.2))].length<=lim then
 AO n ((s10.1.1,(s10.1.2.1,s10.1.2.2)),(s10.2.1.1,(s10.2.1.2.1,s10.2.1.2.2)),s10.2.2.1,s10.2.2.2.1,(s10.2.2.2.2.1.1,(s10.2.2.2.2.1.2.1,s10.2.2.2.2.1.2.2++ [(s10.2.2.2.2.2.2.1,(s10.2.2.2.2.2.2.2.1,s10.2.2.2.2.2.2.2.2))])),w64 (s10.2.2.2.2.2.1-1))
 else none
 else
 (AI Ad ((r6.1.1,(r6.1.2.1,r6.1.2.2)),(t2.1,(t2.2.1,t2.2.2)),t3,t4,(t5.1,(t5.2.1,t5.2.2)),t6,(r6.2.1,r6.2.2),([],(r6.2.1,r6.2.2)),0)).bind λs11=>
 if s11.2.2.2.2.1.2.2.length+ [(s11.2.2.2.2.2.2.1,(s11.2.2.2.2.2.2.2.1,s11.2.2.2.2.2.2.2.2))].length<=lim then
 AO n ((s11.1.1,(s11.1.2.1,s11.1.2.2)),(s11.2.1.1,(s11.2.1.2.1,s11.2.1.2.2)),s11.2.2.1,s11.2.2.2.1,(s11.2.2.2.2.1.1,(s11.2.2.2.2.1.2.1,s11.2.2.2.2.1.2.2++ [(s11.2.2.2.2.2.2.1,(s11.2.2.2.2.2.2.2.1,s11.2.2.2.2.2.2.2.2))])),w64 (s11.2.2.2.2.2.1-1))
 else none
 else
 some ((t0.1,(t0.2.1,t0.2.2)),(t2.1,(t2.2.1,t2.2.2)),(t5.1,(t5.2.1,t5.2.2)))
def Bk:Nat->(((List Int)×Int×Int)×(Int×(Int×(List ((List Int)×Int×(List (List Int))))))×(Int×(Int×(List ((List Int)×Int×(List (List Int))))))×Int)->Option (((List Int)×Int×Int)×(Int×(Int×(List ((List Int)×Int×(List (List Int))))))×(Int×(Int×(List ((List Int)×Int×(List (List Int)))))))
 |0,_=>none
 |n+1,(t0,t2,t5,t10)=>
 if decide ((t5.2.2.length:Int)>0)then
 if decide ((t5.2.2.length:Int)<t10)then
 if inb 0 t5.2.2 then
 if t5.2.2.length+ [((gd t5.2.2 0 ([],(0,[]))).1,(((gd t5.2.2 0 ([],(0,[]))).2).1,((gd t5.2.2 0 ([],(0,[]))).2).2))].length<=lim then
 Bk n ((t0.1,(t0.2.1,t0.2.2)),(t2.1,(t2.2.1,t2.2.2)),(t5.1,(t5.2.1,t5.2.2++ [((gd t5.2.2 0 ([],(0,[]))).1,(((gd t5.2.2 0 ([],(0,[]))).2).1,((gd t5.2.2 0 ([],(0,[]))).2).2))])),t10)
 else none
 else none
 else
 some ((t0.1,(t0.2.1,t0.2.2)),(t2.1,(t2.2.1,t2.2.2)),(t5.1,(t5.2.1,t5.2.2)))
 else
 some ((t0.1,(t0.2.1,t0.2.2)),(t2.1,(t2.2.1,t2.2.2)),(t5.1,(t5.2.1,t5.2.2)))
def B3 (t0:(List Int)×Int×Int):Option (((List Int)×Int×Int)×(Int×Int×(List ((List Int)×Int×(List (List Int)))))):=
 (Cl (t0.1,(t0.2.1,t0.2.2))).bind λr1=>
 (Ab (r1.1.1,(r1.1.2.1,r1.1.2.2)) [1,2,3,3,4,4,5,6]).bind λr2=>
 (Ab (r2.1.1,(r2.1.2.1,r2.1.2.2)) [0,1,2,3,4,5,6,8]).bind λr3=>
 (AO Ad ((r3.1.1,(r3.1.2.1,r3.1.2.2)),(0,(0,[])),r1.2.1,r1.2.2,(r2.2,(r1.2.1,[])),r3.2)).bind λs4=>
 (Ae (s4.1.1,(s4.1.2.1,s4.1.2.2)) 40).bind λr5=>
 if r5.2==0 then
 (Ab (r5.1.1,(r5.1.2.1,r5.1.2.2)) [(-1),0,9,10]).bind λr6=>
 some ((r6.1.1,(r6.1.2.1,r6.1.2.2)),(r6.2,(s4.2.2.2.1,s4.2.2.2.2)))
 else
 if r5.2==1 then
 if decide ((s4.2.2.2.2.length:Int)>0)then
 if inb 0 s4.2.2.2.2 then
 if((gd s4.2.2.2.2 0 ([],(0,[]))).1).length+ [0].length<=lim then
 if inb 0 s4.2.2.2.2 then
 if 0=0 then
 some ((r5.1.1,(r5.1.2.1,r5.1.2.2)),(s4.2.2.1,(s4.2.2.2.1,stt s4.2.2.2.2 0 (((gd s4.2.2.2.2 0 ([],(0,[]))).1)++ [0],(gd s4.2.2.2.2 0 ([],(0,[]))).2))))
 else none
 else none
 else none
 else none
 else
 some ((r5.1.1,(r5.1.2.1,r5.1.2.2)),(s4.2.2.1,(s4.2.2.2.1,s4.2.2.2.2)))
 else
 if r5.2==2 then
 (Ae (r5.1.1,(r5.1.2.1,r5.1.2.2)) 2).bind λr7=>
 (Bk Ad ((r7.1.1,(r7.1.2.1,r7.1.2.2)),(s4.2.1.1,(s4.2.1.2.1,s4.2.1.2.2)),(s4.2.2.1,(s4.2.2.2.1,s4.2.2.2.2)),w64 (40+r7.2))).bind λs8=>
 some ((s8.1.1,(s8.1.2.1,s8.1.2.2)),(s8.2.2.1,(s8.2.2.2.1,s8.2.2.2.2)))
 else
 some ((r5.1.1,(r5.1.2.1,r5.1.2.2)),(s4.2.2.1,(s4.2.2.2.1,s4.2.2.2.2)))
def AJ:Nat->(((List Int)×Int×Int)×Bool×(Int×Int×(List ((List Int)×Int×(List (List Int)))))×(List Int)×Int)->Option (((List Int)×Int×Int)×(Int×Int×(List ((List Int)×Int×(List (List Int)))))×(List Int))
 |0,_=>none
 |n+1,(c,free,net,out,v)=>
 if decide (v<net.1)then
 if decide (v<10)then
 (BI net.2.1 1).bind λr1=>
 (Ae (c.1,(c.2.1,c.2.2)) r1).bind λr2=>
 if free then
 (Av (r2.1.1,(r2.1.2.1,r2.1.2.2)) 3).bind λr3=>
 if !r3.2 then
 if out.length+ [(-1)].length<=lim then
 AJ n ((r3.1.1,(r3.1.2.1,r3.1.2.2)),free,(net.1,(net.2.1,net.2.2)),out++ [(-1)],w64 (v+1))
 else none
 else
 if out.length+ [r2.2].length<=lim then
 AJ n ((r3.1.1,(r3.1.2.1,r3.1.2.2)),free,(net.1,(net.2.1,net.2.2)),out++ [r2.2],w64 (v+1))
 else none
 else
 if out.length+ [r2.2].length<=lim then
 AJ n ((r2.1.1,(r2.1.2.1,r2.1.2.2)),free,(net.1,(net.2.1,net.2.2)),out++ [r2.2],w64 (v+1))
 else none
 else
 some ((c.1,(c.2.1,c.2.2)),(net.1,(net.2.1,net.2.2)),out)
 else
 some ((c.1,(c.2.1,c.2.2)),(net.1,(net.2.1,net.2.2)),out)
def Cm (c:(List Int)×Int×Int) (net:Int×Int×(List ((List Int)×Int×(List (List Int))))) (free:Bool):Option (((List Int)×Int×Int)×(List Int)):=
 (AJ Ad ((c.1,(c.2.1,c.2.2)),free,(net.1,(net.2.1,net.2.2)),[],0)).bind λs1=>
 (Ae (s1.1.1,(s1.1.2.1,s1.1.2.2)) 30).bind λr2=>
 if r2.2==0 then
 if s1.2.2.length+ [0].length<=lim then
 some ((r2.1.1,(r2.1.2.1,r2.1.2.2)),s1.2.2++ [0])
 else none
 else
 if r2.2==1 then
 if decide ((s1.2.2.length:Int)>0)then
 (Ab (r2.1.1,(r2.1.2.1,r2.1.2.2)) [(-2),(-1),s1.2.1.2.1]).bind λr3=>
 if inb 0 s1.2.2 then
 some ((r3.1.1,(r3.1.2.1,r3.1.2.2)),stt s1.2.2 0 r3.2)
 else none
 else
 some ((r2.1.1,(r2.1.2.1,r2.1.2.2)),s1.2.2)
 else
 some ((r2.1.1,(r2.1.2.1,r2.1.2.2)),s1.2.2)
def Cf (net:Int×Int×(List ((List Int)×Int×(List (List Int))))) (values:List Int):Option (Bool):=
 if(values.length:Int)==net.1 then
 (C6 values net.2.1).bind λr1=>
 some r1
 else
 some false
def Dd (net:Int×Int×(List ((List Int)×Int×(List (List Int))))) (values:List Int):Option (Int×Bool):=
 (BA (net.1,(net.2.1,net.2.2))).bind λr1=>
 if !r1 then
 some (0,false)
 else
 (Cf (net.1,(net.2.1,net.2.2)) values).bind λr2=>
 if !r2 then
 some (0,false)
 else
 (CS (net.1,(net.2.1,net.2.2)) values).bind λr3=>
 if decide (r3<0)then
 some (0,false)
 else
 some (r3,true)
def Cs (net:Int×Int×(List ((List Int)×Int×(List (List Int))))) (values:List Int):Option (Bool):=
 if(values.length:Int)==net.1 then
 (Cc net.2.1 values).bind λr1=>
 some r1
 else
 some false
def De (net:Int×Int×(List ((List Int)×Int×(List (List Int))))) (values:List Int):Option (Int×Bool):=
 (BZ (net.1,(net.2.1,net.2.2))).bind λr1=>
 if !r1 then
 some (0,false)
 else
 (Cs (net.1,(net.2.1,net.2.2)) values).bind λr2=>
 if !r2 then
 some (0,false)
 else
 (Dh (net.1,(net.2.1,net.2.2)) values).bind λr3=>
 if decide (r3<0)then
 some (0,false)
 else
 some (r3,true)
def C1 (net:Int×Int×(List ((List Int)×Int×(List (List Int))))) (values:List Int):Option (Bool×Bool):=
 (BA (net.1,(net.2.1,net.2.2))).bind λr1=>
 if !r1 then
 some (false,false)
 else
 (Cf (net.1,(net.2.1,net.2.2)) values).bind λr2=>
 if !r2 then
 some (false,false)
 else
 (CS (net.1,(net.2.1,net.2.2)) values).bind λr3=>
 some (decide (r3<0),true)
def DW (net:Int×Int×(List ((List Int)×Int×(List (List Int))))) (values:List Int):Option (Bool×Bool):=
 (BZ (net.1,(net.2.1,net.2.2))).bind λr1=>
 if !r1 then
 some (false,false)
 else
 (Cs (net.1,(net.2.1,net.2.2)) values).bind λr2=>
 if !r2 then
 some (false,false)
 else
 (Dh (net.1,(net.2.1,net.2.2)) values).bind λr3=>
 some (decide (r3<0),true)
end T
open Go Go.Va
namespace T
theorem FC (a:Int): ∃m,BI a 1=some m/\1<=m/\a<=m/\(m<=a∨m<=1):=by
 unfold BI
 by_cases h:a>1
 ·exact⟨a,by rw[if_pos (by simpa using h)],by omega,by omega,by omega⟩
 ·exact⟨1,by rw[if_neg (by simpa using h)],by omega,by omega,by omega⟩
def conD (W:Nat) (c:Con):Prop:=c.1.length<=W/\rowsB 601 3 c.2.2
theorem conD.mono {W W':Nat} {c:Con} (h:W<=W'):conD W c->conD W' c:=λ⟨a,b⟩=>⟨by omega,b⟩
def Hb (a:Net):Prop:= -1<=a.1/\a.1<=10/\0<=a.2.1/\a.2.1<=5/\a.2.2.length<=41/\ ∀c∈a.2.2,conD 5 c
theorem GH {a:Net} (h:Hb a):Ey a:=⟨by have:=h.2.2.2.2.1;omega,λc hc=>by
 have h1:=h.2.2.2.2.2 c hc
 exact⟨by have:=h1.1;omega,by have:=h1.2.1;omega,λr hr=>by have:=h1.2.2 r hr;omega⟩⟩
theorem Ic {V:Int} (hV:V<=100) (t2:Net) (t3:Int) (t4:List C8) (n5:Int) (cs:List Con) (t6:Int) (t7 rl:Int×List (List Int)): ∀(d f k x:Nat) (c:CR) (s:List Int),x+d=4->d<f->Cur k c->k+2*d<=1000000->s.length=x->
  ∃c' s',AI f (c,t2,t3,t4,(V,(n5,cs)),t6,t7,(s,rl),(x:Int))=some (c',t2,t3,t4,(V,(n5,cs)),t6,(s',rl))/\Cur (k+2*d) c'/\s'.length<=4:=by
 intro d
 induction d with
 |zero=>
  intro f k x c s hx hf hc hk hs
  obtain⟨f,rfl⟩: ∃z,f=z+1:=⟨f-1,by omega⟩
  refine⟨c,s,?_,hc,by omega⟩
  simp only[AI]
  rw[if_neg (show¬decide ((x:Int)<4)=true by simp;omega)]
  simp
 |succ d ih=>
  intro f k x c s hx hf hc hk hs
  obtain⟨f,rfl⟩: ∃z,f=z+1:=⟨f-1,by omega⟩
  simp only[AI]
  by_cases h:(x:Int)<t7.1
  ·obtain⟨m,e1,m1,m2,m3⟩:=FC V
   obtain⟨c1,y,e2,g2,_⟩:=Ck hc (by omega) m (by omega)
   have e2:Ae (c.1,(c.2.1,c.2.2)) m=_:=e2
   obtain⟨c',s',e3,g3,h3⟩:=ih f (k+2) (x+1) c1 (s++ [y]) (by omega) (by omega) g2 (by omega) (by simp;omega)
   refine⟨c',s',?_,g3.mono (by omega),h3⟩
   rw[if_pos (by simpa using h),if_pos (by simp;omega)]
   simp only[e1,Option.bind_some,e2]
   rw[if_pos (by rw[List.length_singleton];unfold lim;omega),Aw (by omega)]
   exact e3
  ·exact⟨c,s,by rw[if_neg (by simpa using h)],hc.mono (by omega),by omega⟩
theorem IE {n V:Int} (hn:n<=100) (hV:V<=100) {rels:List C8} (hr:Gj rels) (t2:Net) (n5:Int): ∀(d f k:Nat) (c:CR) (cs:List Con),d<f->Cur k c->k+300*d<=90000->cs.length+d<=8->(∀c∈cs,conD 4 c)->
  ∃c' cs',AO f (c,t2,n,rels,(V,(n5,cs)),(d:Int))=some (c',t2,(V,(n5,cs')))/\Cur (k+300*d) c'/\cs'.length<=8/\ ∀c∈cs',conD 4 c:=by
 intro d
 induction d with
 |zero=>
  intro f k c cs hf hc hk ho hr
  obtain⟨f,rfl⟩: ∃z,f=z+1:=⟨f-1,by omega⟩
  refine⟨c,cs,?_,hc,by omega,hr⟩
  simp only[AO]
  rw[if_neg (by simp)]
 |succ d ih=>
  intro f k c cs hf hc hk ho hcs
  obtain⟨f,rfl⟩: ∃z,f=z+1:=⟨f-1,by omega⟩
  have ew:w64 (((d+1:Nat):Int)-1)=(d:Int):=by rw[Bp (by omega) (by omega)];omega
  obtain⟨m,e0,m1,m2,m3⟩:=FC n
  obtain⟨c1,x1,e1,g1,_⟩:=CA hc (by omega) (l:= [1,2,2,3]) (by simp) (by simp)
  have e1:Ab (c.1,(c.2.1,c.2.2)) [1,2,2,3]=_:=e1
  obtain⟨c2,r,e2,g2,h2⟩:=D6 (N:=m) (A:=x1) g1 (by omega) (by omega)
  have e2:A9 (c1.1,(c1.2.1,c1.2.2)) m x1=_:=e2
  have hfin: ∀(k':Nat) (c3:CR) (r:Int×List (List Int)),Cur k' c3->k'<=k+290->rowsB 601 3 r.2->
    ∃c' cs',((AI Ad (c3,t2,n,rels,(V,(n5,cs)),((d+1:Nat):Int),r,([],r),0)).bind λs10=>
     if s10.2.2.2.2.1.2.2.length+ [(s10.2.2.2.2.2.2.1,(s10.2.2.2.2.2.2.2.1,s10.2.2.2.2.2.2.2.2))].length<=lim then
      AO f ((s10.1.1,(s10.1.2.1,s10.1.2.2)),(s10.2.1.1,(s10.2.1.2.1,s10.2.1.2.2)),s10.2.2.1,s10.2.2.2.1,(s10.2.2.2.2.1.1,(s10.2.2.2.2.1.2.1,s10.2.2.2.2.1.2.2++ [(s10.2.2.2.2.2.2.1,(s10.2.2.2.2.2.2.2.1,s10.2.2.2.2.2.2.2.2))])),w64 (s10.2.2.2.2.2.1-1))
     else none)=some (c',t2,(V,(n5,cs')))/\Cur (k+300*(d+1)) c'/\cs'.length<=8/\ ∀c∈cs',conD 4 c:=by
   intro k' c3 r hc3 hk' hr3
   obtain⟨c4,s,e4,g4,h4⟩:=Ic hV t2 n rels n5 cs ((d+1:Nat):Int) r r 4 Ad k' 0 c3 [] (by omega) (by unfold Ad;omega) hc3 (by omega) rfl
   have e4:AI Ad (c3,t2,n,rels,(V,(n5,cs)),((d+1:Nat):Int),r,([],r),0)=_:=e4
   obtain⟨c',cs',e5,g5,h5,h6⟩:=ih f (k'+8) c4 (cs++ [(s,r)]) (by omega) g4 (by omega) (by simp;omega) (λq hq=>by
    rcases List.mem_append.1 hq with hq|hq
    ·exact hcs q hq
    ·rw[List.mem_singleton.1 hq];exact⟨h4,hr3⟩)
   refine⟨c',cs',?_,g5.mono (by omega),h5,h6⟩
   rw[e4]
   simp only[Option.bind_some]
   rw[if_pos (by rw[List.length_singleton];unfold lim;omega)]
   simp only[ew]
   exact e5
  simp only[AO,e0,e1,e2,Option.bind_some]
  rw[if_pos (show decide ((((d+1:Nat):Int))>0)=true by simp)]
  by_cases hl:0<rels.length
  ·rw[if_pos (show decide ((rels.length:Int)>0)=true by simp;omega)]
   obtain⟨c3,x3,e3,g3⟩:=D5 g2 (by omega) 5 (by omega)
   have e3:Av (c2.1,(c2.2.1,c2.2.2)) 5=_:=e3
   simp only[e3,Option.bind_some]
   cases x3 with
   |true=>
    simp only[Bool.not_true,Bool.false_eq_true,if_false]
    exact hfin _ _ r g3 (by omega) h2
   |false=>
    simp only[Bool.not_false,if_true]
    have hrl:=hr.1
    obtain⟨c4,x4,e4,g4,h40,h41,_⟩:=Ck g3 (by omega) (rels.length:Int) (by omega)
    have e4:Ae (c3.1,(c3.2.1,c3.2.2)) (rels.length:Int)=_:=e4
    obtain⟨x,rfl⟩: ∃x:Nat,x4=(x:Int):=⟨x4.toNat,by omega⟩
    have hx:x<rels.length:=by have:=h41 (by omega);omega
    simp only[e4,Option.bind_some,AA,hx,if_true,AC hx]
    exact hfin _ _ rels[x] g4 (by omega) (hr.2 _ (List.getElem_mem hx))
  ·rw[if_neg (show¬decide ((rels.length:Int)>0)=true by rw[decide_eq_true_eq];omega)]
   exact hfin _ _ r g2 (by omega) h2
theorem Ie {W:Nat} {c:CR} {t2:Net} {V n T:Int} (hT:T<=41): ∀(d f:Nat) (cs:List Con),cs.length+d=41->d<f->(∀c∈cs,conD W c)->
  ∃cs',Bk f (c,t2,(V,(n,cs)),T)=some (c,t2,(V,(n,cs')))/\cs'.length<=41/\ ∀c∈cs',conD W c:=by
 intro d
 induction d with
 |zero=>
  intro f cs hl hf hc
  obtain⟨f,rfl⟩: ∃z,f=z+1:=⟨f-1,by omega⟩
  refine⟨cs,?_,by omega,hc⟩
  simp only[Bk]
  rw[if_neg (show¬decide ((cs.length:Int)<T)=true by rw[decide_eq_true_eq];omega)]
  simp
 |succ d ih=>
  intro f cs hl hf hc
  obtain⟨f,rfl⟩: ∃z,f=z+1:=⟨f-1,by omega⟩
  simp only[Bk]
  by_cases h0:0<cs.length
  ·rw[if_pos (show decide ((cs.length:Int)>0)=true by simp;omega)]
   by_cases h1:(cs.length:Int)<T
   ·rw[if_pos (by simpa using h1)]
    have hi:inb 0 cs:=by unfold inb;omega
    have hg:gd cs 0 ([],(0,[]))=cs[0]:=AC (k:=0) h0
    obtain⟨cs',e,h2,h3⟩:=ih f (cs++ [cs[0]]) (by simp;omega) (by omega) (λq hq=>by
     rcases List.mem_append.1 hq with hq|hq
     ·exact hc q hq
     ·rw[List.mem_singleton.1 hq];exact hc _ (List.getElem_mem h0))
    refine⟨cs',?_,h2,h3⟩
    rw[if_pos hi,if_pos (by rw[List.length_singleton];unfold lim;omega)]
    simp only[hg]
    exact e
   ·exact⟨cs,by rw[if_neg (by simpa using h1)],by omega,hc⟩
  ·exact⟨cs,by rw[if_neg (by rw[decide_eq_true_eq];omega)],by omega,hc⟩
theorem En {k:Nat} {c:CR} (hc:Cur k c) (hk:k<=5000): ∃c' a,B3 c=some (c',a)/\Cur (k+5000) c'/\Hb a:=by
 obtain⟨c1,n,rels,e1,g1,n0,n1,hr⟩:=Gr hc (by omega)
 have e1:Cl (c.1,(c.2.1,c.2.2))=_:=e1
 obtain⟨c2,V,e2,g2,hV⟩:=CA g1 (by omega) (l:= [1,2,3,3,4,4,5,6]) (by simp) (by simp)
 have e2:Ab (c1.1,(c1.2.1,c1.2.2)) [1,2,3,3,4,4,5,6]=_:=e2
 obtain⟨c3,m,e3,g3,hm⟩:=CA g2 (by omega) (l:= [0,1,2,3,4,5,6,8]) (by simp) (by simp)
 have e3:Ab (c2.1,(c2.2.1,c2.2.2)) [0,1,2,3,4,5,6,8]=_:=e3
 have hV':1<=V/\V<=6:=by simp at hV;omega
 obtain⟨m,rfl⟩: ∃z:Nat,m=(z:Int):=⟨m.toNat,by simp at hm;omega⟩
 have hm':m<=8:=by simp at hm;omega
 obtain⟨c4,cs,e4,g4,h4,h5⟩:=IE (n:=n) (V:=V) (by omega) (by omega) hr (0,(0,[])) n m Ad _ c3 [] (by unfold Ad;omega) g3 (by omega) (by simpa using hm') (by simp)
 have e4:AO Ad ((c3.1,(c3.2.1,c3.2.2)),(0,(0,[])),n,rels,(V,(n,[])),(m:Int))=_:=e4
 obtain⟨c5,x5,e5,g5,h50,h51,_⟩:=Ck g4 (by omega) 40 (by omega)
 have e5:Ae (c4.1,(c4.2.1,c4.2.2)) 40=_:=e5
 unfold B3
 simp only[e1,e2,e3,e4,e5,Option.bind_some]
 by_cases b0:x5=0
 ·obtain⟨c6,x6,e6,g6,hm6⟩:=CA g5 (by omega) (l:= [(-1),0,9,10]) (by simp) (by simp)
  have e6:Ab (c5.1,(c5.2.1,c5.2.2)) [(-1),0,9,10]=_:=e6
  rw[if_pos (by simpa using b0)]
  simp only[e6,Option.bind_some]
  refine⟨_,_,rfl,g6.mono (by omega),?_⟩
  have: -1<=x6/\x6<=10:=by simp at hm6;omega
  exact⟨this.1,this.2,n0,n1,by dsimp only;omega,λq hq=>(h5 q hq).mono (by omega)⟩
 ·rw[if_neg (by simpa using b0)]
  by_cases b1:x5=1
  ·rw[if_pos (by simpa using b1)]
   by_cases hl:0<cs.length
   ·have hi:inb 0 cs:=by unfold inb;omega
    have hg:gd cs 0 ([],(0,[]))=cs[0]:=AC (k:=0) hl
    have h0:=h5 _ (List.getElem_mem hl)
    have h1:((gd cs 0 ([],(0,[]))).1).length+ [(0:Nat)].length<=lim:=by
     rw[hg,List.length_singleton];have:=h0.1;unfold lim;omega
    rw[if_pos (show decide ((cs.length:Int)>0)=true by simp;omega),if_pos hi]
    simp only[hg]at h1⊢
    rw[if_pos h1,if_pos hi]
    simp only[if_true]
    refine⟨_,_,rfl,g5.mono (by omega),by dsimp only;omega,by dsimp only;omega,n0,n1,by dsimp only[stt];rw[List.length_set];omega,λq hq=>?_⟩
    rcases List.mem_or_eq_of_mem_set hq with hq|rfl
    ·exact(h5 q hq).mono (by omega)
    ·exact⟨by have:=h0.1;simp;omega,h0.2⟩
   ·rw[if_neg (by rw[decide_eq_true_eq];omega)]
    exact⟨_,_,rfl,g5.mono (by omega),by dsimp only;omega,by dsimp only;omega,n0,n1,by dsimp only;omega,λq hq=>(h5 q hq).mono (by omega)⟩
  ·rw[if_neg (by simpa using b1)]
   by_cases b2:x5=2
   ·rw[if_pos (by simpa using b2)]
    obtain⟨c6,x6,e6,g6,h60,h61,_⟩:=Ck g5 (by omega) 2 (by omega)
    have e6:Ae (c5.1,(c5.2.1,c5.2.2)) 2=_:=e6
    have h61:=h61 (by omega)
    have ew:w64 (40+x6)=40+x6:=Bp (by omega) (by omega)
    obtain⟨cs',e7,h7,h8⟩:=Ie (c:=c6) (t2:=(0,(0,[]))) (V:=V) (n:=n) (T:=40+x6) (by omega) (41-cs.length) Ad cs (by omega) (by unfold Ad;omega) h5
    have e7:Bk Ad ((c6.1,(c6.2.1,c6.2.2)),(0,(0,[])),(V,(n,cs)),40+x6)=_:=e7
    simp only[e6,Option.bind_some,ew,e7]
    exact⟨_,_,rfl,g6.mono (by omega),by dsimp only;omega,by dsimp only;omega,n0,n1,h7,λq hq=>(h8 q hq).mono (by omega)⟩
   ·rw[if_neg (by simpa using b2)]
    exact⟨_,_,rfl,g5.mono (by omega),by dsimp only;omega,by dsimp only;omega,n0,n1,by dsimp only;omega,λq hq=>(h5 q hq).mono (by omega)⟩
end T
open Go Go.Va
namespace T
theorem Ds {a:Net} (hb:B2 a=true): ∃(V n:Nat) (cs:List Con),a=((V:Int),((n:Int),cs))/\SrchOk V n cs:=by
 have hN:=EH hb
 obtain⟨v,nn,cs⟩:=a
 have hv:=hN.hv
 have hn:=hN.hn
 have hc:=hN.hc
 have hcon:=hN.con
 dsimp only at hv hn hc hcon
 obtain⟨V,rfl⟩: ∃V:Nat,v=(V:Int):=⟨v.toNat,by omega⟩
 obtain⟨n,rfl⟩: ∃n:Nat,nn=(n:Int):=⟨nn.toNat,by omega⟩
 exact⟨V,n,cs,rfl,by omega,by omega,hc,hcon⟩
theorem Iq {V n:Int} (hn:n<=100) (cs:List Con) (free:Bool): ∀(d f k x:Nat) (c:CR) (o:List Int),x+d=10->d<f->Cur k c->k+4*d<=1000000->o.length=x->
  ∃c' o',AJ f (c,free,(V,(n,cs)),o,(x:Int))=some (c',(V,(n,cs)),o')/\Cur (k+4*d) c'/\o'.length<=10:=by
 intro d
 induction d with
 |zero=>
  intro f k x c o hx hf hc hk hs
  obtain⟨f,rfl⟩: ∃z,f=z+1:=⟨f-1,by omega⟩
  refine⟨c,o,?_,hc,by omega⟩
  simp only[AJ]
  rw[if_neg (show¬decide ((x:Int)<10)=true by rw[decide_eq_true_eq];omega)]
  simp
 |succ d ih=>
  intro f k x c o hx hf hc hk hs
  obtain⟨f,rfl⟩: ∃z,f=z+1:=⟨f-1,by omega⟩
  simp only[AJ]
  by_cases h:(x:Int)<V
  ·obtain⟨m,e1,m1,m2,m3⟩:=FC n
   obtain⟨c1,y,e2,g2,_⟩:=Ck hc (by omega) m (by omega)
   have e2:Ae (c.1,(c.2.1,c.2.2)) m=_:=e2
   have fin: ∀(c2:CR) (y:Int),Cur (k+4) c2-> ∃c' o',(if o.length+ [y].length<=lim then AJ f (c2,free,(V,(n,cs)),o++ [y],w64 ((x:Int)+1))else none)=some (c',(V,(n,cs)),o')/\Cur (k+4*(d+1)) c'/\o'.length<=10:=λc2 y g=>by
    obtain⟨c',o',e3,g3,h3⟩:=ih f (k+4) (x+1) c2 (o++ [y]) (by omega) (by omega) g (by omega) (by simp;omega)
    refine⟨c',o',?_,g3.mono (by omega),h3⟩
    rw[if_pos (by rw[List.length_singleton];unfold lim;omega),Aw (by omega)]
    exact e3
   rw[if_pos (by simpa using h),if_pos (by simp;omega)]
   simp only[e1,Option.bind_some,e2]
   cases free with
   |false=>
    simp only[Bool.false_eq_true,if_false]
    exact fin c1 y (g2.mono (by omega))
   |true=>
    obtain⟨c2,z,e3,g3⟩:=D5 g2 (by omega) 3 (by omega)
    have e3:Av (c1.1,(c1.2.1,c1.2.2)) 3=_:=e3
    simp only[if_true,e3,Option.bind_some]
    cases z with
    |true=>
     simp only[Bool.not_true,Bool.false_eq_true,if_false]
     exact fin c2 y (g3.mono (by omega))
    |false=>
     simp only[Bool.not_false,if_true]
     exact fin c2 (-1) (g3.mono (by omega))
  ·exact⟨c,o,by rw[if_neg (by simpa using h)],hc.mono (by omega),by omega⟩
theorem Gt {k:Nat} {c:CR} (hc:Cur k c) (hk:k<=100000) {a:Net} (hn:a.2.1<=100) (free:Bool): ∃c' o,Cm c a free=some (c',o)/\Cur (k+100) c'/\o.length<=11:=by
 obtain⟨V,n,cs⟩:=a
 obtain⟨c1,o,e1,g1,h1⟩:=Iq (V:=V) hn cs free 10 Ad k 0 c [] (by omega) (by unfold Ad;omega) hc (by omega) rfl
 have e1:AJ Ad ((c.1,(c.2.1,c.2.2)),free,(V,(n,cs)),[],0)=_:=e1
 obtain⟨c2,x,e2,g2,_⟩:=Ck g1 (by omega) 30 (by omega)
 have e2:Ae (c1.1,(c1.2.1,c1.2.2)) 30=_:=e2
 unfold Cm
 simp only[e1,e2,Option.bind_some]
 by_cases b0:x=0
 ·rw[if_pos (by simpa using b0),if_pos (by rw[List.length_singleton];unfold lim;omega)]
  exact⟨_,_,rfl,g2.mono (by omega),by simp;omega⟩
 ·rw[if_neg (by simpa using b0)]
  by_cases b1:x=1
  ·rw[if_pos (by simpa using b1)]
   by_cases hl:0<o.length
   ·rw[if_pos (by rw[decide_eq_true_eq];omega)]
    obtain⟨c3,y,e3,g3,_⟩:=CA g2 (by omega) (l:= [(-2),(-1),n]) (by simp) (by simp)
    have e3:Ab (c2.1,(c2.2.1,c2.2.2)) [(-2),(-1),n]=_:=e3
    simp only[e3,Option.bind_some]
    rw[if_pos (by unfold inb;omega)]
    exact⟨_,_,rfl,g3.mono (by omega),by unfold stt;rw[List.length_set];omega⟩
   ·rw[if_neg (by rw[decide_eq_true_eq];omega)]
    exact⟨_,_,rfl,g2.mono (by omega),by omega⟩
  ·rw[if_neg (by simpa using b1)]
   exact⟨_,_,rfl,g2.mono (by omega),by omega⟩
end T
open Go Go.Va
namespace T
section
variable {V n:Nat} {cs:List Con} {t:List Int} {a:Net}
theorem HP (hS:SrchOk V n cs):t∈AB V n cs (List.replicate V (-1))↔t.length=V/\(∀u,u<V->0<=t.getD u 0/\t.getD u 0<(n:Int))/\ ∀c∈cs,Cn t c=true:=by
 unfold AB
 rw[DA]
 simp only[List.length_nil,Nat.zero_add,List.take_zero,true_and,Nat.zero_le,true_implies]
 constructor
 ·rintro ⟨h1,h2⟩
  refine⟨h1,λu hu=>(h2 u (by omega)).1,λc hc=>?_⟩
  have hm:c∈AK cs (BV c):=DK.2 ⟨hc,rfl⟩
  have hlt:=(DJ hS hm).2
  have:=(h2 (BV c) (by omega)).2.2
  rw[E9 hS (by omega),List.all_eq_true]at this
  exact this c hm
 ·rintro ⟨h1,h2,h3⟩
  refine⟨h1,λq hq=>⟨by have:=h2 q (by omega);omega,E7 (by omega),?_⟩⟩
  rw[E9 hS hq,List.all_eq_true]
  exact λc hc=>h3 c (DK.1 hc).1
end
end T
open Go Go.Va
namespace T
section
variable {V n:Nat} {cs:List Con} {a:Net}
def asB (a:Net) (v:List Int):Bool:=decide ((v.length:Int)=a.1)&&Bf a.2.1 v
theorem D3 {v:List Int} (hl:v.length<=1048576):Cf a v=some (asB a v):=by
 unfold Cf asB
 by_cases h:(v.length:Int)=a.1
 ·rw[if_pos (by simpa using h),C9 _ (by omega),decide_eq_true h];rfl
 ·rw[if_neg (by simpa using h),decide_eq_false h];rfl
theorem Ei {v:List Int} (hl:v.length<=1048576) (hn:0<=a.2.1/\a.2.1<=100):Cs a v=some (asB a v):=by
 unfold Cs asB
 by_cases h:(v.length:Int)=a.1
 ·rw[if_pos (by simpa using h),Cz (by omega) (by omega) (by omega),decide_eq_true h];rfl
 ·rw[if_neg (by simpa using h),decide_eq_false h];rfl
def fuV (a:Net) (v:List Int):Int×Bool:=if B2 a&&asB a v then(if Fk a v<0 then(0,false)else(Fk a v,true))else(0,false)
def isV (a:Net) (v:List Int):Bool×Bool:=if B2 a&&asB a v then(decide (Fk a v<0),true)else(false,false)
theorem IL (h:Ey a) {v:List Int} (hl:v.length<=1048576):
  Dd a v=some (fuV a v)/\De a v=some (fuV a v)/\C1 a v=some (isV a v)/\DW a v=some (isV a v):=by
 unfold Dd De C1 DW fuV isV
 rw[Bs (a:=(a.1,(a.2.1,a.2.2))) h,BH (a:=(a.1,(a.2.1,a.2.2))) h]
 rw[show B2 (a.1,(a.2.1,a.2.2))=B2 a from rfl]
 cases hb:B2 a with
 |false=>simp
 |true=>
  have hN:=EH hb
  have hn:=hN.hn
  have e1:Cf (a.1,(a.2.1,a.2.2)) v=_:=D3 (a:=a) hl
  have e2:Cs (a.1,(a.2.1,a.2.2)) v=_:=Ei (a:=a) hl (by omega)
  simp only[Option.bind_some,Bool.not_true,Bool.false_eq_true,if_false,e1,e2,Bool.true_and]
  cases hA:asB a v with
  |false=>simp
  |true=>
   have hv:(v.length:Int)=a.1:=by
    unfold asB at hA
    rw[Bool.and_eq_true]at hA
    exact of_decide_eq_true hA.1
   simp only[Option.bind_some,Bool.not_true,Bool.false_eq_true,if_false,if_true,Eg hN hv,EK hN hv,decide_eq_true_eq]
   by_cases hf:Fk a v<0<;>simp[hf]
end
end T
set_option linter.unusedVariables false
open Go Go.Va
namespace T
def BW (net:Int×Int×(List ((List Int)×Int×(List (List Int))))):Option ((List (List Int))×Bool):=
 (BZ (net.1,(net.2.1,net.2.2))).bind λr1=>
 if !r1 then
 some ([],false)
 else
 (CX net.1).bind λr2=>
 (BY (net.1,(net.2.1,net.2.2)) net.2.2 r2 300 false).bind λr3=>
 if decide (r3.2.1>300)then
 some ([],false)
 else
 if([]:List (List Int)).length+r3.1.length<=lim then
 some ([]++r3.1,true)
 else none
def Bt:Nat->((List Int)×(Int×Int×(List ((List Int)×Int×(List (List Int)))))×(List Int)×Int×Int)->Option (((List Int)×(Int×Int×(List ((List Int)×Int×(List (List Int))))))⊕((List Int)×Bool))
 |0,_=>none
 |n+1,(partial_,net,t20,t21,t22)=>
 if decide (t22<t21)then
 if inb t22 t20 then
 if decide ((gd t20 t22 0)<(-1))then
 some (.inr ([],false))
 else
 if decide ((gd t20 t22 0)≥net.2.1)then
 some (.inr ([],false))
 else
 Bt n (partial_,(net.1,(net.2.1,net.2.2)),t20,t21,w64 (t22+1))
 else none
 else
 some (.inl (partial_,(net.1,(net.2.1,net.2.2))))
def Cv (net:Int×Int×(List ((List Int)×Int×(List (List Int))))) (partial_:List Int):Option ((List Int)×Bool):=
 (BA (net.1,(net.2.1,net.2.2))).bind λr1=>
  if !r1 then
   some ([],false)
  else
   if(partial_.length:Int) !=net.1 then
    some ([],false)
   else
    (Bt Ad (partial_,(net.1,(net.2.1,net.2.2)),partial_,(partial_.length:Int),0)).bind λs2=>
     match s2 with
     | .inl s3=>
      (C5 (s3.2.1,(s3.2.2.1,s3.2.2.2)) s3.1).bind λr5=>
       if !r5.1 then
        some ([],false)
       else
        some (r5.2,true)
     | .inr s4=>
      some (s4.1,s4.2)
end T
set_option linter.unusedVariables false
open Go Go.Va
namespace T
def BN:Nat->((List Int)×(Int×Int×(List ((List Int)×Int×(List (List Int)))))×Int)->Option (((List Int)×(Int×Int×(List ((List Int)×Int×(List (List Int))))))⊕(Bool))
 |0,_=>none
 |n+1,(partial_,net,i)=>
 if decide (i<(partial_.length:Int))then
 if inb i partial_ then
 (CH (gd partial_ i 0) (-1) (w64 (net.2.1-1))).bind λr1=>
 if !r1 then
 some (.inr false)
 else
 BN n (partial_,(net.1,(net.2.1,net.2.2)),w64 (i+1))
 else none
 else
 some (.inl (partial_,(net.1,(net.2.1,net.2.2))))
def C3 (net:Int×Int×(List ((List Int)×Int×(List (List Int))))) (partial_:List Int):Option (Bool):=
 (BN Ad (partial_,(net.1,(net.2.1,net.2.2)),0)).bind λs1=>
  match s1 with
  | .inl s2=>
   some ((s2.1.length:Int)==s2.2.1)
  | .inr s3=>
   some s3
def Cy (net:Int×Int×(List ((List Int)×Int×(List (List Int))))) (partial_:List Int):Option ((List Int)×Bool):=
 (BZ (net.1,(net.2.1,net.2.2))).bind λr1=>
 if !r1 then
 some ([],false)
 else
 (C3 (net.1,(net.2.1,net.2.2)) partial_).bind λr2=>
 if !r2 then
 some ([],false)
 else
 (BY (net.1,(net.2.1,net.2.2)) net.2.2 partial_ 1 true).bind λr3=>
 if r3.2.1==0 then
 some ([],false)
 else
 if inb 0 r3.1 then
 some (gd r3.1 0 [],true)
 else none
end T
open Go Go.Va
namespace T
section
variable {a:Net} {V n:Nat} {cs:List Con}
def Yib (a:Net) (p:List Int):Bool:=decide ((p.length:Int)=a.1)&&p.all λx=>decide (-1<=x/\x<a.2.1)
def fsV (a:Net) (p:List Int):List Int×Bool:=
 if B2 a&&Yib a p then(match AB a.1.toNat a.2.1.toNat a.2.2 p with| []=>([],false)|t::_=>(t,true))else([],false)
theorem DX (h:Ey a) {p:List Int} (hl:p.length<=1048576):Cv a p=some (fsV a p):=by
 unfold Cv fsV
 rw[Bs (a:=(a.1,(a.2.1,a.2.2))) h]
 rw[show B2 (a.1,(a.2.1,a.2.2))=B2 a from rfl]
 cases hb:B2 a with
 |false=>simp
 |true=>
  simp only[Option.bind_some,Bool.not_true,Bool.false_eq_true,if_false,Bool.true_and]
  unfold Yib
  by_cases he:(p.length:Int)=a.1
  ·rw[if_neg (by simpa using he),decide_eq_true he]
   have:=Gu p (λf i=>Bt f (p,a,p,(p.length:Int),i)) (λx=>decide (-1<=x/\x<a.2.1)) (.inr ([],false)) (.inl (p,a)) (λf k hk=>?_) (λf=>?_) (n:=Ad) (by unfold Ad;omega)
   ·have this:Bt Ad (p,(a.1,(a.2.1,a.2.2)),p,(p.length:Int),0)=_:=this
    rw[this]
    cases hp:p.all λx=>decide (-1<=x/\x<a.2.1)with
    |false=>simp
    |true=>
     obtain⟨V,n,cs,rfl,hS⟩:=Ds hb
     have e:=Ga hS (given:=p) (by dsimp only at he;omega)
     simp only[Option.bind_some,if_true,e,Bool.and_self,Int.toNat_natCast]
     cases AB V n cs p with
     |nil=>simp[FN]
     |cons t l=>simp[FN]
   ·simp only[Bt,AA,hk,AC hk,if_true,Aw (show k<4611686018427387904 by omega)]
    rw[if_pos (by rw[decide_eq_true_eq];omega)]
    by_cases h1:p[k]< -1
    ·rw[if_pos (decide_eq_true h1),if_neg (by rw[decide_eq_true_eq];omega)]
    ·rw[if_neg (by simpa using h1)]
     by_cases h2:p[k]≥a.2.1
     ·rw[if_pos (decide_eq_true h2),if_neg (by rw[decide_eq_true_eq];omega)]
     ·rw[if_neg (by simpa using h2),if_pos (by rw[decide_eq_true_eq];omega)]
   ·simp only[Bt]
    rw[if_neg (by simp)]
  ·rw[if_pos (by simpa using he),decide_eq_false he];simp
theorem GD {p:List Int} (h:SrchOk V n cs) (hp:p.length=V): ∃s:S19,BY ((V:Int),((n:Int),cs)) cs p 1 true=some s/\(AB V n cs p= []->s.2.1=0)/\ ∀t l,AB V n cs p=t::l->s.2.1=1/\s.1= [t]:=by
 cases hs:AB V n cs p with
 |nil=>exact⟨_,Dt (cs0:=cs) (given:=p) (most:=1) (one:=true) h hp (by omega) (s':=([],0,1,true)) (b:=true) (by rw[hs];rfl),λ_=>rfl,λt l e=>(by cases e)⟩
 |cons t l=>exact⟨_,Dt (cs0:=cs) (given:=p) (most:=1) (one:=true) h hp (by omega) (s':=([t],1,1,true)) (b:=false) (by rw[hs];rfl),λe=>(by cases e),λt' l' e=>by cases e;exact⟨rfl,rfl⟩⟩
theorem Eo {p:List Int} (hl:p.length<=1048576) (hn:0<=a.2.1/\a.2.1<=100):C3 a p=some (Yib a p):=by
 unfold C3 Yib
 have:=Gu p (λf i=>BN f (p,a,i)) (λx=>decide (-1<=x/\x<a.2.1)) (.inr false) (.inl (p,a)) (λf k hk=>?_) (λf=>?_) (n:=Ad) (by unfold Ad;omega)
 ·have this:BN Ad (p,(a.1,(a.2.1,a.2.2)),0)=_:=this
  rw[this]
  cases hp:p.all λx=>decide (-1<=x/\x<a.2.1)with
  |false=>simp
  |true=>
   simp only[Option.bind_some,if_true,Bool.and_true]
   congr 1
 ·have ew:w64 (a.2.1-1)=a.2.1-1:=Bp (by omega) (by omega)
  simp only[BN,AA,hk,AC hk,if_true,Ch,Option.bind_some,ew,Aw (show k<4611686018427387904 by omega)]
  rw[if_pos (by rw[decide_eq_true_eq];omega)]
  by_cases h1: -1<=p[k]/\p[k]<a.2.1
  ·rw[decide_eq_true h1,decide_eq_true (show-1<=p[k]/\p[k]<=a.2.1-1 by omega)];rfl
  ·rw[decide_eq_false h1,decide_eq_false (show¬(-1<=p[k]/\p[k]<=a.2.1-1) by omega)];rfl
 ·simp only[BN]
  rw[if_neg (by simp)]
theorem DY (h:Ey a) {p:List Int} (hl:p.length<=1048576):Cy a p=some (fsV a p):=by
 unfold Cy fsV
 rw[BH (a:=(a.1,(a.2.1,a.2.2))) h]
 rw[show B2 (a.1,(a.2.1,a.2.2))=B2 a from rfl]
 cases hb:B2 a with
 |false=>simp
 |true=>
  have hn:=(EH hb).hn
  have e1:C3 (a.1,(a.2.1,a.2.2)) p=_:=Eo (a:=a) hl (by omega)
  simp only[Option.bind_some,Bool.not_true,Bool.false_eq_true,if_false,Bool.true_and,e1]
  cases hp:Yib a p with
  |false=>simp
  |true=>
   have hp':=hp
   unfold Yib at hp'
   rw[Bool.and_eq_true]at hp'
   have he:=of_decide_eq_true hp'.1
   obtain⟨V,n,cs,rfl,hS⟩:=Ds hb
   obtain⟨s,e2,e3,e4⟩:=GD (p:=p) hS (by dsimp only at he;omega)
   simp only[Option.bind_some,Bool.not_true,Bool.false_eq_true,if_false,e2,if_true,Int.toNat_natCast]
   cases hs:AB V n cs p with
   |nil=>
    rw[if_pos (by simpa using e3 hs)]
   |cons t l=>
    obtain⟨f1,f2⟩:=e4 t l hs
    rw[f1,f2];rfl
end
end T
open Go Go.Va
namespace T
section
variable {a:Net} {V n:Nat} {cs:List Con} {vals x y:List Int}
theorem H3 (h: ∀c∈a.2.2,Cn vals c=true):Fk a vals<0:=by
 unfold Fk
 cases hf:(List.range' 0 a.2.2.length).find? (λk=>!Cn vals (a.2.2.getD k G5))with
 |none=>simp
 |some k=>
  have h1:=List.find?_some hf
  have h2:=List.mem_of_find?_eq_some hf
  rw[List.mem_range'_1]at h2
  have hk:k<a.2.2.length:=by omega
  rw[AF hk]at h1
  have:=h _ (List.getElem_mem hk)
  rw[this]at h1;simp at h1
theorem Hz (hb:B2 a=true) (hA:asB a vals=true) (h: ∀c∈a.2.2,Cn vals c=true):isV a vals=(true,true):=by
 unfold isV
 rw[hb,hA,Bool.and_self,if_pos rfl,decide_eq_true (H3 h)]
theorem Iy (hl:vals.length=V) (hv: ∀u,u<V->0<=vals.getD u 0/\vals.getD u 0<(n:Int)):asB ((V:Int),((n:Int),cs)) vals=true:=by
 unfold asB Bf
 rw[Bool.and_eq_true,decide_eq_true_eq,List.all_eq_true]
 refine⟨by dsimp only;omega,λx hx=>?_⟩
 obtain⟨u,hu,rfl⟩:=List.mem_iff_getElem.1 hx
 have:=hv u (by omega)
 rw[AF hu]at this
 exact decide_eq_true this
theorem H8 (hS:SrchOk V n cs) (hx:x∈AB V n cs (List.replicate V (-1))):isV ((V:Int),((n:Int),cs)) x=(true,true):=by
 obtain⟨h1,h2,h3⟩:=(HP hS).1 hx
 exact Hz (Df hS) (Iy h1 h2) h3
end
end T
open Go Go.Va
namespace T
theorem D9 {V n:Nat} {cs:List Con} (hs:Ey ((V:Int),((n:Int),cs))) (h:SrchOk V n cs):BW ((V:Int),((n:Int),cs))=some (FV (AB V n cs (List.replicate V (-1)))):=by
 have hV:=h.hv
 unfold BW
 rw[BH (a:=((V:Int),((n:Int),cs))) hs,Df h]
 simp only[Option.bind_some,Bool.not_true,Bool.false_eq_true,if_false,Eu (show V<=1000 by omega)]
 have key: ∀(l:List (List Int)) (s:List (List Int)) (k:Int),k=(s.length:Int)∨300<k->0<=k-> ∃s' b,Bq EN l (s,k,300,false)=some ((s',k+l.length,300,false),b)/\(k+l.length<=300->k=(s.length:Int)->s'=s++l):=by
  intro l
  induction l with
  |nil=>intro s k _ _;exact⟨s,true,by simp[Bq],λ_ _=>by simp⟩
  |cons t l ih=>
   intro s k hk h0
   have hst:Dz ((if decide ((s.length:Int)<300)then s++ [t]else s,k+1,300,false):S19)=false:=rfl
   obtain⟨s',b,e,h3⟩:=ih (if decide ((s.length:Int)<300)then s++ [t]else s) (k+1) (by
    rcases hk with hk|hk
    ·by_cases hl:(s.length:Int)<300
     ·left;rw[if_pos (decide_eq_true hl)];simp;omega
     ·right;omega
    ·right;omega) (by omega)
   refine⟨s',b,?_,λh4 h5=>?_⟩
   ·simp only[Bq,EN,hst,Bool.not_false]
    rw[List.length_cons]
    push_cast
    rw[show k+((l.length:Int)+1)=k+1+(l.length:Int) by omega]
    exact e
   ·rw[List.length_cons]at h4
    push_cast at h4
    have hl:(s.length:Int)<300:=by omega
    rw[if_pos (decide_eq_true hl)]at h3
    have:=h3 (by omega) (by simp;omega)
    rw[this];simp
 obtain⟨s',b,e,h3⟩:=key (AB V n cs (List.replicate V (-1))) [] 0 (.inl (by simp)) (by omega)
 have e5:=Dt (cs0:=cs) (given:=List.replicate V (-1)) (most:=300) (one:=false) h (by simp) (by omega) e
 rw[e5]
 simp only[Option.bind_some,FV]
 by_cases hl:(AB V n cs (List.replicate V (-1))).length<=300
 ·have:=h3 (by omega) (by simp)
  subst this
  rw[if_neg (by rw[decide_eq_true_eq];omega),if_pos (by simp;unfold lim;omega),if_pos hl];simp
 ·rw[if_pos (by rw[decide_eq_true_eq];omega),if_neg hl]
theorem ED {a:Net} (hs:Ey a): ∃R:List (List Int)×Bool,BR a=some R/\BW a=some R/\(B2 a=false->R=([],false))/\ ∀(V n:Nat) (cs:List Con),a=((V:Int),((n:Int),cs))->SrchOk V n cs->R=FV (AB V n cs (List.replicate V (-1))):=by
 cases hb:B2 a with
 |false=>
  refine⟨([],false),?_,?_,λ_=>rfl,λV n cs e h=>?_⟩
  ·unfold BR
   rw[Bs (a:=(a.1,(a.2.1,a.2.2))) hs,show B2 (a.1,(a.2.1,a.2.2))=B2 a from rfl,hb];rfl
  ·unfold BW
   rw[BH (a:=(a.1,(a.2.1,a.2.2))) hs,show B2 (a.1,(a.2.1,a.2.2))=B2 a from rfl,hb];rfl
  ·rw[e,Df h]at hb;exact absurd hb (by simp)
 |true=>
  obtain⟨V,n,cs,rfl,hS⟩:=Ds hb
  refine⟨_,G0 hS,D9 hs hS,λh=>(by cases h),λV' n' cs' e h=>?_⟩
  simp only[Prod.mk.injEq]at e
  obtain⟨e1,e2,rfl⟩:=e
  obtain rfl:V=V':=by omega
  obtain rfl:n=n':=by omega
  rfl
end T
open Go Go.Va
namespace T
section
variable {a:Net} {K:Nat} {c:Con} {i p n:Nat} {st:ASt}
def HS (d:Dom) (V:Nat) (t:List Int):Prop:= ∀u,u<V->d2 d u (t.getD u 0).toNat=true
end
end T
open Go Go.Va
namespace T
section
variable {a:Net} {n s:Nat} {t:T4} {u:T3}
def IW (a:Net) (i j k x y z:Nat):Prop:= ∀c∈a.2.2,(∀v∈c.1,v=(i:Int)∨v=(j:Int)∨v=(k:Int))-> ∀vs:List Int,CY vs (i:Int)=(x:Int)->CY vs (j:Int)=(y:Int)->CY vs (k:Int)=(z:Int)->Cn vs c=true
structure Fam (a:Net) (n s:Nat) (S:Nat->Nat->Nat->Nat->Prop):Prop where
 sym: ∀i j x y,S i j x y->S j i y x
 first: ∀i j x y,i<j->j<n->x<s->y<s->S i j x y->fB a n i j x y=true
 path: ∀i j k x y,i<n->j<n->k<n->i≠j->k≠i->k≠j->x<s->y<s->S i j x y-> ∃z,z<s/\S i k x z/\S j k y z/\IW a i j k x y z
structure MinP (a:Net) (n s:Nat) (t:T4) (u:T3):Prop where
 rel:Rel34 n s t u
 sym: ∀i j x y,i<n->j<n->i≠j->x<s->y<s->r4 t i j x y=r4 t j i y x
 first: ∀i j x y,i<n->j<n->i≠j->x<s->y<s->r4 t i j x y=true->fB a n i j x y=true
 path: ∀i j k x y,i<n->j<n->k<n->i≠j->k≠i->k≠j->x<s->y<s->r4 t i j x y=true-> ∃z,z<s/\r4 t i k x z=true/\r4 t j k y z=true/\IW a i j k x y z
 all: ∀S,Fam a n s S-> ∀i j x y,i<n->j<n->i≠j->x<s->y<s->S i j x y->r4 t i j x y=true
end
end T
open Go Go.Va
namespace T
section
variable {a:Net} {n s:Nat} {t:T4} {u:T3} {F:Nat->Nat->Nat->Nat}
theorem Iv (hM:MinP a n s t u) {w w' v x y:Nat} (hw:w<n) (hw':w'<n) (hv:v<n) (h1:w≠w') (h2:w≠v) (h3:w'≠v) (hx:x<s) (hy:y<s) (h:r4 t w' v y x=true): ∃z,z<s/\r4 t w v z x=true:=by
 obtain⟨z,hz,_,q,_⟩:=hM.path w' v w y x hw' hv hw h3 h1 h2 hy hx h
 exact⟨z,hz,by rw[hM.sym w v z x hw hv h2 hz hx];exact q⟩
theorem Jb (p q:Nat): ∃w,w<3/\w≠p/\w≠q:=by
 by_cases h0:0≠p/\0≠q
 ·exact⟨0,by omega,h0.1,h0.2⟩
 ·by_cases h1:1≠p/\1≠q
  ·exact⟨1,by omega,h1.1,h1.2⟩
  ·exact⟨2,by omega,by omega,by omega⟩
end
end T
set_option linter.unusedVariables false
open Go Go.Va
namespace T
def Cw (code:List Int):Option ((Int×Int×(List ((List Int)×Int×(List (List Int)))))×(List Int)):=
 (B3 (code,(0,0))).bind λr1=>
 (Cm (r1.1.1,(r1.1.2.1,r1.1.2.2)) (r1.2.1,(r1.2.2.1,r1.2.2.2)) true).bind λr2=>
 some ((r1.2.1,(r1.2.2.1,r1.2.2.2)),r2.2)
def BF (net:Int×Int×(List ((List Int)×Int×(List (List Int))))):Option (Int×Bool):=
 (BZ (net.1,(net.2.1,net.2.2))).bind λr1=>
 if !r1 then
 some (0,false)
 else
 (CX net.1).bind λr2=>
 (BY (net.1,(net.2.1,net.2.2)) net.2.2 r2 0 false).bind λr3=>
 some (r3.2.1,true)
def AR:Nat->((Int×(Int×(List ((List Int)×Int×(List (List Int))))))×((List Int)×Int×Int)×(Int×Int×(List ((List Int)×Int×(List (List Int)))))×(List Int)×Int)->Option ((Int×(Int×(List ((List Int)×Int×(List (List Int))))))×((List Int)×Int×Int)×(Int×Int×(List ((List Int)×Int×(List (List Int)))))×(List Int))
 |0,_=>none
 |n+1,(t2,c,net,vars,n_)=>
 if decide (n_>0)then
 (BI net.1 1).bind λr4=>
 (Ae (c.1,(c.2.1,c.2.2)) r4).bind λr5=>
 if vars.length+ [r5.2].length<=lim then
 AR n ((t2.1,(t2.2.1,t2.2.2)),(r5.1.1,(r5.1.2.1,r5.1.2.2)),(net.1,(net.2.1,net.2.2)),vars++ [r5.2],w64 (n_-1))
 else none
 else
 some ((t2.1,(t2.2.1,t2.2.2)),(c.1,(c.2.1,c.2.2)),(net.1,(net.2.1,net.2.2)),vars)
def Ag (code:List Int):Option ((Int×Int×(List ((List Int)×Int×(List (List Int)))))×(List Int)):=
 (B3 (code,(0,0))).bind λr1=>
 (Ae (r1.1.1,(r1.1.2.1,r1.1.2.2)) 24).bind λr2=>
 if(11:Int)≠0 then
 if(0:Int)<=0/\0<=(w64 (4+(w64 (Int.tdiv r2.2 11))))/\(w64 (4+(w64 (Int.tdiv r2.2 11))))<=([1,2,2,3,0,4].length:Int)then
 (Ab (r2.1.1,(r2.1.2.1,r2.1.2.2)) (([1,2,2,3,0,4].take (Int.toNat (w64 (4+(w64 (Int.tdiv r2.2 11)))))).drop (Int.toNat 0))).bind λr3=>
 (AR Ad ((0,(0,[])),(r3.1.1,(r3.1.2.1,r3.1.2.2)),(r1.2.1,(r1.2.2.1,r1.2.2.2)),[],r3.2)).bind λs4=>
 (Av (s4.2.1.1,(s4.2.1.2.1,s4.2.1.2.2)) 20).bind λr5=>
 if r5.2 then
 (Ab (r5.1.1,(r5.1.2.1,r5.1.2.2)) [(-1),s4.2.2.1.1]).bind λr6=>
 some ((s4.2.2.1.1,(s4.2.2.1.2.1,s4.2.2.1.2.2)),[r6.2])
 else
 some ((s4.2.2.1.1,(s4.2.2.1.2.1,s4.2.2.1.2.2)),s4.2.2.2)
 else none
 else none
def CI (values:List Int) (t1:(List Int)×Int×(List (List Int))) (t2:Bool):Option (Bool×Bool):=
 (Bi t1.1 values).bind λr1=>
 (Di t1.2 r1).bind λr2=>
 some (r2,r2)
def Ap (rec:(Int×(List Int)×(((List Int)×Int×(List (List Int)))×Bool)×(Bool×Int×(List (List (List Int)))×(List (List (List ByteArray))))×(List Int)×Unit)->Option ((List Int)×(Unit×Bool)×(Bool×Int×(List (List (List Int)))×(List (List (List ByteArray))))×(List Int)×Bool)):Nat->(Int×(List Int)×(((List Int)×Int×(List (List Int)))×Bool)×(Bool×Int×(List (List (List Int)))×(List (List (List ByteArray))))×(List Int)×Unit×Int×Bool×(List (List Int))×Int×Int)->Option (Int×(List Int)×(((List Int)×Int×(List (List Int)))×Bool)×(Bool×Int×(List (List (List Int)))×(List (List (List ByteArray))))×(List Int)×Unit×Int×Bool)
 |0,_=>none
 |n+1,(t0,t1,t2,t3,t4,t5,t8,t9,t50,t51,t52)=>
 if decide (t52<t51)then
 if inb t52 t50 then
 if t9 then
 if t3.1=true then
 if inb t0 t3.2.2.2 then
 if inb t52 (gd t3.2.2.2 t0 [])then
 (Bi (gd t50 t52 []) t1).bind λr2=>
 (BX r2).bind λr3=>
 Ap rec n (t0,t1,(t2.1,t2.2),t3,t4,(),t8,Xs (gd (gd t3.2.2.2 t0 []) t52 []) r3,t50,t51,w64 (t52+1))
 else none
 else none
 else none
 else
 Ap rec n (t0,t1,(t2.1,t2.2),t3,t4,(),t8,false,t50,t51,w64 (t52+1))
 else none
 else
 some (t0,t1,(t2.1,t2.2),t3,t4,(),t8,t9)
def Ai (rec:(Int×(List Int)×(((List Int)×Int×(List (List Int)))×Bool)×(Bool×Int×(List (List (List Int)))×(List (List (List ByteArray))))×(List Int)×Unit)->Option ((List Int)×(Unit×Bool)×(Bool×Int×(List (List (List Int)))×(List (List (List ByteArray))))×(List Int)×Bool)):Nat->(Int×(List Int)×(((List Int)×Int×(List (List Int)))×Bool)×(Bool×Int×(List (List (List Int)))×(List (List (List ByteArray))))×(List Int)×Unit×Int)->Option (((List Int)×(((List Int)×Int×(List (List Int)))×Bool)×(Bool×Int×(List (List (List Int)))×(List (List (List ByteArray))))×(List Int)×Unit)⊕((List Int)×(((List Int)×Int×(List (List Int)))×Bool)×(Bool×Int×(List (List (List Int)))×(List (List (List ByteArray))))×(List Int)×Unit×Bool))
 |0,_=>none
 |n+1,(t0,t1,t2,t3,t4,t5,t8)=>
 if t3.1=true then
 if decide (t8<t3.2.1)then
 if inb t0 t4 then
 if decide ((gd t4 t0 0)≥0)then
 if inb t0 t4 then
 if(gd t4 t0 0) !=t8 then
 Ai rec n (t0,t1,(t2.1,t2.2),t3,t4,(),w64 (t8+1))
 else
 if inb t0 t1 then
 if t3.1=true then
 if inb t0 t3.2.2.1 then
 (Ap rec Ad (t0,stt t1 t0 t8,(t2.1,t2.2),t3,t4,(),t8,true,gd t3.2.2.1 t0 [],((gd t3.2.2.1 t0 []).length:Int),0)).bind λs2=>
 if s2.2.2.2.2.2.2.2 then
 (rec (w64 (s2.1+1),s2.2.1,(s2.2.2.1.1,s2.2.2.1.2),s2.2.2.2.1,s2.2.2.2.2.1,())).bind λr3=>
 if !r3.2.2.2.2 then
 some (.inr (r3.1,(s2.2.2.1.1,r3.2.1.2),r3.2.2.1,r3.2.2.2.1,(),false))
 else
 Ai rec n (s2.1,r3.1,(s2.2.2.1.1,r3.2.1.2),r3.2.2.1,r3.2.2.2.1,(),w64 (s2.2.2.2.2.2.2.1+1))
 else
 Ai rec n (s2.1,s2.2.1,(s2.2.2.1.1,s2.2.2.1.2),s2.2.2.2.1,s2.2.2.2.2.1,(),w64 (s2.2.2.2.2.2.2.1+1))
 else none
 else none
 else none
 else none
 else
 if inb t0 t1 then
 if t3.1=true then
 if inb t0 t3.2.2.1 then
 (Ap rec Ad (t0,stt t1 t0 t8,(t2.1,t2.2),t3,t4,(),t8,true,gd t3.2.2.1 t0 [],((gd t3.2.2.1 t0 []).length:Int),0)).bind λs4=>
 if s4.2.2.2.2.2.2.2 then
 (rec (w64 (s4.1+1),s4.2.1,(s4.2.2.1.1,s4.2.2.1.2),s4.2.2.2.1,s4.2.2.2.2.1,())).bind λr5=>
 if !r5.2.2.2.2 then
 some (.inr (r5.1,(s4.2.2.1.1,r5.2.1.2),r5.2.2.1,r5.2.2.2.1,(),false))
 else
 Ai rec n (s4.1,r5.1,(s4.2.2.1.1,r5.2.1.2),r5.2.2.1,r5.2.2.2.1,(),w64 (s4.2.2.2.2.2.2.1+1))
 else
 Ai rec n (s4.1,s4.2.1,(s4.2.2.1.1,s4.2.2.1.2),s4.2.2.2.1,s4.2.2.2.2.1,(),w64 (s4.2.2.2.2.2.2.1+1))
 else none
 else none
 else none
 else none
 else
 some (.inl (t1,(t2.1,t2.2),t3,t4,()))
 else none
def Bu (rec:(Int×(List Int)×(((List Int)×Int×(List (List Int)))×Bool)×(Bool×Int×(List (List (List Int)))×(List (List (List ByteArray))))×(List Int)×Unit)->Option ((List Int)×(Unit×Bool)×(Bool×Int×(List (List (List Int)))×(List (List (List ByteArray))))×(List Int)×Bool)) (t0:Int) (t1:List Int) (t2:((List Int)×Int×(List (List Int)))×Bool) (t3:Bool×Int×(List (List (List Int)))×(List (List (List ByteArray)))) (t4:List Int) (t5:Unit):Option ((List Int)×(Unit×Bool)×(Bool×Int×(List (List (List Int)))×(List (List (List ByteArray))))×(List Int)×Bool):=
 if t0==(t1.length:Int)then
  (CI t1 t2.1 t2.2).bind λr1=>
   some (t1,((),r1.1),t3,t4,r1.2)
 else
  (Ai rec Ad (t0,t1,(t2.1,t2.2),t3,t4,(),0)).bind λs2=>
   match s2 with
   | .inl s3=>
    some (s3.1,((),s3.2.1.2),s3.2.2.1,s3.2.2.2.1,true)
   | .inr s4=>
    some (s4.1,((),s4.2.1.2),s4.2.2.1,s4.2.2.2.1,s4.2.2.2.2.2)
def AM:Nat->(Int×(List Int)×(((List Int)×Int×(List (List Int)))×Bool)×(Bool×Int×(List (List (List Int)))×(List (List (List ByteArray))))×(List Int)×Unit)->Option ((List Int)×(Unit×Bool)×(Bool×Int×(List (List (List Int)))×(List (List (List ByteArray))))×(List Int)×Bool)
 |0,_=>none
 |d+1,x=>Bu (AM d) x.1 x.2.1 x.2.2.1 x.2.2.2.1 x.2.2.2.2.1 x.2.2.2.2.2
def BU (s:Bool×Int×(List (List (List Int)))×(List (List (List ByteArray)))) (partial_:List Int) (found:((List Int)×Int×(List (List Int)))×Bool):Option ((Unit×Bool)):=
 if 0<=(partial_.length:Int)/\(partial_.length:Int)<=(partial_.length:Int)/\(partial_.length:Int)<=lim then
 (AM Ad (0,List.replicate (Int.toNat (partial_.length:Int)) (0:Int),(found.1,found.2),s,partial_,())).bind λr1=>
 some ((),r1.2.1.2)
 else none
def AU (net:Int×Int×(List ((List Int)×Int×(List (List Int))))) (found:((List Int)×Int×(List (List Int)))×Bool):Option ((Unit×Bool)):=
 (BC (net.1,(net.2.1,net.2.2))).bind λr1=>
 (Co net.1).bind λr2=>
 (BU r1 r2 (found.1,found.2)).bind λr3=>
 some ((),r3.2)
def Aa (net:Int×Int×(List ((List Int)×Int×(List (List Int))))) (c:(List Int)×Int×(List (List Int))):Option (Bool×Bool):=
 (BA (net.1,(net.2.1,net.2.2))).bind λr1=>
 if !r1 then
 some (false,false)
 else
 (Cg net.1 net.2.1 (c.1,(c.2.1,c.2.2))).bind λr2=>
 if !r2 then
 some (false,false)
 else
 (AU (net.1,(net.2.1,net.2.2)) ((c.1,(c.2.1,c.2.2)),true)).bind λr3=>
 some (r3.2,true)
def AN:Nat->((Int×(Int×(List ((List Int)×Int×(List (List Int))))))×((List Int)×(Int×(List (List Int))))×((List Int)×Int×Int)×(Int×Int×(List ((List Int)×Int×(List (List Int)))))×((List Int)×(Int×(List (List Int))))×Int)->Option ((Int×(Int×(List ((List Int)×Int×(List (List Int))))))×((List Int)×(Int×(List (List Int))))×((List Int)×Int×Int)×(Int×Int×(List ((List Int)×Int×(List (List Int)))))×((List Int)×(Int×(List (List Int)))))
 |0,_=>none
 |n+1,(t2,t3,t4,t5,t6,t7)=>
 if decide (t7<t6.2.1)then
 if decide (t7<4)then
 (BI t5.1 1).bind λr7=>
 (Ae (t4.1,(t4.2.1,t4.2.2)) r7).bind λr8=>
 if t6.1.length+ [r8.2].length<=lim then
 AN n ((t2.1,(t2.2.1,t2.2.2)),(t3.1,(t3.2.1,t3.2.2)),(r8.1.1,(r8.1.2.1,r8.1.2.2)),(t5.1,(t5.2.1,t5.2.2)),(t6.1++ [r8.2],(t6.2.1,t6.2.2)),w64 (t7+1))
 else none
 else
 some ((t2.1,(t2.2.1,t2.2.2)),(t3.1,(t3.2.1,t3.2.2)),(t4.1,(t4.2.1,t4.2.2)),(t5.1,(t5.2.1,t5.2.2)),(t6.1,(t6.2.1,t6.2.2)))
 else
 some ((t2.1,(t2.2.1,t2.2.2)),(t3.1,(t3.2.1,t3.2.2)),(t4.1,(t4.2.1,t4.2.2)),(t5.1,(t5.2.1,t5.2.2)),(t6.1,(t6.2.1,t6.2.2)))
def Ac (t0:List Int):Option ((Int×Int×(List ((List Int)×Int×(List (List Int)))))×((List Int)×Int×(List (List Int)))):=
 (B3 (t0,(0,0))).bind λr1=>
 (BI r1.2.2.1 1).bind λr2=>
 (Ab (r1.1.1,(r1.1.2.1,r1.1.2.2)) [1,2,2,3]).bind λr3=>
 (A9 (r3.1.1,(r3.1.2.1,r3.1.2.2)) r2 r3.2).bind λr4=>
 if decide ((r1.2.2.2.length:Int)>0)then
 (Av (r4.1.1,(r4.1.2.1,r4.1.2.2)) 2).bind λr5=>
 if r5.2 then
 (Ae (r5.1.1,(r5.1.2.1,r5.1.2.2)) (r1.2.2.2.length:Int)).bind λr6=>
 if inb r6.2 r1.2.2.2 then
 (AN Ad ((0,(0,[])),([],(0,[])),(r6.1.1,(r6.1.2.1,r6.1.2.2)),(r1.2.1,(r1.2.2.1,r1.2.2.2)),([],(((gd r1.2.2.2 r6.2 ([],(0,[]))).2).1,((gd r1.2.2.2 r6.2 ([],(0,[]))).2).2)),0)).bind λs7=>
 if decide ((s7.2.2.2.1.2.2.length:Int)>0)then
 (Av (s7.2.2.1.1,(s7.2.2.1.2.1,s7.2.2.1.2.2)) 3).bind λr8=>
 if r8.2 then
 if inb 0 s7.2.2.2.1.2.2 then
 some ((s7.2.2.2.1.1,(s7.2.2.2.1.2.1,s7.2.2.2.1.2.2)),((gd s7.2.2.2.1.2.2 0 ([],(0,[]))).1,(s7.2.2.2.2.2.1,s7.2.2.2.2.2.2)))
 else none
 else
 some ((s7.2.2.2.1.1,(s7.2.2.2.1.2.1,s7.2.2.2.1.2.2)),(s7.2.2.2.2.1,(s7.2.2.2.2.2.1,s7.2.2.2.2.2.2)))
 else
 some ((s7.2.2.2.1.1,(s7.2.2.2.1.2.1,s7.2.2.2.1.2.2)),(s7.2.2.2.2.1,(s7.2.2.2.2.2.1,s7.2.2.2.2.2.2)))
 else none
 else
 (AN Ad ((0,(0,[])),([],(0,[])),(r5.1.1,(r5.1.2.1,r5.1.2.2)),(r1.2.1,(r1.2.2.1,r1.2.2.2)),([],(r4.2.1,r4.2.2)),0)).bind λs9=>
 if decide ((s9.2.2.2.1.2.2.length:Int)>0)then
 (Av (s9.2.2.1.1,(s9.2.2.1.2.1,s9.2.2.1.2.2)) 3).bind λr10=>
 if r10.2 then
 if inb 0 s9.2.2.2.1.2.2 then
 some ((s9.2.2.2.1.1,(s9.2.2.2.1.2.1,s9.2.2.2.1.2.2)),((gd s9.2.2.2.1.2.2 0 ([],(0,[]))).1,(s9.2.2.2.2.2.1,s9.2.2.2.2.2.2)))
 else none
 else
 some ((s9.2.2.2.1.1,(s9.2.2.2.1.2.1,s9.2.2.2.1.2.2)),(s9.2.2.2.2.1,(s9.2.2.2.2.2.1,s9.2.2.2.2.2.2)))
 else
 some ((s9.2.2.2.1.1,(s9.2.2.2.1.2.1,s9.2.2.2.1.2.2)),(s9.2.2.2.2.1,(s9.2.2.2.2.2.1,s9.2.2.2.2.2.2)))
 else
 (AN Ad ((0,(0,[])),([],(0,[])),(r4.1.1,(r4.1.2.1,r4.1.2.2)),(r1.2.1,(r1.2.2.1,r1.2.2.2)),([],(r4.2.1,r4.2.2)),0)).bind λs11=>
 if decide ((s11.2.2.2.1.2.2.length:Int)>0)then
 (Av (s11.2.2.1.1,(s11.2.2.1.2.1,s11.2.2.1.2.2)) 3).bind λr12=>
 if r12.2 then
 if inb 0 s11.2.2.2.1.2.2 then
 some ((s11.2.2.2.1.1,(s11.2.2.2.1.2.1,s11.2.2.2.1.2.2)),((gd s11.2.2.2.1.2.2 0 ([],(0,[]))).1,(s11.2.2.2.2.2.1,s11.2.2.2.2.2.2)))
 else none
 else
 some ((s11.2.2.2.1.1,(s11.2.2.2.1.2.1,s11.2.2.2.1.2.2)),(s11.2.2.2.2.1,(s11.2.2.2.2.2.1,s11.2.2.2.2.2.2)))
 else
 some ((s11.2.2.2.1.1,(s11.2.2.2.1.2.1,s11.2.2.2.1.2.2)),(s11.2.2.2.2.1,(s11.2.2.2.2.2.1,s11.2.2.2.2.2.2)))
def Bd:Nat->((Int×Int×(List ((List Int)×Int×(List (List Int)))))×((List Int)×Int×(List (List Int)))×Int×(List Int)×(List Int)×Bool×Int)->Option ((Int×Int×(List ((List Int)×Int×(List (List Int)))))×((List Int)×Int×(List (List Int)))×Int×(List Int)×Bool)
 |0,_=>none
 |n+1,(t2,t3,t6,t7,t8,t9,t10)=>
 if decide (t10<(t7.length:Int))then
 if t9 then
 if inb t10 t3.1 then
 if inb (gd t3.1 t10 0) t8 then
 if decide ((gd t8 (gd t3.1 t10 0) 0)<0)then
 if inb t10 t3.1 then
 if inb t10 t7 then
 if inb (gd t3.1 t10 0) t8 then
 Bd n ((t2.1,(t2.2.1,t2.2.2)),(t3.1,(t3.2.1,t3.2.2)),t6,t7,stt t8 (gd t3.1 t10 0) (gd t7 t10 0),true,w64 (t10+1))
 else none
 else none
 else none
 else
 if inb t10 t3.1 then
 if inb (gd t3.1 t10 0) t8 then
 if inb t10 t7 then
 if inb t10 t3.1 then
 if inb t10 t7 then
 if inb (gd t3.1 t10 0) t8 then
 Bd n ((t2.1,(t2.2.1,t2.2.2)),(t3.1,(t3.2.1,t3.2.2)),t6,t7,stt t8 (gd t3.1 t10 0) (gd t7 t10 0),(gd t8 (gd t3.1 t10 0) 0)==(gd t7 t10 0),w64 (t10+1))
 else none
 else none
 else none
 else none
 else none
 else none
 else none
 else none
 else
 if inb t10 t3.1 then
 if inb t10 t7 then
 if inb (gd t3.1 t10 0) t8 then
 Bd n ((t2.1,(t2.2.1,t2.2.2)),(t3.1,(t3.2.1,t3.2.2)),t6,t7,stt t8 (gd t3.1 t10 0) (gd t7 t10 0),false,w64 (t10+1))
 else none
 else none
 else none
 else
 some ((t2.1,(t2.2.1,t2.2.2)),(t3.1,(t3.2.1,t3.2.2)),t6,t8,t9)
def Bc:Nat->((Int×Int×(List ((List Int)×Int×(List (List Int)))))×((List Int)×Int×(List (List Int)))×Int)->Option ((Unit)⊕(Bool×Bool))
 |0,_=>none
 |n+1,(t2,t3,t6)=>
 (CP t2.2.1 (t3.1.length:Int)).bind λr3=>
 if decide (t6<r3)then
 (Dm t2.2.1 (t3.1.length:Int) t6).bind λr4=>
 (CX t2.1).bind λr5=>
 (C7 (t3.2.1,t3.2.2) r4).bind λr6=>
 (Bd Ad ((t2.1,(t2.2.1,t2.2.2)),(t3.1,(t3.2.1,t3.2.2)),t6,r4,r5,!r6,0)).bind λs7=>
 if s7.2.2.2.2 then
 (BY (s7.1.1,(s7.1.2.1,s7.1.2.2)) s7.1.2.2 s7.2.2.2.1 1 true).bind λr8=>
 if decide (r8.2.1>0)then
 some (.inr (false,true))
 else
 Bc n ((s7.1.1,(s7.1.2.1,s7.1.2.2)),(s7.2.1.1,(s7.2.1.2.1,s7.2.1.2.2)),w64 (s7.2.2.1+1))
 else
 Bc n ((s7.1.1,(s7.1.2.1,s7.1.2.2)),(s7.2.1.1,(s7.2.1.2.1,s7.2.1.2.2)),w64 (s7.2.2.1+1))
 else
 some (.inl ())
def Ah (t0:Int×Int×(List ((List Int)×Int×(List (List Int))))) (t1:(List Int)×Int×(List (List Int))):Option (Bool×Bool):=
 (BZ (t0.1,(t0.2.1,t0.2.2))).bind λr1=>
  if !r1 then
   some (false,false)
  else
   (Dw t0.1 t0.2.1 (t1.1,(t1.2.1,t1.2.2))).bind λr2=>
    if !r2 then
     some (false,false)
    else
     (Bc Ad ((t0.1,(t0.2.1,t0.2.2)),(t1.1,(t1.2.1,t1.2.2)),0)).bind λs3=>
      match s3 with
      | .inl s4=>
       some (true,true)
      | .inr s5=>
       some (s5.1,s5.2)
def A8:Nat->((List Int)×(Int×Int×(List ((List Int)×Int×(List (List Int)))))×(List Int)×(List Int)×Bool×(List (List Int))×Int×Int×Bool×Int)->Option ((List Int)×(Int×Int×(List ((List Int)×Int×(List (List Int)))))×(List Int)×(List Int)×Bool×(List (List Int))×Int×Int×Bool)
 |0,_=>none
 |n+1,(t0,t3,t4,t5,t6,t13,t19,t20,t21,t22)=>
 if decide (t22<t3.1)then
 if t21 then
 if inb t22 t4 then
 if(gd t4 t22 0)==(-1)then
 A8 n (t0,(t3.1,(t3.2.1,t3.2.2)),t4,t5,t6,t13,t19,t20,true,w64 (t22+1))
 else
 if inb t22 t4 then
 if inb t20 t13 then
 if inb t22 (gd t13 t20 [])then
 A8 n (t0,(t3.1,(t3.2.1,t3.2.2)),t4,t5,t6,t13,t19,t20,(gd t4 t22 0)==(gd (gd t13 t20 []) t22 0),w64 (t22+1))
 else none
 else none
 else none
 else none
 else
 A8 n (t0,(t3.1,(t3.2.1,t3.2.2)),t4,t5,t6,t13,t19,t20,false,w64 (t22+1))
 else
 some (t0,(t3.1,(t3.2.1,t3.2.2)),t4,t5,t6,t13,t19,t20,t21)
def AS:Nat->((List Int)×(Int×Int×(List ((List Int)×Int×(List (List Int)))))×(List Int)×(List Int)×Bool×(List (List Int))×Int×Int)->Option ((List Int)×(List Int)×Bool×(List (List Int))×Int)
 |0,_=>none
 |n+1,(t0,t3,t4,t5,t6,t13,t19,t20)=>
 if decide (t20≥0)then
 (A8 Ad (t0,(t3.1,(t3.2.1,t3.2.2)),t4,t5,t6,t13,t19,t20,true,0)).bind λs12=>
 if s12.2.2.2.2.2.2.2.2 then
 AS n (s12.1,(s12.2.1.1,(s12.2.1.2.1,s12.2.1.2.2)),s12.2.2.1,s12.2.2.2.1,s12.2.2.2.2.1,s12.2.2.2.2.2.1,s12.2.2.2.2.2.2.2.1,w64 (s12.2.2.2.2.2.2.2.1-1))
 else
 AS n (s12.1,(s12.2.1.1,(s12.2.1.2.1,s12.2.1.2.2)),s12.2.2.1,s12.2.2.2.1,s12.2.2.2.2.1,s12.2.2.2.2.2.1,s12.2.2.2.2.2.2.1,w64 (s12.2.2.2.2.2.2.2.1-1))
 else
 some (t0,t5,t6,t13,t19)
def DU (t0:List Int):Option (Bool):=
 (FA t0).bind λr1=>
 if r1 then
 some true
 else
 (Cw t0).bind λr2=>
 (Cv (r2.1.1,(r2.1.2.1,r2.1.2.2)) r2.2).bind λr3=>
 (Cy (r2.1.1,(r2.1.2.1,r2.1.2.2)) r2.2).bind λr4=>
 if r3.2 !=r4.2 then
 some false
 else
 (CM r3.1 r4.1).bind λr5=>
 if !r5 then
 some false
 else
 (BD (r2.1.1,(r2.1.2.1,r2.1.2.2))).bind λr6=>
 (BF (r2.1.1,(r2.1.2.1,r2.1.2.2))).bind λr7=>
 if r6.1 !=r7.1 then
 some false
 else
 if r6.2 !=r7.2 then
 some false
 else
 (BR (r2.1.1,(r2.1.2.1,r2.1.2.2))).bind λr8=>
 (BW (r2.1.1,(r2.1.2.1,r2.1.2.2))).bind λr9=>
 if r8.2 !=r9.2 then
 some false
 else
 (AP r8.1 r9.1).bind λr10=>
 if !r10 then
 some false
 else
 if r8.2 then
 if r6.1 !=(r8.1.length:Int)then
 some false
 else
 if r3.2 then
 (C1 (r2.1.1,(r2.1.2.1,r2.1.2.2)) r3.1).bind λr11=>
 if !r11.2 then
 some false
 else
 if !r11.1 then
 some false
 else
 if r8.2 then
 if(r2.2.length:Int)==r2.1.1 then
 (AS Ad (t0,(r2.1.1,(r2.1.2.1,r2.1.2.2)),r2.2,r3.1,r3.2,r8.1,(-1),w64 ((r8.1.length:Int)-1))).bind λs12=>
 if s12.2.2.1 then
 if decide (s12.2.2.2.2<0)then
 some false
 else
 if inb s12.2.2.2.2 s12.2.2.2.1 then
 (CM (gd s12.2.2.2.1 s12.2.2.2.2 []) s12.2.1).bind λr13=>
 if !r13 then
 some false
 else
 (Ag s12.1).bind λr14=>
 (Al (r14.1.1,(r14.1.2.1,r14.1.2.2)) r14.2).bind λr15=>
 (Am (r14.1.1,(r14.1.2.1,r14.1.2.2)) r14.2).bind λr16=>
 if r15.2 !=r16.2 then
 some false
 else
 if r15.1.1 !=r16.1.1 then
 some false
 else
 (AP r15.1.2 r16.1.2).bind λr17=>
 if !r17 then
 some false
 else
 if r15.2 then
 (Aa (r14.1.1,(r14.1.2.1,r14.1.2.2)) (r14.2,(r15.1.1,r15.1.2))).bind λr18=>
 if !r18.2 then
 some false
 else
 if !r18.1 then
 some false
 else
 (Ac s12.1).bind λr19=>
 (Aa (r19.1.1,(r19.1.2.1,r19.1.2.2)) (r19.2.1,(r19.2.2.1,r19.2.2.2))).bind λr20=>
 (Ah (r19.1.1,(r19.1.2.1,r19.1.2.2)) (r19.2.1,(r19.2.2.1,r19.2.2.2))).bind λr21=>
 if r20.1==r21.1 then
 some (r20.2==r21.2)
 else
 some false
 else
 (Ac s12.1).bind λr22=>
 (Aa (r22.1.1,(r22.1.2.1,r22.1.2.2)) (r22.2.1,(r22.2.2.1,r22.2.2.2))).bind λr23=>
 (Ah (r22.1.1,(r22.1.2.1,r22.1.2.2)) (r22.2.1,(r22.2.2.1,r22.2.2.2))).bind λr24=>
 if r23.1==r24.1 then
 some (r23.2==r24.2)
 else
 some false
 else none
 else
 (Ag s12.1).bind λr25=>
 (Al (r25.1.1,(r25.1.2.1,r25.1.2.2)) r25.2).bind λr26=>
 (Am (r25.1.1,(r25.1.2.1,r25.1.2.2)) r25.2).bind λr27=>
 if r26.2 !=r27.2 then
 some false
 else
 if r26.1.1 !=r27.1.1 then
 some false
 else
 (AP r26.1.2 r27.1.2).bind λr28=>
 if !r28 then
 some false
 else
 if r26.2 then
 (Aa (r25.1.1,(r25.1.2.1,r25.1.2.2)) (r25.2,(r26.1.1,r26.1.2))).bind λr29=>
 if !r29.2 then
 some false
 else
 if !r29.1 then
 some false
 else
 (Ac s12.1).bind λr30=>
 (Aa (r30.1.1,(r30.1.2.1,r30.1.2.2)) (r30.2.1,(r30.2.2.1,r30.2.2.2))).bind λr31=>
 (Ah (r30.1.1,(r30.1.2.1,r30.1.2.2)) (r30.2.1,(r30.2.2.1,r30.2.2.2))).bind λr32=>
 if r31.1==r32.1 then
 some (r31.2==r32.2)
 else
 some false
 else
 (Ac s12.1).bind λr33=>
 (Aa (r33.1.1,(r33.1.2.1,r33.1.2.2)) (r33.2.1,(r33.2.2.1,r33.2.2.2))).bind λr34=>
 (Ah (r33.1.1,(r33.1.2.1,r33.1.2.2)) (r33.2.1,(r33.2.2.1,r33.2.2.2))).bind λr35=>
 if r34.1==r35.1 then
 some (r34.2==r35.2)
 else
 some false
 else
 (Ag t0).bind λr36=>
 (Al (r36.1.1,(r36.1.2.1,r36.1.2.2)) r36.2).bind λr37=>
 (Am (r36.1.1,(r36.1.2.1,r36.1.2.2)) r36.2).bind λr38=>
 if r37.2 !=r38.2 then
 some false
 else
 if r37.1.1 !=r38.1.1 then
 some false
 else
 (AP r37.1.2 r38.1.2).bind λr39=>
 if !r39 then
 some false
 else
 if r37.2 then
 (Aa (r36.1.1,(r36.1.2.1,r36.1.2.2)) (r36.2,(r37.1.1,r37.1.2))).bind λr40=>
 if !r40.2 then
 some false
 else
 if !r40.1 then
 some false
 else
 (Ac t0).bind λr41=>
 (Aa (r41.1.1,(r41.1.2.1,r41.1.2.2)) (r41.2.1,(r41.2.2.1,r41.2.2.2))).bind λr42=>
 (Ah (r41.1.1,(r41.1.2.1,r41.1.2.2)) (r41.2.1,(r41.2.2.1,r41.2.2.2))).bind λr43=>
 if r42.1==r43.1 then
 some (r42.2==r43.2)
 else
 some false
 else
 (Ac t0).bind λr44=>
 (Aa (r44.1.1,(r44.1.2.1,r44.1.2.2)) (r44.2.1,(r44.2.2.1,r44.2.2.2))).bind λr45=>
 (Ah (r44.1.1,(r44.1.2.1,r44.1.2.2)) (r44.2.1,(r44.2.2.1,r44.2.2.2))).bind λr46=>
 if r45.1==r46.1 then
 some (r45.2==r46.2)
 else
 some false
 else
 (Ag t0).bind λr47=>
 (Al (r47.1.1,(r47.1.2.1,r47.1.2.2)) r47.2).bind λr48=>
 (Am (r47.1.1,(r47.1.2.1,r47.1.2.2)) r47.2).bind λr49=>
 if r48.2 !=r49.2 then
 some false
 else
 if r48.1.1 !=r49.1.1 then
 some false
 else
 (AP r48.1.2 r49.1.2).bind λr50=>
 if !r50 then
 some false
 else
 if r48.2 then
 (Aa (r47.1.1,(r47.1.2.1,r47.1.2.2)) (r47.2,(r48.1.1,r48.1.2))).bind λr51=>
 if !r51.2 then
 some false
 else
 if !r51.1 then
 some false
 else
 (Ac t0).bind λr52=>
 (Aa (r52.1.1,(r52.1.2.1,r52.1.2.2)) (r52.2.1,(r52.2.2.1,r52.2.2.2))).bind λr53=>
 (Ah (r52.1.1,(r52.1.2.1,r52.1.2.2)) (r52.2.1,(r52.2.2.1,r52.2.2.2))).bind λr54=>
 if r53.1==r54.1 then
 some (r53.2==r54.2)
 else
 some false
 else
 (Ac t0).bind λr55=>
 (Aa (r55.1.1,(r55.1.2.1,r55.1.2.2)) (r55.2.1,(r55.2.2.1,r55.2.2.2))).bind λr56=>
 (Ah (r55.1.1,(r55.1.2.1,r55.1.2.2)) (r55.2.1,(r55.2.2.1,r55.2.2.2))).bind λr57=>
 if r56.1==r57.1 then
 some (r56.2==r57.2)
 else
 some false
 else
 if r8.2 then
 if(r2.2.length:Int)==r2.1.1 then
 (AS Ad (t0,(r2.1.1,(r2.1.2.1,r2.1.2.2)),r2.2,r3.1,r3.2,r8.1,(-1),w64 ((r8.1.length:Int)-1))).bind λs58=>
 if s58.2.2.1 then
 if decide (s58.2.2.2.2<0)then
 some false
 else
 if inb s58.2.2.2.2 s58.2.2.2.1 then
 (CM (gd s58.2.2.2.1 s58.2.2.2.2 []) s58.2.1).bind λr59=>
 if !r59 then
 some false
 else
 (Ag s58.1).bind λr60=>
 (Al (r60.1.1,(r60.1.2.1,r60.1.2.2)) r60.2).bind λr61=>
 (Am (r60.1.1,(r60.1.2.1,r60.1.2.2)) r60.2).bind λr62=>
 if r61.2 !=r62.2 then
 some false
 else
 if r61.1.1 !=r62.1.1 then
 some false
 else
 (AP r61.1.2 r62.1.2).bind λr63=>
 if !r63 then
 some false
 else
 if r61.2 then
 (Aa (r60.1.1,(r60.1.2.1,r60.1.2.2)) (r60.2,(r61.1.1,r61.1.2))).bind λr64=>
 if !r64.2 then
 some false
 else
 if !r64.1 then
 some false
 else
 (Ac s58.1).bind λr65=>
 (Aa (r65.1.1,(r65.1.2.1,r65.1.2.2)) (r65.2.1,(r65.2.2.1,r65.2.2.2))).bind λr66=>
 (Ah (r65.1.1,(r65.1.2.1,r65.1.2.2)) (r65.2.1,(r65.2.2.1,r65.2.2.2))).bind λr67=>
 if r66.1==r67.1 then
 some (r66.2==r67.2)
 else
 some false
 else
 (Ac s58.1).bind λr68=>
 (Aa (r68.1.1,(r68.1.2.1,r68.1.2.2)) (r68.2.1,(r68.2.2.1,r68.2.2.2))).bind λr69=>
 (Ah (r68.1.1,(r68.1.2.1,r68.1.2.2)) (r68.2.1,(r68.2.2.1,r68.2.2.2))).bind λr70=>
 if r69.1==r70.1 then
 some (r69.2==r70.2)
 else
 some false
 else none
 else
 (Ag s58.1).bind λr71=>
 (Al (r71.1.1,(r71.1.2.1,r71.1.2.2)) r71.2).bind λr72=>
 (Am (r71.1.1,(r71.1.2.1,r71.1.2.2)) r71.2).bind λr73=>
 if r72.2 !=r73.2 then
 some false
 else
 if r72.1.1 !=r73.1.1 then
 some false
 else
 (AP r72.1.2 r73.1.2).bind λr74=>
 if !r74 then
 some false
 else
 if r72.2 then
 (Aa (r71.1.1,(r71.1.2.1,r71.1.2.2)) (r71.2,(r72.1.1,r72.1.2))).bind λr75=>
 if !r75.2 then
 some false
 else
 if !r75.1 then
 some false
 else
 (Ac s58.1).bind λr76=>
 (Aa (r76.1.1,(r76.1.2.1,r76.1.2.2)) (r76.2.1,(r76.2.2.1,r76.2.2.2))).bind λr77=>
 (Ah (r76.1.1,(r76.1.2.1,r76.1.2.2)) (r76.2.1,(r76.2.2.1,r76.2.2.2))).bind λr78=>
 if r77.1==r78.1 then
 some (r77.2==r78.2)
 else
 some false
 else
 (Ac s58.1).bind λr79=>
 (Aa (r79.1.1,(r79.1.2.1,r79.1.2.2)) (r79.2.1,(r79.2.2.1,r79.2.2.2))).bind λr80=>
 (Ah (r79.1.1,(r79.1.2.1,r79.1.2.2)) (r79.2.1,(r79.2.2.1,r79.2.2.2))).bind λr81=>
 if r80.1==r81.1 then
 some (r80.2==r81.2)
 else
 some false
 else
 (Ag t0).bind λr82=>
 (Al (r82.1.1,(r82.1.2.1,r82.1.2.2)) r82.2).bind λr83=>
 (Am (r82.1.1,(r82.1.2.1,r82.1.2.2)) r82.2).bind λr84=>
 if r83.2 !=r84.2 then
 some false
 else
 if r83.1.1 !=r84.1.1 then
 some false
 else
 (AP r83.1.2 r84.1.2).bind λr85=>
 if !r85 then
 some false
 else
 if r83.2 then
 (Aa (r82.1.1,(r82.1.2.1,r82.1.2.2)) (r82.2,(r83.1.1,r83.1.2))).bind λr86=>
 if !r86.2 then
 some false
 else
 if !r86.1 then
 some false
 else
 (Ac t0).bind λr87=>
 (Aa (r87.1.1,(r87.1.2.1,r87.1.2.2)) (r87.2.1,(r87.2.2.1,r87.2.2.2))).bind λr88=>
 (Ah (r87.1.1,(r87.1.2.1,r87.1.2.2)) (r87.2.1,(r87.2.2.1,r87.2.2.2))).bind λr89=>
 if r88.1==r89.1 then
 some (r88.2==r89.2)
 else
 some false
 else
 (Ac t0).bind λr90=>
 (Aa (r90.1.1,(r90.1.2.1,r90.1.2.2)) (r90.2.1,(r90.2.2.1,r90.2.2.2))).bind λr91=>
 (Ah (r90.1.1,(r90.1.2.1,r90.1.2.2)) (r90.2.1,(r90.2.2.1,r90.2.2.2))).bind λr92=>
 if r91.1==r92.1 then
 some (r91.2==r92.2)
 else
 some false
 else
 (Ag t0).bind λr93=>
 (Al (r93.1.1,(r93.1.2.1,r93.1.2.2)) r93.2).bind λr94=>
 (Am (r93.1.1,(r93.1.2.1,r93.1.2.2)) r93.2).bind λr95=>
 if r94.2 !=r95.2 then
 some false
 else
 if r94.1.1 !=r95.1.1 then
 some false
 else
 (AP r94.1.2 r95.1.2).bind λr96=>
 if !r96 then
 some false
 else
 if r94.2 then
 (Aa (r93.1.1,(r93.1.2.1,r93.1.2.2)) (r93.2,(r94.1.1,r94.1.2))).bind λr97=>
 if !r97.2 then
 some false
 else
 if !r97.1 then
 some false
 else
 (Ac t0).bind λr98=>
 (Aa (r98.1.1,(r98.1.2.1,r98.1.2.2)) (r98.2.1,(r98.2.2.1,r98.2.2.2))).bind λr99=>
 (Ah (r98.1.1,(r98.1.2.1,r98.1.2.2)) (r98.2.1,(r98.2.2.1,r98.2.2.2))).bind λr100=>
 if r99.1==r100.1 then
 some (r99.2==r100.2)
 else
 some false
 else
 (Ac t0).bind λr101=>
 (Aa (r101.1.1,(r101.1.2.1,r101.1.2.2)) (r101.2.1,(r101.2.2.1,r101.2.2.2))).bind λr102=>
 (Ah (r101.1.1,(r101.1.2.1,r101.1.2.2)) (r101.2.1,(r101.2.2.1,r101.2.2.2))).bind λr103=>
 if r102.1==r103.1 then
 some (r102.2==r103.2)
 else
 some false
 else
 if r3.2 then
 (C1 (r2.1.1,(r2.1.2.1,r2.1.2.2)) r3.1).bind λr104=>
 if !r104.2 then
 some false
 else
 if !r104.1 then
 some false
 else
 if r8.2 then
 if(r2.2.length:Int)==r2.1.1 then
 (AS Ad (t0,(r2.1.1,(r2.1.2.1,r2.1.2.2)),r2.2,r3.1,r3.2,r8.1,(-1),w64 ((r8.1.length:Int)-1))).bind λs105=>
 if s105.2.2.1 then
 if decide (s105.2.2.2.2<0)then
 some false
 else
 if inb s105.2.2.2.2 s105.2.2.2.1 then
 (CM (gd s105.2.2.2.1 s105.2.2.2.2 []) s105.2.1).bind λr106=>
 if !r106 then
 some false
 else
 (Ag s105.1).bind λr107=>
 (Al (r107.1.1,(r107.1.2.1,r107.1.2.2)) r107.2).bind λr108=>
 (Am (r107.1.1,(r107.1.2.1,r107.1.2.2)) r107.2).bind λr109=>
 if r108.2 !=r109.2 then
 some false
 else
 if r108.1.1 !=r109.1.1 then
 some false
 else
 (AP r108.1.2 r109.1.2).bind λr110=>
 if !r110 then
 some false
 else
 if r108.2 then
 (Aa (r107.1.1,(r107.1.2.1,r107.1.2.2)) (r107.2,(r108.1.1,r108.1.2))).bind λr111=>
 if !r111.2 then
 some false
 else
 if !r111.1 then
 some false
 else
 (Ac s105.1).bind λr112=>
 (Aa (r112.1.1,(r112.1.2.1,r112.1.2.2)) (r112.2.1,(r112.2.2.1,r112.2.2.2))).bind λr113=>
 (Ah (r112.1.1,(r112.1.2.1,r112.1.2.2)) (r112.2.1,(r112.2.2.1,r112.2.2.2))).bind λr114=>
 if r113.1==r114.1 then
 some (r113.2==r114.2)
 else
 some false
 else
 (Ac s105.1).bind λr115=>
 (Aa (r115.1.1,(r115.1.2.1,r115.1.2.2)) (r115.2.1,(r115.2.2.1,r115.2.2.2))).bind λr116=>
 (Ah (r115.1.1,(r115.1.2.1,r115.1.2.2)) (r115.2.1,(r115.2.2.1,r115.2.2.2))).bind λr117=>
 if r116.1==r117.1 then
 some (r116.2==r117.2)
 else
 some false
 else none
 else
 (Ag s105.1).bind λr118=>
 (Al (r118.1.1,(r118.1.2.1,r118.1.2.2)) r118.2).bind λr119=>
 (Am (r118.1.1,(r118.1.2.1,r118.1.2.2)) r118.2).bind λr120=>
 if r119.2 !=r120.2 then
 some false
 else
 if r119.1.1 !=r120.1.1 then
 some false
 else
 (AP r119.1.2 r120.1.2).bind λr121=>
 if !r121 then
 some false
 else
 if r119.2 then
 (Aa (r118.1.1,(r118.1.2.1,r118.1.2.2)) (r118.2,(r119.1.1,r119.1.2))).bind λr122=>
 if !r122.2 then
 some false
 else
 if !r122.1 then
 some false
 else
 (Ac s105.1).bind λr123=>
 (Aa (r123.1.1,(r123.1.2.1,r123.1.2.2)) (r123.2.1,(r123.2.2.1,r123.2.2.2))).bind λr124=>
 (Ah (r123.1.1,(r123.1.2.1,r123.1.2.2)) (r123.2.1,(r123.2.2.1,r123.2.2.2))).bind λr125=>
 if r124.1==r125.1 then
 some (r124.2==r125.2)
 else
 some false
 else
 (Ac s105.1).bind λr126=>
 (Aa (r126.1.1,(r126.1.2.1,r126.1.2.2)) (r126.2.1,(r126.2.2.1,r126.2.2.2))).bind λr127=>
 (Ah (r126.1.1,(r126.1.2.1,r126.1.2.2)) (r126.2.1,(r126.2.2.1,r126.2.2.2))).bind λr128=>
 if r127.1==r128.1 then
 some (r127.2==r128.2)
 else
 some false
 else
 (Ag t0).bind λr129=>
 (Al (r129.1.1,(r129.1.2.1,r129.1.2.2)) r129.2).bind λr130=>
 (Am (r129.1.1,(r129.1.2.1,r129.1.2.2)) r129.2).bind λr131=>
 if r130.2 !=r131.2 then
 some false
 else
 if r130.1.1 !=r131.1.1 then
 some false
 else
 (AP r130.1.2 r131.1.2).bind λr132=>
 if !r132 then
 some false
 else
 if r130.2 then
 (Aa (r129.1.1,(r129.1.2.1,r129.1.2.2)) (r129.2,(r130.1.1,r130.1.2))).bind λr133=>
 if !r133.2 then
 some false
 else
 if !r133.1 then
 some false
 else
 (Ac t0).bind λr134=>
 (Aa (r134.1.1,(r134.1.2.1,r134.1.2.2)) (r134.2.1,(r134.2.2.1,r134.2.2.2))).bind λr135=>
 (Ah (r134.1.1,(r134.1.2.1,r134.1.2.2)) (r134.2.1,(r134.2.2.1,r134.2.2.2))).bind λr136=>
 if r135.1==r136.1 then
 some (r135.2==r136.2)
 else
 some false
 else
 (Ac t0).bind λr137=>
 (Aa (r137.1.1,(r137.1.2.1,r137.1.2.2)) (r137.2.1,(r137.2.2.1,r137.2.2.2))).bind λr138=>
 (Ah (r137.1.1,(r137.1.2.1,r137.1.2.2)) (r137.2.1,(r137.2.2.1,r137.2.2.2))).bind λr139=>
 if r138.1==r139.1 then
 some (r138.2==r139.2)
 else
 some false
 else
 (Ag t0).bind λr140=>
 (Al (r140.1.1,(r140.1.2.1,r140.1.2.2)) r140.2).bind λr141=>
 (Am (r140.1.1,(r140.1.2.1,r140.1.2.2)) r140.2).bind λr142=>
 if r141.2 !=r142.2 then
 some false
 else
 if r141.1.1 !=r142.1.1 then
 some false
 else
 (AP r141.1.2 r142.1.2).bind λr143=>
 if !r143 then
 some false
 else
 if r141.2 then
 (Aa (r140.1.1,(r140.1.2.1,r140.1.2.2)) (r140.2,(r141.1.1,r141.1.2))).bind λr144=>
 if !r144.2 then
 some false
 else
 if !r144.1 then
 some false
 else
 (Ac t0).bind λr145=>
 (Aa (r145.1.1,(r145.1.2.1,r145.1.2.2)) (r145.2.1,(r145.2.2.1,r145.2.2.2))).bind λr146=>
 (Ah (r145.1.1,(r145.1.2.1,r145.1.2.2)) (r145.2.1,(r145.2.2.1,r145.2.2.2))).bind λr147=>
 if r146.1==r147.1 then
 some (r146.2==r147.2)
 else
 some false
 else
 (Ac t0).bind λr148=>
 (Aa (r148.1.1,(r148.1.2.1,r148.1.2.2)) (r148.2.1,(r148.2.2.1,r148.2.2.2))).bind λr149=>
 (Ah (r148.1.1,(r148.1.2.1,r148.1.2.2)) (r148.2.1,(r148.2.2.1,r148.2.2.2))).bind λr150=>
 if r149.1==r150.1 then
 some (r149.2==r150.2)
 else
 some false
 else
 if r8.2 then
 if(r2.2.length:Int)==r2.1.1 then
 (AS Ad (t0,(r2.1.1,(r2.1.2.1,r2.1.2.2)),r2.2,r3.1,r3.2,r8.1,(-1),w64 ((r8.1.length:Int)-1))).bind λs151=>
 if s151.2.2.1 then
 if decide (s151.2.2.2.2<0)then
 some false
 else
 if inb s151.2.2.2.2 s151.2.2.2.1 then
 (CM (gd s151.2.2.2.1 s151.2.2.2.2 []) s151.2.1).bind λr152=>
 if !r152 then
 some false
 else
 (Ag s151.1).bind λr153=>
 (Al (r153.1.1,(r153.1.2.1,r153.1.2.2)) r153.2).bind λr154=>
 (Am (r153.1.1,(r153.1.2.1,r153.1.2.2)) r153.2).bind λr155=>
 if r154.2 !=r155.2 then
 some false
 else
 if r154.1.1 !=r155.1.1 then
 some false
 else
 (AP r154.1.2 r155.1.2).bind λr156=>
 if !r156 then
 some false
 else
 if r154.2 then
 (Aa (r153.1.1,(r153.1.2.1,r153.1.2.2)) (r153.2,(r154.1.1,r154.1.2))).bind λr157=>
 if !r157.2 then
 some false
 else
 if !r157.1 then
 some false
 else
 (Ac s151.1).bind λr158=>
 (Aa (r158.1.1,(r158.1.2.1,r158.1.2.2)) (r158.2.1,(r158.2.2.1,r158.2.2.2))).bind λr159=>
 (Ah (r158.1.1,(r158.1.2.1,r158.1.2.2)) (r158.2.1,(r158.2.2.1,r158.2.2.2))).bind λr160=>
 if r159.1==r160.1 then
 some (r159.2==r160.2)
 else
 some false
 else
 (Ac s151.1).bind λr161=>
 (Aa (r161.1.1,(r161.1.2.1,r161.1.2.2)) (r161.2.1,(r161.2.2.1,r161.2.2.2))).bind λr162=>
 (Ah (r161.1.1,(r161.1.2.1,r161.1.2.2)) (r161.2.1,(r161.2.2.1,r161.2.2.2))).bind λr163=>
 if r162.1==r163.1 then
 some (r162.2==r163.2)
 else
 some false
 else none
 else
 (Ag s151.1).bind λr164=>
 (Al (r164.1.1,(r164.1.2.1,r164.1.2.2)) r164.2).bind λr165=>
 (Am (r164.1.1,(r164.1.2.1,r164.1.2.2)) r164.2).bind λr166=>
 if r165.2 !=r166.2 then
 some false
 else
 if r165.1.1 !=r166.1.1 then
 some false
 else
 (AP r165.1.2 r166.1.2).bind λr167=>
 if !r167 then
 some false
 else
 if r165.2 then
 (Aa (r164.1.1,(r164.1.2.1,r164.1.2.2)) (r164.2,(r165.1.1,r165.1.2))).bind λr168=>
 if !r168.2 then
 some false
 else
 if !r168.1 then
 some false
 else
 (Ac s151.1).bind λr169=>
 (Aa (r169.1.1,(r169.1.2.1,r169.1.2.2)) (r169.2.1,(r169.2.2.1,r169.2.2.2))).bind λr170=>
 (Ah (r169.1.1,(r169.1.2.1,r169.1.2.2)) (r169.2.1,(r169.2.2.1,r169.2.2.2))).bind λr171=>
 if r170.1==r171.1 then
 some (r170.2==r171.2)
 else
 some false
 else
 (Ac s151.1).bind λr172=>
 (Aa (r172.1.1,(r172.1.2.1,r172.1.2.2)) (r172.2.1,(r172.2.2.1,r172.2.2.2))).bind λr173=>
 (Ah (r172.1.1,(r172.1.2.1,r172.1.2.2)) (r172.2.1,(r172.2.2.1,r172.2.2.2))).bind λr174=>
 if r173.1==r174.1 then
 some (r173.2==r174.2)
 else
 some false
 else
 (Ag t0).bind λr175=>
 (Al (r175.1.1,(r175.1.2.1,r175.1.2.2)) r175.2).bind λr176=>
 (Am (r175.1.1,(r175.1.2.1,r175.1.2.2)) r175.2).bind λr177=>
 if r176.2 !=r177.2 then
 some false
 else
 if r176.1.1 !=r177.1.1 then
 some false
 else
 (AP r176.1.2 r177.1.2).bind λr178=>
 if !r178 then
 some false
 else
 if r176.2 then
 (Aa (r175.1.1,(r175.1.2.1,r175.1.2.2)) (r175.2,(r176.1.1,r176.1.2))).bind λr179=>
 if !r179.2 then
 some false
 else
 if !r179.1 then
 some false
 else
 (Ac t0).bind λr180=>
 (Aa (r180.1.1,(r180.1.2.1,r180.1.2.2)) (r180.2.1,(r180.2.2.1,r180.2.2.2))).bind λr181=>
 (Ah (r180.1.1,(r180.1.2.1,r180.1.2.2)) (r180.2.1,(r180.2.2.1,r180.2.2.2))).bind λr182=>
 if r181.1==r182.1 then
 some (r181.2==r182.2)
 else
 some false
 else
 (Ac t0).bind λr183=>
 (Aa (r183.1.1,(r183.1.2.1,r183.1.2.2)) (r183.2.1,(r183.2.2.1,r183.2.2.2))).bind λr184=>
 (Ah (r183.1.1,(r183.1.2.1,r183.1.2.2)) (r183.2.1,(r183.2.2.1,r183.2.2.2))).bind λr185=>
 if r184.1==r185.1 then
 some (r184.2==r185.2)
 else
 some false
 else
 (Ag t0).bind λr186=>
 (Al (r186.1.1,(r186.1.2.1,r186.1.2.2)) r186.2).bind λr187=>
 (Am (r186.1.1,(r186.1.2.1,r186.1.2.2)) r186.2).bind λr188=>
 if r187.2 !=r188.2 then
 some false
 else
 if r187.1.1 !=r188.1.1 then
 some false
 else
 (AP r187.1.2 r188.1.2).bind λr189=>
 if !r189 then
 some false
 else
 if r187.2 then
 (Aa (r186.1.1,(r186.1.2.1,r186.1.2.2)) (r186.2,(r187.1.1,r187.1.2))).bind λr190=>
 if !r190.2 then
 some false
 else
 if !r190.1 then
 some false
 else
 (Ac t0).bind λr191=>
 (Aa (r191.1.1,(r191.1.2.1,r191.1.2.2)) (r191.2.1,(r191.2.2.1,r191.2.2.2))).bind λr192=>
 (Ah (r191.1.1,(r191.1.2.1,r191.1.2.2)) (r191.2.1,(r191.2.2.1,r191.2.2.2))).bind λr193=>
 if r192.1==r193.1 then
 some (r192.2==r193.2)
 else
 some false
 else
 (Ac t0).bind λr194=>
 (Aa (r194.1.1,(r194.1.2.1,r194.1.2.2)) (r194.2.1,(r194.2.2.1,r194.2.2.2))).bind λr195=>
 (Ah (r194.1.1,(r194.1.2.1,r194.1.2.2)) (r194.2.1,(r194.2.2.1,r194.2.2.2))).bind λr196=>
 if r195.1==r196.1 then
 some (r195.2==r196.2)
 else
 some false
end T
open Go Go.Va
namespace T
def Fl (c:Con) (t:List Int) (s:Bool):Option (Bool×Bool):=(CI t c s).bind λr=>some (r.1,r.2)
section
variable {vars:Con}
theorem E0 (rec): ∀f t0 t1 (s:Bool) t3 t4 t5 t8 t9 t50 t51 t52,Ap rec f (t0,t1,(vars,s),t3,t4,t5,t8,t9,t50,t51,t52)=(hM f (t0,t1,s,t3,t4,t5,t8,t9,t50,t51,t52)).map λy=>(y.1,y.2.1,(vars,y.2.2.1),y.2.2.2)
 |0,_,_,_,_,_,_,_,_,_,_,_=>rfl
 |f+1,t0,t1,s,t3,t4,t5,t8,t9,t50,t51,t52=>by
  simp only[Ap,hM]
  split
  ·split
   ·split
    ·split
     ·split
      ·split
       ·cases Bi (gd t50 t52 []) t1 with
        |none=>rfl
        |some r2=>
         simp only[Option.bind_some]
         cases BX r2 with
         |none=>rfl
         |some r3=>simp only[Option.bind_some];exact E0 rec f ..
       ·rfl
      ·rfl
     ·rfl
    ·exact E0 rec f ..
   ·rfl
  ·rfl
abbrev Je:=Int×List Int×(Con×Bool)×NS×List Int×Unit
abbrev IT:=List Int×(Unit×Bool)×NS×List Int×Bool
theorem F7 (rec:Je->Option IT) (rec0:NIn Bool->Option (G2 Bool)) (hrec: ∀a t (s:Bool) n g u,rec (a,t,(vars,s),n,g,u)=(rec0 (a,t,s,n,g,u)).map λy=>(y.1,((),y.2.1),y.2.2)):
    ∀f t0 t1 (s:Bool) t3 t4 t5 t8,Ai rec f (t0,t1,(vars,s),t3,t4,t5,t8)=(hL rec0 f (t0,t1,s,t3,t4,t5,t8)).map λy=>match y with
      | .inl y=> .inl (y.1,(vars,y.2.1),y.2.2)
      | .inr y=> .inr (y.1,(vars,y.2.1),y.2.2)
  |0,_,_,_,_,_,_,_=>rfl
  |f+1,t0,t1,b0,t3,t4,t5,t8=>by
    have ih:=F7 rec rec0 hrec f
    have key : (Ap rec Ad (t0, stt t1 t0 t8, (vars, b0), t3, t4, (), t8, true, gd t3.2.2.1 t0 [], ((gd t3.2.2.1 t0 []).length : Int), 0)).bind (fun s2 =>
                        if s2.2.2.2.2.2.2.2 then
                          (rec (w64 (s2.1+1),s2.2.1,(s2.2.2.1.1,s2.2.2.1.2),s2.2.2.2.1,s2.2.2.2.2.1,())).bind λr3=>
                            if !r3.2.2.2.2 then
                              some (.inr (r3.1,(s2.2.2.1.1,r3.2.1.2),r3.2.2.1,r3.2.2.2.1,(),false))
                            else
                              Ai rec f (s2.1,r3.1,(s2.2.2.1.1,r3.2.1.2),r3.2.2.1,r3.2.2.2.1,(),w64 (s2.2.2.2.2.2.2.1+1))
                        else
                          Ai rec f (s2.1,s2.2.1,(s2.2.2.1.1,s2.2.2.1.2),s2.2.2.2.1,s2.2.2.2.2.1,(),w64 (s2.2.2.2.2.2.2.1+1)))
        = ((hM Ad (t0, stt t1 t0 t8, b0, t3, t4, (), t8, true, gd t3.2.2.1 t0 [], ((gd t3.2.2.1 t0 []).length : Int), 0)).bind fun s2 =>
                        if s2.2.2.2.2.2.2.2 then
                          (rec0 (w64 (s2.1+1),s2.2.1,s2.2.2.1,s2.2.2.2.1,s2.2.2.2.2.1,())).bind λr3=>
                            if !r3.2.2.2.2 then
                              some (.inr (r3.1,r3.2.1,r3.2.2.1,r3.2.2.2.1,(),false))
                            else
                              hL rec0 f (s2.1,r3.1,r3.2.1,r3.2.2.1,r3.2.2.2.1,(),w64 (s2.2.2.2.2.2.2.1+1))
                        else
                          hL rec0 f (s2.1,s2.2.1,s2.2.2.1,s2.2.2.2.1,s2.2.2.2.2.1,(),w64 (s2.2.2.2.2.2.2.1+1))).map λy=>match y with
      | .inl y=> .inl (y.1,(vars,y.2.1),y.2.2)
      | .inr y=> .inr (y.1,(vars,y.2.1),y.2.2):=by
      rw[E0]
      generalize hM Ad (t0,stt t1 t0 t8,b0,t3,t4,(),t8,true,gd t3.2.2.1 t0 [],((gd t3.2.2.1 t0 []).length:Int),0)=o
      cases o with
      |none=>rfl
      |some y=>
        obtain⟨y0,y1,y2,y4,y5,y6,y7,y8⟩:=y
        rw[Option.map_some,Option.bind_some,Option.bind_some]
        dsimp only
        cases y8 with
        |false=>exact ih ..
        |true=>
          rw[if_pos rfl,if_pos rfl,hrec]
          generalize rec0 (w64 (y0+1),y1,y2,y4,y5,())=o
          cases o with
          |none=>rfl
          |some z=>
            obtain⟨z0,z1,z3,z4,z5⟩:=z
            rw[Option.map_some,Option.bind_some,Option.bind_some]
            dsimp only
            cases z5 with
            |false=>rfl
            |true=>exact ih ..
    rw[Ai,hL]
    dsimp only
    rw[key]
    exact Bz (Bz (Bz (Bz (Bz (Bz (ih ..) (Bz (Bz (Bz rfl rfl) rfl) rfl)) rfl) (Bz (Bz (Bz rfl rfl) rfl) rfl)) rfl) rfl) rfl
theorem Hw: ∀d a t (s:Bool) n g u,AM d (a,t,(vars,s),n,g,u)=(hF (Fl vars) d (a,t,s,n,g,u)).map λy=>(y.1,((),y.2.1),y.2.2)
 |0,_,_,_,_,_,_=>rfl
 |d+1,a,t,s,n,g,u=>by
  have ih:=Hw d
  rw[AM,hF]
  unfold EL Bu
  dsimp only
  split
  ·unfold Fl
   cases CI t vars s<;>rfl
  ·have:=F7 _ (hF (Fl vars) d) ih Ad a t s n g () 0
   rw[this]
   cases hL (hF (Fl vars) d) Ad (a,t,s,n,g,(),0)with
   |none=>rfl
   |some z=>cases z<;>rfl
theorem GS {c:Con} {V:Nat} {n:Int} (hc:ConOk (V:Int) n c) (hV:V<=9): ∀(l:List (List Int)),(∀t∈l,t.length=V)-> ∃b,Bq (Fl c) l true=some (l.all (Cn · c),b)
 | [],_=>⟨true,rfl⟩
 |t::l,h=>by
  have ht:=h t (List.mem_cons_self ..)
  have har:=hc.ar
  have hsl:=hc.sl
  have hmany:=hc.many
  have e1:=C2 (f:=c.1) (g:=t) (by omega) (λv hv=>by
   obtain⟨i,hi,rfl⟩:=List.mem_iff_getElem.1 hv
   have:=hc.sv i hi;omega)
  have e2:=D2 (r:=c.2) (t:=c.1.map (CY t)) (by simp;omega) (by omega)
  have e:Fl c t true=some (Cn t c,Cn t c):=by
   unfold Fl CI
   rw[e1]
   simp only[Option.bind_some]
   rw[e2];rfl
  simp only[Bq,e,List.all_cons]
  cases hh:Cn t c with
  |false=>exact⟨false,rfl⟩
  |true=>
   obtain⟨b,q⟩:=GS hc hV l λu hu=>h u (List.mem_cons_of_mem _ hu)
   exact⟨b,by simpa using q⟩
end
section
variable {V n:Nat} {cs:List Con} {c:Con} {a:Net}
theorem H7 (hS:SrchOk V n cs) (hc:ConOk (V:Int) (n:Int) c):AU ((V:Int),((n:Int),cs)) (c,true)=some ((),(AB V n cs (List.replicate V (-1))).all (Cn · c)):=by
 have hV:=hS.hv
 have e1:=DL hS
 obtain⟨b,hfold⟩:=GS hc hV (AB V n cs (List.replicate V (-1))) (λt ht=>Dk ht)
 have hfold:Bq (Fl c) (CB n (List.replicate V (-1)) (okN cs) V ((List.replicate V (0:Int)).take 0)) true=_:=hfold
 obtain⟨tab',_,_,_,h4⟩:=Gb hS (given:=List.replicate V (-1)) (by simp) (Fl c) V Ad 0 (List.replicate V 0) true (by omega) (by unfold Ad;omega) (by simp) (λx hx=>by rw[List.eq_of_mem_replicate hx];omega) _ _ hfold
 have h5:=Hw (vars:=c) Ad 0 (List.replicate V 0) true (D4 V n cs) (List.replicate V (-1)) ()
 have h4:hF (Fl c) Ad (0,List.replicate V 0,true,D4 V n cs,List.replicate V (-1),())=_:=h4
 rw[h4]at h5
 unfold AU BU
 have hr:List.replicate (Int.toNat ((List.replicate V (-1:Int)).length:Int)) (0:Int)=List.replicate V 0:=by simp
 have hlim:0<=((List.replicate V (-1:Int)).length:Int)/\((List.replicate V (-1:Int)).length:Int)<=((List.replicate V (-1:Int)).length:Int)/\((List.replicate V (-1:Int)).length:Int)<=lim:=by rw[List.length_replicate];unfold lim;omega
 simp only[e1,Et (show V<=1000 by omega),Option.bind_some,hr,h5,Option.map_some]
 rw[if_pos hlim];rfl
def imV (a:Net) (c:Con):Bool×Bool:=if B2 a&&DM a.1 a.2.1 c then((AB a.1.toNat a.2.1.toNat a.2.2 (List.replicate a.1.toNat (-1))).all (Cn · c),true)else(false,false)
theorem DB (h:Ey a) (hc:Gy c):Aa a c=some (imV a c):=by
 unfold Aa imV
 rw[Bs (a:=(a.1,(a.2.1,a.2.2))) h,show B2 (a.1,(a.2.1,a.2.2))=B2 a from rfl]
 cases hb:B2 a with
 |false=>simp
 |true=>
  have e1:Cg a.1 a.2.1 (c.1,(c.2.1,c.2.2))=_:=Dj (v:=a.1) (n:=a.2.1) hc
  simp only[Option.bind_some,Bool.not_true,Bool.false_eq_true,if_false,Bool.true_and,e1]
  cases hcb:DM a.1 a.2.1 c with
  |false=>simp
  |true=>
   obtain⟨V,n,cs,rfl,hS⟩:=Ds hb
   have hn:=hS.hn
   have hco:=Gz (v:=(V:Int)) (n:=(n:Int)) (by omega) hcb
   have e2:AU ((V:Int),((n:Int),cs)) ((c.1,(c.2.1,c.2.2)),true)=_:=H7 hS hco
   simp only[Option.bind_some,Bool.not_true,Bool.false_eq_true,if_false,e2,if_true,Int.toNat_natCast]
theorem Gi {P:List Int}: ∀(l:List (Int×Int)) (q:List Int×Bool),q.2=false->(l.foldl pgS q).2=false
 | [],q,h=>h
 |z::l,q,h=>by rw[List.foldl_cons];exact Gi (P:=P) l _ (by simp[pgS,h])
theorem I1 {t:List Int} (hvl:c.1.length=t.length) (hl:c.1.length<=3) (hv: ∀v∈c.1,0<=v/\v<(V:Int)) (N:Net) (t6:Int) (g0:Bool):
  Bd Ad (N,c,t6,t,List.replicate V (-1),g0,0)=some (N,c,t6,((c.1.zip t).foldl pgS (List.replicate V (-1),g0)).1,((c.1.zip t).foldl pgS (List.replicate V (-1),g0)).2):=by
 have:=D0 c.1.length (λf (q:List Int×Bool) i=>Bd f (N,c,t6,t,q.1,q.2,i)) (λk=>((c.1.zip t).take k).foldl pgS (List.replicate V (-1),g0)) (r:=some (N,c,t6,((c.1.zip t).foldl pgS (List.replicate V (-1),g0)).1,((c.1.zip t).foldl pgS (List.replicate V (-1),g0)).2)) (λf k hk=>?_) (λf=>?_) (n:=Ad) (by unfold Ad;omega)
 ·exact this
 ·have hkz:k<(c.1.zip t).length:=by simp;omega
  have hkt:k<t.length:=by omega
  have e:(c.1.zip t).take (k+1)=(c.1.zip t).take k++ [(c.1[k],t[k])]:=by
   rw[List.take_succ_eq_append_getElem hkz,List.getElem_zip]
  have hlen:(((c.1.zip t).take k).foldl pgS (List.replicate V (-1),g0)).1.length=V:=by rw[EJ];simp
  rw[e,List.foldl_append]
  generalize ((c.1.zip t).take k).foldl pgS (List.replicate V (-1),g0)=q at*
  obtain⟨P,g⟩:=q
  have hlen:P.length=V:=hlen
  have hvk:=hv c.1[k] (List.getElem_mem hk)
  obtain⟨v,ev⟩: ∃v:Nat,c.1[k]=(v:Int):=⟨c.1[k].toNat,by omega⟩
  have hvP:v<P.length:=by omega
  simp only[Bd,List.foldl_cons,List.foldl_nil,pgS,AA,hk,hkt,AC hk,AC hkt,ev,hvP,if_true,AC hvP,Int.toNat_natCast,DD,Aw (show k<4611686018427387904 by omega),AF hvP]
  rw[if_pos (by rw[decide_eq_true_eq];omega)]
  cases g with
  |false=>simp
  |true=>
   rw[if_pos rfl]
   by_cases h:P[v]<0
   ·simp[h]
   ·simp[h]
 ·simp only[Bd]
  rw[if_neg (by rw[decide_eq_true_eq];omega),List.take_of_length_le (by simp;omega)]
def Hn (V n:Nat) (cs:List Con) (c:Con) (k:Nat):Bool:=!decide (cI (dg n c.1.length k)∈c.2.2)&&decide (cI (dg n c.1.length k)∈CZ V n cs c.1)
theorem HT (hS:SrchOk V n cs) (hc:ConOk (V:Int) (n:Int) c):((List.range (n^c.1.length)).all λk=>!Hn V n cs c k)=(AB V n cs (List.replicate V (-1))).all (Cn · c):=by
 have hv: ∀v∈c.1,0<=v/\v<(V:Int):=λv hv=>by
  obtain⟨i,hi,rfl⟩:=List.mem_iff_getElem.1 hv
  exact hc.sv i hi
 rw[Bool.eq_iff_iff,List.all_eq_true,List.all_eq_true]
 constructor
 ·intro h t ht
  have hm:c.1.map (CY t)∈CZ V n cs c.1:=List.mem_map.2 ⟨t,ht,rfl⟩
  obtain⟨h1,h2⟩:=EA hS hv hm
  have:=Gq h1 h2
  unfold Hl at this
  obtain⟨k,hk,e⟩:=List.mem_map.1 this
  have:=h k hk
  unfold Hn at this
  rw[e,decide_eq_true hm]at this
  unfold Cn
  simpa using this
 ·intro h k hk
  unfold Hn
  by_cases hm:cI (dg n c.1.length k)∈CZ V n cs c.1
  ·have hm':=hm
   unfold CZ at hm'
   obtain⟨s,hs,e⟩:=List.mem_map.1 hm'
   have:=h s hs
   unfold Cn at this
   rw[e]at this
   rw[this];rfl
  ·rw[decide_eq_false hm];simp
theorem Ij (hc:ConOk (V:Int) (n:Int) c):ROk n c.1.length c.2:=
 ⟨hc.sl.symm,by have:=hc.ar;have:=hc.sl;omega,hc.tl,λt ht x hx=>by
  obtain⟨i,hi,rfl⟩:=List.mem_iff_getElem.1 hx
  exact hc.tv t ht i hi,hc.many,hc.inc⟩
theorem I0 (hS:SrchOk V n cs) (hc:ConOk (V:Int) (n:Int) c) (hcs:Gy c):Bc Ad (((V:Int),((n:Int),cs)),c,0)=some (if(AB V n cs (List.replicate V (-1))).all (Cn · c)then .inl ()else .inr (false,true)):=by
 have hn:=hS.hn
 have hV:=hS.hv
 have har:=hc.ar
 have hsl:=hc.sl
 have hl:c.1.length<=3:=by omega
 have hv: ∀v∈c.1,0<=v/\v<(V:Int):=λv hv=>by
  obtain⟨i,hi,rfl⟩:=List.mem_iff_getElem.1 hv
  exact hc.sv i hi
 have hpow:n^c.1.length<=64:=Nat.le_trans (Nat.pow_le_pow_left hn.2 _) (Nat.le_trans (Nat.pow_le_pow_right (by omega) hl) (by decide))
 have:=H4 (n^c.1.length) (λf (_:Unit) i=>Bc f (((V:Int),((n:Int),cs)),c,i)) (λ_=>()) (λk=>!Hn V n cs c k) (r:=some (.inr (false,true))) (e:=some (.inl ())) (λf k hk=>?_) (λf=>?_) (n:=Ad) (by unfold Ad;omega)
 ·have this:Bc Ad (((V:Int),((n:Int),cs)),c,0)=_:=this
  rw[this,HT hS hc]
  cases (AB V n cs (List.replicate V (-1))).all (Cn · c)<;>rfl
 ·have e1:=DT (b:=n) (k:=c.1.length) (by omega) hl
  have e2:=Dx (b:=n) (k:=c.1.length) (i:=k) (by omega) (by omega) (by omega)
  have e3:=Eu (N:=V) (by omega)
  have hq:=EY (n:=n) (k:=c.1.length) (i:=k) (by omega)
  have hql:=Ee (n:=n) (k:=c.1.length) (i:=k)
  have e4:=I1 (V:=V) (c:=c) (t:=cI (dg n c.1.length k)) hql.symm hl hv ((V:Int),((n:Int),cs)) (k:Int) (!decide (cI (dg n c.1.length k)∈c.2.2))
  have e4:Bd Ad (((V:Int),((n:Int),cs)),(c.1,(c.2.1,c.2.2)),(k:Int),cI (dg n c.1.length k),List.replicate V (-1),!decide (cI (dg n c.1.length k)∈c.2.2),0)=_:=e4
  have e8:C7 (c.2.1,c.2.2) (cI (dg n c.1.length k))=some (decide (cI (dg n c.1.length k)∈c.2.2)):=Ff (Ij hc) hql
  have hpl:((c.1.zip (cI (dg n c.1.length k))).foldl pgS (List.replicate V (-1),true)).1.length=V:=by rw[EJ];simp
  obtain⟨s,e5,e6⟩:=F9 hS hpl
  have e7:=Gh (V:=V) (n:=n) (cs:=cs) (t:=cI (dg n c.1.length k)) hql.symm hv λx hx=>(hq x hx).1
  have hb:Hn V n cs c k=(!decide (cI (dg n c.1.length k)∈c.2.2)&&decide (cI (dg n c.1.length k)∈CZ V n cs c.1)):=rfl
  rw[hb,←e7]
  simp only[Bc,e1,e2,e3,e8,e4,Option.bind_some,Aw (show k<4611686018427387904 by omega)]
  rw[if_pos (by rw[decide_eq_true_eq];omega)]
  cases hm:decide (cI (dg n c.1.length k)∈c.2.2)with
  |true=>
   rw[show(!true)=false from rfl,Gi (P:= []) _ _ rfl]
   simp
  |false=>
   rw[show(!false)=true from rfl]
   clear e4
   generalize hz:((c.1.zip (cI (dg n c.1.length k))).foldl pgS (List.replicate V (-1),true))=z at*
   cases z.2 with
   |false=>simp
   |true=>
    simp only[if_true,e5,Option.bind_some,e6,Bool.true_and]
    cases (AB V n cs z.1).isEmpty<;>simp
 ·have e1:=DT (b:=n) (k:=c.1.length) (by omega) hl
  simp only[Bc,e1,Option.bind_some]
  rw[if_neg (by simp)]
theorem EB (h:Ey a) (hc:Gy c):Ah a c=some (imV a c):=by
 unfold Ah imV
 rw[BH (a:=(a.1,(a.2.1,a.2.2))) h,show B2 (a.1,(a.2.1,a.2.2))=B2 a from rfl]
 cases hb:B2 a with
 |false=>simp
 |true=>
  have hN:=EH hb
  have hv:=hN.hv
  have hn:=hN.hn
  have e1:Dw a.1 a.2.1 (c.1,(c.2.1,c.2.2))=_:=Ej (v:=a.1) (n:=a.2.1) hc hv (by omega)
  simp only[Option.bind_some,Bool.not_true,Bool.false_eq_true,if_false,Bool.true_and,e1]
  cases hcb:DM a.1 a.2.1 c with
  |false=>simp
  |true=>
   obtain⟨V,n,cs,rfl,hS⟩:=Ds hb
   have hn:=hS.hn
   have hco:=Gz (v:=(V:Int)) (n:=(n:Int)) (by omega) hcb
   have e2:Bc Ad (((V:Int),((n:Int),cs)),(c.1,(c.2.1,c.2.2)),0)=_:=I0 hS hco hc
   simp only[Option.bind_some,Bool.not_true,Bool.false_eq_true,if_false,e2,if_true,Int.toNat_natCast]
   cases (AB V n cs (List.replicate V (-1))).all (Cn · c)<;>rfl
end
end T
open Go Go.Va
namespace T
section
variable {V n:Nat} {cs:List Con} {c:Con} {a:Net} {p:List Int}
def FJ (p t:List Int) (v:Nat):Bool:=decide (p.getD v 0<0)||p.getD v 0==t.getD v 0
theorem HY {given:List Int} {ok:List Int->Bool} {m:Nat} {pre t:List Int} (h:t∈CB n given ok m pre) {v:Nat} (hv:v<pre.length):t.getD v 0=pre.getD v 0:=by
 obtain⟨h1,h2,_⟩:=(DA m pre t).1 h
 have:(t.take pre.length).getD v 0=pre.getD v 0:=by rw[h2]
 rw[AF (by rw[List.length_take];omega),List.getElem_take]at this
 rw[AF (by omega),this]
theorem Es {α β:Type} {f g:α->List β}: ∀ {l:List α},(∀x∈l,f x=g x)->l.flatMap f=l.flatMap g
 | [],_=>rfl
 |x::l,h=>by rw[List.flatMap_cons,List.flatMap_cons,h x (List.mem_cons_self ..),Es λy hy=>h y (List.mem_cons_of_mem _ hy)]
theorem E2 {ok:List Int->Bool} {N:Nat}: ∀(m:Nat) (pre:List Int),pre.length+m=N->CB n p ok m pre=(CB n (List.replicate N (-1)) ok m pre).filter λt=>(List.range' pre.length m).all (FJ p t)
 |0,pre,_=>by simp[CB]
 |m+1,pre,h=>by
  simp only[CB,List.filter_flatMap]
  refine Es λx hx=>?_
  have hfree:Dp (List.replicate N (-1)) pre.length x=true:=E7 (N:=N) (by omega)
  rw[hfree,Bool.true_and]
  cases hok:ok (pre++ [(x:Int)])with
  |false=>simp
  |true=>
   simp only[Bool.and_true,if_true]
   have ih:=E2 (ok:=ok) (N:=N) m (pre++ [(x:Int)]) (by simp;omega)
   rw[List.length_append,List.length_singleton]at ih
   have hx': ∀t∈CB n (List.replicate N (-1)) ok m (pre++ [(x:Int)]),t.getD pre.length 0=(x:Int):=λt ht=>by
    rw[HY ht (by simp),AF (by simp),List.getElem_append_right (Nat.le_refl _)];simp
   have hm:Dp p pre.length x=(decide (p.getD pre.length 0<0)||p.getD pre.length 0==(x:Int)):=by
    unfold Dp
    by_cases h0:p.getD pre.length 0<0
    ·rw[decide_eq_true h0,decide_eq_false (show¬p.getD pre.length 0≥0 by omega)];rfl
    ·rw[decide_eq_false h0,decide_eq_true (show p.getD pre.length 0≥0 by omega)]
     simp[bne]
   rw[hm]
   rw[show(List.range' pre.length (m+1))=pre.length::List.range' (pre.length+1) m from rfl]
   simp only[List.all_cons]
   have e: ∀t∈CB n (List.replicate N (-1)) ok m (pre++ [(x:Int)]),(FJ p t pre.length&&(List.range' (pre.length+1) m).all (FJ p t))=((decide (p.getD pre.length 0<0)||p.getD pre.length 0==(x:Int))&&(List.range' (pre.length+1) m).all (FJ p t)):=λt ht=>by
    unfold FJ;rw[hx' t ht]
   rw[List.filter_congr e]
   cases (decide (p.getD pre.length 0<0)||p.getD pre.length 0==(x:Int))with
   |true=>simp only[if_true,Bool.true_and];exact ih
   |false=>simp
theorem Gn:AB V n cs p=(AB V n cs (List.replicate V (-1))).filter λt=>(List.range V).all (FJ p t):=by
 unfold AB
 have:=E2 (n:=n) (p:=p) (ok:=okN cs) (N:=V) V [] (by simp)
 rw[List.length_nil,←List.range_eq_range']at this
 exact this
theorem Fo (hs:Ey ((V:Int),((n:Int),cs))) (h:SrchOk V n cs):BF ((V:Int),((n:Int),cs))=some (((AB V n cs (List.replicate V (-1))).length:Int),true):=by
 have hV:=h.hv
 unfold BF
 rw[BH (a:=((V:Int),((n:Int),cs))) hs,Df h]
 simp only[Option.bind_some,Bool.not_true,Bool.false_eq_true,if_false,Eu (show V<=1000 by omega)]
 have key: ∀(l:List (List Int)) (k:Int),0<=k-> ∃b,Bq EN l ([],k,0,false)=some (([],k+l.length,0,false),b):=by
  intro l
  induction l with
  |nil=>intro k _;exact⟨true,by simp[Bq]⟩
  |cons t l ih=>
   intro k h0
   obtain⟨b,e⟩:=ih (k+1) (by omega)
   refine⟨b,?_⟩
   have hst:Dz (([],k+1,0,false):S19)=false:=rfl
   have hif:(if decide ((([]:List (List Int)).length:Int)<0)then []++ [t]else([]:List (List Int)))= []:=by simp
   simp only[Bq,EN,hif,hst,Bool.not_false]
   rw[List.length_cons]
   push_cast
   rw[show k+((l.length:Int)+1)=k+1+(l.length:Int) by omega]
   exact e
 obtain⟨b,e⟩:=key (AB V n cs (List.replicate V (-1))) 0 (by omega)
 have e5:=Dt (cs0:=cs) (given:=List.replicate V (-1)) (most:=0) (one:=false) h (by simp) (by omega) e
 rw[e5]
 simp
theorem G1 (hs:Ey a): ∃R:Int×Bool,BD a=some R/\BF a=some R/\ ∀(V n:Nat) (cs:List Con),a=((V:Int),((n:Int),cs))->SrchOk V n cs->R=(((AB V n cs (List.replicate V (-1))).length:Int),true):=by
 cases hb:B2 a with
 |false=>
  refine⟨(0,false),?_,?_,λV n cs e h=>?_⟩
  ·unfold BD
   rw[Bs (a:=(a.1,(a.2.1,a.2.2))) hs,show B2 (a.1,(a.2.1,a.2.2))=B2 a from rfl,hb];rfl
  ·unfold BF
   rw[BH (a:=(a.1,(a.2.1,a.2.2))) hs,show B2 (a.1,(a.2.1,a.2.2))=B2 a from rfl,hb];rfl
  ·rw[e,Df h]at hb;exact absurd hb (by simp)
 |true=>
  obtain⟨V,n,cs,rfl,hS⟩:=Ds hb
  have hlen:(AB V n cs (List.replicate V (-1))).length<=262144:=by
   refine Nat.le_trans (ET (n:=n) (given:=List.replicate V (-1)) V []) ?_
   exact Nat.le_trans (Nat.pow_le_pow_left hS.hn.2 V) (Nat.le_trans (Nat.pow_le_pow_right (by omega) hS.hv) (by decide))
  refine⟨_,FT hS (by omega),Fo hs hS,λV' n' cs' e h=>?_⟩
  simp only[Prod.mk.injEq]at e
  obtain⟨e1,e2,rfl⟩:=e
  obtain rfl:V=V':=by omega
  obtain rfl:n=n':=by omega
  rfl
def agP (V:Nat) (p t:List Int):Bool:=(List.range V).all λv=>p.getD v 0== -1||p.getD v 0==t.getD v 0
theorem IH {code:List Int} {n:Int} {first:List Int} {ok:Bool} {all:List (List Int)} {f:Int} (hV:V<=1000) (hp:p.length=V) {i:Nat} (hi:i<all.length) (ha:all[i].length=V):
  A8 Ad (code,((V:Int),(n,cs)),p,first,ok,all,f,(i:Int),true,0)=some (code,((V:Int),(n,cs)),p,first,ok,all,f,(i:Int),agP V p all[i]):=by
 have:=D0 V (λm (o:Bool) k=>A8 m (code,((V:Int),(n,cs)),p,first,ok,all,f,(i:Int),o,k)) (λk=>(List.range k).all λv=>p.getD v 0== -1||p.getD v 0==all[i].getD v 0) (r:=some (code,((V:Int),(n,cs)),p,first,ok,all,f,(i:Int),agP V p all[i])) (λm k hk=>?_) (λm=>?_) (n:=Ad) (by unfold Ad;omega)
 ·exact this
 ·have h1:k<p.length:=by omega
  have h2:k<all[i].length:=by omega
  rw[List.range_succ,List.all_append]
  simp only[A8,AA,hi,h1,h2,AC h1,AC hi,AC h2,if_true,List.all_cons,List.all_nil,Bool.and_true,AF h1,AF h2,Aw (show k<4611686018427387904 by omega)]
  rw[if_pos (by rw[decide_eq_true_eq];omega)]
  cases (List.range k).all λv=>p.getD v 0== -1||p.getD v 0==all[i].getD v 0 with
  |false=>simp
  |true=>
   simp only[if_true,Bool.true_and]
   by_cases h:p[k]= -1
   ·simp[h]
   ·have hf:(p[k]== -1)=false:=by simpa using h
    simp only[hf,Bool.false_eq_true,if_false,Bool.false_or]
 ·simp only[A8]
  rw[if_neg (by simp)];rfl
theorem HH {code:List Int} {n:Int} {first:List Int} {ok:Bool} {all:List (List Int)} (hV:V<=1000) (hp:p.length=V) (hl:all.length<=1000) (ha: ∀t∈all,t.length=V): ∀(d m:Nat) (f:Int),d<=all.length->d<m->
  ∃r:Int,AS m (code,((V:Int),(n,cs)),p,first,ok,all,f,(d:Int)-1)=some (code,first,ok,all,r)/\
   ((∀i (hi:i<all.length),i<d->agP V p all[i]=false)/\r=f∨ ∃(k:Nat) (hk:k<all.length),k<d/\r=(k:Int)/\agP V p all[k]=true/\ ∀i (hi:i<all.length),i<k->agP V p all[i]=false):=by
 intro d
 induction d with
 |zero=>
  intro m f _ hm
  obtain⟨m,rfl⟩: ∃z,m=z+1:=⟨m-1,by omega⟩
  refine⟨f,?_,.inl ⟨λi _ h=>by omega,rfl⟩⟩
  simp only[AS]
  rw[if_neg (by simp)]
 |succ d ih=>
  intro m f hd hm
  obtain⟨m,rfl⟩: ∃z,m=z+1:=⟨m-1,by omega⟩
  have e0:((d+1:Nat):Int)-1=(d:Int):=by omega
  have hdl:d<all.length:=by omega
  have e:=IH (cs:=cs) (code:=code) (n:=n) (first:=first) (ok:=ok) (f:=f) hV hp hdl (ha _ (List.getElem_mem hdl))
  have ew:w64 ((d:Int)-1)=(d:Int)-1:=Bp (by omega) (by omega)
  rw[e0]
  simp only[AS,e,Option.bind_some,ew]
  rw[if_pos (by rw[decide_eq_true_eq];omega)]
  cases hag:agP V p all[d]with
  |true=>
   simp only[if_true]
   obtain⟨r,q1,q2⟩:=ih m (d:Int) (by omega) (by omega)
   refine⟨r,q1,.inr ?_⟩
   rcases q2 with ⟨q3,rfl⟩|⟨k,hk,q3,q4,q5,q6⟩
   ·exact⟨d,hdl,by omega,rfl,hag,q3⟩
   ·exact⟨k,hk,by omega,q4,q5,q6⟩
  |false=>
   simp only[Bool.false_eq_true,if_false]
   obtain⟨r,q1,q2⟩:=ih m f (by omega) (by omega)
   refine⟨r,q1,?_⟩
   rcases q2 with ⟨q3,rfl⟩|⟨k,hk,q3,q4,q5,q6⟩
   ·refine .inl ⟨λi hi h=>?_,rfl⟩
    by_cases hid:i=d
    ·subst hid;exact hag
    ·exact q3 i hi (by omega)
   ·exact .inr ⟨k,hk,by omega,q4,q5,q6⟩
end
def GI (t0:List Int):Option Bool:=
 (Ag t0).bind λr186=>
 (Al (r186.1.1,(r186.1.2.1,r186.1.2.2)) r186.2).bind λr187=>
 (Am (r186.1.1,(r186.1.2.1,r186.1.2.2)) r186.2).bind λr188=>
 if r187.2 !=r188.2 then
 some false
 else
 if r187.1.1 !=r188.1.1 then
 some false
 else
 (AP r187.1.2 r188.1.2).bind λr189=>
 if !r189 then
 some false
 else
 if r187.2 then
 (Aa (r186.1.1,(r186.1.2.1,r186.1.2.2)) (r186.2,(r187.1.1,r187.1.2))).bind λr190=>
 if !r190.2 then
 some false
 else
 if !r190.1 then
 some false
 else
 (Ac t0).bind λr191=>
 (Aa (r191.1.1,(r191.1.2.1,r191.1.2.2)) (r191.2.1,(r191.2.2.1,r191.2.2.2))).bind λr192=>
 (Ah (r191.1.1,(r191.1.2.1,r191.1.2.2)) (r191.2.1,(r191.2.2.1,r191.2.2.2))).bind λr193=>
 if r192.1==r193.1 then
 some (r192.2==r193.2)
 else
 some false
 else
 (Ac t0).bind λr194=>
 (Aa (r194.1.1,(r194.1.2.1,r194.1.2.2)) (r194.2.1,(r194.2.2.1,r194.2.2.2))).bind λr195=>
 (Ah (r194.1.1,(r194.1.2.1,r194.1.2.2)) (r194.2.1,(r194.2.2.1,r194.2.2.2))).bind λr196=>
 if r195.1==r196.1 then
 some (r195.2==r196.2)
 else
 some false
end T
open Go Go.Va
namespace T
theorem FI {code:List Int} (h1:code.length<=65536) (h2: ∀x∈code,0<=x/\x<256): ∃a o,Cw code=some (a,o)/\Hb a/\o.length<=11:=by
 obtain⟨c1,a,e1,g1,hD⟩:=En (k:=0) (c:=(code,(0,0))) ⟨h1,h2,by simp,by simp⟩ (by omega)
 have hn:=hD.2.2.2.1
 obtain⟨c2,o,e2,g2,h3⟩:=Gt g1 (by omega) (a:=a) (by omega) true
 have e2:Cm (c1.1,(c1.2.1,c1.2.2)) (a.1,(a.2.1,a.2.2)) true=_:=e2
 unfold Cw
 simp only[e1,e2,Option.bind_some]
 exact⟨a,o,rfl,hD,h3⟩
theorem IF {t2 a:Net} (ha:a.1<=100): ∀(d f k:Nat) (c:CR) (o:List Int),d<f->Cur k c->k+2*d<=1000000->o.length+d<=4->
  ∃c' o',AR f (t2,c,a,o,(d:Int))=some (t2,c',a,o')/\Cur (k+2*d) c'/\o'.length<=4:=by
 intro d
 induction d with
 |zero=>
  intro f k c o hf hc hk hs
  obtain⟨f,rfl⟩: ∃z,f=z+1:=⟨f-1,by omega⟩
  refine⟨c,o,?_,hc,by omega⟩
  simp only[AR]
  rw[if_neg (by simp)]
 |succ d ih=>
  intro f k c o hf hc hk hs
  obtain⟨f,rfl⟩: ∃z,f=z+1:=⟨f-1,by omega⟩
  obtain⟨m,e1,m1,m2,m3⟩:=FC a.1
  obtain⟨c1,y,e2,g2,_⟩:=Ck hc (by omega) m (by omega)
  have e2:Ae (c.1,(c.2.1,c.2.2)) m=_:=e2
  obtain⟨c',o',e3,g3,h3⟩:=ih f (k+2) c1 (o++ [y]) (by omega) g2 (by omega) (by simp;omega)
  refine⟨c',o',?_,g3.mono (by omega),h3⟩
  have ew:w64 (((d+1:Nat):Int)-1)=(d:Int):=by rw[Bp (by omega) (by omega)];omega
  simp only[AR,e1,e2,Option.bind_some,ew]
  rw[if_pos (by rw[decide_eq_true_eq];omega),if_pos (by rw[List.length_singleton];unfold lim;omega)]
  exact e3
theorem Fj {code:List Int} (h1:code.length<=65536) (h2: ∀x∈code,0<=x/\x<256): ∃a o,Ag code=some (a,o)/\Hb a/\o.length<=4:=by
 obtain⟨c1,a,e1,g1,hD⟩:=En (k:=0) (c:=(code,(0,0))) ⟨h1,h2,by simp,by simp⟩ (by omega)
 obtain⟨d1,y1,c2,m,e2,i2,f2,g2,m2⟩:=EI g1 (by omega) [1,2,2,3,0,4] 4 11 (by omega) (by omega) (by simp) (by simp)
 have f2:Ab (d1.1,(d1.2.1,d1.2.2)) (([1,2,2,3,0,4].take (Int.toNat (w64 (4+(w64 (Int.tdiv y1 11)))))).drop (Int.toNat 0))=_:=f2
 obtain⟨m,rfl⟩: ∃z:Nat,m=(z:Int):=⟨m.toNat,by simp at m2;omega⟩
 have hm:m<=4:=by simp at m2;omega
 obtain⟨c3,o,e3,g3,h3⟩:=IF (t2:=(0,(0,[]))) (a:=a) (by have:=hD.2.1;omega) m Ad _ c2 [] (by unfold Ad;omega) g2 (by omega) (by simpa using hm)
 have e3:AR Ad ((0,(0,[])),(c2.1,(c2.2.1,c2.2.2)),(a.1,(a.2.1,a.2.2)),[],(m:Int))=_:=e3
 obtain⟨c4,x,e4,g4⟩:=D5 g3 (by omega) 20 (by omega)
 have e4:Av (c3.1,(c3.2.1,c3.2.2)) 20=_:=e4
 unfold Ag
 simp only[e1,e2,Option.bind_some]
 rw[if_pos (by decide),if_pos (show(0:Int)<=0/\0<=(w64 (4+(w64 (Int.tdiv y1 11))))/\(w64 (4+(w64 (Int.tdiv y1 11))))<=([1,2,2,3,0,4].length:Int) from i2),f2]
 simp only[e3,e4,Option.bind_some]
 cases x with
 |false=>
  simp only[Bool.false_eq_true,if_false]
  exact⟨a,o,rfl,hD,h3⟩
 |true=>
  obtain⟨c5,y,e5,g5,_⟩:=CA g4 (by omega) (l:= [(-1),a.1]) (by simp) (by simp)
  have e5:Ab (c4.1,(c4.2.1,c4.2.2)) [(-1),a.1]=_:=e5
  simp only[if_true,e5,Option.bind_some]
  exact⟨a,_,rfl,hD,by simp⟩
theorem IG {t2 a:Net} {t3:Con} {rl:C8} (ha:a.1<=100): ∀(d f k x:Nat) (c:CR) (s:List Int),x+d=4->d<f->Cur k c->k+2*d<=1000000->s.length=x->
  ∃c' s',AN f (t2,t3,c,a,(s,rl),(x:Int))=some (t2,t3,c',a,(s',rl))/\Cur (k+2*d) c'/\s'.length<=4:=by
 intro d
 induction d with
 |zero=>
  intro f k x c s hx hf hc hk hs
  obtain⟨f,rfl⟩: ∃z,f=z+1:=⟨f-1,by omega⟩
  refine⟨c,s,?_,hc,by omega⟩
  simp only[AN]
  rw[if_neg (show¬decide ((x:Int)<4)=true by rw[decide_eq_true_eq];omega)]
  simp
 |succ d ih=>
  intro f k x c s hx hf hc hk hs
  obtain⟨f,rfl⟩: ∃z,f=z+1:=⟨f-1,by omega⟩
  simp only[AN]
  by_cases h:(x:Int)<rl.1
  ·obtain⟨m,e1,m1,m2,m3⟩:=FC a.1
   obtain⟨c1,y,e2,g2,_⟩:=Ck hc (by omega) m (by omega)
   have e2:Ae (c.1,(c.2.1,c.2.2)) m=_:=e2
   obtain⟨c',s',e3,g3,h3⟩:=ih f (k+2) (x+1) c1 (s++ [y]) (by omega) (by omega) g2 (by omega) (by simp;omega)
   refine⟨c',s',?_,g3.mono (by omega),h3⟩
   rw[if_pos (by simpa using h),if_pos (by simp;omega)]
   simp only[e1,Option.bind_some,e2]
   rw[if_pos (by rw[List.length_singleton];unfold lim;omega),Aw (by omega)]
   exact e3
  ·exact⟨c,s,by rw[if_neg (by simpa using h)],hc.mono (by omega),by omega⟩
def Gg (c:CR) (a:Net) (rl:C8):Option (Net×Con):=
 (AN Ad ((0,(0,[])),([],(0,[])),c,a,([],rl),0)).bind λs7=>
 if decide ((s7.2.2.2.1.2.2.length:Int)>0)then
 (Av (s7.2.2.1.1,(s7.2.2.1.2.1,s7.2.2.1.2.2)) 3).bind λr8=>
 if r8.2 then
 if inb 0 s7.2.2.2.1.2.2 then
 some ((s7.2.2.2.1.1,(s7.2.2.2.1.2.1,s7.2.2.2.1.2.2)),((gd s7.2.2.2.1.2.2 0 ([],(0,[]))).1,(s7.2.2.2.2.2.1,s7.2.2.2.2.2.2)))
 else none
 else
 some ((s7.2.2.2.1.1,(s7.2.2.2.1.2.1,s7.2.2.2.1.2.2)),(s7.2.2.2.2.1,(s7.2.2.2.2.2.1,s7.2.2.2.2.2.2)))
 else
 some ((s7.2.2.2.1.1,(s7.2.2.2.1.2.1,s7.2.2.2.1.2.2)),(s7.2.2.2.2.1,(s7.2.2.2.2.2.1,s7.2.2.2.2.2.2)))
theorem E8 {k:Nat} {c:CR} (hc:Cur k c) (hk:k<=100000) {a:Net} (hD:Hb a) {rl:C8} (hr:rowsB 601 3 rl.2): ∃q,Gg c a rl=some (a,q)/\conD 5 q:=by
 obtain⟨c1,s,e1,g1,h1⟩:=IG (t2:=(0,(0,[]))) (t3:=([],(0,[]))) (a:=a) (rl:=rl) (by have:=hD.2.1;omega) 4 Ad k 0 c [] (by omega) (by unfold Ad;omega) hc (by omega) rfl
 have e1:AN Ad ((0,(0,[])),([],(0,[])),c,a,([],rl),0)=_:=e1
 unfold Gg
 simp only[e1,Option.bind_some]
 by_cases hl:0<a.2.2.length
 ·rw[if_pos (by rw[decide_eq_true_eq];omega)]
  obtain⟨c2,x,e2,g2⟩:=D5 g1 (by omega) 3 (by omega)
  have e2:Av (c1.1,(c1.2.1,c1.2.2)) 3=_:=e2
  simp only[e2,Option.bind_some]
  cases x with
  |true=>
   have hi:inb 0 a.2.2:=by unfold inb;omega
   have hg:gd a.2.2 0 ([],(0,[]))=a.2.2[0]:=AC (k:=0) hl
   rw[if_pos rfl,if_pos hi]
   simp only[hg]
   exact⟨_,rfl,(hD.2.2.2.2.2 _ (List.getElem_mem hl)).1,hr⟩
  |false=>
   simp only[Bool.false_eq_true,if_false]
   exact⟨_,rfl,by dsimp only;omega,hr⟩
 ·rw[if_neg (by rw[decide_eq_true_eq];omega)]
  exact⟨_,rfl,by dsimp only;omega,hr⟩
theorem EV {code:List Int} (h1:code.length<=65536) (h2: ∀x∈code,0<=x/\x<256): ∃a q,Ac code=some (a,q)/\Hb a/\conD 5 q:=by
 obtain⟨c1,a,e1,g1,hD⟩:=En (k:=0) (c:=(code,(0,0))) ⟨h1,h2,by simp,by simp⟩ (by omega)
 have hn:=hD.2.2.2.1
 have hl41:=hD.2.2.2.2.1
 obtain⟨m,e2,m1,m2,m3⟩:=FC a.2.1
 obtain⟨c2,x,e3,g3,_⟩:=CA g1 (by omega) (l:= [1,2,2,3]) (by simp) (by simp)
 have e3:Ab (c1.1,(c1.2.1,c1.2.2)) [1,2,2,3]=_:=e3
 obtain⟨c3,r,e4,g4,hr⟩:=D6 (N:=m) (A:=x) g3 (by omega) (by omega)
 have e4:A9 (c2.1,(c2.2.1,c2.2.2)) m x=_:=e4
 unfold Ac
 simp only[e1,e2,e3,e4,Option.bind_some]
 by_cases hl:0<a.2.2.length
 ·rw[if_pos (by rw[decide_eq_true_eq];omega)]
  obtain⟨c4,y,e5,g5⟩:=D5 g4 (by omega) 2 (by omega)
  have e5:Av (c3.1,(c3.2.1,c3.2.2)) 2=_:=e5
  simp only[e5,Option.bind_some]
  cases y with
  |false=>
   simp only[Bool.false_eq_true,if_false]
   obtain⟨q,q1,q2⟩:=E8 g5 (by omega) hD hr
   unfold Gg at q1
   exact⟨a,q,q1,hD,q2⟩
  |true=>
   rw[if_pos rfl]
   obtain⟨c5,z,e6,g6,h60,h61,_⟩:=Ck g5 (by omega) (a.2.2.length:Int) (by omega)
   have e6:Ae (c4.1,(c4.2.1,c4.2.2)) (a.2.2.length:Int)=_:=e6
   obtain⟨i,rfl⟩: ∃i:Nat,z=(i:Int):=⟨z.toNat,by omega⟩
   have hi:i<a.2.2.length:=by have:=h61 (by omega);omega
   simp only[e6,Option.bind_some,AA,hi,if_true,AC hi]
   obtain⟨q,q1,q2⟩:=E8 g6 (by omega) hD (rl:=a.2.2[i].2) (hD.2.2.2.2.2 _ (List.getElem_mem hi)).2
   unfold Gg at q1
   exact⟨a,q,q1,hD,q2⟩
 ·rw[if_neg (by rw[decide_eq_true_eq];omega)]
  obtain⟨q,q1,q2⟩:=E8 g4 (by omega) hD hr
  unfold Gg at q1
  exact⟨a,q,q1,hD,q2⟩
theorem Hr {c:Con} (h:conD 5 c):Gy c:=⟨by have:=h.1;omega,by have:=h.2.1;omega,λr hr=>by have:=h.2.2 r hr;omega⟩
theorem GM {a:Net} {vars:List Int} (h:(srR a vars).2=true):imV a (vars,(srR a vars).1)=(true,true):=by
 unfold srR at h⊢
 cases hc:B2 a&&(decide (1<=vars.length/\vars.length<=3)&&Bf a.1 vars)with
 |false=>rw[hc]at h;simp at h
 |true=>
  simp only[if_true]
  rw[Bool.and_eq_true,Bool.and_eq_true,decide_eq_true_eq]at hc
  obtain⟨hb,hl,hbel⟩:=hc
  obtain⟨V,n,cs,rfl,hS⟩:=Ds hb
  have hv: ∀v∈vars,0<=v/\v<(V:Int):=λv hv=>by
   unfold Bf at hbel
   exact of_decide_eq_true (List.all_eq_true.1 hbel v hv)
  have hcon:DM (V:Int) (n:Int) (vars,((vars.length:Int),Eh (CZ V n cs vars)))=true:=by
   unfold DM Fm
   simp only[Bool.and_eq_true,decide_eq_true_eq,List.all_eq_true]
   refine⟨⟨⟨⟨by omega,λt ht=>?_⟩,Fb _⟩,trivial⟩,hbel⟩
   obtain⟨t1,t2⟩:=EA hS hv (setL_mem.1 ht)
   refine⟨by omega,?_⟩
   unfold Bf
   rw[List.all_eq_true]
   exact λx hx=>decide_eq_true (t2 x hx)
  unfold imV
  dsimp only
  simp only[Int.toNat_natCast]
  rw[hb,hcon,Bool.and_self,if_pos rfl]
  have:(AB V n cs (List.replicate V (-1))).all (Cn · (vars,((vars.length:Int),Eh (CZ V n cs vars))))=true:=by
   rw[List.all_eq_true]
   intro t ht
   unfold Cn
   exact decide_eq_true (setL_mem.2 (List.mem_map.2 ⟨t,ht,rfl⟩))
  rw[this]
theorem Hd {code:List Int} (h1:code.length<=65536) (h2: ∀x∈code,0<=x/\x<256):GI code=some true:=by
 obtain⟨u,vars,e1,hU,hv⟩:=Fj h1 h2
 obtain⟨w,q,e2,hW,hq⟩:=EV h1 h2
 have hUs:=GH hU
 have hWs:=GH hW
 obtain⟨s1,s2,s3,s4⟩:=Ef (a:=u) (vars:=vars) hUs (by omega)
 have s1:Al (u.1,(u.2.1,u.2.2)) vars=_:=s1
 have s2:Am (u.1,(u.2.1,u.2.2)) vars=_:=s2
 have s5:=FF (a:=(srR u vars).1.2) (b:=(srR u vars).1.2) (by omega) (λt ht=>by have:=s4 t ht;omega)
 have s6:Aa (u.1,(u.2.1,u.2.2)) (vars,((srR u vars).1.1,(srR u vars).1.2))=_:=DB (a:=u) (c:=(vars,(srR u vars).1)) hUs ⟨by dsimp only;omega,by dsimp only;omega,λr hr=>by have:=s4 r hr;omega⟩
 have s7:Aa (w.1,(w.2.1,w.2.2)) (q.1,(q.2.1,q.2.2))=_:=DB (a:=w) (c:=q) hWs (Hr hq)
 have s8:Ah (w.1,(w.2.1,w.2.2)) (q.1,(q.2.1,q.2.2))=_:=EB (a:=w) (c:=q) hWs (Hr hq)
 unfold GI
 simp only[e1,e2,s1,s2,s5,s7,s8,Option.bind_some,bne_self_eq_false,decide_true,Bool.not_true,Bool.false_eq_true,if_false]
 cases hok:(srR u vars).2 with
 |false=>simp
 |true=>
  rw[GM hok]at s6
  simp only[if_true,s6,Option.bind_some,Bool.not_true,Bool.false_eq_true,if_false]
  simp
end T
open Go Go.Va
namespace T
theorem FnNetworks_law {code:List Int} (h:wfT (.slice (.num .u8)) code):DU code=some true:=by
 unfold DU FA
 simp only[Option.bind_some]
 by_cases hb:(code.length:Int)>65536
 ·rw[if_pos (decide_eq_true hb)]
 ·rw[if_neg (by simpa using hb)]
  have h1:code.length<=65536:=by omega
  have h2: ∀x∈code,0<=x/\x<256:=λx hx=>by
   have:IntKind.u8.min<=x/\x<=IntKind.u8.max:=h.2 x hx
   have e1:IntKind.u8.min=0:=by decide
   have e2:IntKind.u8.max=255:=by decide
   omega
  have hT:=Hd h1 h2
  unfold GI at hT
  obtain⟨a,p,e1,hD,hp⟩:=FI h1 h2
  have hS:=GH hD
  have f1:Cv (a.1,(a.2.1,a.2.2)) p=_:=DX hS (p:=p) (by omega)
  have f2:Cy (a.1,(a.2.1,a.2.2)) p=_:=DY hS (p:=p) (by omega)
  obtain⟨C,c1,c2,c3⟩:=G1 hS
  have c1:BD (a.1,(a.2.1,a.2.2))=_:=c1
  have c2:BF (a.1,(a.2.1,a.2.2))=_:=c2
  obtain⟨A,a1,a2,a3,a4⟩:=ED hS
  have a1:BR (a.1,(a.2.1,a.2.2))=_:=a1
  have a2:BW (a.1,(a.2.1,a.2.2))=_:=a2
  have hfl:(fsV a p).1.length<=1000:=by
   unfold fsV
   split
   ·rename_i hc
    rw[Bool.and_eq_true]at hc
    have hv:=(EH hc.1).hv
    split
    ·simp
    ·rename_i t l ht
     have:=Dk (show t∈AB a.1.toNat a.2.1.toNat a.2.2 p by rw[ht];exact List.mem_cons_self ..)
     dsimp only;omega
   ·simp
  have r1:=Fa (a:=(fsV a p).1) (b:=(fsV a p).1) (by omega)
  have hAs:A.1.length<=300/\ ∀t∈A.1,t.length<=1048576:=by
   cases hb:B2 a with
   |false=>rw[a3 hb];simp
   |true=>
    obtain⟨V,n,cs,rfl,hO⟩:=Ds hb
    have hV:=hO.hv
    rw[a4 V n cs rfl hO]
    unfold FV
    split
    ·exact⟨by assumption,λt ht=>by rw[Dk ht];omega⟩
    ·simp
  have r2:=FF (a:=A.1) (b:=A.1) (by omega) hAs.2
  simp only[e1,f1,f2,c1,c2,a1,a2,r1,r2,Option.bind_some,bne_self_eq_false,decide_true,Bool.not_true,Bool.false_eq_true,if_false]
  cases hb:B2 a with
  |false=>
   have q1:fsV a p=([],false):=by unfold fsV;rw[hb];rfl
   have q2:=a3 hb
   subst q2
   rw[q1]
   simp only[Bool.false_eq_true,if_false]
   exact hT
  |true=>
   obtain⟨V,n,cs,rfl,hO⟩:=Ds hb
   have hV:=hO.hv
   have q2:=a4 V n cs rfl hO
   have q3:=c3 V n cs rfl hO
   subst q3
   have hfs:fsV ((V:Int),((n:Int),cs)) p=([],false)∨ ∃t l,Yib ((V:Int),((n:Int),cs)) p=true/\AB V n cs p=t::l/\fsV ((V:Int),((n:Int),cs)) p=(t,true):=by
    unfold fsV
    simp only[Int.toNat_natCast,hb,Bool.true_and]
    cases hpb:Yib ((V:Int),((n:Int),cs)) p with
    |false=>left;rfl
    |true=>
     simp only[if_true]
     cases hs:AB V n cs p with
     |nil=>left;rfl
     |cons t l=>exact .inr ⟨t,l,trivial,rfl,rfl⟩
   rcases hfs with hfs|⟨t,l,hpb,hs,hfs⟩
   ·rw[hfs]
    simp only[Bool.false_eq_true,if_false]
    cases hA2:A.2 with
    |false=>
     simp only[Bool.false_eq_true,if_false]
     exact hT
    |true=>
     have hA:A.1=AB V n cs (List.replicate V (-1)):=by
      rw[q2]at hA2⊢
      unfold FV at hA2⊢
      split at hA2
      ·rw[if_pos (by assumption)]
      ·simp at hA2
     rw[hA]at hAs⊢
     simp only[if_true,bne_self_eq_false,Bool.false_eq_true,if_false]
     by_cases hpl:(p.length:Int)=(V:Int)
     ·rw[if_pos (by simpa using hpl)]
      have ew:w64 (((AB V n cs (List.replicate V (-1))).length:Int)-1)=((AB V n cs (List.replicate V (-1))).length:Int)-1:=Bp (by omega) (by omega)
      obtain⟨r,q4,_⟩:=HH (cs:=cs) (code:=code) (n:=(n:Int)) (first:= []) (ok:=false) (all:=AB V n cs (List.replicate V (-1))) (p:=p) (V:=V) (by omega) (by omega) (by omega) (λt ht=>Dk ht) (AB V n cs (List.replicate V (-1))).length Ad (-1) (by omega) (by unfold Ad;omega)
      simp only[ew,q4,Option.bind_some,Bool.false_eq_true,if_false]
      exact hT
     ·rw[if_neg (by simpa using hpl)]
      exact hT
   ·have hmp:t∈AB V n cs p:=by rw[hs];exact List.mem_cons_self ..
    have hfil:=Gn (V:=V) (n:=n) (cs:=cs) (p:=p)
    have hmf:t∈AB V n cs (List.replicate V (-1)):=by rw[hfil]at hmp;exact(List.mem_filter.1 hmp).1
    have s1:=(IL hS (v:=t) (by rw[Dk hmf];omega)).2.2.1
    rw[H8 hO hmf]at s1
    rw[hfs]
    simp only[if_true,s1,Option.bind_some,Bool.not_true,Bool.false_eq_true,if_false]
    cases hA2:A.2 with
    |false=>
     simp only[Bool.false_eq_true,if_false]
     exact hT
    |true=>
     have hA:A.1=AB V n cs (List.replicate V (-1)):=by
      rw[q2]at hA2⊢
      unfold FV at hA2⊢
      split at hA2
      ·rw[if_pos (by assumption)]
      ·simp at hA2
     rw[hA]at hAs⊢
     have hpb':=hpb
     unfold Yib at hpb'
     rw[Bool.and_eq_true,decide_eq_true_eq,List.all_eq_true]at hpb'
     obtain⟨hpl,hpv⟩:=hpb'
     dsimp only at hpl
     have ew:w64 (((AB V n cs (List.replicate V (-1))).length:Int)-1)=((AB V n cs (List.replicate V (-1))).length:Int)-1:=Bp (by omega) (by omega)
     obtain⟨r,q4,q5⟩:=HH (cs:=cs) (code:=code) (n:=(n:Int)) (first:=t) (ok:=true) (all:=AB V n cs (List.replicate V (-1))) (p:=p) (V:=V) (by omega) (by omega) (by omega) (λt ht=>Dk ht) (AB V n cs (List.replicate V (-1))).length Ad (-1) (by omega) (by unfold Ad;omega)
     have hag: ∀u,(List.range V).all (FJ p u)=agP V p u:=λu=>by
      have hpt: ∀v∈List.range V,FJ p u v=(p.getD v 0== -1||p.getD v 0==u.getD v 0):=λv hv=>by
       have hv:=List.mem_range.1 hv
       unfold FJ
       have h3:=of_decide_eq_true (hpv _ (List.getElem_mem (show v<p.length by omega)))
       rw[AF (show v<p.length by omega)]
       congr 1
       rw[Bool.eq_iff_iff,decide_eq_true_eq,beq_iff_eq]
       omega
      unfold agP
      rw[Bool.eq_iff_iff,List.all_eq_true,List.all_eq_true]
      exact⟨λh v hv=>by rw[←hpt v hv];exact h v hv,λh v hv=>by rw[hpt v hv];exact h v hv⟩
     have hfil':AB V n cs p=(AB V n cs (List.replicate V (-1))).filter (agP V p):=by
      rw[hfil];exact List.filter_congr λu _=>hag u
     rw[hs]at hfil'
     simp only[if_true,bne_self_eq_false,Bool.false_eq_true,if_false]
     rw[if_pos (by simpa using hpl)]
     simp only[ew,q4,Option.bind_some,if_true]
     generalize AB V n cs (List.replicate V (-1))=L at*
     have hr: ∃(k:Nat) (hk:k<L.length),r=(k:Int)/\L[k]=t:=by
      rcases q5 with ⟨q6,_⟩|⟨k,hk,_,q7,q8,q9⟩
      ·exfalso
       have hm:t∈L.filter (agP V p):=by rw[←hfil'];exact List.mem_cons_self ..
       obtain⟨m1,m2⟩:=List.mem_filter.1 hm
       obtain⟨i,hi,rfl⟩:=List.mem_iff_getElem.1 m1
       rw[q6 i hi hi]at m2;cases m2
      ·refine⟨k,hk,q7,?_⟩
       have hsplit:L=L.take k++L[k]::L.drop (k+1):=by rw[List.getElem_cons_drop,List.take_append_drop]
       have hnil:(L.take k).filter (agP V p)= []:=by
        rw[List.filter_eq_nil_iff]
        intro u hu
        obtain⟨i,hi,rfl⟩:=List.mem_iff_getElem.1 hu
        rw[List.length_take]at hi
        rw[List.getElem_take,q9 i (by omega) (by omega)];simp
       rw[hsplit,List.filter_append,hnil,List.nil_append,List.filter_cons,if_pos q8]at hfil'
       exact(List.cons.inj hfil').1.symm
     obtain⟨k,hk,rfl,hkt⟩:=hr
     have hg:gd L (k:Int) []=t:=by rw[AC hk,hkt]
     have r5:=Fa (a:=t) (b:=t) (by rw[Dk hmp];omega)
     rw[if_neg (by rw[decide_eq_true_eq];omega)]
     simp only[AA,hk,if_true,hg,r5,Option.bind_some,decide_true,Bool.not_true,Bool.false_eq_true,if_false]
     exact hT
end T
open Go Go.Va
namespace T
def Ix (n k:Nat) (T:List Int) (x y z:List Int):List Int:=(List.range k).map λj=>T.getD (((x.getD j 0).toNat*n+(y.getD j 0).toNat)*n+(z.getD j 0).toNat) 0
inductive Clo (n k:Nat) (T:List Int) (gens:List (List Int)):List Int->Prop
 |gen {t:List Int}:t∈gens->Clo n k T gens t
 |app {x y z:List Int}:Clo n k T gens x->Clo n k T gens y->Clo n k T gens z->Clo n k T gens (Ix n k T x y z)
section
variable {n k:Nat} {T:List Int} {gens:List (List Int)}
def Closd (n k:Nat) (T:List Int) (L:List (List Int)):Prop:= ∀x∈L,∀y∈L,∀z∈L,Ix n k T x y z∈L
theorem Closd.mem {L:List (List Int)} (hg: ∀t∈gens,t∈L) (hc:Closd n k T L) {t:List Int} (c:Clo n k T gens t):t∈L:=by
 induction c with
 |gen h=>exact hg _ h
 |app _ _ _ i1 i2 i3=>exact hc _ i1 _ i2 _ i3
end
end T
open Go Go.Va
namespace T
section
variable {n k:Nat} {T:List Int} {gens:List (List Int)}
def Jg (n k:Nat) (T:List Int) (p:List (List Int)):List Int:=Ix n k T (p.getD 0 []) (p.getD 1 []) (p.getD 2 [])
def Need (n k:Nat) (T:List Int) (L0:List (List Int)) (old many:Nat):Nat->List (List Int)->Bool->List (List Int)->Prop
 |0,p,fr,M=>fr=true->Jg n k T p∈M
 |r+1,p,fr,M=> ∀i,i<many->Need n k T L0 old many r (p++ [L0.getD i []]) (fr||decide (old<=i)) M
theorem Need.mono {L0:List (List Int)} {old many:Nat}: ∀(r:Nat) (p:List (List Int)) (fr:Bool) {M M':List (List Int)},(∀t∈M,t∈M')->Need n k T L0 old many r p fr M->Need n k T L0 old many r p fr M'
 |0,p,fr,M,M',hs,h=>λe=>hs _ (h e)
 |r+1,p,fr,M,M',hs,h=>λi hi=>Need.mono r _ _ hs (h i hi)
end
end T
open Go Go.Va
namespace T
section
variable {n:Int} {k:Nat} {ts W:List (List Int)}
def WitOf (ts:List (List Int)) (k:Nat) (W:List (List Int)):Prop:= ∀w,w∈W↔ ∃(i:Nat) (x y:Int) (p q:Nat),i<k/\HI ts i x y=some (p,q)/\(w=ts.getD p []∨w=ts.getD q [])
theorem WitOf.sub (h:WitOf ts k W) {w:List Int} (hw:w∈W):w∈ts:=by
 obtain⟨i,x,y,p,q,_,h2,h3⟩:=(h w).1 hw
 obtain⟨g1,g2,_⟩:=GJ h2
 rcases h3 with rfl|rfl
 ·exact Ev g1
 ·exact Ev g2
theorem WitOf.set {N:Int} {kk:Int} (h:WitOf ts kk.toNat W) (hs:IM N kk ts=true) (hi:CT W=true):IM N kk W=true:=by
 unfold IM at hs⊢
 simp only[Bool.and_eq_true,List.all_eq_true]at hs⊢
 exact⟨⟨hs.1.1,λw hw=>hs.1.2 w (h.sub hw)⟩,hi⟩
end
end T
