/- Data in memory: an interpreter over the lowered code with typed data, and what its values stand for; no conditions. -/
import Derived.Calls
set_option linter.unusedVariables false
set_option linter.unusedSimpArgs false
namespace Go.Va
inductive MK where
 |sb
 |si
 |ab (n:Nat)
 deriving DecidableEq,Inhabited
inductive Ty where
 |num (k:IntKind)
 |bool
 |str
 |slice (e:Ty)
 |pair (a b:Ty)
 |fn (f:Nat)
 |smap (k:MK)
 |op (k:Bool)
 |ptr (t:Ty)
 |fc (f:Nat) (t:Ty)
 deriving DecidableEq,Inhabited
abbrev Ty.int:Ty:= .num .i64
def Ty.den:Ty->Type
 | .num _=>Int
 | .bool=>Bool
 | .str=>ByteArray
 | .slice e=>List e.den
 | .pair a b=>a.den×b.den
 | .fn _=>Unit
 | .smap _=>List ByteArray
 | .op _=>Unit
 | .ptr t=>Bool×t.den
 | .fc _ t=>t.den
def Ty.dflt:(t:Ty)->t.den
 | .num _=>(0:Int)
 | .bool=>false
 | .str=>ByteArray.empty
 | .slice _=> []
 | .pair a b=>(a.dflt,b.dflt)
 | .fn _=>()
 | .smap _=>([]:List ByteArray)
 | .op _=>()
 | .ptr t=>(false,t.dflt)
 | .fc _ t=>t.dflt
def Ty.cells:Ty->Nat
 | .pair a b=>a.cells+b.cells
 |_=>1
def w64 (n:Int):Int:=IntKind.wrap .i64 n
def gd {α:Type} (xs:List α) (i:Int) (d:α):α:=xs.getD i.toNat d
def stt {α:Type} (xs:List α) (i:Int) (x:α):List α:=xs.set i.toNat x
def inb {α:Type} (i:Int) (xs:List α):Prop:=0<=i/\i<(xs.length:Int)
instance {α:Type} (i:Int) (xs:List α):Decidable (inb i xs):=by unfold inb;exact inferInstance
def lim:Nat:=1099511627776
def Ty.dep:Ty->Nat
 | .slice e=>e.dep+1
 | .pair a b=>max a.dep b.dep
 | .smap _=>1000
 | .ptr _=>1000
 | .op _=>1000
 | .fc _ _=>1000
 |_=>0
def dl (d:Nat):Nat:=match Nat.ble 2000 d with|true=>d-2000|false=>d
def dr (d:Nat):Nat:=match Nat.ble 2000 d with|true=>0|false=>d
def Yb8:List Int->List Int
 | []=> []
 |x::l=>List.replicate x.toNat 1++(List.replicate (-x).toNat 2++0::Yb8 l)
def Xs (ks:List ByteArray) (s:ByteArray):Bool:=ks.any λk=>s==k
def YhI (ks:List ByteArray) (s:ByteArray):List ByteArray:=if Xs ks s then ks else ks++ [s]
def Ybp (xs:List Int):ByteArray:=xs.foldl (λs n=>s.push (UInt8.ofNat n.toNat)) ByteArray.empty
def YbP (l:List Int):ByteArray:=Ybp (Yb8 l)
inductive PE where
 |fst|snd|idx (i:Int)
inductive AV where
 |un
 |val (t:Ty) (x:t.den)
 |nils
 |ref (r:Nat) (ver:Nat) (p:List PE)
 |ptr (r:Nat) (ver:Nat) (t:Ty) (p:List PE)
 |bptr (r:Nat) (off:Nat)
 |vptr (t:Ty) (x:t.den)
 |pr (a b:AV)
 |tup (l:List AV)
 |jk (n:Nat)
 |clo (f:Nat) (l:List Nat)
 |nv (b:Bool) (r:Nat)
inductive Root where
 |free
 |gone
 |box (c:List AV)
 |arr (e:Ty) (d:Nat) (xs:List e.den) (ver:Nat) (pin:Bool)
 |fz (e:Ty) (xs:List e.den)
 |mp (k:MK) (ks:List ByteArray)
 |kz (f:Nat) (l:List Nat)
 |ho (e:Ty) (d:Nat) (xs:List e.den) (ver:Nat) (pin:Bool) (i:Int)
 |lnk (r ver:Nat) (j:Int)
 |pz (t:Ty) (x:t.den)
 |bf (e:Ty) (xs:List e.den) (n:Int) (ver:Nat) (pin:Bool)
abbrev Store:=Nat->Root
abbrev Ups:=List (Nat×Root)
def Store.set (H:Store) (r:Nat) (x:Root):Store:=λn=>if n==r then x else H n
def Store.upd (H:Store):Ups->Store
 | []=>H
 |(r,x)::l=>(H.set r x).upd l
structure TI where
 ty:Ty
 elem:Nat:=0
 fields:List Nat:= []
 arr:Bool:=false
structure St where
 G:Nat->AV
 H:Store
def St.put (s:St) (d:Nat) (v:AV):St:= { s with G:=λn=>if n==d then v else s.G n }
def St.putO (s:St) (d:Option Nat) (v:AV):St:=match d with|some d=>s.put d v|none=>s
def St.empty:St:=⟨λ_=> .un,λ_=> .free⟩
inductive AD where
 |v (t:Ty)
 |io (e:Ty) (d:Nat)
 |mv (e:Ty) (d:Nat)
 |pr (a b:AD)
 |bx (a:AD)
 |jk (n:Nat)
 |un
 |mp (k:MK)
 |gs (e:Ty) (d:Nat)
 |nv (e:Ty) (d:Nat)
 |pz (t:Ty)
 |bf (e:Ty)
def AD.den:AD->Type
 | .v t=>t.den
 | .io e _=>List e.den
 | .mv e _=>List e.den
 | .pr a b=>a.den×b.den
 | .bx a=>a.den
 | .jk _=>Unit
 | .un=>Unit
 | .mp _=>List ByteArray
 | .gs e _=>List e.den×Int
 | .nv e _=>Bool×List e.den
 | .pz t=>t.den
 | .bf e=>List e.den×Int
def AD.out:AD->Type
 | .v _=>Unit
 | .io e _=>List e.den
 | .mv _ _=>Unit
 | .pr a b=>a.out×b.out
 | .bx a=>a.den
 | .jk _=>Unit
 | .un=>Unit
 | .mp _=>Unit
 | .gs _ _=>Unit
 | .nv _ _=>Unit
 | .pz _=>Unit
 | .bf e=>List e.den
def YH:List AD->Type
 | []=>Unit
 | [a]=>a.den
 |a::l=>a.den×YH l
def XK:List AD->Type
 | []=>Unit
 | [a]=>a.out
 |a::l=>a.out×XK l
def AD.alone:AD->Bool
 | .v t=>t.dep==0
 | .io e d=>decide (e.dep<=d/\d<1000)
 | .mv e d=>decide (e.dep<=d/\d<1000)
 | .pr a b=>a.alone&&b.alone
 | .bx a=>a.alone
 | .jk _=>true
 | .un=>true
 | .mp _=>true
 | .gs _ _=>false
 | .nv e d=>decide (e.dep<=d/\d<1000)
 | .pz _=>false
 | .bf _=>false
def AD.plain:AD->Bool
 | .v _=>true
 | .pz _=>true
 | .pr a b=>a.plain&&b.plain
 |a=>a.alone
def AD.cells:AD->Nat
 | .v t=>t.cells
 | .pr a b=>a.cells+b.cells
 | .jk n=>n
 |_=>1
inductive Cod where
 |cl (f:Nat)
 |kb (f:Nat)
 |kn (f p c:Nat)
structure Entry where
 params:List AD
 results:List AD
 cod:List (Nat×Cod):= []
 B:Type
 run:YH params->Option B
 out:B->XK params
 res:B->YH results
inductive AExit where
 |normal|exit (id:Nat)|ret
abbrev Xb:=List (Nat×AD)
def Ybq:List (AExit×Xb)->Type
 | []=>Empty
 | [(_,sh)]=>YH (sh.map (·.2))
 |(_,sh)::l=>YH (sh.map (·.2))⊕Ybq l
structure LoopSpec where
 sh:Xb
 ex:List (AExit×Xb)
 run:YH (sh.map (·.2))->Option (Ybq ex)
def Ygp:List (Nat×Entry)->Nat->Option Entry
 | [],_=>none
 |(j,e)::l,i=>if j==i then some e else Ygp l i
def Ygo:List (Nat×LoopSpec)->Nat->Option LoopSpec
 | [],_=>none
 |(j,e)::l,i=>if j==i then some e else Ygo l i
structure Cx where
 tt:Nat->Option TI
 T:Nat->Option Entry
 L:Nat->Option LoopSpec
 dep:Nat->Nat
 n:Nat
 cod:List (Nat×Cod):= []
 fine:Bool:=false
 pre:Nat->List Nat:=λ_=> []
 fcl:List (Nat×Ty):= []
def YiB (H:Store):AV->AV
 | .ref r v p=>(match p with| []=>(match H r with| .lnk r2 ver j=> .ref r2 ver [.idx j]|_=> .ref r v [])|q::p=> .ref r v (q::p))
 |a=>a
def Yg5 (H:Store) (G:Nat->AV):Nat->AV:=λn=>YiB H (G n)
def Ycb:Value->AV
 | .int k n=> .val (.num k) n
 | .bool b=> .val .bool b
 | .string s=> .val .str s
 | .slice none 0 0=> .nils
 | .map none=> .val (.smap .sb) ([]:List ByteArray)
 | .pointer none=> .val (.ptr .bool) ((false,false):Bool×Bool)
 |_=> .un
def rdG (G:Nat->AV):Operand->AV
 | .tmp t=>G t
 | .const v=>Ycb v
 | .func f=> .val (.fn f) ()
 |_=> .un
structure Got where
 t:Ty
 d:Nat
 x:t.den
def YJ (t t':Ty) (x:t.den):Option t'.den:=if h:t=t' then some (h▸x)else none
def YW:(t:Ty)->(d:Nat)->t.den->List PE->Option Got
 |t,d,x,[]=>some ⟨t,d,x⟩
 | .pair a _,d,x,.fst::p=>YW a (dl d) x.1 p
 | .pair _ b,d,x,.snd::p=>YW b (dr d) x.2 p
 | .slice e,d+1,x,.idx i::p=>YW e d (gd x i e.dflt) p
 |_,_,_,_=>none
def XR:(t:Ty)->(d:Nat)->t.den->List PE->(t':Ty)->t'.den->Option t.den
 |t,_,_,[],t',y=>YJ t' t y
 | .pair a _,d,x,.fst::p,t',y=>match XR a (dl d) x.1 p t' y with|some z=>some (z,x.2)|none=>none
 | .pair _ b,d,x,.snd::p,t',y=>match XR b (dr d) x.2 p t' y with|some z=>some (x.1,z)|none=>none
 | .slice e,d+1,x,.idx i::p,t',y=>match XR e d (gd x i e.dflt) p t' y with|some z=>some (stt x i z)|none=>none
 |_,_,_,_,_,_=>none
def tyP:Ty->List PE->Option Ty
 |t,[]=>some t
 | .pair a _,.fst::p=>tyP a p
 | .pair _ b,.snd::p=>tyP b p
 | .slice e,.idx _::p=>tyP e p
 |_,_=>none
def XB:PE->Bool
 | .idx _=>true
 |_=>false
def Ybf:List PE->Bool
 | []=>false
 |_::p=>p.any XB
def YX (H:Store):AV->Option Got
 | .ref r ver p=>
  match H r with
  | .arr e d xs ver' _=>
   match p with
   | []=>some ⟨.slice e,d+1,xs⟩
   |_=>if ver=ver' then YW (.slice e) (d+1) xs p else none
  | .fz e xs=>
   match p with
   | []=>some ⟨.slice e,0,xs⟩
   |_=>none
  |_=>none
 | .val (.slice e) xs=>some ⟨.slice e,0,xs⟩
 |_=>none
def asV (H:Store):AV->(t:Ty)->Option t.den
 | .val t x,t'=>YJ t t' x
 | .nils,.slice _=>some []
 | .pr a b,.pair t u=>match asV H a t,asV H b u with|some x,some y=>some (x,y)|_,_=>none
 | .ref r ver p,.slice e=>
  match YX H (.ref r ver p)with
  |some g=>YJ g.t (.slice e) g.x
  |none=>none
 |_,_=>none
def X4:(t:Ty)->t.den->List AV
 | .pair a b,x=>X4 a x.1++X4 b x.2
 |t,x=> [.val t x]
def Yu:AV->Option (List AV)
 | .val t x=>some (X4 t x)
 | .nils=>some [.nils]
 | .ref r v p=>some [.ref r v p]
 | .bptr r o=>some [.bptr r o]
 | .nv b r=>some [.nv b r]
 | .pr a b=>match Yu a,Yu b with|some x,some y=>some (x++y)|_,_=>none
 |_=>none
def XI:AV->Option (List AV)
 | .jk n=>some (List.replicate n .un)
 | .pr a b=>match XI a,XI b with|some x,some y=>some (x++y)|_,_=>none
 |a=>Yu a
def Xt:Ty->List AV->AV
 | .pair a b,l=> .pr (Xt a (l.take a.cells)) (Xt b (l.drop a.cells))
 |_,[x]=>x
 |_,_=> .un
def YN:AD->List AV->AV
 | .v t,l=>Xt t l
 | .pr a b,l=> .pr (YN a (l.take a.cells)) (YN b (l.drop a.cells))
 | .jk _,l=> .jk l.length
 |_,[x]=>x
 |_,_=> .un
def Yaz:Ty->AV
 | .pair a b=> .pr (Yaz a) (Yaz b)
 | .slice _=> .nils
 |t=> .val t t.dflt
def Yco (r ver:Nat):(t:Ty)->(d:Nat)->t.den->(p:List PE)->AV
 | .pair a b,d,x,p=> .pr (Yco r ver a (dl d) x.1 (p++ [.fst])) (Yco r ver b (dr d) x.2 (p++ [.snd]))
 | .slice _,_+1,_,p=> .ref r ver p
 |t,_,x,_=> .val t x
def YiQ (t:Ty) (ver:Nat):Nat:=match t.dep with|0=>ver|_=>ver+1
def XM {α:Type}:List α->Nat->List α->List α
 |l,_,[]=>l
 |l,i,x::r=>XM (l.set i x) (i+1) r
def fieldOff (tt:Nat->Option TI):List Nat->Nat->Option Nat
 | [],_=>none
 |_::_,0=>some 0
 |f::r,k+1=>match tt f,fieldOff tt r k with|some i,some o=>some (i.ty.cells+o)|_,_=>none
def Yx:(n k:Nat)->List PE
 |0,_=> []
 |1,_=> []
 |_+2,0=> [.fst]
 |n+2,k+1=> .snd::Yx (n+1) k
def Yd:AV->List PE->Option AV
 |a,[]=>some a
 | .pr a _,.fst::p=>Yd a p
 | .pr _ b,.snd::p=>Yd b p
 | .val (.pair a _) x,.fst::p=>Yd (.val a x.1) p
 | .val (.pair _ b) x,.snd::p=>Yd (.val b x.2) p
 |_,_=>none
def Yhf (e:Ty) (d:Nat) (j:Int):(e':Ty)->(d':Nat)->List e'.den->Option (List e.den)
 | .pair a _,d',xs=>if dl d'=d+1/\2000<=d' then YJ a (.slice e) (gd xs j (Ty.dflt _)).1 else none
 |_,_,_=>none
def YgD (t:Ty) (v:t.den) (j:Int):(e:Ty)->(d:Nat)->List e.den->Option (List e.den)
 | .pair a _,d,xs=>if 2000<=d then(match YJ t a v with|some v=>some (stt xs j (v,(gd xs j (Ty.dflt _)).2))|none=>none)else none
 |_,_,_=>none
def Ya (H:Store):AV->(t:Ty)->(d:Nat)->Option (t.den×Ups)
 | .nils,.slice _,_=>some ([],[])
 | .pr a b,.pair t u,d=>
  match Ya H a t (dl d)with
  |some (x,u1)=>(match Ya (H.upd u1) b u (dr d)with|some (y,u2)=>some ((x,y),u1++u2)|none=>none)
  |none=>none
 | .val t x,t',d=>if d=0∨t.dep=0 then(match YJ t t' x with|some y=>some (y,[])|none=>none)else none
 | .ref r _ [],.slice e,d=>
  match H r with
  | .arr e' d' xs _ false=>
   (match YJ (.slice e') (.slice e) xs with
   |some ys=>
    (match d with
    |0=>some (ys,[(r,.fz e' xs)])
    |d1+1=>if d'=d1∨d1=0∨(e'.dep<=d'/\e'.dep<=d1/\d'<1000/\d1<1000)then some (ys,[(r,.gone)])else none)
   |none=>none)
  | .fz e' xs=>
   (match d with
   |0=>(match YJ (.slice e') (.slice e) xs with|some ys=>some (ys,[])|none=>none)
   |_+1=>none)
  | .bf e' xs n _ false=>
   (match YJ (.slice e') (.slice e) (xs.take n.toNat:List e'.den)with
   |some ys=>(match d with|0=>some (ys,[(r,.fz e' (xs.take n.toNat))])|1=>some (ys,[(r,.gone)])|_=>none)
   |none=>none)
  |_=>none
 | .ref r _ [],.smap k,d=>
  match H r with
  | .mp k' ks=>if d<1000/\k'=k then some (ks,[(r,.gone)])else none
  |_=>none
 | .ref r ver (q::p),.slice e,0=>
  match H r with
  | .arr e' d' xs ver' false=>
   if ver=ver' then
    (match YW (.slice e') (d'+1) xs (q::p)with
    |some g=>(match YJ g.t (.slice e) g.x with|some ys=>some (ys,[(r,.fz e' xs)])|none=>none)
    |none=>none)
   else none
  |_=>none
 | .ref r ver [.idx j],.slice e,d+1=>
  match H r with
  | .arr e' d' xs ver' false=>
   if ver=ver'/\d'=d+1 then
    (match YJ (.slice e') (.slice (.slice e)) xs with
    |some ys=>some ((gd (α:=List e.den) ys j []:List e.den),[(r,.ho e' d' xs (ver'+1) false j)])
    |none=>none)
   else none
  |_=>none
 | .ref r ver [.idx j,.fst],.slice e,d+1=>
  match H r with
  | .arr e' d' xs ver' false=>
   if ver=ver' then
    (match Yhf e d j e' d' xs with
    |some y=>some (y,[(r,.ho e' d' xs (ver'+1) false j)])
    |none=>none)
   else none
  |_=>none
 |_,_,_=>none
def Ybj (H:Store):AV->(t:Ty)->Option (t.den×Ups)
 | .bptr r 0,.ptr t=>
  match H r with
  | .box c=>if c.length=t.cells then(match Ya (H.set r .gone) (Xt t c) t 0 with|some (x,u)=>some ((true,x),(r,.gone)::u)|none=>none)else none
  |_=>none
 |a,t=>Ya H a t 0
def Yis:AV->Ty->Bool
 | .val (.ptr s) y,.ptr t=>!decide (s=t)&&!y.1
 |_,_=>false
def Yja:(t:Ty)->Option t.den
 | .ptr t=>some ((false,t.dflt):Bool×t.den)
 |_=>none
def YeN (H:Store) (a:AV) (t:Ty):Option (t.den×Ups):=
 match Yis a t with
 |true=>(match Yja t with|some x=>some (x,[])|none=>none)
 |false=>Ybj H a t
def YbB (H:Store) (k:MK):AV->Option (List ByteArray×Ups)
 | .ref r _ []=>match H r with| .mp k' ks=>if k'=k then some (ks,[(r,.gone)])else none|_=>none
 |_=>none
def YcE (H:Store):AV->Option (MK×List ByteArray)
 | .ref r _ []=>match H r with| .mp k ks=>some (k,ks)|_=>none
 | .val (.smap k) ks=>some (k,ks)
 |_=>none
def YcV (H:Store) (e:Ty) (d:Nat):List AV->Option (List e.den×Ups)
 | []=>some ([],[])
 |a::l=>
  match Ya H a e d with
  |some (x,u1)=>(match YcV (H.upd u1) e d l with|some (xs,u2)=>some (x::xs,u1++u2)|none=>none)
  |none=>none
def unN:AV->AV
 | .nv _ r=> .ref r 0 []
 |a=>a
def Yay (H:Store) (e:Ty) (d:Nat):AV->Option ((Bool×List e.den)×Ups)
 | .nils=>some ((false,[]),[])
 | .nv b r=>(match Ya H (.ref r 0 []) (.slice e) (d+1)with|some (x,u)=>some ((b,x),u)|none=>none)
 | .ref r 1 []=>(match Ya H (.ref r 1 []) (.slice e) (d+1)with|some (x,u)=>some ((true,x),u)|none=>none)
 |_=>none
def YaS (H:Store) (t:Ty):AV->Option (t.den×Ups)
 | .bptr r 0=>
  match H r with
  | .pz t' x=>(match YJ t' t x with|some y=>some (y,[])|none=>none)
  | .box c=>if c.length=t.cells then(match Ya (H.set r .gone) (Xt t c) t 0 with|some (x,[])=>some (x,[(r,.pz t x)])|_=>none)else none
  |_=>none
 |_=>none
def Yi (H:Store) (slot:Nat) (k:Nat):(a:AD)->AV->Option (a.den×Ups×Nat)
 | .v t,x=>match YeN H (unN x) t with|some (y,u)=>some (y,u,k)|none=>none
 | .mv e d,x=>match Ya H (unN x) (.slice e) (d+1)with|some (y,u)=>some (y,u,k+1)|none=>none
 | .nv e d,x=>match Yay H e d x with|some (y,u)=>some (y,u,k+1)|none=>none
 | .io e d,.ref r _ []=>
  if r=slot*16+k then
   match H r with
   | .arr e' d' xs _ true=>if d'=d then(match YJ (.slice e') (.slice e) xs with|some ys=>some (ys,[(r,.gone)],k+1)|none=>none)else none
   |_=>none
  else none
 | .pr a b,x=>
  match Yd x [.fst],Yd x [.snd]with
  |some y,some z=>
   (match Yi H slot k a y with
   |some (u,u1,k1)=>(match Yi (H.upd u1) slot k1 b z with|some (v,u2,k2)=>some ((u,v),u1++u2,k2)|none=>none)
   |none=>none)
  |_,_=>none
 | .bx a,.bptr r 0=>
  match H r with
  | .box c=>if c.length=a.cells then(match Yi (H.set r .gone) slot (k+1) a (YN a c)with|some (u,u1,k1)=>some (u,(r,.gone)::u1,k1)|none=>none)else none
  |_=>none
 | .jk n,.jk m=>if m=n then some ((),[],k)else none
 | .mp kd,x=>match YbB H kd x with|some (ks,u)=>some (ks,u,k+1)|none=>none
 | .pz t,x=>match YaS H t x with|some (y,u)=>some (y,u,k+1)|none=>none
 | .bf e,.ref r _ []=>
  if r=slot*16+k then
   match H r with
   | .bf e' xs n _ true=>(match YJ (.slice e') (.slice e) xs with|some ys=>some ((ys,n),[(r,.gone)],k+1)|none=>none)
   |_=>none
  else none
 | .gs e d,.ref r _ []=>
  match H r with
  | .arr e' d' xs _ false=>if d'=d then(match YJ (.slice e') (.slice e) xs with|some ys=>some ((ys,0),[(r,.gone)],k+1)|none=>none)else none
  | .ho e' d' xs _ false i=>if d'=d then(match YJ (.slice e') (.slice e) xs with|some ys=>some ((ys,-1-i),[(r,.gone)],k+1)|none=>none)else none
  |_=>none
 |_,_=>none
def Ye8:Root->Bool
 | .free=>true
 |_=>false
def YS (H:Store) (slot k:Nat):Bool:=decide (k<16)&&Ye8 (H (slot*16+k))
def mkD (H:Store) (slot:Nat) (k:Nat):(a:AD)->a.den->Option (AV×Ups×Nat)
 | .v t,x=>some (.val t x,[],k)
 | .mv e d,xs=>if YS H slot k then some (.ref (slot*16+k) 0 [],[(slot*16+k,.arr e d xs 0 false)],k+1)else none
 | .io e d,xs=>if YS H slot k then some (.ref (slot*16+k) 0 [],[(slot*16+k,.arr e d xs 0 true)],k+1)else none
 | .pr a b,x=>
  match mkD H slot k a x.1 with
  |some (y,u1,k1)=>(match mkD (H.upd u1) slot k1 b x.2 with|some (z,u2,k2)=>some (.pr y z,u1++u2,k2)|none=>none)
  |none=>none
 | .bx a,x=>
  if YS H slot k then
   match mkD H slot (k+1) a x with
   |some (y,u1,k1)=>(match XI y with|some c=>(if YS (H.upd u1) slot k then some (.bptr (slot*16+k) 0,u1++ [(slot*16+k,.box c)],k1)else none)|none=>none)
   |none=>none
  else none
 | .jk n,_=>some (.jk n,[],k)
 | .mp kd,ks=>if YS H slot k then some (.ref (slot*16+k) 0 [],[(slot*16+k,.mp kd ks)],k+1)else none
 | .nv e d,x=>if YS H slot k then some (.nv x.1 (slot*16+k),[(slot*16+k,.arr e d x.2 0 false)],k+1)else none
 | .gs e d,x=>if YS H slot k then some (.ref (slot*16+k) 0 [],[(slot*16+k,.ho e d x.1 0 false (-1-x.2))],k+1)else none
 | .pz t,x=>if YS H slot k then some (.bptr (slot*16+k) 0,[(slot*16+k,.pz t x)],k+1)else none
 | .bf e,x=>if YS H slot k then some (.ref (slot*16+k) 0 [],[(slot*16+k,.bf e x.1 x.2 0 true)],k+1)else none
 | .un,_=>none
def YF:AV->Bool
 | .pr _ _=>true
 | .val (.pair _ _) _=>true
 |_=>false
def Ybv:AD->Bool
 | .v (.pair _ _)=>true
 | .pr _ _=>true
 |_=>false
def Yaf:AV->Bool
 | .val _ _=>true
 | .nils=>true
 | .ref _ _ _=>true
 | .bptr _ _=>true
 | .pr _ _=>true
 | .nv _ _=>true
 |_=>false
def Yav (a:AD) (x:AV):Bool:=match a with
 | .jk _=>true
 |_=>Yaf x&&YF x==Ybv a
def AD.parts:AD->Nat
 | .v _=>0
 | .io _ _=>1
 | .mv _ _=>1
 | .pr a b=>a.parts+b.parts
 | .bx a=>a.parts+1
 | .jk _=>0
 | .mp _=>1
 | .gs _ _=>1
 | .nv _ _=>1
 | .pz _=>1
 | .bf _=>1
 | .un=>0
def Ya8:AD->Bool
 | .io _ _=>false
 | .bf _=>false
 | .bx _=>false
 | .pr a b=>Ya8 a&&Ya8 b
 |_=>true
def YeE (slot:Nat) (k:Nat):AD->AV->Bool
 | .io _ _,_=>decide (k<16)
 | .bf _,_=>decide (k<16)
 | .bx a,.bptr r _=>r==slot*16+k&&decide (k<16)&&Ya8 a
 | .pr a b,x=>
  match Yd x [.fst],Yd x [.snd]with
  |some y,some z=>YeE slot k a y&&YeE slot (k+a.parts) b z
  |_,_=>false
 |_,_=>true
def YcI:AD->Bool
 | .bx a=>Ya8 a
 | .pr a b=>YcI a&&YcI b
 |_=>true
def Yfh (m n:Nat) (a:AD) (x:AV):Bool:=Yav a x&&(decide (m<=n)||YeE n 0 a x)
def Ya5 (n:Nat):Bool:=Nat.ble 65536 n
def YgH:Root->Bool
 | .arr _ _ _ _ _=>true
 | .bf _ _ _ _ _=>true
 |_=>false
def alM (n:Nat):Nat:=n/65536%65536-1
def alC (n:Nat):Nat:=n/4294967296
def Yba (G:Nat->AV) (H:Store) (n:Nat):AV:=match alC n with
 |0=>G (alM n)
 |c+1=>match G (alM n)with
  | .bptr r 0=>(match H r with| .box l=>(match l[c]? with|some a=>a|none=> .un)|_=> .un)
  |_=> .un
def Yij (H:Store) (x y:AV):Bool:=match x,y with
 | .ref r _ [],.ref r' _ []=>r==r'&&YgH (H r)
 |_,_=>false
def Yg6 (H:Store) (x y:AV):Option Int:=match x,y with
 | .ref r ver [.idx j],.ref r' _ []=>if r=r' then(match H r with| .arr (.slice _) _ _ ver' _=>if ver=ver' then some j else none|_=>none)else none
 |_,_=>none
def Yic (H:Store) (y:AV) (j:Int):Option AV:=match y with
 | .ref r _ []=>(match H r with| .arr (.slice _) _ _ ver _=>some (.ref r ver [.idx j])|_=>none)
 |_=>none
def Yjb:(t:Ty)->Option Int->Option t.den
 | .num _,o=>o
 |_,_=>none
def YiY:(t:Ty)->t.den->Option Int
 | .num _,x=>some x
 |_,_=>none
def alV (s:St) (n:Nat):(a:AD)->Option a.den
 | .jk k=>if k=1/\Yij s.H (s.G (n%65536)) (Yba s.G s.H n)=true then some ()else none
 | .v t=>Yjb t (Yg6 s.H (s.G (n%65536)) (Yba s.G s.H n))
 |_=>none
def Yb3 (m:Nat) (s:St) (n:Nat) (a:AD):Option (a.den×Ups):=
 match Ya5 n with
 |true=>(match alV s n a with|some x=>some (x,[])|none=>none)
 |false=>if Yfh m n a (s.G n)then(match Yi s.H n 0 a (s.G n)with|some (x,u,_)=>some (x,u)|none=>none)else none
def YcX (m:Nat) (s:St):(sh:Xb)->Option (YH (sh.map (·.2)))
 | []=>some ()
 | [(n,a)]=>match Yb3 m s n a with|some (x,_)=>some x|none=>none
 |(n,a)::b::l=>match Yb3 m s n a with|some (x,u)=>(match YcX m ⟨s.G,s.H.upd u⟩ (b::l)with|some y=>some (x,y)|none=>none)|none=>none
def mkA (s:St) (n:Nat):(a:AD)->a.den->Option St
 | .jk _,_=>some (s.put (n%65536) (Yba s.G s.H n))
 | .v t,x=>match YiY t x with
  |some j=>(match Yic s.H (Yba s.G s.H n) j with|some y=>some (s.put (n%65536) y)|none=>none)
  |none=>none
 |_,_=>none
def mkL (s:St):(sh:Xb)->YH (sh.map (·.2))->Option St
 | [],_=>some s
 | [(n,a)],x=>
  match Ya5 n with
  |true=>mkA s n a x
  |false=>(match mkD s.H n 0 a x with|some (y,u,_)=>some (St.put ⟨s.G,s.H.upd u⟩ n y)|none=>none)
 |(n,a)::b::l,x=>
  match Ya5 n with
  |true=>(match mkL s (b::l) x.2 with|some s'=>mkA s' n a x.1|none=>none)
  |false=>(match mkD s.H n 0 a x.1 with|some (y,u,_)=>mkL (St.put ⟨s.G,s.H.upd u⟩ n y) (b::l) x.2|none=>none)
def Y5:List Nat->Bool
 | []=>true
 |x::l=>l.all (λy=>y !=x)&&Y5 l
def Ybk:List Nat->AV
 | []=> .un
 | [r]=> .bptr r 0
 |r::r'::l=> .pr (.bptr r 0) (Ybk (r'::l))
def YT:AV->Option (List Nat)
 | .bptr r 0=>some [r]
 | .pr (.bptr r 0) b=>match YT b with|some l=>some (r::l)|none=>none
 |_=>none
def Yi7:Root->Bool
 | .box _=>true
 | .kz _ _=>true
 | .pz _ _=>true
 |_=>false
def Ydo {α:Type}:List α->Bool
 | []=>true
 |_=>false
def Ycj (G:Nat->AV) (H:Store):Nat->List Nat->Bool
 |_,[]=>true
 |p,r::l=>(match G p with| .bptr r' 0=>r'==r&&Yi7 (H r)|_=>false)&&Ycj G H (p+1) l
def Yh1 (G:Nat->AV) (H:Store) (q:Nat×Cod):Bool:=
 match q.2 with
 | .cl f=>(match G q.1 with| .clo f' l=>f'==f&&!Ydo l|_=>false)
 | .kb f=>(match G q.1 with| .bptr r 0=>(match H r with| .kz f' l=>f'==f&&!Ydo l|_=>false)|_=>false)
 | .kn f p c=>(match G q.1 with| .bptr r 0=>(match H r with| .kz f' l=>f'==f&&l.length==c&&Ycj G H p l|_=>false)|_=>false)
def YiH (H:Store):Cod->AV->AV
 | .cl _,.clo _ l=>Ybk l
 | .kb _,.bptr r _=>(match H r with| .kz _ l=>Ybk l|_=> .un)
 | .kn _ _ _,_=> .jk 1
 |_,_=> .un
def X8:List (Nat×Cod)->Nat->Option Cod
 | [],_=>none
 |q::l,n=>if q.1==n then some q.2 else X8 l n
def Yck (cod:List (Nat×Cod)) (H:Store) (G:Nat->AV):Option (Nat->AV):=
 match cod with
 | []=>some G
 |_=>if Y5 (cod.map (·.1))&&cod.all (Yh1 G H)then some (λn=>match X8 cod n with|some c=>YiH H c (G n)|none=>G n)else none
def YaC (G:Nat->AV) (n:Nat):Nat->Nat->Option (List Nat)
 |0,_=>some []
 |c+1,p=>
  match (if p==n then some (n*16+15)else(match G p with| .bptr r 0=>some r|_=>none)),YaC G n c (p+1)with
  |some r,some l=>some (r::l)
  |_,_=>none
def Ycv (s:St):Nat×Cod->Option St
 |(n,.cl f)=>(match YT (s.G n)with|some l=>some (s.put n (.clo f l))|none=>none)
 |(n,.kb f)=>(match YT (s.G n),s.H (n*16+15)with|some l,.free=>some (St.put ⟨s.G,s.H.set (n*16+15) (.kz f l)⟩ n (.bptr (n*16+15) 0))|_,_=>none)
 |(n,.kn f p c)=>(match YaC s.G n c p,s.H (n*16+15)with|some l,.free=>some (St.put ⟨s.G,s.H.set (n*16+15) (.kz f l)⟩ n (.bptr (n*16+15) 0))|_,_=>none)
def YiU:Cod->Bool
 | .kn _ _ _=>true
 |_=>false
def Ycw:List (Nat×Cod)->St->Option St
 | [],s=>some s
 |q::l,s=>if YiU q.2&&!Ydo l then none else match Ycv s q with|some s'=>Ycw l s'|none=>none
def YfB (cod:List (Nat×Cod)) (s:St):Option St:=
 match cod with
 | []=>some s
 |_=>if Y5 (cod.map (·.1))then Ycw cod s else none
def Ygx (cod:List (Nat×Cod)) (sh:Xb):List (Nat×Cod):=cod.filter λq=>sh.any λp=>p.1==q.1
def Yb5 (cod:List (Nat×Cod)) (m:Nat) (s:St) (sh:Xb):Option (YH (sh.map (·.2))):=
 match Yck (Ygx cod sh) s.H s.G with
 |some G=>YcX m ⟨Yg5 s.H G,s.H⟩ sh
 |none=>none
def mkC (cod:List (Nat×Cod)) (sh:Xb) (x:YH (sh.map (·.2))):Option St:=
 match mkL .empty sh x with
 |some s=>YfB (Ygx cod sh) s
 |none=>none
def YgA {R:Type} (cod:List (Nat×Cod)):(ex:List (AExit×Xb))->Ybq ex->(AExit->St->Option R)->Option R
 | [],_,_=>none
 | [(e,sh)],x,k=>match mkC cod sh x with|some s=>k e s|none=>none
 |(e,sh)::b::l,x,k=>match x with
  | .inl y=>(match mkC cod sh y with|some s=>k e s|none=>none)
  | .inr z=>YgA cod (b::l) z k
def AExit.beq:AExit->AExit->Bool
 | .normal,.normal=>true
 | .ret,.ret=>true
 | .exit a,.exit b=>a==b
 |_,_=>false
def Yf7 (cod:List (Nat×Cod)) (m:Nat) (e:AExit) (s:St):(ex:List (AExit×Xb))->Option (Ybq ex)
 | []=>none
 | [(e',sh)]=>if e.beq e' then Yb5 cod m s sh else none
 |(e',sh)::b::l=>
  if e.beq e' then(match Yb5 cod m s sh with|some x=>some (.inl x)|none=>none)
  else(match Yf7 cod m e s (b::l)with|some x=>some (.inr x)|none=>none)
def Yj:AV->List Nat
 | .ref r _ _=> [r]
 | .nv _ r=> [r]
 | .pr a b=>Yj a++Yj b
 |_=> []
def YdY:AV->List Nat
 | .bptr r _=> [r]
 |_=> []
def Y8:AD->AV->List (Nat×Bool)
 | .v _,x=>(Yj x).map λr=>(r,false)
 | .mv _ _,x=>(Yj x).map λr=>(r,true)
 | .mp _,x=>(Yj x).map λr=>(r,true)
 | .nv _ _,x=>(Yj x).map λr=>(r,true)
 | .pr a b,x=>
  match Yd x [.fst],Yd x [.snd]with
  |some y,some z=>Y8 a y++Y8 b z
  |_,_=> []
 |_,_=> []
def Yc (H:Store):AD->AV->List (Nat×Bool)
 | .v _,x=>(Yj x).map λr=>(r,false)
 | .io _ _,x=>(Yj x).map λr=>(r,true)
 | .mv _ _,x=>(Yj x).map λr=>(r,true)
 | .mp _,x=>(Yj x).map λr=>(r,true)
 | .nv _ _,x=>(Yj x).map λr=>(r,true)
 | .pz _,x=>(YdY x).map λr=>(r,true)
 | .bf _,x=>(Yj x).map λr=>(r,true)
 | .pr a b,x=>
  match Yd x [.fst],Yd x [.snd]with
  |some y,some z=>Yc H a y++Yc H b z
  |_,_=> []
 | .bx a,.bptr r _=>(r,true)::(match H r with| .box c=>Y8 a (YN a c)|_=> [])
 |_,_=> []
def YaP:List AD->List AV->Bool
 | [],[]=>true
 |a::l,x::r=>Yav a x&&YaP l r
 |_,_=>false
def Yf (H:Store):List AD->List AV->List (Nat×Bool)
 |a::l,x::r=>Yc H a x++Yf H l r
 |_,_=> []
def YE:List (Nat×Bool)->Bool
 | []=>true
 |(r,x)::l=>l.all (λq=>q.1 !=r||(!x&&!q.2))&&YE l
def YO (H:Store):(a:AD)->AV->Option (a.den×Ups)
 | .v t,x=>Ya H x t 0
 | .mv e d,x=>Ya H x (.slice e) (d+1)
 | .pr a b,x=>
  match Yd x [.fst],Yd x [.snd]with
  |some y,some z=>
   (match YO H a y with
   |some (u,u1)=>(match YO (H.upd u1) b z with|some (v,u2)=>some ((u,v),u1++u2)|none=>none)
   |none=>none)
  |_,_=>none
 | .jk n,x=>match x with| .jk m=>if m=n then some ((),[])else none|_=>none
 | .mp kd,x=>YbB H kd x
 | .nv e d,x=>Yay H e d x
 | .io _ _,_=>none
 | .bx _,_=>none
 | .un,_=>none
 | .gs _ _,_=>none
 | .pz _,_=>none
 | .bf _,_=>none
def YdJ (H:Store) (r ver:Nat) (p:List PE):Option (Nat×Int):=
 match H r with
 | .bf _ _ n ver' _=>(match p with
  | []=>some (r,n)
  | [.fst,.idx a,.idx b]=>if ver=ver'/\a=0 then some (r,b)else none
  |_=>none)
 |_=>none
def Ycq (H:Store):AV->Option (Nat×Int)
 | .ref r ver p=>YdJ H r ver p
 |_=>none
def Yhw (H:Store):AV->Option (Nat×Int)
 | .ref r ver p=>(match p with
  | []=>(match H r with| .bf _ _ _ _ true=>YdJ H r ver []|_=>none)
  |q::p=>YdJ H r ver (q::p))
 |_=>none
def Yh (H:Store) (share:Bool):(a:AD)->AV->Option (a.den×Ups)
 | .v t,x=>if share then Ya H x t 0 else(match asV H x t with|some y=>some (y,[])|none=>none)
 | .io e d,x=>
  match x with
  | .ref r ver p=>
   (match YX H (.ref r ver p)with
   |some g=>if g.d=d+1∨(1<=g.d/\e.dep+1<=g.d/\e.dep<=d/\g.d<1000/\d<1000)then(match YJ g.t (.slice e) g.x with|some y=>some (y,[])|none=>none)else none
   |none=>none)
  |_=>none
 | .mv e d,x=>Ya H x (.slice e) (d+1)
 | .pr a b,x=>
  match Yd x [.fst],Yd x [.snd]with
  |some y,some z=>
   (match Yh H share a y with
   |some (u,u1)=>(match Yh (H.upd u1) share b z with|some (v,u2)=>some ((u,v),u1++u2)|none=>none)
   |none=>none)
  |_,_=>none
 | .bx a,x=>
  match x with
  | .bptr r 0=>
   (match H r with
   | .box c=>if c.length=a.cells then YO H a (YN a c)else none
   |_=>none)
  |_=>none
 | .jk n,x=>match x with| .jk m=>if m=n then some ((),[])else none|_=>none
 | .mp kd,x=>YbB H kd x
 | .nv e d,x=>Yay H e d x
 | .un,_=>none
 | .gs _ _,_=>none
 | .pz t,x=>YaS H t x
 | .bf e,x=>
  match Ycq H x with
  |some (r,b)=>
   (match H r with
   | .bf e' xs _ _ _=>(match YJ (.slice e') (.slice e) xs with|some ys=>some ((ys,b),[])|none=>none)
   |_=>none)
  |none=>none
def Xx (H:Store) (share:Bool):(l:List AD)->List AV->Option (YH l×Ups)
 | [],as=>match as with| []=>some ((),[])|_=>none
 | [a],as=>match as with| [x]=>Yh H share a x|_=>none
 |a::b::l,as=>
  match as with
  |x::r=>
   (match Yh H share a x with
   |some (u,u1)=>(match Xx (H.upd u1) share (b::l) r with|some (v,u2)=>some ((u,v),u1++u2)|none=>none)
   |none=>none)
  | []=>none
def Xk (H:Store):(a:AD)->AV->a.out->Option Ups
 | .v _,_,_=>some []
 | .mv _ _,_,_=>some []
 | .jk _,_,_=>some []
 | .mp _,_,_=>some []
 | .un,_,_=>some []
 | .gs _ _,_,_=>some []
 | .nv _ _,_,_=>some []
 | .pz _,_,_=>some []
 | .bf e,x,y=>
  match x with
  | .ref r _ _=>
   (match H r with
   | .bf e' _ n ver pin=>(match YJ (.slice e) (.slice e') y with|some zs=>some [(r,.bf e' zs n ver pin)]|none=>none)
   |_=>none)
  |_=>none
 | .io e _,x,y=>
  match x with
  | .ref r _ p=>
   (match H r with
   | .arr e' d' xs ver pin=>
    (match XR (.slice e') (d'+1) xs p (.slice e) y with
    |some zs=>some [(r,.arr e' d' zs (ver+1) pin)]
    |none=>none)
   |_=>none)
  |_=>none
 | .pr a b,x,y=>
  match Yd x [.fst],Yd x [.snd]with
  |some u,some v=>(match Xk H a u y.1 with|some u1=>(match Xk (H.upd u1) b v y.2 with|some u2=>some (u1++u2)|none=>none)|none=>none)
  |_,_=>none
 | .bx _,x,_=>
  match x with
  | .bptr r _=>(match H r with| .box c=>some [(r,.box (List.replicate c.length .un))]|_=>none)
  |_=>none
def YaJ (H:Store):(l:List AD)->List AV->XK l->Option Ups
 | [],_,_=>some []
 | [a],as,y=>match as with| [x]=>Xk H a x y|_=>none
 |a::b::l,as,y=>
  match as with
  |x::r=>
   (match Xk H a x y.1 with
   |some u1=>(match YaJ (H.upd u1) (b::l) r y.2 with|some u2=>some (u1++u2)|none=>none)
   |none=>none)
  | []=>none
def Xr (H:Store) (dst k:Nat):(a:AD)->AV->a.out->Option (Ups×Nat)
 | .pr a b,x,y=>
  match Yd x [.fst],Yd x [.snd]with
  |some u,some v=>(match Xr H dst k a u y.1 with|some (u1,k1)=>(match Xr (H.upd u1) dst k1 b v y.2 with|some (u2,k2)=>some (u1++u2,k2)|none=>none)|none=>none)
  |_,_=>none
 | .bx a,x,y=>
  match x with
  | .bptr r _=>
   (match mkD H dst k a y with
   |some (z,u1,k1)=>(match XI z,(H.upd u1) r with|some c,.box _=>some (u1++ [(r,.box c)],k1)|_,_=>none)
   |none=>none)
  |_=>none
 | .v _,_,_=>some ([],k)
 | .mv _ _,_,_=>some ([],k)
 | .io _ _,_,_=>some ([],k)
 | .jk _,_,_=>some ([],k)
 | .mp _,_,_=>some ([],k)
 | .un,_,_=>some ([],k)
 | .gs _ _,_,_=>some ([],k)
 | .nv _ _,_,_=>some ([],k)
 | .pz _,_,_=>some ([],k)
 | .bf _,_,_=>some ([],k)
def YaI (H:Store) (dst k:Nat):(l:List AD)->List AV->XK l->Option (Ups×Nat)
 | [],_,_=>some ([],k)
 | [a],as,y=>match as with| [x]=>Xr H dst k a x y|_=>none
 |a::b::l,as,y=>
  match as with
  |x::r=>
   (match Xr H dst k a x y.1 with
   |some (u1,k1)=>(match YaI (H.upd u1) dst k1 (b::l) r y.2 with|some (u2,k2)=>some (u1++u2,k2)|none=>none)
   |none=>none)
  | []=>none
def Yep:(a:AD)->a.den->a.out->Bool
 | .bf e=>λx y=>decide (List.length (α:=e.den) y=List.length (α:=e.den) x.1)
 | .pr a b=>λx y=>Yep a x.1 y.1&&Yep b x.2 y.2
 | .v _=>λ_ _=>true
 | .io _ _=>λ_ _=>true
 | .mv _ _=>λ_ _=>true
 | .bx _=>λ_ _=>true
 | .jk _=>λ_ _=>true
 | .un=>λ_ _=>true
 | .mp _=>λ_ _=>true
 | .gs _ _=>λ_ _=>true
 | .nv _ _=>λ_ _=>true
 | .pz _=>λ_ _=>true
def YfG:(l:List AD)->YH l->XK l->Bool
 | []=>λ_ _=>true
 | [a]=>λx y=>Yep a x y
 |a::b::l=>λx y=>Yep a x.1 y.1&&YfG (b::l) x.2 y.2
def Yeu (H:Store) (dst k:Nat):(l:List AD)->YH l->Option (List AV×Ups×Nat)
 | [],_=>some ([],[],k)
 | [a],x=>match mkD H dst k a x with|some (y,u,k1)=>some ([y],u,k1)|none=>none
 |a::b::l,x=>
  match mkD H dst k a x.1 with
  |some (y,u1,k1)=>(match Yeu (H.upd u1) dst k1 (b::l) x.2 with|some (ys,u2,k2)=>some (y::ys,u1++u2,k2)|none=>none)
  |none=>none
def Yhj:List AV->AV
 | [x]=>x
 |l=> .tup l
inductive OpE:Type 1
 |fail
 |ok (v:AV) (u:Ups)
 |chk (c:Prop) (dec:Decidable c) (v:AV) (u:Ups)
 |call (B:Type) (o:Option B) (c:B->Bool) (f:B->Option (AV×Ups))
 |pick (c:Bool) (x y:AV)
 |sel (j:Int) (l:List AV)
def Ybx {R:Type} (k:AV->Option R):Nat->Int->List AV->Option R
 |_,_,[]=>none
 |i,j,v::l=> @ite _ (j=Int.ofNat i) inferInstance (k v) (Ybx k (i+1) j l)
def OpE.run {R:Type}:OpE->(AV->Ups->Option R)->Option R
 | .fail,_=>none
 | .ok v u,k=>k v u
 | .chk c dec v u,k=> @ite _ c dec (k v u) none
 | .call _ o c f,k=>o.bind λb=> @ite _ (c b=true) inferInstance (match f b with|some (v,u)=>k v u|none=>none) none
 | .pick c x y,k=> @ite _ (c=true) inferInstance (k x []) (k y [])
 | .sel j l,k=>Ybx (λv=>k v []) 0 j l
def Yil (j:IntKind) (a b:Int):Int:=IntKind.wrap j (BitVec.ofInt j.bits a&&&BitVec.ofInt j.bits b).toNat
def YiJ (j:IntKind) (a b:Int):Int:=IntKind.wrap j (BitVec.ofInt j.bits a^^^BitVec.ofInt j.bits b).toNat
def YiD (j:IntKind) (a b:Int):Int:=a.fdiv (2^(min b.toNat j.bits))
def Yiv (a b:Int):Int:=if b>a then b else a
def Ygu (op:BinOp) (j:IntKind) (a b:Int):OpE:=
 match op with
 | .add=> .ok (.val (.num j) (IntKind.wrap j (a+b))) []
 | .sub=> .ok (.val (.num j) (IntKind.wrap j (a-b))) []
 | .mul=> .ok (.val (.num j) (IntKind.wrap j (a*b))) []
 | .quo=> .chk (b≠0) inferInstance (.val (.num j) (IntKind.wrap j (a.tdiv b))) []
 | .rem=> .chk (b≠0) inferInstance (.val (.num j) (a.tmod b)) []
 | .eql=> .ok (.val .bool (a==b)) []
 | .neq=> .ok (.val .bool (a !=b)) []
 | .lss=> .ok (.val .bool (decide (a<b))) []
 | .leq=> .ok (.val .bool (decide (a<=b))) []
 | .gtr=> .ok (.val .bool (decide (a>b))) []
 | .geq=> .ok (.val .bool (decide (a≥b))) []
 | .and=> .ok (.val (.num j) (Yil j a b)) []
 | .xor=> .ok (.val (.num j) (YiJ j a b)) []
 | .shr=> .chk (0<=b) inferInstance (.val (.num j) (YiD j a b)) []
 |_=> .fail
def Yio (op:BinOp) (a b:Bool):OpE:=
 match op with
 | .eql=> .ok (.val .bool (a==b)) []
 | .neq=> .ok (.val .bool (a !=b)) []
 |_=> .fail
def Yip (op:BinOp) (b:Bool):OpE:=
 match op with
 | .eql=> .ok (.val .bool (!b)) []
 | .neq=> .ok (.val .bool b) []
 |_=> .fail
def Yel:Ty->Bool
 | .slice _=>true
 |_=>false
def Yb1:(t:Ty)->t.den->Option (List Int)
 | .num k=>λx=>if k= .i64 then some [x]else none
 | .pair a b=>λx=>match Yb1 a x.1,Yb1 b x.2 with|some l,some l'=>some (l++l')|_,_=>none
 | .bool=>λ_=>none
 | .str=>λ_=>none
 | .slice _=>λ_=>none
 | .fn _=>λ_=>none
 | .smap _=>λ_=>none
 | .op _=>λ_=>none
 | .ptr _=>λ_=>none
 | .fc _ _=>λ_=>none
def Yb0:AV->Option (List Int)
 | .val t x=>Yb1 t x
 | .pr a b=>match Yb0 a,Yb0 b with|some l,some l'=>some (l++l')|_,_=>none
 |_=>none
def eqL:List Int->List Int->Bool
 |x::l,y::l'=>x==y&&eqL l l'
 | [],[]=>true
 |_,_=>false
def Yej (tt:Nat->Option TI) (f:Nat):Bool:=match tt f with|some j=>decide (j.ty= .num .i64)|none=>false
def Yim (op:BinOp) (l l':List Int):OpE:=
 match op with
 | .eql=> .ok (.val .bool (eqL l l')) []
 | .neq=> .ok (.val .bool (!eqL l l')) []
 |_=> .fail
def Yh5 (tt:Nat->Option TI) (i:TI) (op:BinOp) (X Y:AV):OpE:=
 match Yb0 X,Yb0 Y with
 |some l,some l'=>if i.fields.all (Yej tt)&&decide (2<=i.fields.length/\l.length=i.fields.length/\l'.length=i.fields.length)then Yim op l l' else .fail
 |_,_=> .fail
def Yht (ty:Ty) (op:BinOp):AV->AV->OpE
 | .nv b _,.nils=>if Yel ty then Yip op b else .fail
 | .val (.num j) a,.val (.num j') b=>if j=j'∨op= .shr then Ygu op j a b else .fail
 | .val .bool a,.val .bool b=>if ty= .bool then Yio op a b else .fail
 |_,_=> .fail
def Yi9 (j:IntKind) (n:Int):OpE:= .ok (.val (.num j) (IntKind.wrap j (0-n))) []
def Yia (r:Nat) (e:Ty) (d:Nat) (n m:Int):OpE:=
 .chk (0<=n/\n<=m/\m<=lim) inferInstance (.ref r 1 []) [(r,.arr e d (List.replicate n.toNat e.dflt) 1 false)]
def Yh9 (r:Nat) (e:Ty) (n m:Int):OpE:=
 .chk (0<=n/\n<=m/\m<=lim) inferInstance (.ref r 1 []) [(r,.bf e (List.replicate m.toNat e.dflt) n 1 false)]
def Yib (r:Nat) (e:Ty) (xs:List e.den) (ver:Nat) (b:Int):OpE:=
 .chk (0<=b/\b<=(xs.length:Int)/\0<(xs.length:Int)) inferInstance (.ref r (ver+1) [.fst,.idx 0,.idx b]) [(r,.bf e xs (xs.length:Int) (ver+1) false)]
def Yda {α:Type} (xs:List α) (b:Int) (ys:List α):List α:=xs.take b.toNat++(ys++xs.drop (b.toNat+ys.length))
def YiO (r:Nat) (e:Ty) (xs:List e.den) (n:Int) (ver:Nat) (pin:Bool) (b:Int) (ys:List e.den):OpE:=
 .chk (0<(ys.length:Int)/\b+(ys.length:Int)<=(xs.length:Int)) inferInstance (.ref r ver [.fst,.idx 0,.idx (b+(ys.length:Int))]) [(r,.bf e (Yda xs b ys) n ver pin)]
def Yi0 (e:Ty) (j b:Int) (r ver:Nat):OpE:= .chk (0<=j/\j<b) inferInstance (.ptr r ver e [.idx j]) []
def Yg9 (e:Ty) (xs:List e.den) (a b:Int) (u:Ups):OpE:=
 .chk (0<=a/\a<=b/\b<=xs.length) inferInstance (.val (.slice e) ((xs.take b.toNat).drop a.toNat:List e.den)) u
def Yg2 (n:Nat) (r ver:Nat) (a b:Int):OpE:= .chk (0<=a/\a<=b/\b<=n) inferInstance (.ref r ver [.fst,.idx a,.idx b]) []
def upL {α:Type} (xs:List α) (a b:Nat) (d:α):List α:=xs.take a++xs.getD b d::((xs.drop a).take (b-a)++xs.drop (b+1))
def Yh7 (r:Nat) (e:Ty) (d:Nat) (xs:List e.den) (ver:Nat) (pin:Bool) (i a1 b1 a0 b0:Int):OpE:=
 .chk (a1=a0+1/\b1=b0+1/\i=b0) inferInstance (.val .int (b0-a0)) [(r,.ho e d (upL xs a0.toNat b0.toNat e.dflt) (ver+1) pin a0)]
def atE (e:Ty) (xs:List e.den) (j:Int):OpE:= .chk (inb j xs) inferInstance (.vptr e (gd xs j e.dflt)) []
def Yg4 (e:Ty) (xs:List e.den) (j:Int) (r ver:Nat) (p:List PE):OpE:= .chk (inb j xs) inferInstance (.ptr r ver e (p++ [.idx j])) []
def Yhr (r:Nat) (e:Ty) (d:Nat) (xs ys:List e.den) (u:Ups) (k:Nat):OpE:=
 .chk (xs.length+ys.length<=lim) inferInstance (.ref r k []) (u++ [(r,.arr e d (xs++ys) k false)])
def Ygw (r:Nat) (e:Ty) (d:Nat) (xs:List e.den) (ver:Nat) (pin:Bool) (p:List PE) (ty:Ty):Got->OpE
 |⟨.slice .bool,gd+1,x⟩=>
  if ty= .slice .bool then
   (match XR (.slice e) (d+1) xs p (.slice .bool) (List.replicate (List.length (α:=Bool) x) false:List Bool)with
   |some zs=> .ok (.tup []) [(r,.arr e d zs (ver+1) pin)]
   |none=> .fail)
  else .fail
 |_=> .fail
def nnV:AV->Nat
 | .ref _ ver []=>(match ver with|1=>1|_=>0)
 |_=>0
def YiW (n:Nat):OpE:= .ok (.val .int (n:Int)) []
def Ygy {R:Type} (c:Bool) (x y:Option R):Option R:=if c then x else y
def YaZ (tt:Nat->Option TI) (ps:List (Nat×AV)):Nat->List Nat->Option AV
 |_,[]=>none
 |k,[f]=>
  match ps.find? (λq=>q.1==k)with
  |some q=>some q.2
  |none=>match tt f with|some i=>some (Yaz i.ty)|none=>none
 |k,f::g::r=>
  match (match ps.find? (λq=>q.1==k)with|some q=>some q.2|none=>(match tt f with|some i=>some (Yaz i.ty)|none=>none)),YaZ tt ps (k+1) (g::r)with
  |some a,some b=>some (.pr a b)
  |_,_=>none
def Y1:AV->Nat
 | .val t _=>t.cells
 | .pr a b=>Y1 a+Y1 b
 | .jk n=>n
 |_=>1
def Yr:Ty->Bool
 | .pair _ _=>true
 |_=>false
def YcT (t:Ty) (x:t.den) (off:Nat) (v:Ty):Option ((u:Ty)×u.den):=if off=0/\t.cells=v.cells/\Yr t=Yr v then some ⟨t,x⟩else none
def Yhc:(t:Ty)->t.den->Nat->Ty->Option ((u:Ty)×u.den)
 | .pair a b=>λx off v=>if off=0/\(Ty.pair a b).cells=v.cells/\Yr v=true then some ⟨.pair a b,x⟩else if off<a.cells then Yhc a x.1 off v else Yhc b x.2 (off-a.cells) v
 | .num k=>YcT (.num k)
 | .bool=>YcT .bool
 | .str=>YcT .str
 | .slice e=>YcT (.slice e)
 | .fn f=>YcT (.fn f)
 | .smap k=>YcT (.smap k)
 | .op k=>YcT (.op k)
 | .ptr t=>YcT (.ptr t)
 | .fc f t=>YcT (.fc f t)
def Yah:AV->List PE->Option Nat
 |_,[]=>some 0
 | .pr a _,.fst::p=>Yah a p
 | .pr a b,.snd::p=>(Yah b p).map (Y1 a+ ·)
 | .val (.pair a _) x,.fst::p=>Yah (.val a x.1) p
 | .val (.pair a b) x,.snd::p=>(Yah (.val b x.2) p).map (a.cells+ ·)
 |_,_=>none
def YhT (tt:Nat->Option TI) (fs:List Nat) (ps:List (Nat×AV)):Bool:=
 ps.all λq=>match fs[q.1]? with|some f=>(match tt f,Yu q.2 with|some i,some l=>l.length==i.ty.cells|_,_=>false)|none=>false
def Yap (tt:Nat->Option TI) (i:TI) (k:Nat):AV->OpE
 | .bptr r off=>match fieldOff tt i.fields k with|some j=> .ok (.bptr r (off+j)) []|none=> .fail
 | .ptr r ver t p=>if t=i.ty then(match tyP t (Yx i.fields.length k)with|some u=> .ok (.ptr r ver u (p++Yx i.fields.length k)) []|none=> .fail)else .fail
 | .vptr u y=>if u=i.ty then(match Yd (.val u y) (Yx i.fields.length k)with|some (.val u' y')=> .ok (.vptr u' y') []|_=> .fail)else .fail
 |_=> .fail
def Yg8 (tt:Nat->Option TI) (i:TI) (x:AV):Nat->Nat->Option (List AV)
 |0,_=>some []
 |n+1,k=>match Yap tt i k x with
  | .ok v []=>(match Yg8 tt i x n (k+1)with|some l=>some (v::l)|none=>none)
  |_=>none
def YiC (tt:Nat->Option TI) (i:TI) (x:AV) (j:Int):OpE:=
 match Yg8 tt i x i.fields.length 0 with
 |some l=> .sel j l
 |none=> .fail
def Ycc (H:Store) (ti:TI) (x:AV) (j:Int):OpE:=
 match YX H x with
 |some ⟨.slice e,d,xs⟩=>
  if ti.ty= .slice e then
   match d with
   |0=>atE e xs j
   |_+1=>(match x with| .ref r ver p=>Yg4 e xs j r ver p|_=> .fail)
  else .fail
 |_=> .fail
def Ybg (H:Store) (ti:TI) (x:AV) (j:Int):OpE:=
 match Ycq H x with
 |some (r,b)=>(match H r with
  | .bf e _ _ ver' _=>if ti.ty= .slice e then Yi0 e j b r ver' else .fail
  |_=> .fail)
 |none=>
 match x with
 | .ref r ver []=>
  (match H r with
  | .ho e _ xs ver' _ _=>if ti.ty= .slice e then Yg4 e xs j r ver' []else .fail
  |_=>Ycc H ti (.ref r ver []) j)
 |x=>Ycc H ti x j
def Yfj (cx:Cx) (dst:Option Nat) (H:Store) (r:Nat):Option (Nat×Got×Nat):=
 match dst with
 |some d=>if cx.dep d=98 then(match H r with| .arr e dd xs ver false=>if dd=0 then some (r,⟨.slice e,1,xs⟩,ver)else none|_=>none)else none
 |none=>none
def Yfi (cx:Cx) (dst:Option Nat) (H:Store):AV->Option (Nat×Got×Nat)
 | .ref r _ []=>Yfj cx dst H r
 |_=>none
def YcB:AV->Bool
 | .val .bool b=>b
 |_=>false
def YfF:AV->Bool
 | .val (.num .i64) _=>true
 |_=>false
def Yi2 (k:MK) (x:AV):Bool:=match k with
 | .si=>YfF x
 | .sb=>YcB x
 | .ab _=>YcB x
def YfS:AV->Option ByteArray
 | .val .str s=>some s
 |_=>none
def YiV (tt:Nat->Option TI) (i:TI) (n:Nat) (x:AV):Option ByteArray:=
 match Yb0 x,tt i.elem with
 |some l,some q=>if q.arr=true/\q.fields.all (Yej tt)=true/\q.fields.length=n/\2<=n/\l.length=n then some (YbP l)else none
 |_,_=>none
def YhC (tt:Nat->Option TI) (i:TI) (k:MK) (x:AV):Option ByteArray:=match k with
 | .ab n=>YiV tt i n x
 | .sb=>YfS x
 | .si=>YfS x
def YfJ:MK->Bool->Bool->OpE
 | .si,c,b=>(match c with|true=> .ok (.tup [.un,.val .bool b]) []|false=> .fail)
 | .sb,c,b=>(match c with|true=> .fail|false=> .ok (.val .bool b) [])
 | .ab _,c,b=>(match c with|true=> .fail|false=> .ok (.val .bool b) [])
def YeI (tt:Nat->Option TI) (ts:Array Nat):Bool:=match ts.toList with
 | [t]=>(match tt t with|some i=>(match i.ty with| .slice _=>true|_=>false)|none=>false)
 |_=>false
def Yha (tt:Nat->Option TI) (ts:Array Nat):Bool:=match ts.toList with
 | [t]=>(match tt t with|some i=>decide (i.ty= .str)|none=>false)
 |_=>false
def YdK (s:ByteArray) (j:Int):Int:=match s[j.toNat]? with
 |some b=>(b.toNat:Int)
 |none=>0
def Yh6 (s:ByteArray) (n:Int):OpE:= .chk (0<=n/\n<(s.size:Int)) inferInstance (.val (.num .u8) (YdK s n)) []
def YiX (b:Bool):AV->OpE
 | .val .str s=>(match b with|true=> .ok (.val .int (s.size:Int)) []|false=> .fail)
 |_=> .fail
def YgG (tt:Nat->Option TI) (t:Nat) (j:AV):AV->OpE
 | .val .str s=>(match j,tt t with
  | .val (.num .i64) n,some i=>if i.ty= .str then Yh6 s n else .fail
  |_,_=> .fail)
 |_=> .fail
def YiG (tt:Nat->Option TI) (e:Nat):Bool:=match tt e with|some q=>decide (q.ty= .num .u8)|none=>false
def YfD (H:Store) (f:Nat):List AV->Option Nat
 | []=>none
 | .val (.fn g) _::_=>some g
 | .val (.fc g _) _::_=>some g
 | .clo g _::_=>some g
 | .bptr r 0::l=>(match H r with| .kz g _=>if g==f then YfD H f l else some g|_=>YfD H f l)
 |_::l=>YfD H f l
def YdL (cx:Cx) (H:Store) (f:Nat) (avs:List AV):Option Entry:=
 match YfD H f avs with
 |none=>if f%65536=f then cx.T f else none
 |some g=>if(f+65536*(g+1))%65536=f then cx.T (f+65536*(g+1))else none
def Ycu:List AV->Option (List Nat)
 | []=>some []
 | .bptr r 0::l=>(match Ycu l with|some q=>some (r::q)|none=>none)
 |_=>none
def X1:AV->Option (Nat×List AV)
 | .val (.fn f) _=>some (f,[])
 | .val (.fc f t) x=>some (f,X4 t x)
 | .clo f l=>some (f,l.map λr=> .bptr r 0)
 |_=>none
def Yh8:List (Nat×Ty)->Nat->Option Ty
 | [],_=>none
 |(j,t)::l,f=>if j==f then some t else Yh8 l f
def XE (H:Store) (r:Nat):(t:Ty)->Option (t.den×Ups)
 | .ptr s=>match YaS H s (.bptr r 0)with|some (x,u)=>some ((true,x),u)|none=>none
 |_=>none
def YcW (H:Store):List Nat->(t:Ty)->Option (t.den×Ups)
 | [],_=>none
 | [r],t=>XE H r t
 |r::r'::l,t=>match t with
  | .pair a b=>(match XE H r a with
   |some (x,u1)=>(match YcW (H.upd u1) (r'::l) b with|some (y,u2)=>some ((x,y),u1++u2)|none=>none)
   |none=>none)
  |_=>none
def Yin (l:List AV) (n:Nat):AV:=l.getD n .un
def Yc1 (cod:List (Nat×Cod)) (H:Store) (l:List AV):Option (List AV):=
 match cod with
 | []=>some l
 |_=>match Yck cod H (Yin l)with|some G=>some ((List.range l.length).map G)|none=>none
def YgF (H:Store):AV->Option (Nat×Nat×Nat)
 | .ref r _ p=>(match p with| []=>(match H r with| .ho (.slice _) _ xs ver _ _=>some (r,ver,xs.length)|_=>none)|_=>none)
 |_=>none
def YfH (cx:Cx) (dst:Option Nat) (H:Store) (a:AV):OpE:=
 match dst with
 |some d=>if cx.dep d=99 then
   (match a with
   | .ref r ver [.idx j]=>
    (match H r with
    | .arr (.slice e) (d1+1) _ _ _=>
     (match Ya H (.ref r ver [.idx j]) (.slice e) (d1+1)with
     |some (x,u)=>(match (H.upd u) (d*16)with| .free=> .ok (.ref (d*16) 0 []) (u++ [(d*16,.arr e d1 x 0 false)])|_=> .fail)
     |none=> .fail)
    |_=> .fail)
   |_=> .fail)
  else .ok a []
 |none=> .ok a []
def YfI (cx:Cx) (dst:Option Nat) (H:Store) (t:Ty) (r:Nat) (p:List PE) (pin:Bool) (ver:Nat) (i:Int):(e:Ty)->(d:Nat)->List e.den->OpE
 | .slice e,d+1,xs=>
  match p,dst with
  | [.idx j],some q=>if cx.dep q=99/\t= .slice e then
    (match H (q*16)with
    | .free=> .chk (i<0/\ -1-i<=j) inferInstance (.ref (q*16) 0 []) [(r,.ho (.slice e) (d+1) xs (ver+1) pin (-1-(j+1))),(q*16,.arr e d (gd (α:=List e.den) xs j []) 0 false)]
    |_=> .fail)else .fail
  |_,_=> .fail
 |_,_,_=> .fail
def Yit (cx:Cx) (H:Store) (y:AV) (r ver:Nat) (j:Int) (e:Ty):Ups:=
 match y with
 | .ref r2 _ []=>(match e with| .slice _=>if cx.dep (r2/16)=99 then(match H r2 with| .gone=> [(r2,.lnk r ver j)]|_=> [])else []|_=> [])
 |_=> []
def opE (cx:Cx) (o:Oper) (G:Nat->AV) (H:Store):OpE:=
 let rd:=rdG G
 match o.op with
 | .move x=> .ok (rd x) []
 | .assign x=> .ok (rd x) []
 | .pick c a b=>match rd c with| .val .bool t=> .pick t (rd a) (rd b)|_=> .fail
 | .unOp op _ x=>
  match op,rd x with
  | .not,.val .bool b=> .ok (.val .bool (!b)) []
  | .neg,.val (.num j) n=>Yi9 j n
  |_,_=> .fail
 | .binOp op t x y _=>match cx.tt t with|some i=>if i.arr then Yh5 cx.tt i op (rd x) (rd y)else Yht i.ty op (rd x) (rd y)|none=>Yht .str op (rd x) (rd y)
 | .convert s t x=>
  match cx.tt s,cx.tt t,rd x with
  |some _,some i,.val (.num _) n=>(match i.ty with| .num k=> .ok (.val (.num k) (IntKind.wrap k n)) []|_=> .fail)
  |some j,some i,v=>
   (match YX H v with
   |some ⟨.slice (.num .u8),_,xs⟩=>if j.ty= .slice (.num .u8)/\i.ty= .str/\YiG cx.tt j.elem=true then .ok (.val .str (Ybp xs)) []else .fail
   |_=> .fail)
  |_,_,_=> .fail
 | .makeMap t none=>
  match cx.tt t,o.dst with
  |some i,some d=>(match i.ty,H (d*16)with| .smap k,.free=> .ok (.ref (d*16) 0 []) [(d*16,.mp k [])]|_,_=> .fail)
  |_,_=> .fail
 | .mapUpdate t m k v=>
  match cx.tt t,rd m with
  |some i,.ref r _ []=>
   (match i.ty,H r with
   | .smap kd,.mp kd' ks=>if kd'=kd/\Yi2 kd (rd v)=true then(match YhC cx.tt i kd (rd k)with|some s=> .ok .un [(r,.mp kd (YhI ks s))]|none=> .fail)else .fail
   |_,_=> .fail)
  |_,_=> .fail
 | .lookup t m k c=>
  match cx.tt t,YcE H (rd m)with
  |some i,some (kd',ks)=>
   (match i.ty with
   | .smap kd=>if kd'=kd then(match YhC cx.tt i kd (rd k)with|some s=>YfJ kd c (Xs ks s)|none=> .fail)else .fail
   |_=> .fail)
  |_,_=> .fail
 | .extract x i=>match rd x with| .tup l=>(match l[i]? with|some v=> .ok v []|none=> .fail)|_=> .fail
 | .nilCheck x=>match rd x with
  | .bptr r k=> .ok (.bptr r k) []
  | .val (.ptr t) y=> .chk (y.1=true) inferInstance (.vptr t y.2) []
  |_=> .fail
 | .makeFunc (.func f) first caps=>if first.isEmpty then(match Ycu (caps.toList.map rd)with
  |some l=>(match Yh8 cx.fcl f with
   |none=> .ok (.clo f l) []
   |some t=>(match YcW H l t with|some (x,u)=> .ok (.val (.fc f t) x) u|none=> .fail))
  |none=> .fail)else .fail
 | .alloc t=>
  match cx.tt t,o.dst with
  |some i,some d=>(match H (d*16),Yu (Yaz i.ty)with| .free,some c=> .ok (.bptr (d*16) 0) [(d*16,.box c)]|_,_=> .fail)
  |_,_=> .fail
 | .box _ x=>
  match rd x,o.dst with
  | .clo f l,some d=>(match H (d*16)with| .free=> .ok (.bptr (d*16) 0) [(d*16,.kz f l)]|_=> .fail)
  |v,some d=>(match Yu v,H (d*16)with|some c,.free=> .ok (.bptr (d*16) 0) [(d*16,.box c)]|_,_=> .fail)
  |_,_=> .fail
 | .fieldAddr t x k=>
  match cx.tt t with
  |some i=>if k<i.fields.length/\i.arr=false then Yap cx.tt i k (rd x)else .fail
  |none=> .fail
 | .field t x k=>
  match cx.tt t with
  |some i=>
   if k<i.fields.length/\i.arr=false then
    match Yd (rd x) (Yx i.fields.length k),i.fields[k]? with
    |some v,some f=>
     (match cx.tt f with
     |some j=>if Yah (rd x) (Yx i.fields.length k)=fieldOff cx.tt i.fields k/\Y1 v=j.ty.cells/\YF v=Yr j.ty/\YF (rd x)=true then .ok v []else .fail
     |none=> .fail)
    |_,_=> .fail
   else .fail
  |none=> .fail
 | .index t x i=>YgG cx.tt t (rd i) (rd x)
 | .indexAddr t x (.const (.int _ (.ofNat k)))=>
  match cx.tt t with
  |some ti=>
   if ti.arr then(if k<ti.fields.length then Yap cx.tt ti k (rd x)else .fail)else Ybg H ti (rd x) (Int.ofNat k)
  |none=> .fail
 | .indexAddr t x i=>
  match rd i,cx.tt t with
  | .val (.num .i64) j,some ti=>if ti.arr then YiC cx.tt ti (rd x) j else Ybg H ti (rd x) j
  |_,_=> .fail
 | .load t x=>
  match cx.tt t with
  |some i=>
   (match rd x with
   | .vptr u y=>if u=i.ty then .ok (.val u y) []else .fail
   | .val (.ptr u) y=>if u=i.ty then .chk (y.1=true) inferInstance (.val u y.2) []else .fail
   | .bptr r off=>(match H r with
    | .box c=>if off+i.ty.cells<=c.length then .ok (Xt i.ty ((c.drop off).take i.ty.cells)) []else .fail
    | .pz t x=>(match Yhc t x off i.ty with|some q=> .ok (.val q.1 q.2) []|none=> .fail)
    | .kz f l=>if off=0/\i.ty.cells=1/\Yr i.ty=false then .ok (.clo f l) []else .fail
    |_=> .fail)
   | .ptr r ver _ p=>
    match H r with
    | .arr e d xs ver' _=>if ver=ver'∨Ybf p=false then(match YW (.slice e) (d+1) xs p with|some g=>if g.t=i.ty then YfH cx o.dst H (Yco r ver' g.t g.d g.x p)else .fail|none=> .fail)else .fail
    | .ho e d xs ver' pin j=>YfI cx o.dst H i.ty r p pin ver' j e d xs
    | .bf e xs _ ver' _=>(match p with| [.idx j]=>if ver=ver'/\e=i.ty then .ok (.val e (gd xs j e.dflt)) []else .fail|_=> .fail)
    |_=> .fail
   |_=> .fail)
  |none=> .fail
 | .store t x y=>
  match rd x,cx.tt t with
  | .bptr r off,some i=>
   (match rd y with
   | .clo f q=>(match H r with| .box c=>if off=0/\c.length=1/\i.ty.cells=1/\Yr i.ty=false then .ok .un [(r,.kz f q)]else .fail|_=> .fail)
   |v=>(match H r,Yu v with
    | .box c,some l=>if l.length=i.ty.cells/\off+l.length<=c.length then .ok .un [(r,.box (XM c off l))]else .fail
    |_,_=> .fail))
  | .ptr r ver _ p,some i=>
   (match H r with
   | .ho e d xs ver' _ j=>
    (match p with
    | [.idx j']=>
     if i.ty=e then
      match Ya H (rd y) e d with
      |some (v,u1)=>
       (match (H.upd u1) r with
       | .ho e2 d2 xs2 ver2 pin2 j2=>
        if h:e2=e/\d2=d then .chk (j'=j2) inferInstance .un ((u1++ [(r,.arr e d (stt (α:=e.den) (h.1▸xs2) j' v) (ver2+1) pin2)])++Yit cx ((H.upd u1).set r (.arr e d (stt (α:=e.den) (h.1▸xs2) j' v) (ver2+1) pin2)) (rd y) r (ver2+1) j' e)else .fail
       |_=> .fail)
      |none=> .fail
     else .fail
    | [.idx j',.fst]=>
     (match Ya H (rd y) i.ty (dl d)with
     |some (v,u1)=>
      (match (H.upd u1) r with
      | .ho e2 d2 xs2 ver2 pin2 j2=>
       (match YgD i.ty v j' e2 d2 xs2 with
       |some zs=>if dl d2=dl d then .chk (j'=j2) inferInstance .un (u1++ [(r,.arr e2 d2 zs (ver2+1) pin2)])else .fail
       |none=> .fail)
      |_=> .fail)
     |none=> .fail)
    |_=> .fail)
   | .arr e d xs ver' _=>
    if ver=ver'∨Ybf p=false then
     match YW (.slice e) (d+1) xs p with
     |some g=>
      if g.t=i.ty then
       match Ya H (rd y) g.t g.d with
       |some (v,u1)=>
        (match (H.upd u1) r with
        | .arr e2 d2 xs2 ver2 pin2=>
         (match XR (.slice e2) (d2+1) xs2 p g.t v with
         |some zs=> .ok .un (u1++ [(r,.arr e2 d2 zs (YiQ g.t ver2) pin2)])
         |none=> .fail)
        |_=> .fail)
       |none=> .fail
      else .fail
     |none=> .fail
    else .fail
   |_=> .fail)
  |_,_=> .fail
 | .build t parts=>
  match cx.tt t with
  |some i=>
   let ps:=parts.toList.map λq=>(q.1,rd q.2)
   if YhT cx.tt i.fields ps&&Y5 (ps.map (·.1))then(match YaZ cx.tt ps 0 i.fields with|some v=> .ok v []|none=> .fail)else .fail
  |none=> .fail
 | .buildSlice t n parts=>
  match cx.tt t,o.dst with
  |some i,some d=>
   (match i.ty,H (d*16)with
   | .slice e,.free=>
    if(parts.toList.map (·.1))=List.range n/\n*e.cells<=1024 then
     match YcV H e (cx.dep d) (parts.toList.map λq=>rd q.2)with
     |some (xs,u)=>(match (H.upd u) (d*16)with| .free=> .ok (.ref (d*16) 1 []) (u++ [(d*16,.arr e (cx.dep d) xs 1 false)])|_=> .fail)
     |none=> .fail
    else .fail
   |_,_=> .fail)
  |_,_=> .fail
 | .makeSlice t x y=>
  match cx.tt t,o.dst,rd x,rd y with
  |some i,some d,.val (.num .i64) n,.val (.num .i64) m=>
   (match i.ty,H (d*16)with
   | .slice e,.free=>if cx.dep d=96 then Yh9 (d*16) e n m else Yia (d*16) e (cx.dep d) n m
   |_,_=> .fail)
  |_,_,_,_=> .fail
 | .slice t x lo hi none=>
  match cx.tt t with
  |some i=>
   (match i.ty with
   | .slice e=>
    (match YgF H (rd x)with
    |some (r,ver,n)=>
     (match (match lo with|some l=>rd l|none=> .val .int (0:Int)),(match hi with|some h=>rd h|none=> .val .int (n:Int))with
     | .val (.num .i64) a,.val (.num .i64) b=>if e.cells=1 then Yg2 n r ver a b else .fail
     |_,_=> .fail)
    |none=>
    match Yfi cx o.dst H (rd x)with
    |some (r,⟨.slice e',_,xs⟩,ver)=>
     (match lo,(match hi with|some h=>rd h|none=> .un)with
     |none,.val (.num .i64) b=>if e'=e then Yib r e' xs ver b else .fail
     |_,_=> .fail)
    |some _=> .fail
    |none=>
    match Ya H (rd x) (.slice e) 0 with
    |some (xs,u)=>
     (match (match lo with|some l=>rd l|none=> .val .int (0:Int)),(match hi with|some h=>rd h|none=> .val .int (List.length xs:Int))with
     | .val (.num .i64) a,.val (.num .i64) b=>
      Yg9 e xs a b u
     |_,_=> .fail)
    |none=> .fail)
   |_=> .fail)
  |none=> .fail
 | .call c=>
  match c.callee with
  | .builtin .len=>
   (match c.args.toList with
   | [x]=>
    if YeI cx.tt c.argTypes then
    (match Ycq H (rd x)with
    |some (_,b)=> .ok (.val .int b) []
    |none=>
    match rd x with
    | .nils=>YiW 0
    |v=>(match YX H v with|some ⟨.slice _,_,xs⟩=>YiW (List.length xs)|_=> .fail))
    else YiX (Yha cx.tt c.argTypes) (rd x)
   |_=> .fail)
  | .builtin .copy=>
   (match c.args.toList,c.argTypes.toList with
   | [x,y],[t,_]=>
    (match rd x,rd y,cx.tt t with
    | .ref r ver [.fst,.idx a1,.idx b1],.ref r' ver' [.fst,.idx a0,.idx b0],some i=>
     (match H r with
     | .ho e d xs ver2 pin j=>if r=r'/\ver=ver2/\ver'=ver2/\i.ty= .slice e/\e.cells=1 then Yh7 r e d xs ver2 pin j a1 b1 a0 b0 else .fail
     |_=> .fail)
    |_,_,_=> .fail)
   |_,_=> .fail)
  | .builtin .clear=>
   (match c.args.toList,c.argTypes.toList with
   | [x],[t]=>
    (match rd x,cx.tt t with
    | .ref r ver (.idx j::p),some i=>
     (match H r with
     | .arr e d xs ver' pin=>
      if ver=ver' then
       (match YW (.slice e) (d+1) xs (.idx j::p)with
       |some g=>Ygw r e d xs ver' pin (.idx j::p) i.ty g
       |none=> .fail)
      else .fail
     |_=> .fail)
    |_,_=> .fail)
   |_,_=> .fail)
  | .builtin .max=>
   (match c.args.toList with
   | [x,y]=>(match rd x,rd y with
    | .val (.num j) a,.val (.num j') b=>if j=j' then .ok (.val (.num j) (Yiv a b)) []else .fail
    |_,_=> .fail)
   |_=> .fail)
  | .builtin .append=>
   (match c.args.toList,o.dst,c.argTypes.toList with
   | [x,y],some d,[t,t']=>
    (match cx.tt t,H (d*16)with
    |some i,.free=>
     (match i.ty with
     | .slice e=>
      if t=t' then
      (match Yhw H (rd x)with
      |some (r,b)=>
       (match H r with
       | .bf e' xs n ver pin=>
        (match asV H (rd y) (.slice e'),YX H (rd y)with
        |some ys,some g=>if e'=e/\g.d<=1 then YiO r e' xs n ver pin b ys else .fail
        |_,_=> .fail)
       |_=> .fail)
      |none=>
      match Ya H (rd x) (.slice e) (cx.dep d+1)with
      |some (xs,u1)=>
       (match (H.upd u1) (d*16)with
       | .free=>
        (match asV (H.upd u1) (rd y) (.slice e),YX (H.upd u1) (rd y)with
        |some ys,some g=>
         if(g.d<=1/\cx.dep d=0)∨e.dep=0 then
          Yhr (d*16) e (cx.dep d) xs ys u1 (nnV (rd x))
         else
          (match Ya (H.upd u1) (rd y) (.slice e) (cx.dep d+1)with
          |some (zs,u2)=>
           (match ((H.upd u1).upd u2) (d*16)with
           | .free=>Yhr (d*16) e (cx.dep d) xs zs (u1++u2) (nnV (rd x))
           |_=> .fail)
          |none=> .fail)
        |_,_=> .fail)
       |_=> .fail)
      |none=> .fail)
      else .fail
     |_=> .fail)
    |_,_=> .fail)
   |_,_,_=> .fail)
  | .value fo=>
   (match X1 (rd fo)with
   |some (f,caps)=>
   let avs0:=c.args.toList.map rd++caps
   (match YdL cx H f avs0,o.dst with
   |some en,some d=>
    let share:=!(en.params.all AD.plain&&en.results.all AD.alone)
    match Yc1 en.cod H avs0 with
    |none=> .fail
    |some avs=>
    if YE (Yf H en.params avs)&&YaP en.params avs then
     match Xx H share en.params avs with
     |some (a,u1)=> .call en.B (en.run a) (λb=>YfG en.params a (en.out b)) (λb=>
      match YaJ (H.upd u1) en.params avs (en.out b)with
      |some u2=>
       (match Yeu ((H.upd u1).upd u2) d 0 en.results (en.res b)with
       |some (l,u3,k)=>(match YaI (((H.upd u1).upd u2).upd u3) d k en.params avs (en.out b)with|some (u4,_)=>some (Yhj l,u1++u2++u3++u4)|none=>none)
       |none=>none)
      |none=>none)
     |none=> .fail
    else .fail
   |_,_=> .fail)
   |_=> .fail)
  |_=> .fail
 |_=> .fail
def Yn:Root->Bool
 | .arr _ _ _ _ true=>true
 | .bf _ _ _ _ true=>true
 |_=>false
def Ym:Root->Bool
 | .box _=>true
 |_=>false
def YeD (m:Nat) (H:Store) (u:Ups):Bool:=u.all λq=>decide (m*16<=q.1)||((!Yn q.2||Yn (H q.1))&&(!Ym q.2||Ym (H q.1)))
def Yid {R:Type} (cx:Cx) (o:Oper) (s:St) (k:St->Option R):Option R:=
 (opE cx o (Yg5 s.H s.G) s.H).run λv u=>if YeD cx.n s.H u then k (St.putO ⟨s.G,s.H.upd u⟩ o.dst v)else none
def YbM {R:Type} (all:List Oper) (o:Oper) (s:St) (k:St->Option R) (go:St->Option R):Option R:=
 match o.guard with
 |none=>go s
 |some (j,b)=>
  match (all[j]?).bind (·.dst)with
  |some d=>
   match s.G d with
   | .val .bool c=>
    match b with
    |true=>Ygy c (go (s.put d (.val .bool true))) (k (St.putO (s.put d (.val .bool false)) o.dst (.tup [])))
    |false=>Ygy c (k (St.putO (s.put d (.val .bool true)) o.dst (.tup []))) (go (s.put d (.val .bool false)))
   | .tup []=>k (St.putO s o.dst (.tup []))
   |_=>none
  |none=>none
def Yff {R:Type} (cx:Cx) (all:List Oper):List Oper->St->(St->Option R)->Option R
 | [],s,k=>k s
 |o::l,s,k=>YbM all o s (λs=>Yff cx all l s k) (λs=>Yid cx o s (λs=>Yff cx all l s k))
def Xg:Op->Bool
 | .move _| .assign _| .pick _ _ _| .unOp _ _ _| .binOp _ _ _ _ _| .extract _ _| .nilCheck _| .fieldAddr _ _ _| .field _ _ _| .build _ _=>true
 |_=>false
def YiS (all:List Oper) (j:Nat):Option Nat:=match all[j]? with|some o=>if Xg o.op then none else o.dst|none=>none
def boxOf (all:List Oper) (i:Nat):Option Nat:=match all[i]? with
 |some o=>match o.op with
  | .load _ (.tmp a)=>match all.find? (λy=>y.dst==some a)with
   |some y=>match y.op with
    | .fieldAddr _ (.tmp b) _=>if all.any (λz=>z.dst==some b)then none else some b
    |_=>none
   |none=>some a
  |_=>none
 |none=>none
def Ycg (all:List Oper) (i slot:Nat):Bool:=match all[i]? with|some o=>o.dst==some slot|none=>false
def Yao (all:List Oper):Nat->Nat->Nat
 |0,t=>t
 |n+1,t=>match all.find? (λy=>y.dst==some t)with
  |some y=>(match y.op with
   | .move (.tmp b)=>Yao all n b
   | .nilCheck (.tmp b)=>Yao all n b
   | .load _ (.tmp b)=>Yao all n b
   | .fieldAddr _ (.tmp b) _=>Yao all n b
   | .indexAddr _ (.tmp b) _=>Yao all n b
   | .slice _ (.tmp b) _ _ _=>Yao all n b
   |_=>t)
  |none=>t
def XT (all:List Oper):Nat->Nat->List Nat
 |0,t=> [t]
 |n+1,t=>match all.find? (λy=>y.dst==some t)with
  |some y=>(match y.op with
   | .move (.tmp b)=>XT all n b
   | .nilCheck (.tmp b)=>XT all n b
   | .load _ (.tmp b)=>XT all n b
   | .fieldAddr _ (.tmp b) _=>XT all n b
   | .indexAddr _ (.tmp b) _=>XT all n b
   | .slice _ (.tmp b) _ _ _=>XT all n b
   | .build _ es=>es.toList.flatMap λq=>match q.2 with| .tmp b=>XT all n b|_=> []
   | .buildSlice _ _ es=>t::es.toList.flatMap λq=>match q.2 with| .tmp b=>XT all n b|_=> []
   |_=> [t])
  |none=> [t]
def Ygv (all:List Oper) (i:Nat):Option (List Nat):=
 let tmps (l:List Operand):List Nat:=l.flatMap λq=>match q with| .tmp t=>XT all 16 t|_=> []
 match all[i]? with
 |some o=>(match o.op with
  | .slice _ x _ _ none=>some (tmps [x])
  | .buildSlice _ _ es=>some (tmps (es.toList.map (·.2)))
  | .makeSlice _ _ _=>some []
  | .call c=>(match c.callee with
   | .builtin .append=>some (tmps c.args.toList)
   |_=>none)
  |_=>none)
 |none=>none
def Yhy (all:List Oper) (i:Nat):Option Nat:=match all[i]? with
 |some o=>(match o.op with
  | .load _ (.tmp a)=>some (Yao all 16 a)
  | .indexAddr _ (.tmp a) _=>some (Yao all 16 a)
  | .call c=>(match c.callee,c.args.toList with
   | .builtin .len,[.tmp a]=>(match all.find? (λy=>y.dst==some a)with
    |some y=>(match y.op with| .load _ (.tmp _)=>some (Yao all 16 a)|_=>none)
    |none=>none)
   |_,_=>none)
  |_=>none)
 |none=>none
def Yh0:Op->Bool
 | .call c=>(match c.callee with| .builtin .len=>false|_=>true)
 | .store _ _ _=>true
 |_=>false
def YgM (all:List Oper) (bef:Array Nat) (i:Nat):Bool:=(List.range all.length).any λj=>j !=i&&!((bef.getD i 0).testBit j||(bef.getD j 0).testBit i)&&(match all[j]? with
 |some o=>(match o.op with| .buildSlice _ _ es=>!es.isEmpty|o=>Yh0 o)
 |none=>true)
def YiT (fine:Bool) (all:List Oper) (bef:Array Nat) (i:Nat) (slot:Nat):Bool:=
 ((List.range all.length).any λj=>j !=i&&!(bef.getD i 0).testBit j&&YiS all j==some slot)||
  (match boxOf all i with|some b=>slot !=b&&!Ycg all i slot|none=>false)||
  (fine&&YgM all bef i&&match Yhy all i with|some b=>slot !=b&&!Ycg all i slot|none=>false)||
  (fine&&YgM all bef i&&match Ygv all i with|some l=>!l.contains slot&&!Ycg all i slot|none=>false)
def Yhv (all:List Oper):Nat->Nat->Option Nat
 |0,_=>none
 |n+1,t=>match all.find? (λy=>y.dst==some t)with
  |some y=>(match y.op with
   | .move (.tmp b)=>Yhv all n b
   | .nilCheck (.tmp b)=>Yhv all n b
   | .fieldAddr _ (.tmp b) _=>Yhv all n b
   |_=>none)
  |none=>some t
def Yhu (all:List Oper) (i:Nat):Option Nat:=match all[i]? with
 |some o=>(match o.op with| .load _ (.tmp a)=>Yhv all 16 a|_=>none)
 |none=>none
def Yaq (fine:Bool) (all:List Oper) (bef:Array Nat) (i:Nat) (r:Nat):Bool:=
 YiT fine all bef i (r/16)||(fine&&match Yhu all i with|some b=>r !=b*16&&!Ycg all i (r/16)|none=>false)
def Yc7 (fine:Bool) (all:List Oper) (bef:Array Nat) (i:Nat) (H:Store):Store:=λr=>if Yaq fine all bef i r then .free else H r
def YQ (bef:Array Nat) (i j:Nat):Bool:=(bef.getD i 0).testBit j||(bef.getD j 0).testBit i
def Yc3 (fine:Bool) (all:List Oper) (bef:Array Nat) (i:Nat) (o:Oper) (u:Ups):Bool:=
 (!Xg o.op||u.isEmpty)&&u.all λq=>!Yaq fine all bef i q.1&&(List.range all.length).all λj=>j==i||YQ bef i j||(match all[j]? with|some o=>Xg o.op|none=>true)||Yaq fine all bef j q.1
def YeC (fine:Bool) (all:List Oper) (bef:Array Nat) (i:Nat) (o:Oper):Bool:=match o.dst with|some d=>(List.range 16).all λk=>!Yaq fine all bef i (d*16+k)|none=>true
def Yci (y:Oper):List Nat:=y.op.operands.toList.filterMap λq=>match q with| .tmp t=>some t|_=>none
def YfR (o:Oper) (G:Nat->AV):Nat->AV:=λt=>if(Yci o).contains t then G t else .un
def YhW (o:Oper) (V:Store) (G:Nat->AV):Nat->AV:=match Xg o.op with
 |true=>G
 |false=>Yg5 V G
def Yie {R:Type} (cx:Cx) (all:List Oper) (bef:Array Nat) (i:Nat) (o:Oper) (s:St) (k:St->Option R):Option R:=
 (opE cx o (YfR o (YhW o (Yc7 cx.fine all bef i s.H) s.G)) (Yc7 cx.fine all bef i s.H)).run λv u=>if Yc3 cx.fine all bef i o u&&YeD cx.n (Yc7 cx.fine all bef i s.H) u then k (St.putO ⟨s.G,s.H.upd u⟩ o.dst v)else none
def Ygi {R:Type} (cx:Cx) (all:List Oper) (bef:Array Nat):List Nat->St->(St->Option R)->Option R
 | [],s,k=>k s
 |i::l,s,k=>
  match all[i]? with
  |some o=>if YeC cx.fine all bef i o then YbM all o s (λs=>Ygi cx all bef l s k) (λs=>Yie cx all bef i o s (λs=>Ygi cx all bef l s k))else none
  |none=>none
def YbL (ops:Array Oper) (y:Oper):Option Nat:=match y.guard with|some (g,_)=>(ops[g]?).bind (·.dst)|none=>none
def YdH (ops:Array Oper) (bef:Array Nat):Bool:=
 (List.range ops.size).all λi=>(List.range ops.size).all λj=>
  i==j||((!(bef.getD i 0).testBit j||decide (j<i))&&(YQ bef i j||
   (match ops[i]?,ops[j]? with|some x,some y=>(match x.dst with|some d=>!(Yci y).contains d&&y.dst !=some d&&YbL ops y !=some d|none=>true)|_,_=>false)))
def Yd3 (ops:Array Oper):Bool:=(List.range ops.size).all λi=>match ops[i]? with|some o=>o.after.all λe=>!Region.binds .any e||decide (e.on<i)|none=>true
def Yiq (s:St) (n:Nat):Option St:=match s.G n with
 | .ref r _ []=>(match s.H r with
  | .arr e _ xs _ false=>some ⟨s.G,s.H.upd [(r,.fz e xs)]⟩
  | .fz _ _=>some s
  |_=>none)
 | .bptr r 0=>(match s.H r with
  | .box [.val t _]=>(match YaS s.H t (.bptr r 0)with|some (_,u)=>some ⟨s.G,s.H.upd u⟩|none=>none)
  |_=>none)
 |_=>none
def Yg3 (s:St):List Nat->Option St
 | []=>some s
 |n::l=>match Yiq s n with
  |some s'=>Yg3 s' l
  |none=>none
def YZ:Code->Nat
 | .region i _ _=>i
 | .seq a _=>YZ a
 | .block _ a=>YZ a
 | .loop a=>YZ a
 | .cond _ a _=>YZ a
 |_=>0
def XA {R:Type} (cx:Cx):Code->St->(AExit->St->Option R)->Option R
 | .skip,s,k=>k .normal s
 | .region _ ops false,s,k=>Yff cx ops.toList ops.toList s λs=>k .normal s
 | .region i ops true,s,k=>if Yd3 ops&&YdH ops (Region.before ops)then(match Yg3 s (cx.pre i)with
  |some s'=>Ygi cx ops.toList (Region.before ops) (List.range ops.size) s' λs=>k .normal s
  |none=>none)else none
 | .seq a b,s,k=>XA cx a s λe s'=>match e with
  | .normal=>XA cx b s' k
  | .exit i=>k (.exit i) s'
  | .ret=>k .ret s'
 | .cond c a b,s,k=>match rdG s.G c with
  | .val .bool t=>Ygy t (XA cx a s k) (XA cx b s k)
  |_=>none
 | .block id c,s,k=>XA cx c s λe s'=>match e with
  | .exit i=>if i=id then k .normal s' else k (.exit i) s'
  | .normal=>k .normal s'
  | .ret=>k .ret s'
 | .loop c,s,k=>match cx.L (YZ c)with
  |some L=>(match Yb5 cx.cod cx.n s L.sh with
   |some x=>(L.run x).bind λy=>YgA cx.cod L.ex y k
   |none=>none)
  |none=>none
 | .exit id,s,k=>k (.exit id) s
 | .ret,s,k=>k .ret s
 |_,_,_=>none
def Yfg (cx:Cx) (c:Code) (L:LoopSpec) (x:YH (L.sh.map (·.2))) (again:YH (L.sh.map (·.2))->Option (Ybq L.ex)):Option (Ybq L.ex):=
 match mkC cx.cod L.sh x with
 |some s=>XA cx c s λe s=>match e with
  | .normal=>(match Yb5 cx.cod cx.n s L.sh with|some y=>again y|none=>none)
  | .exit i=>Yf7 cx.cod cx.n (.exit i) s L.ex
  | .ret=>Yf7 cx.cod cx.n .ret s L.ex
 |none=>none
def Yag:Nat->Code->Option Code
 |i,.loop c=>if YZ c=i then some c else Yag i c
 |i,.seq a b=>match Yag i a with|some c=>some c|none=>Yag i b
 |i,.block _ a=>Yag i a
 |i,.cond _ a b=>match Yag i a with|some c=>some c|none=>Yag i b
 |_,_=>none
def Yfb (s:St) (n:Nat):(l:List AD)->YH l->Option St
 | [],_=>some s
 | [a],x=>match mkD s.H n 0 a x with|some (y,u,_)=>some (St.put ⟨s.G,s.H.upd u⟩ n y)|none=>none
 |a::b::l,x=>match mkD s.H n 0 a x.1 with|some (y,u,_)=>Yfb (St.put ⟨s.G,s.H.upd u⟩ n y) (n+1) (b::l) x.2|none=>none
def YcN (tt:Nat->Option TI) (s:St) (a:AD):ResultVar->Option AV
 | .tmp t=>if Yav a (s.G t)then some (s.G t)else none
 | .cell t ty=>
  match s.G t,tt ty with
  | .bptr r 0,some i=>(match s.H r with| .box c=>if c.length=a.cells/\i.ty.cells=a.cells/\Yr i.ty=Ybv a then some (YN a c)else none|_=>none)
  |_,_=>none
def YaT (tt:Nat->Option TI) (s:St):(l:List AD)->List ResultVar->Option (YH l×Store)
 | [],rs=>match rs with| []=>some ((),s.H)|_=>none
 | [a],rs=>
  match rs with
  | [r]=>(match YcN tt s a r with|some v=>(match Yi s.H 0 0 a v with|some (x,u,_)=>some (x,s.H.upd u)|none=>none)|none=>none)
  |_=>none
 |a::b::l,rs=>
  match rs with
  |r::rs=>
   (match YcN tt s a r with
   |some v=>
    (match Yi s.H 0 0 a v with
    |some (x,u,_)=>(match YaT tt ⟨s.G,s.H.upd u⟩ (b::l) rs with|some (y,H)=>some ((x,y),H)|none=>none)
    |none=>none)
   |none=>none)
  | []=>none
def Xz (H:Store) (n k:Nat):(a:AD)->Option (a.out×Ups×Nat)
 | .v _=>some ((),[],k)
 | .jk _=>some ((),[],k)
 | .un=>some ((),[],k)
 | .mv _ _=>some ((),[],k+1)
 | .mp _=>some ((),[],k+1)
 | .gs _ _=>some ((),[],k+1)
 | .nv _ _=>some ((),[],k+1)
 | .pz _=>some ((),[],k+1)
 | .bf e=>
  match H (n*16+k)with
  | .bf e' xs _ _ true=>(match YJ (.slice e') (.slice e) xs with|some ys=>some (ys,[(n*16+k,.gone)],k+1)|none=>none)
  |_=>none
 | .io e d=>
  match H (n*16+k)with
  | .arr e' d' xs _ true=>if d'=d then(match YJ (.slice e') (.slice e) xs with|some ys=>some (ys,[(n*16+k,.gone)],k+1)|none=>none)else none
  |_=>none
 | .pr a b=>
  match Xz H n k a with
  |some (x,u1,k1)=>(match Xz (H.upd u1) n k1 b with|some (y,u2,k2)=>some ((x,y),u1++u2,k2)|none=>none)
  |none=>none
 | .bx a=>
  match H (n*16+k)with
  | .box c=>if c.length=a.cells then(match Yi (H.set (n*16+k) .gone) n (k+1) a (YN a c)with|some (x,u1,k1)=>some (x,(n*16+k,.gone)::u1,k1)|none=>none)else none
  |_=>none
def YaR (H:Store) (n:Nat):(l:List AD)->Option (XK l)
 | []=>some ()
 | [a]=>match Xz H n 0 a with|some (x,_)=>some x|none=>none
 |a::b::l=>match Xz H n 0 a with|some (x,u,_)=>(match YaR (H.upd u) (n+1) (b::l)with|some y=>some (x,y)|none=>none)|none=>none
def Yad (n:Nat):Code->Bool
 | .region _ ops _=>ops.toList.all λo=>match o.dst with|some d=>decide (d<n)|none=>true
 | .seq a b=>Yad n a&&Yad n b
 | .cond _ a b=>Yad n a&&Yad n b
 | .block _ a=>Yad n a
 | .loop a=>Yad n a
 |_=>true
def Yir {R:Type} (cx:Cx) (fn:Func) (ps rs:List AD) (a:YH ps) (k:XK ps->YH rs->Option R):Option R:=
 match fn.body with
 |none=>none
 |some c=>if !Yad fn.ntmps c||cx.n !=ps.length||!ps.all YcI then none else
  match (match Yfb .empty 0 ps a with|some s=>YfB cx.cod s|none=>none)with
  |none=>none
  |some s=>XA cx c s λe s=>match e with
   | .exit _=>none
   |_=>(match YaT cx.tt s rs fn.results.toList with
    |some (y,H)=>(match YaR H 0 ps with|some o=>k o y|none=>none)
    |none=>none)
end Go.Va
namespace Go.Va
abbrev Fp:=Nat->Prop
def Fp.none:Fp:=λ_=>False
theorem Fp.eq {f g:Fp} (h: ∀n,f n↔g n):f=g:=funext λn=>propext (h n)
def Blk (w:World) (b:Nat) (cs:List Value):Prop:= ∃tid,w.heap[b]? =some (.cells cs.toArray tid (0,0))
def Lies (w:World) (b off:Nat) (cs:List Value):Prop:= ∀(j:Nat) (v:Value),cs[j]? =some v->w.cell? ⟨b,off+j,none⟩=some v
abbrev nth {α:Type} (xs:List α) (i:Nat):Option α:=xs[i]?
def Yaa:MK->Value->ByteArray->Prop
 | .sb,v,s=>v= .string s
 | .si,v,s=>v= .string s
 | .ab n,v,s=> ∃l:List Int,l.length=n/\v= .agg (l.map λa=>Value.int .i64 a).toArray/\s=YbP l
def Ybb:MK->Value->Prop
 | .si,v=> ∃n,v= .int .i64 n
 | .sb,v=>v= .bool true
 | .ab _,v=>v= .bool true
def YdF (k:MK):List MapEntry->List ByteArray->Prop
 | [],[]=>True
 |e::l,s::ks=>Yaa k e.key s/\Ybb k e.val/\YdF k l ks
 |_,_=>False
def Yfx (k:MK) (es:Array MapEntry) (ks:List ByteArray):Prop:=YdF k es.toList ks
def Yde (w:World) (b:Nat) (k:MK) (ks:List ByteArray):Prop:= ∃es clock,w.heap[b]? =some (.map es clock)/\Yfx k es ks
def Xu:Value->Prop
 | .agg _=>False
 | .tuple _=>False
 |_=>True
def YR:Ty->List Value
 | .num k=> [.int k 0]
 | .bool=> [.bool false]
 | .str=> [.string ByteArray.empty]
 | .fn f=> [.func (.func f) #[] #[]]
 | .smap _=> [.map none]
 | .op false=> [.nilFunc]
 | .op true=> [.pointer none]
 | .ptr _=> [.pointer none]
 | .fc f t=> [.func (.func f) #[] (YR t).toArray]
 | .slice _=> [.slice none 0 0]
 | .pair a b=>YR a++YR b
def Rep (w:World) (F:Fp):(t:Ty)->(d:Nat)->(cs:List Value)->(x:t.den)->(fp:Fp)->Prop
 | .num k,_,cs,x,fp=>cs= [.int k x]/\ ∀n,¬fp n
 | .bool,_,cs,x,fp=>cs= [.bool x]/\ ∀n,¬fp n
 | .str,_,cs,x,fp=>cs= [.string x]/\ ∀n,¬fp n
 | .fn f,_,cs,_,fp=>cs= [.func (.func f) #[] #[]]/\ ∀n,¬fp n
 | .smap k,d,cs,ks,fp=>(∀n,¬fp n)/\((cs= [.map none]/\ks=([]:List ByteArray))∨(d<1000/\ ∃b,cs= [.map (some b)]/\F b/\Yde w b k ks))
 | .op _,_,cs,_,fp=>(∃v,cs= [v]/\Xu v/\ ∀a l c,v≠ .slice a l c)/\ ∀n,¬fp n
 | .ptr t,d,cs,x,fp=>(∀n,¬fp n)/\((cs= [.pointer none]/\x.1=false)∨(d<1000/\x.1=true/\ ∃(b off:Nat) (ci:List Value),cs= [.pointer (some ⟨b,off,none⟩)]/\F b/\Lies w b off ci/\Rep w F t 0 ci x.2 Fp.none))
 | .fc f t,d,cs,x,fp=>(∀n,¬fp n)/\((cs=YR (.fc f t)/\x=t.dflt)∨(d<1000/\ ∃ci:List Value,cs= [.func (.func f) #[] ci.toArray]/\Rep w F t 0 ci x Fp.none))
 | .pair a b,d,cs,x,fp=> ∃(c1 c2:List Value) (f1 f2:Fp),cs=c1++c2/\(∀n,fp n↔f1 n∨f2 n)/\(∀n,f1 n->f2 n->False)/\
   Rep w F a (dl d) c1 x.1 f1/\Rep w F b (dr d) c2 x.2 f2
 | .slice e,0,cs,xs,fp=>(∀n,¬fp n)/\(((∃a,cs= [.slice a 0 0])/\xs=([]:List e.den))∨ ∃(b off len cap:Nat),cs= [.slice (some ⟨b,off,none⟩) len cap]/\
   List.length xs=len/\len<=cap/\(0<len->F b)/\ ∀(i:Nat) (x:e.den),nth (α:=e.den) xs i=some x-> ∃ci,Lies w b (off+i*e.cells) ci/\Rep w F e 0 ci x Fp.none)
 | .slice e,d+1,cs,xs,fp=>(cs= [.slice none 0 0]/\xs=([]:List e.den)/\ ∀n,¬fp n)∨ ∃(b len cap:Nat) (c:List Value) (fps:Nat->Fp),cs= [.slice (some ⟨b,0,none⟩) len cap]/\
   Blk w b c/\c.length=cap*e.cells/\List.length xs=len/\len<=cap/\(∀n,fp n↔n=b∨ ∃i,i<len/\fps i n)/\(∀i,i<len-> ¬fps i b)/\
   (∀(i j n:Nat),i<len->j<len->fps i n->fps j n->i=j)/\
   ∀(i:Nat) (x:e.den),nth (α:=e.den) xs i=some x->Rep w F e d ((c.drop (i*e.cells)).take e.cells) x (fps i)
theorem Ye {α:Type} {xs:List α} {i:Nat} {x:α} (h:nth xs i=some x):i<xs.length:=by
 rcases Nat.lt_or_ge i xs.length with h'|h'
 ·exact h'
 ·unfold nth at h;rw[List.getElem?_eq_none h']at h;cases h
theorem Blk.lt {w:World} {b:Nat} {cs:List Value} (h:Blk w b cs):b<w.heap.size:=by
 obtain⟨t,h⟩:=h
 rcases Nat.lt_or_ge b w.heap.size with h'|h'
 ·exact h'
 ·rw[Array.getElem?_eq_none h']at h;cases h
theorem Blk.keep {w w':World} {b:Nat} {cs:List Value} (h:Blk w b cs) (hk:w'.heap[b]? =w.heap[b]?):Blk w' b cs:=by
 obtain⟨t,h⟩:=h;exact⟨t,hk.trans h⟩
theorem Blk.lies {w:World} {b:Nat} {cs:List Value} (h:Blk w b cs) (j:Nat):w.cell? ⟨b,j,none⟩=cs[j]? :=by
 obtain⟨t,h⟩:=h;simp[World.cell?,h]
theorem Blk.lies' {w:World} {b:Nat} {cs:List Value} (h:Blk w b cs) (o n:Nat):Lies w b o ((cs.drop o).take n):=by
 intro j v hj
 rw[h.lies]
 rw[List.getElem?_take]at hj
 split at hj
 ·rw[List.getElem?_drop]at hj;exact hj
 ·cases hj
theorem Lies.keep {w w':World} {b o:Nat} {cs:List Value} (h:Lies w b o cs) (hk:w'.heap[b]? =w.heap[b]?):Lies w' b o cs:=by
 intro j v hj
 rw[←h j v hj];simp[World.cell?,hk]
theorem Blk.inj {w:World} {b:Nat} {cs cs':List Value} (h:Blk w b cs) (h':Blk w b cs'):cs=cs':=by
 obtain⟨t,h⟩:=h;obtain⟨t',h'⟩:=h'
 rw[h]at h';injection h' with h';injection h' with h' _
 simpa using congrArg Array.toList h'
theorem Blk.free {w:World} {b:Nat} {cs:List Value} (h:Blk w b cs) (j:Nat):w.frozen? ⟨b,j,none⟩=false:=by
 obtain⟨t,h⟩:=h;simp[World.frozen?,h]
section
variable {w w':World} {F F':Fp}
theorem Rep.none0: ∀(t:Ty) {cs:List Value} {x:t.den} {fp:Fp},Rep w F t 0 cs x fp-> ∀n,¬fp n
 | .num _,_,_,_,h=>h.2
 | .bool,_,_,_,h=>h.2
 | .str,_,_,_,h=>h.2
 | .fn _,_,_,_,h=>h.2
 | .smap _,_,_,_,h=>h.1
 | .op _,_,_,_,h=>h.2
 | .ptr _,_,_,_,h=>h.1
 | .fc _ _,_,_,_,h=>h.1
 | .slice _,_,_,_,h=>h.1
 | .pair a b,_,_,_,⟨_,_,f1,f2,_,hf,_,h1,h2⟩=>λn hn=>by
  rcases(hf n).1 hn with h|h
  ·exact Rep.none0 a h1 n h
  ·exact Rep.none0 b h2 n h
theorem Rep.len: ∀(t:Ty) {d:Nat} {cs:List Value} {x:t.den} {fp:Fp},Rep w F t d cs x fp->cs.length=t.cells
 | .num _,_,_,_,_,h=>by rw[h.1];rfl
 | .bool,_,_,_,_,h=>by rw[h.1];rfl
 | .str,_,_,_,_,h=>by rw[h.1];rfl
 | .fn _,_,_,_,_,h=>by rw[h.1];rfl
 | .smap _,_,_,_,_,h=>by
  rcases h.2 with h|⟨_,b,h,_⟩
  ·rw[h.1];rfl
  ·rw[h];rfl
 | .op _,_,_,_,_,h=>by obtain⟨⟨v,h,_⟩,_⟩:=h;rw[h];rfl
 | .ptr _,_,_,_,_,h=>by
  rcases h.2 with h|⟨_,_,b,off,ci,h,_⟩
  ·rw[h.1];rfl
  ·rw[h];rfl
 | .fc _ _,_,_,_,_,h=>by
  rcases h.2 with h|⟨_,ci,h,_⟩
  ·rw[h.1];rfl
  ·rw[h];rfl
 | .slice _,0,_,_,_,h=>by
  rcases h.2 with ⟨⟨a,h⟩,_⟩|⟨b,off,len,cap,h,_⟩
  ·rw[h];rfl
  ·rw[h];rfl
 | .slice _,_+1,_,_,_,h=>by
  rcases h with h|⟨b,len,cap,c,fps,h,_⟩
  ·rw[h.1];rfl
  ·rw[h];rfl
 | .pair a b,_,_,_,_,⟨c1,c2,f1,f2,hc,_,_,h1,h2⟩=>by
  rw[hc,List.length_append,Rep.len a h1,Rep.len b h2];rfl
theorem Rep.keep: ∀(t:Ty) {d:Nat} {cs:List Value} {x:t.den} {fp:Fp},Rep w F t d cs x fp->
  (∀n,F n->w'.heap[n]? =w.heap[n]?)->(∀n,fp n->w'.heap[n]? =w.heap[n]?)->Rep w' F t d cs x fp
 | .num _,_,_,_,_,h,_,_=>h
 | .bool,_,_,_,_,h,_,_=>h
 | .str,_,_,_,_,h,_,_=>h
 | .fn _,_,_,_,_,h,_,_=>h
 | .smap _,_,_,_,_,h,hF,_=>by
  refine⟨h.1,?_⟩
  rcases h.2 with h|⟨hd,b,h,hb,es,cl,he,hm⟩
  ·exact .inl h
  ·exact .inr ⟨hd,b,h,hb,es,cl,(hF b hb).trans he,hm⟩
 | .op _,_,_,_,_,h,_,_=>h
 | .ptr t,_,_,_,_,h,hF,_=>by
  refine⟨h.1,?_⟩
  rcases h.2 with h|⟨h1,h2,b,off,ci,h3,h4,h5,h6⟩
  ·exact .inl h
  ·exact .inr ⟨h1,h2,b,off,ci,h3,h4,h5.keep (hF b h4),Rep.keep t h6 hF (λn hn=>hn.elim)⟩
 | .fc f t,_,_,_,_,h,hF,_=>by
  refine⟨h.1,?_⟩
  rcases h.2 with h|⟨h1,ci,h2,h3⟩
  ·exact .inl h
  ·exact .inr ⟨h1,ci,h2,Rep.keep t h3 hF (λn hn=>hn.elim)⟩
 | .slice e,0,_,_,_,h,hF,_=>by
  refine⟨h.1,?_⟩
  rcases h.2 with h|⟨b,off,len,cap,h,hl,hc,hb,hx⟩
  ·exact .inl h
  ·refine .inr ⟨b,off,len,cap,h,hl,hc,hb,λi x hi=>?_⟩
   obtain⟨ci,h1,h2⟩:=hx i x hi
   have hlt:=Ye hi
   exact⟨ci,h1.keep (hF b (hb (by omega))),Rep.keep e h2 hF (λn hn=>hn.elim)⟩
 | .slice e,d+1,_,_,_,h,hF,hf=>by
  rcases h with h|⟨b,len,cap,c,fps,h,hb,hc,hl,hle,hfp,h1,h2,hx⟩
  ·exact .inl h
  ·refine .inr ⟨b,len,cap,c,fps,h,hb.keep (hf b ((hfp b).2 (.inl rfl))),hc,hl,hle,hfp,h1,h2,λi x hi=>?_⟩
   have hlt:=Ye hi
   exact Rep.keep e (hx i x hi) hF (λn hn=>hf n ((hfp n).2 (.inr ⟨i,by omega,hn⟩)))
 | .pair a b,_,_,_,_,⟨c1,c2,f1,f2,hc,hfp,hd,h1,h2⟩,hF,hf=>
  ⟨c1,c2,f1,f2,hc,hfp,hd,Rep.keep a h1 hF (λn hn=>hf n ((hfp n).2 (.inl hn))),Rep.keep b h2 hF (λn hn=>hf n ((hfp n).2 (.inr hn)))⟩
theorem Rep.mono (hF: ∀n,F n->F' n): ∀(t:Ty) {d:Nat} {cs:List Value} {x:t.den} {fp:Fp},Rep w F t d cs x fp->Rep w F' t d cs x fp
 | .num _,_,_,_,_,h=>h
 | .bool,_,_,_,_,h=>h
 | .str,_,_,_,_,h=>h
 | .fn _,_,_,_,_,h=>h
 | .smap _,_,_,_,_,h=>by
  refine⟨h.1,?_⟩
  rcases h.2 with h|⟨hd,b,h,hb,hm⟩
  ·exact .inl h
  ·exact .inr ⟨hd,b,h,hF b hb,hm⟩
 | .op _,_,_,_,_,h=>h
 | .ptr t,_,_,_,_,h=>by
  refine⟨h.1,?_⟩
  rcases h.2 with h|⟨h1,h2,b,off,ci,h3,h4,h5,h6⟩
  ·exact .inl h
  ·exact .inr ⟨h1,h2,b,off,ci,h3,hF b h4,h5,Rep.mono hF t h6⟩
 | .fc f t,_,_,_,_,h=>by
  refine⟨h.1,?_⟩
  rcases h.2 with h|⟨h1,ci,h2,h3⟩
  ·exact .inl h
  ·exact .inr ⟨h1,ci,h2,Rep.mono hF t h3⟩
 | .slice e,0,_,_,_,h=>by
  refine⟨h.1,?_⟩
  rcases h.2 with h|⟨b,off,len,cap,h,hl,hc,hb,hx⟩
  ·exact .inl h
  ·refine .inr ⟨b,off,len,cap,h,hl,hc,λhh=>hF b (hb hh),λi x hi=>?_⟩
   obtain⟨ci,h1,h2⟩:=hx i x hi
   exact⟨ci,h1,Rep.mono hF e h2⟩
 | .slice e,d+1,_,_,_,h=>by
  rcases h with h|⟨b,len,cap,c,fps,h,hb,hc,hl,hle,hfp,h1,h2,hx⟩
  ·exact .inl h
  ·exact .inr ⟨b,len,cap,c,fps,h,hb,hc,hl,hle,hfp,h1,h2,λi x hi=>Rep.mono hF e (hx i x hi)⟩
 | .pair a b,_,_,_,_,⟨c1,c2,f1,f2,hc,hfp,hd,h1,h2⟩=>⟨c1,c2,f1,f2,hc,hfp,hd,Rep.mono hF a h1,Rep.mono hF b h2⟩
theorem Rep.freeze (hF: ∀n,F n->F' n): ∀(t:Ty) {d:Nat} {cs:List Value} {x:t.den} {fp:Fp},Rep w F t d cs x fp->(∀n,fp n->F' n)->Rep w F' t 0 cs x Fp.none
 | .num _,_,_,_,_,h,_=>⟨h.1,λ_ h=>h⟩
 | .bool,_,_,_,_,h,_=>⟨h.1,λ_ h=>h⟩
 | .str,_,_,_,_,h,_=>⟨h.1,λ_ h=>h⟩
 | .fn _,_,_,_,_,h,_=>⟨h.1,λ_ h=>h⟩
 | .smap _,_,_,_,_,h,_=>by
  refine⟨λ_ h=>h,?_⟩
  rcases h.2 with h|⟨hd,b,h,hb,hm⟩
  ·exact .inl h
  ·exact .inr ⟨by omega,b,h,hF b hb,hm⟩
 | .op _,_,_,_,_,h,_=>⟨h.1,λ_ h=>h⟩
 | .ptr t,_,_,_,_,h,_=>by
  refine⟨λ_ h=>h,?_⟩
  rcases h.2 with h|⟨h1,h2,b,off,ci,h3,h4,h5,h6⟩
  ·exact .inl h
  ·exact .inr ⟨by omega,h2,b,off,ci,h3,hF b h4,h5,Rep.mono hF t h6⟩
 | .fc f t,_,_,_,_,h,_=>by
  refine⟨λ_ h=>h,?_⟩
  rcases h.2 with h|⟨h1,ci,h2,h3⟩
  ·exact .inl h
  ·exact .inr ⟨by omega,ci,h2,Rep.mono hF t h3⟩
 | .slice e,0,_,_,_,h,_=>⟨λ_ h=>h,(Rep.mono hF (.slice e) h).2⟩
 | .slice e,d+1,_,_,_,h,hf=>by
  refine⟨λ_ h=>h,?_⟩
  rcases h with h|⟨b,len,cap,c,fps,h,hb,hc,hl,hle,hfp,h1,h2,hx⟩
  ·exact .inl ⟨⟨_,h.1⟩,h.2.1⟩
  ·refine .inr ⟨b,0,len,cap,h,hl,hle,λ_=>hf b ((hfp b).2 (.inl rfl)),λi x hi=>?_⟩
   have hlt:=Ye hi
   refine⟨_,by simpa using hb.lies' (i*e.cells) e.cells,Rep.freeze hF e (hx i x hi) λn hn=>hf n ((hfp n).2 (.inr ⟨i,by omega,hn⟩))⟩
 | .pair a b,_,_,_,_,⟨c1,c2,f1,f2,hc,hfp,hd,h1,h2⟩,hf=>
  ⟨c1,c2,Fp.none,Fp.none,hc,λn=>by simp[Fp.none],λ_ h=>h.elim,Rep.freeze hF a h1 λn hn=>hf n ((hfp n).2 (.inl hn)),Rep.freeze hF b h2 λn hn=>hf n ((hfp n).2 (.inr hn))⟩
theorem Rep.freeze1 {e:Ty} {d:Nat} {cs:List Value} {x:List e.den} {fp:Fp} (h:Rep w F (.slice e) (d+1) cs x fp):
  ∃f1:Fp,(∀n,f1 n->fp n)/\ ∀F':Fp,(∀n,F n->F' n)->(∀n,fp n-> ¬f1 n->F' n)->Rep w F' (.slice e) 1 cs x f1:=by
 rcases h with ⟨h1,h2,h3⟩|⟨b,len,cap,c,fps,h,hb,hc,hl,hle,hfp,h1,h2,hx⟩
 ·exact⟨Fp.none,λ_ h=>h.elim,λF' _ _=> .inl ⟨h1,h2,λ_ h=>h⟩⟩
 ·refine⟨λn=>n=b,λn hn=>(hfp n).2 (.inl hn),λF' hF hf=> .inr ⟨b,len,cap,c,λ_=>Fp.none,h,hb,hc,hl,hle,λn=>⟨.inl,λh=>h.elim id λ⟨_,_,h⟩=>h.elim⟩,λ_ _ h=>h,λ_ _ _ _ _ h=>h.elim,λi y hi=>?_⟩⟩
  have hlt:=Ye hi
  exact Rep.freeze hF e (hx i y hi) λn hn=>hf n ((hfp n).2 (.inr ⟨i,by omega,hn⟩)) λe1=>h1 i (by omega) (e1▸hn)
abbrev Sd (t:Ty) (d:Nat):Prop:=t.dep=0∨(t.dep<=d/\d<2000)
theorem YiR {d:Nat} (h:d<2000):dl d=d/\dr d=d:=by
 have:Nat.ble 2000 d=false:=by
  cases hb:Nat.ble 2000 d with
  |false=>rfl
  |true=>have:=Nat.le_of_ble_eq_true hb;omega
 unfold dl dr
 rw[this];exact⟨rfl,rfl⟩
theorem Sd.pair {a b:Ty} {d:Nat} (h:Sd (.pair a b) d):Sd a (dl d)/\Sd b (dr d):=by
 rcases h with h|⟨h1,h2⟩
 ·simp only[Ty.dep]at h
  exact⟨.inl (by omega),.inl (by omega)⟩
 ·obtain⟨e1,e2⟩:=YiR h2
  simp only[Ty.dep]at h1
  rw[e1,e2]
  exact⟨.inr ⟨by omega,h2⟩,.inr ⟨by omega,h2⟩⟩
theorem Rep.alone: ∀(t:Ty) {d d':Nat} {cs:List Value} {x:t.den} {fp:Fp},Sd t d->Sd t d'->Rep w F t d cs x fp->Rep w F' t d' cs x fp
 | .num _,_,_,_,_,_,_,_,h=>h
 | .bool,_,_,_,_,_,_,_,h=>h
 | .str,_,_,_,_,_,_,_,h=>h
 | .fn _,_,_,_,_,_,_,_,h=>h
 | .smap _,_,_,_,_,_,h1,_,h=>by
  refine⟨h.1,?_⟩
  rcases h.2 with h|⟨hd,_⟩
  ·exact .inl h
  ·simp only[Sd,Ty.dep]at h1;omega
 | .op _,_,_,_,_,_,_,_,h=>h
 | .ptr t,_,_,_,_,_,h1,_,h=>by
  refine⟨h.1,?_⟩
  rcases h.2 with h|⟨hd,_⟩
  ·exact .inl h
  ·simp only[Sd,Ty.dep]at h1;omega
 | .fc f t,_,_,_,_,_,h1,_,h=>by
  refine⟨h.1,?_⟩
  rcases h.2 with h|⟨hd,_⟩
  ·exact .inl h
  ·simp only[Sd,Ty.dep]at h1;omega
 | .slice e,0,_,_,_,_,h1,_,_=>absurd h1 (by simp[Ty.dep])
 | .slice e,d+1,0,_,_,_,_,h2,_=>absurd h2 (by simp[Ty.dep])
 | .slice e,d+1,d'+1,_,_,_,g1,g2,h=>by
  simp only[Sd,Ty.dep]at g1 g2
  rcases h with h|⟨b,len,cap,c,fps,h,hb,hc,hl,hle,hfp,h1,h2,hx⟩
  ·exact .inl h
  ·exact .inr ⟨b,len,cap,c,fps,h,hb,hc,hl,hle,hfp,h1,h2,λi x hi=>Rep.alone e (.inr (by omega)) (.inr (by omega)) (hx i x hi)⟩
 | .pair a b,_,_,_,_,_,g1,g2,⟨c1,c2,f1,f2,hc,hfp,hd,h1,h2⟩=>
  ⟨c1,c2,f1,f2,hc,hfp,hd,Rep.alone a g1.pair.1 g2.pair.1 h1,Rep.alone b g1.pair.2 g2.pair.2 h2⟩
theorem Rep.live: ∀(t:Ty) {d:Nat} {cs:List Value} {x:t.den} {fp:Fp},Rep w F t d cs x fp-> ∀n,fp n-> ∃c,Blk w n c
 | .num _,_,_,_,_,h,n,hn=>(h.2 n hn).elim
 | .bool,_,_,_,_,h,n,hn=>(h.2 n hn).elim
 | .str,_,_,_,_,h,n,hn=>(h.2 n hn).elim
 | .fn _,_,_,_,_,h,n,hn=>(h.2 n hn).elim
 | .smap _,_,_,_,_,h,n,hn=>(h.1 n hn).elim
 | .op _,_,_,_,_,h,n,hn=>(h.2 n hn).elim
 | .ptr _,_,_,_,_,h,n,hn=>(h.1 n hn).elim
 | .fc _ _,_,_,_,_,h,n,hn=>(h.1 n hn).elim
 | .slice e,0,_,_,_,h,n,hn=>(h.1 n hn).elim
 | .slice e,d+1,_,_,_,h,n,hn=>by
  rcases h with h|⟨b,len,cap,c,fps,h,hb,hc,hl,hle,hfp,h1,h2,hx⟩
  ·exact(h.2.2 n hn).elim
  ·rcases(hfp n).1 hn with rfl|⟨i,hi,hn⟩
   ·exact⟨c,hb⟩
   ·have hi':i<List.length _:=hl▸hi
    exact Rep.live e (hx i _ (List.getElem?_eq_getElem hi')) n hn
 | .pair a b,_,_,_,_,⟨c1,c2,f1,f2,hc,hfp,hd,h1,h2⟩,n,hn=>by
  rcases(hfp n).1 hn with h|h
  ·exact Rep.live a h1 n h
  ·exact Rep.live b h2 n h
theorem Rep.zero: ∀(t:Ty) (d:Nat),Rep w F t d (YR t) t.dflt Fp.none
 | .num _,_=>⟨rfl,λ_ h=>h⟩
 | .bool,_=>⟨rfl,λ_ h=>h⟩
 | .str,_=>⟨rfl,λ_ h=>h⟩
 | .fn _,_=>⟨rfl,λ_ h=>h⟩
 | .smap _,_=>⟨λ_ h=>h,.inl ⟨rfl,rfl⟩⟩
 | .op false,_=>⟨⟨_,rfl,trivial,by simp⟩,λ_ h=>h⟩
 | .op true,_=>⟨⟨_,rfl,trivial,by simp⟩,λ_ h=>h⟩
 | .ptr _,_=>⟨λ_ h=>h,.inl ⟨rfl,rfl⟩⟩
 | .fc _ _,_=>⟨λ_ h=>h,.inl ⟨rfl,rfl⟩⟩
 | .slice e,0=>⟨λ_ h=>h,.inl ⟨⟨_,rfl⟩,rfl⟩⟩
 | .slice e,d+1=> .inl ⟨rfl,rfl,λ_ h=>h⟩
 | .pair a b,d=>⟨YR a,YR b,Fp.none,Fp.none,rfl,λn=>by simp[Fp.none],λ_ h=>h.elim,Rep.zero a (dl d),Rep.zero b (dr d)⟩
theorem Rep.fc {f:Nat} {t:Ty} {d:Nat} {cs:List Value} {x:t.den} {fp:Fp} (h:Rep w F (.fc f t) d cs x fp): ∃ci:List Value,cs= [.func (.func f) #[] ci.toArray]/\Rep w F t 0 ci x Fp.none:=by
 rcases h.2 with ⟨h1,h2⟩|⟨_,ci,h1,h2⟩
 ·subst h2;exact⟨YR t,h1,Rep.zero t 0⟩
 ·exact⟨ci,h1,h2⟩
theorem Rep.one: ∀(t:Ty) {d:Nat} {cs:List Value} {x:t.den} {fp:Fp},Rep w F t d cs x fp-> ∀v∈cs,Xu v
 | .num _,_,_,_,_,h,v,hv=>by rw[h.1]at hv;simp at hv;subst hv;trivial
 | .bool,_,_,_,_,h,v,hv=>by rw[h.1]at hv;simp at hv;subst hv;trivial
 | .str,_,_,_,_,h,v,hv=>by rw[h.1]at hv;simp at hv;subst hv;trivial
 | .fn _,_,_,_,_,h,v,hv=>by rw[h.1]at hv;simp at hv;subst hv;trivial
 | .smap _,_,_,_,_,h,v,hv=>by
  rcases h.2 with ⟨h,_⟩|⟨_,b,h,_⟩
  ·rw[h]at hv;simp at hv;subst hv;trivial
  ·rw[h]at hv;simp at hv;subst hv;trivial
 | .op _,_,_,_,_,h,v,hv=>by
  obtain⟨⟨u,h,h1,_⟩,_⟩:=h
  rw[h]at hv;simp at hv;subst hv;exact h1
 | .ptr _,_,_,_,_,h,v,hv=>by
  rcases h.2 with ⟨h,_⟩|⟨_,_,b,off,ci,h,_⟩
  ·rw[h]at hv;simp at hv;subst hv;trivial
  ·rw[h]at hv;simp at hv;subst hv;trivial
 | .fc _ _,_,_,_,_,h,v,hv=>by
  rcases h.2 with ⟨h,_⟩|⟨_,ci,h,_⟩
  ·rw[h]at hv;simp[YR]at hv;subst hv;trivial
  ·rw[h]at hv;simp at hv;subst hv;trivial
 | .slice e,0,_,_,_,h,v,hv=>by
  rcases h.2 with ⟨⟨a,h⟩,_⟩|⟨b,off,len,cap,h,_⟩
  ·rw[h]at hv;simp at hv;subst hv;trivial
  ·rw[h]at hv;simp at hv;subst hv;trivial
 | .slice e,d+1,_,_,_,h,v,hv=>by
  rcases h with h|⟨b,len,cap,c,fps,h,_⟩
  ·rw[h.1]at hv;simp at hv;subst hv;trivial
  ·rw[h]at hv;simp at hv;subst hv;trivial
 | .pair a b,_,_,_,_,⟨c1,c2,f1,f2,hc,hfp,hd,h1,h2⟩,v,hv=>by
  rw[hc]at hv
  rcases List.mem_append.1 hv with h|h
  ·exact Rep.one a h1 v h
  ·exact Rep.one b h2 v h
theorem Rep.cast {t t':Ty} {d:Nat} {cs:List Value} {x:t.den} {y:t'.den} {fp:Fp} (hc:YJ t t' x=some y) (h:Rep w F t d cs x fp):Rep w F t' d cs y fp:=by
 unfold YJ at hc
 split at hc
 ·rename_i e;subst e;injection hc with hc;subst hc;exact h
 ·cases hc
end
theorem YM {t:Ty} {x y:t.den} (h:YJ t t x=some y):y=x:=by
 unfold YJ at h;simp at h;exact h.symm
theorem YI {t t':Ty} {x:t.den} {y:t'.den} (h:YJ t t' x=some y):t=t':=by
 unfold YJ at h
 split at h
 ·assumption
 ·cases h
end Go.Va
namespace Go.Va
def Yo (w:World):(t:Ty)->Nat->Nat->List PE->Option (Nat×Nat)
 |_,b,o,[]=>some (b,o)
 | .pair x _,b,o,.fst::p=>Yo w x b o p
 | .pair x y,b,o,.snd::p=>Yo w y b (o+x.cells) p
 | .slice e,b,o,.idx i::p=>match w.cell? ⟨b,o,none⟩with
  |some (.slice (some a) _ _)=>Yo w e a.block (a.off+i.toNat*e.cells) p
  |_=>none
 |_,_,_,_=>none
def Yz (w:World) (e:Ty) (h:Value):List PE->Option (Nat×Nat)
 | .idx i::p=>match h with
  | .slice (some a) _ _=>Yo w e a.block (a.off+i.toNat*e.cells) p
  |_=>none
 |_=>none
def InB:(t:Ty)->Nat->t.den->List PE->Prop
 |_,_,_,[]=>True
 | .pair a _,d,x,.fst::p=>InB a (dl d) x.1 p
 | .pair _ b,d,x,.snd::p=>InB b (dr d) x.2 p
 | .slice e,d+1,xs,.idx i::p=>inb (α:=e.den) i xs/\InB e d (gd (α:=e.den) xs i e.dflt) p
 |_,_,_,_=>False
def At (w:World) (F:Fp) (t:Ty) (d b o:Nat) (x:t.den) (fp:Fp):Prop:=
 ∃c,Blk w b c/\o+t.cells<=c.length/\Rep w F t d ((c.drop o).take t.cells) x fp/\ ¬fp b
def Put (w w':World) (b o n:Nat) (cs:List Value):Prop:=
 ∃c c',Blk w b c/\Blk w' b c'/\c'.length=c.length/\(∀j,j<o∨o+n<=j->c'[j]? =c[j]?)/\(c'.drop o).take n=cs
structure Turn (w w':World) (F F' fp f f':Fp) (b o n:Nat) (cs:List Value):Prop where
 keepF: ∀m,F m->w'.heap[m]? =w.heap[m]?
 keep: ∀m,fp m->m≠b-> ¬f m->w'.heap[m]? =w.heap[m]?
 put:Put w w' b o n cs
 mono: ∀m,F m->F' m
 apart: ∀m,f' m->fp m->f m
 off: ¬f' b
theorem Put.at {w w':World} {b o n:Nat} {cs:List Value} (h:Put w w' b o n cs) {c:List Value} (hb:Blk w b c):
  ∃c',Blk w' b c'/\c'.length=c.length/\(∀j,j<o∨o+n<=j->c'[j]? =c[j]?)/\(c'.drop o).take n=cs:=by
 obtain⟨c0,c',h0,h1,h2,h3,h4⟩:=h
 obtain rfl:=Blk.inj hb h0
 exact⟨c',h1,h2,h3,h4⟩
theorem XP {α:Type} {c c':List α} {i n:Nat} (h: ∀j,i<=j->j<i+n->c'[j]? =c[j]?):(c'.drop i).take n=(c.drop i).take n:=by
 apply List.ext_getElem?
 intro j
 rw[List.getElem?_take,List.getElem?_take]
 split
 ·rw[List.getElem?_drop,List.getElem?_drop];exact h _ (by omega) (by omega)
 ·rfl
theorem YaH {α:Type} {xs:List α} {i:Int} {d:α} (h:inb i xs):nth xs i.toNat=some (gd xs i d):=by
 obtain⟨h0,h1⟩:=h
 have:i.toNat<xs.length:=by omega
 simp[nth,gd,List.getD,this]
section
variable {w:World} {F:Fp}
def Yfw (p:List PE):Prop:= ∀(w:World) (F:Fp) (t:Ty) (d b o:Nat) (x:t.den) (fp:Fp) (g:Got),At w F t d b o x fp->InB t d x p->YW t d x p=some g->
 ∃b' o' f,Yo w t b o p=some (b',o')/\At w F g.t g.d b' o' g.x f/\(∀n,f n->fp n)/\(b'=b/\o<=o'/\o'+g.t.cells<=o+t.cells∨fp b')/\
  ∀(w':World) (F':Fp) (cs:List Value) (y:g.t.den) (f':Fp) (z:t.den),Turn w w' F F' (λn=>n=b∨fp n) f f' b' o' g.t.cells cs-> ¬f' b->Rep w' F' g.t g.d cs y f'->
   XR t d x p g.t y=some z->At w' F' t d b o z (λn=>(fp n/\ ¬f n)∨f' n)
def Yig (i:Int) (p:List PE):Prop:= ∀(w:World) (F:Fp) (e:Ty) (d:Nat) (h:Value) (xs:List e.den) (fp:Fp) (g:Got),Rep w F (.slice e) (d+1) [h] xs fp->InB (.slice e) (d+1) xs (.idx i::p)->
 YW (.slice e) (d+1) xs (.idx i::p)=some g->
 ∃b' o' f,Yz w e h (.idx i::p)=some (b',o')/\At w F g.t g.d b' o' g.x f/\(∀n,f n->fp n)/\fp b'/\
  ∀(w':World) (F':Fp) (cs:List Value) (y:g.t.den) (f':Fp) (z:List e.den),Turn w w' F F' fp f f' b' o' g.t.cells cs->Rep w' F' g.t g.d cs y f'->
   XR (.slice e) (d+1) xs (.idx i::p) g.t y=some z->Rep w' F' (.slice e) (d+1) [h] z (λn=>(fp n/\ ¬f n)∨f' n)
theorem YaG {p:List PE} (ih:Yfw p) (i:Int):Yig i p:=by
 intro w F e d h xs fp g hr hin hg
 simp only[InB]at hin
 obtain⟨hi,hin⟩:=hin
 simp only[YW]at hg
 have hnth:=YaH (d:=e.dflt) hi
 have hlt:=Ye hnth
 rcases hr with ⟨hc,hx,_⟩|⟨b1,len,cap,c1,fps,hc,hb1,hcl,hl,hle,hfp,h1,h2,hx⟩
 ·rw[hx]at hlt;simp at hlt
 simp only[List.cons.injEq,and_true]at hc
 subst hc
 have hl':xs.length=len:=hl
 have hi1:i.toNat<len:=by omega
 have hroom:i.toNat*e.cells+e.cells<=c1.length:=by
  rw[hcl,←Nat.succ_mul];exact Nat.mul_le_mul_right _ (by omega)
 have hat:At w F e d b1 (i.toNat*e.cells) (gd xs i e.dflt) (fps i.toNat):=⟨c1,hb1,hroom,hx _ _ hnth,h1 _ hi1⟩
 obtain⟨b',o',f,ha,hA,hf,hloc,hset⟩:=ih w F e d b1 (i.toNat*e.cells) _ (fps i.toNat) g hat hin hg
 have hfp': ∀n,fps i.toNat n->fp n:=λn hn=>(hfp n).2 (.inr ⟨_,hi1,hn⟩)
 have hfpb1:fp b1:=(hfp b1).2 (.inl rfl)
 have hbf:fp b':=by
  rcases hloc with ⟨rfl,_⟩|h
  ·exact hfpb1
  ·exact hfp' _ h
 refine⟨b',o',f,by simpa[Yz]using ha,hA,λn hn=>hfp' n (hf n hn),hbf,?_⟩
 intro w' F' cs y f' z ht hy hz
 simp only[XR]at hz
 split at hz
 rotate_left
 ·cases hz
 rename_i z' hz'
 injection hz with hz
 have hfb1: ¬f b1:=λhh=>h1 _ hi1 (hf _ hh)
 have hf'b1: ¬f' b1:=λhh=>hfb1 (ht.apart _ hh hfpb1)
 have hAt':=hset w' F' cs y f' z' ⟨ht.keepF,λm hm hne hnf=>ht.keep m (by rcases hm with rfl|hm;exact hfpb1;exact hfp' _ hm) hne hnf,ht.put,ht.mono,λm hm hmm=>ht.apart m hm (by rcases hmm with rfl|hmm;exact hfpb1;exact hfp' _ hmm),ht.off⟩ hf'b1 hy hz'
 obtain⟨c1',hb1',hroom',hrep',hoff'⟩:=hAt'
 have hcc:c1'.length=c1.length/\ ∀j,j<i.toNat*e.cells∨i.toNat*e.cells+e.cells<=j->c1'[j]? =c1[j]? :=by
  by_cases hbb:b'=b1
  ·subst hbb
   obtain⟨c',hb',hl1,hj,_⟩:=ht.put.at hb1
   obtain rfl:=Blk.inj hb1' hb'
   refine⟨hl1,λj hjj=>hj j ?_⟩
   rcases hloc with ⟨_,hlo,hhi⟩|hcon
   ·rcases hjj with hjj|hjj
    ·left;omega
    ·right;omega
   ·exact absurd hcon (h1 _ hi1)
  ·have:Blk w' b1 c1:=hb1.keep (ht.keep b1 hfpb1 (λhh=>hbb hh.symm) hfb1)
   obtain rfl:=Blk.inj hb1' this
   exact⟨rfl,λ_ _=>rfl⟩
 refine .inr ⟨b1,len,cap,c1',λj=>if j=i.toNat then(λn=>(fps i.toNat n/\ ¬f n)∨f' n)else fps j,rfl,hb1',by rw[hcc.1,hcl],?_,hle,?_,?_,?_,?_⟩
 ·rw[←hz];show(stt xs i z').length=len;simp[stt,hl']
 ·intro n
  constructor
  ·rintro (⟨hn,hnf⟩|hn)
   ·rcases(hfp n).1 hn with rfl|⟨j,hj,hn⟩
    ·exact .inl rfl
    ·refine .inr ⟨j,hj,?_⟩
     by_cases hji:j=i.toNat
     ·subst hji;simp;exact .inl ⟨hn,hnf⟩
     ·simp[hji,hn]
   ·exact .inr ⟨i.toNat,hi1,by simp[hn]⟩
  ·rintro (rfl|⟨j,hj,hn⟩)
   ·exact .inl ⟨hfpb1,hfb1⟩
   ·by_cases hji:j=i.toNat
    ·subst hji;simp at hn
     rcases hn with hn|hn
     ·exact .inl ⟨hfp' _ hn.1,hn.2⟩
     ·exact .inr hn
    ·simp[hji]at hn
     exact .inl ⟨(hfp n).2 (.inr ⟨j,hj,hn⟩),λhh=>hji (h2 j i.toNat n hj hi1 hn (hf _ hh))⟩
 ·intro j hj
  by_cases hji:j=i.toNat
  ·subst hji;simp;exact⟨λhh=>absurd hh (h1 _ hi1),hf'b1⟩
  ·simp[hji];exact h1 j hj
 ·intro j k n hj hk hjn hkn
  have key: ∀j',j'<len->fps j' n->f' n->j'=i.toNat:=λj' hj' hn hn'=>
   h2 j' i.toNat n hj' hi1 hn (hf _ (ht.apart n hn' ((hfp n).2 (.inr ⟨j',hj',hn⟩))))
  by_cases hji:j=i.toNat<;>by_cases hki:k=i.toNat
  ·rw[hji,hki]
  ·simp[hji]at hjn;simp[hki]at hkn
   rcases hjn with hjn|hjn
   ·exact(hki (h2 k i.toNat n hk hi1 hkn hjn.1)).elim
   ·exact(hki (key k hk hkn hjn)).elim
  ·simp[hji]at hjn;simp[hki]at hkn
   rcases hkn with hkn|hkn
   ·exact(hji (h2 j i.toNat n hj hi1 hjn hkn.1)).elim
   ·exact(hji (key j hj hjn hkn)).elim
  ·simp[hji]at hjn;simp[hki]at hkn;exact h2 j k n hj hk hjn hkn
 ·intro j u hj
  rw[←hz]at hj
  have hj':(stt xs i z')[j]? =some u:=hj
  have hjl:j<len:=by have:=Ye hj;simp[stt]at this;omega
  by_cases hji:j=i.toNat
  ·subst hji
   have:u=z':=by
    unfold stt at hj'
    rw[List.getElem?_set_self hlt]at hj'
    injection hj' with hj';exact hj'.symm
   subst this
   simpa using hrep'
  ·have hju:nth xs j=some u:=by rw[stt,List.getElem?_set_ne (by omega)]at hj';exact hj'
   simp only[hji,if_false]
   have hcells:(c1'.drop (j*e.cells)).take e.cells=(c1.drop (j*e.cells)).take e.cells:=XP λk hk1 hk2=>hcc.2 k (by
    rcases Nat.lt_or_gt_of_ne hji with hlt'|hgt
    ·left
     have:(j+1)*e.cells<=i.toNat*e.cells:=Nat.mul_le_mul_right _ hlt'
     rw[Nat.succ_mul]at this;omega
    ·right
     have:(i.toNat+1)*e.cells<=j*e.cells:=Nat.mul_le_mul_right _ hgt
     rw[Nat.succ_mul]at this;omega)
   rw[hcells]
   refine Rep.mono ht.mono e (Rep.keep e (hx j u hju) ht.keepF λn hn=>ht.keep n ((hfp n).2 (.inr ⟨j,hjl,hn⟩)) ?_ ?_)
   ·rintro rfl
    rcases hloc with ⟨rfl,_⟩|hcon
    ·exact h1 j hjl hn
    ·exact hji (h2 j i.toNat _ hjl hi1 hn hcon)
   ·intro hh;exact hji (h2 j i.toNat n hjl hi1 hn (hf _ hh))
theorem XG: ∀p,Yfw p
 | []=>by
  intro w F t d b o x fp g hat hin hg
  simp only[YW]at hg
  injection hg with hg;subst hg
  refine⟨b,o,fp,by simp[Yo],hat,λ_ h=>h,.inl ⟨rfl,Nat.le_refl _,Nat.le_refl _⟩,?_⟩
  intro w' F' cs y f' z ht hb hy hz
  simp only[XR]at hz
  have:=YM hz;subst this
  obtain⟨c,hbc,hroom,_,_⟩:=hat
  obtain⟨c',hb',hl,_,hcs⟩:=ht.put.at hbc
  refine⟨c',hb',by rw[hl];exact hroom,?_,?_⟩
  ·rw[hcs]
   have:(λn=>(fp n/\ ¬fp n)∨f' n)=f':=Fp.eq λn=>⟨λh=>by rcases h with h|h;exact absurd h.1 h.2;exact h,.inr⟩
   rw[this];exact hy
  ·rintro (h|h)
   ·exact h.2 h.1
   ·exact hb h
 | .fst::p=>by
  intro w F t d b o x fp g hat hin hg
  cases t with
  |pair s u=>
   simp only[InB]at hin
   simp only[YW]at hg
   obtain⟨c,hbc,hroom,⟨c1,c2,f1,f2,hc,hfp,hdis,hr1,hr2⟩,hoff⟩:=hat
   have hl1:=Rep.len s hr1
   have hl2:=Rep.len u hr2
   simp only[Ty.cells]at hroom hc
   have hc1:(c.drop o).take s.cells=c1:=by
    have:=congrArg (List.take s.cells) hc
    rw[List.take_take,Nat.min_eq_left (by omega),←hl1,List.take_left]at this
    rw[hl1]at this;exact this
   have hc2:(c.drop (o+s.cells)).take u.cells=c2:=by
    have:=congrArg (List.drop s.cells) hc
    rw[←hl1,List.drop_left,List.drop_take,hl1,List.drop_drop]at this
    rw[show s.cells+u.cells-s.cells=u.cells by omega]at this
    exact this
   have hat1:At w F s (dl d) b o x.1 f1:=⟨c,hbc,by omega,by rw[hc1];exact hr1,λh=>hoff ((hfp b).2 (.inl h))⟩
   obtain⟨b',o',f,ha,hA,hf,hloc,hset⟩:=XG p w F s (dl d) b o x.1 f1 g hat1 hin hg
   refine⟨b',o',f,by simpa[Yo]using ha,hA,λn hn=>(hfp n).2 (.inl (hf n hn)),?_,?_⟩
   ·rcases hloc with ⟨h1,h2,h3⟩|h
    ·exact .inl ⟨h1,h2,by simp only[Ty.cells];omega⟩
    ·exact .inr ((hfp _).2 (.inl h))
   intro w' F' cs y f' z ht hb hy hz
   simp only[XR]at hz
   split at hz
   rotate_left
   ·cases hz
   rename_i z' hz'
   injection hz with hz;subst hz
   have sub: ∀m,(m=b∨f1 m)->(m=b∨fp m):=λm hm=>hm.imp id λh=>(hfp m).2 (.inl h)
   obtain⟨c',hb',hroom',hrep',hoff'⟩:=hset w' F' cs y f' z' ⟨ht.keepF,λm hm=>ht.keep m (sub m hm),ht.put,ht.mono,λm hm hmm=>ht.apart m hm (sub m hmm),ht.off⟩ hb hy hz'
   have hcc:c'.length=c.length/\ ∀j,j<o∨o+s.cells<=j->c'[j]? =c[j]? :=by
    by_cases hbb:b'=b
    ·subst hbb
     obtain⟨c0,hb0,hl0,hj,_⟩:=ht.put.at hbc
     obtain rfl:=Blk.inj hb' hb0
     refine⟨hl0,λj hjj=>hj j ?_⟩
     rcases hloc with ⟨_,hlo,hhi⟩|hcon
     ·rcases hjj with hjj|hjj
      ·left;omega
      ·right;omega
     ·exact absurd ((hfp _).2 (.inl hcon)) hoff
    ·have:Blk w' b c:=hbc.keep (ht.keep b (.inl rfl) (λhh=>hbb hh.symm) (λhh=>hoff ((hfp b).2 (.inl (hf _ hh)))))
     obtain rfl:=Blk.inj hb' this
     exact⟨rfl,λ_ _=>rfl⟩
   have hc2':(c'.drop (o+s.cells)).take u.cells=c2:=by
    rw[←hc2];exact XP λj hj1 hj2=>hcc.2 j (.inr (by omega))
   have hsplit:(c'.drop o).take (s.cells+u.cells)=(c'.drop o).take s.cells++c2:=by
    rw[List.take_add,List.drop_drop,hc2']
   refine⟨c',hb',by simp only[Ty.cells];omega,⟨(c'.drop o).take s.cells,c2,λn=>(f1 n/\ ¬f n)∨f' n,f2,hsplit,?_,?_,hrep',?_⟩,?_⟩
   ·intro n
    constructor
    ·rintro (⟨hn,hnf⟩|hn)
     ·rcases(hfp n).1 hn with h|h
      ·exact .inl (.inl ⟨h,hnf⟩)
      ·exact .inr h
     ·exact .inl (.inr hn)
    ·rintro ((h|h)|h)
     ·exact .inl ⟨(hfp n).2 (.inl h.1),h.2⟩
     ·exact .inr h
     ·exact .inl ⟨(hfp n).2 (.inr h),λhh=>hdis n (hf _ hh) h⟩
   ·rintro n (h|h) h2
    ·exact hdis n h.1 h2
    ·exact hdis n (hf _ (ht.apart n h (.inr ((hfp n).2 (.inr h2))))) h2
   ·refine Rep.mono ht.mono u (Rep.keep u hr2 ht.keepF λn hn=>ht.keep n (.inr ((hfp n).2 (.inr hn))) ?_ ?_)
    ·rintro rfl
     rcases hloc with ⟨rfl,_⟩|hcon
     ·exact hoff ((hfp _).2 (.inr hn))
     ·exact hdis _ hcon hn
    ·intro hh;exact hdis n (hf _ hh) hn
   ·rintro (h|h)
    ·exact hoff h.1
    ·exact hb h
  |num k=>simp[InB]at hin
  |bool=>simp[InB]at hin
  |str=>simp[InB]at hin
  |fn f=>simp[InB]at hin
  |smap kd=>simp[InB]at hin
  |op=>simp[InB]at hin
  |ptr=>simp[InB]at hin
  |fc=>simp[InB]at hin
  |slice e=>simp[InB]at hin
 | .snd::p=>by
  intro w F t d b o x fp g hat hin hg
  cases t with
  |pair s u=>
   simp only[InB]at hin
   simp only[YW]at hg
   obtain⟨c,hbc,hroom,⟨c1,c2,f1,f2,hc,hfp,hdis,hr1,hr2⟩,hoff⟩:=hat
   have hl1:=Rep.len s hr1
   have hl2:=Rep.len u hr2
   simp only[Ty.cells]at hroom hc
   have hc1:(c.drop o).take s.cells=c1:=by
    have:=congrArg (List.take s.cells) hc
    rw[List.take_take,Nat.min_eq_left (by omega),←hl1,List.take_left]at this
    rw[hl1]at this;exact this
   have hc2:(c.drop (o+s.cells)).take u.cells=c2:=by
    have:=congrArg (List.drop s.cells) hc
    rw[←hl1,List.drop_left,List.drop_take,hl1,List.drop_drop]at this
    rw[show s.cells+u.cells-s.cells=u.cells by omega]at this
    exact this
   have hat1:At w F u (dr d) b (o+s.cells) x.2 f2:=⟨c,hbc,by omega,by rw[hc2];exact hr2,λh=>hoff ((hfp b).2 (.inr h))⟩
   obtain⟨b',o',f,ha,hA,hf,hloc,hset⟩:=XG p w F u (dr d) b (o+s.cells) x.2 f2 g hat1 hin hg
   refine⟨b',o',f,by simpa[Yo]using ha,hA,λn hn=>(hfp n).2 (.inr (hf n hn)),?_,?_⟩
   ·rcases hloc with ⟨h1,h2,h3⟩|h
    ·exact .inl ⟨h1,by omega,by simp only[Ty.cells];omega⟩
    ·exact .inr ((hfp _).2 (.inr h))
   intro w' F' cs y f' z ht hb hy hz
   simp only[XR]at hz
   split at hz
   rotate_left
   ·cases hz
   rename_i z' hz'
   injection hz with hz;subst hz
   have sub: ∀m,(m=b∨f2 m)->(m=b∨fp m):=λm hm=>hm.imp id λh=>(hfp m).2 (.inr h)
   obtain⟨c',hb',hroom',hrep',hoff'⟩:=hset w' F' cs y f' z' ⟨ht.keepF,λm hm=>ht.keep m (sub m hm),ht.put,ht.mono,λm hm hmm=>ht.apart m hm (sub m hmm),ht.off⟩ hb hy hz'
   have hcc:c'.length=c.length/\ ∀j,j<o+s.cells∨o+s.cells+u.cells<=j->c'[j]? =c[j]? :=by
    by_cases hbb:b'=b
    ·subst hbb
     obtain⟨c0,hb0,hl0,hj,_⟩:=ht.put.at hbc
     obtain rfl:=Blk.inj hb' hb0
     refine⟨hl0,λj hjj=>hj j ?_⟩
     rcases hloc with ⟨_,hlo,hhi⟩|hcon
     ·rcases hjj with hjj|hjj
      ·left;omega
      ·right;omega
     ·exact absurd ((hfp _).2 (.inr hcon)) hoff
    ·have:Blk w' b c:=hbc.keep (ht.keep b (.inl rfl) (λhh=>hbb hh.symm) (λhh=>hoff ((hfp b).2 (.inr (hf _ hh)))))
     obtain rfl:=Blk.inj hb' this
     exact⟨rfl,λ_ _=>rfl⟩
   have hc1':(c'.drop o).take s.cells=c1:=by
    rw[←hc1];exact XP λj hj1 hj2=>hcc.2 j (.inl (by omega))
   have hsplit:(c'.drop o).take (s.cells+u.cells)=c1++(c'.drop (o+s.cells)).take u.cells:=by
    rw[List.take_add,List.drop_drop,hc1']
   refine⟨c',hb',by simp only[Ty.cells];omega,⟨c1,(c'.drop (o+s.cells)).take u.cells,f1,λn=>(f2 n/\ ¬f n)∨f' n,hsplit,?_,?_,?_,hrep'⟩,?_⟩
   ·intro n
    constructor
    ·rintro (⟨hn,hnf⟩|hn)
     ·rcases(hfp n).1 hn with h|h
      ·exact .inl h
      ·exact .inr (.inl ⟨h,hnf⟩)
     ·exact .inr (.inr hn)
    ·rintro (h|(h|h))
     ·exact .inl ⟨(hfp n).2 (.inl h),λhh=>hdis n h (hf _ hh)⟩
     ·exact .inl ⟨(hfp n).2 (.inr h.1),h.2⟩
     ·exact .inr h
   ·rintro n h1 (h|h)
    ·exact hdis n h1 h.1
    ·exact hdis n h1 (hf _ (ht.apart n h (.inr ((hfp n).2 (.inl h1)))))
   ·refine Rep.mono ht.mono s (Rep.keep s hr1 ht.keepF λn hn=>ht.keep n (.inr ((hfp n).2 (.inl hn))) ?_ ?_)
    ·rintro rfl
     rcases hloc with ⟨rfl,_⟩|hcon
     ·exact hoff ((hfp _).2 (.inl hn))
     ·exact hdis _ hn hcon
    ·intro hh;exact hdis n hn (hf _ hh)
   ·rintro (h|h)
    ·exact hoff h.1
    ·exact hb h
  |num k=>simp[InB]at hin
  |bool=>simp[InB]at hin
  |str=>simp[InB]at hin
  |fn f=>simp[InB]at hin
  |smap kd=>simp[InB]at hin
  |op=>simp[InB]at hin
  |ptr=>simp[InB]at hin
  |fc=>simp[InB]at hin
  |slice e=>simp[InB]at hin
 | .idx i::p=>by
  intro w F t d b o x fp g hat hin hg
  cases t with
  |slice e=>
   cases d with
   |zero=>simp[InB]at hin
   |succ d=>
    obtain⟨c,hbc,hroom,hr,hoff⟩:=hat
    have hlen:=Rep.len _ hr
    simp only[Ty.cells]at hroom hlen hr
    obtain⟨h,hh⟩: ∃h,(c.drop o).take 1= [h]:=by
     match (c.drop o).take 1,hlen with
     | [h],_=>exact⟨h,rfl⟩
    rw[hh]at hr
    have hcell:w.cell? ⟨b,o,none⟩=some h:=by
     rw[hbc.lies]
     have:((c.drop o).take 1)[0]? =some h:=by rw[hh];rfl
     rw[List.getElem?_take,if_pos (by omega),List.getElem?_drop]at this
     simpa using this
    obtain⟨b',o',f,ha,hA,hf,hbf,hset⟩:=YaG (XG p) i w F e d h x fp g hr hin hg
    refine⟨b',o',f,?_,hA,hf,.inr hbf,?_⟩
    ·simp only[Yo,hcell]
     simp only[Yz]at ha
     split at ha
     ·rename_i a l cp;exact ha
     ·cases ha
    intro w' F' cs y f' z ht hb hy hz
    have hnb:b≠b':=λhh=>hoff (hh▸hbf)
    have hkb:w'.heap[b]? =w.heap[b]? :=ht.keep b (.inl rfl) hnb (λhh=>hoff (hf _ hh))
    have hr':=hset w' F' cs y f' z ⟨ht.keepF,λm hm=>ht.keep m (.inr hm),ht.put,ht.mono,λm hm hmm=>ht.apart m hm (.inr hmm),ht.off⟩ hy hz
    refine⟨c,hbc.keep hkb,hroom,by simp only[Ty.cells];rw[hh];exact hr',?_⟩
    rintro (h|h)
    ·exact hoff h.1
    ·exact hb h
  |num k=>simp[InB]at hin
  |bool=>simp[InB]at hin
  |str=>simp[InB]at hin
  |fn f=>simp[InB]at hin
  |smap kd=>simp[InB]at hin
  |op=>simp[InB]at hin
  |ptr=>simp[InB]at hin
  |fc=>simp[InB]at hin
  |pair a b=>simp[InB]at hin
end
end Go.Va
namespace Go.Va
section
variable {w w':World} {F F':Fp}
theorem At.fst {s u:Ty} {d b o:Nat} {x:(Ty.pair s u).den} {fp:Fp} (h:At w F (.pair s u) d b o x fp): ∃f1,At w F s (dl d) b o x.1 f1/\ ∀n,f1 n->fp n:=by
 obtain⟨c,hbc,hroom,⟨c1,c2,f1,f2,hc,hfp,hdis,hr1,hr2⟩,hoff⟩:=h
 have hl1:=Rep.len s hr1
 simp only[Ty.cells]at hroom hc
 have hc1:(c.drop o).take s.cells=c1:=by
  have:=congrArg (List.take s.cells) hc
  rw[List.take_take,Nat.min_eq_left (by omega),←hl1,List.take_left]at this
  rw[hl1]at this;exact this
 exact⟨f1,⟨c,hbc,by omega,by rw[hc1];exact hr1,λh=>hoff ((hfp b).2 (.inl h))⟩,λn hn=>(hfp n).2 (.inl hn)⟩
theorem At.snd {s u:Ty} {d b o:Nat} {x:(Ty.pair s u).den} {fp:Fp} (h:At w F (.pair s u) d b o x fp): ∃f1,At w F u (dr d) b (o+s.cells) x.2 f1/\ ∀n,f1 n->fp n:=by
 obtain⟨c,hbc,hroom,⟨c1,c2,f1,f2,hc,hfp,hdis,hr1,hr2⟩,hoff⟩:=h
 have hl1:=Rep.len s hr1
 simp only[Ty.cells]at hroom hc
 have hc2:(c.drop (o+s.cells)).take u.cells=c2:=by
  have:=congrArg (List.drop s.cells) hc
  rw[←hl1,List.drop_left,List.drop_take,hl1,List.drop_drop]at this
  rw[show s.cells+u.cells-s.cells=u.cells by omega]at this
  exact this
 exact⟨f2,⟨c,hbc,by omega,by rw[hc2];exact hr2,λh=>hoff ((hfp b).2 (.inr h))⟩,λn hn=>(hfp n).2 (.inr hn)⟩
theorem Rep.idx {e:Ty} {d:Nat} {h:Value} {xs:List e.den} {fp:Fp} {i:Int} (hr:Rep w F (.slice e) (d+1) [h] xs fp) (hi:inb i xs):
  ∃b1 l c f1,h= .slice (some ⟨b1,0,none⟩) l c/\At w F e d b1 (i.toNat*e.cells) (gd xs i e.dflt) f1/\(∀n,f1 n->fp n)/\fp b1:=by
 have hnth:=YaH (d:=e.dflt) hi
 have hlt:=Ye hnth
 rcases hr with ⟨hc,hx,_⟩|⟨b1,len,cap,c1,fps,hc,hb1,hcl,hl,hle,hfp,h1,h2,hx⟩
 ·rw[hx]at hlt;simp at hlt
 simp only[List.cons.injEq,and_true]at hc
 subst hc
 have hl':xs.length=len:=hl
 have hi1:i.toNat<len:=by omega
 have hroom:i.toNat*e.cells+e.cells<=c1.length:=by
  rw[hcl,←Nat.succ_mul];exact Nat.mul_le_mul_right _ (by omega)
 exact⟨b1,len,cap,fps i.toNat,rfl,⟨c1,hb1,hroom,hx _ _ hnth,h1 _ hi1⟩,λn hn=>(hfp n).2 (.inr ⟨_,hi1,hn⟩),(hfp b1).2 (.inl rfl)⟩
theorem At.hdr {e:Ty} {d b o:Nat} {xs:List e.den} {fp:Fp} (hat:At w F (.slice e) d b o xs fp):
  ∃h,w.cell? ⟨b,o,none⟩=some h/\Rep w F (.slice e) d [h] xs fp:=by
 obtain⟨c,hbc,hroom,hr,hoff⟩:=hat
 have hlen:=Rep.len _ hr
 simp only[Ty.cells]at hroom hlen hr
 obtain⟨h,hh⟩: ∃h,(c.drop o).take 1= [h]:=by
  match (c.drop o).take 1,hlen with
  | [h],_=>exact⟨h,rfl⟩
 rw[hh]at hr
 refine⟨h,?_,hr⟩
 rw[hbc.lies]
 have:((c.drop o).take 1)[0]? =some h:=by rw[hh];rfl
 rw[List.getElem?_take,if_pos (by omega),List.getElem?_drop]at this
 simpa using this
theorem Yak: ∀(p:List PE) {t:Ty} {d b o:Nat} {x:t.den} {fp:Fp},At w F t d b o x fp->InB t d x p->(∀n,n=b∨fp n->w'.heap[n]? =w.heap[n]?)->
  Yo w' t b o p=Yo w t b o p
 | [],t,_,_,_,_,_,_,_,_=>by cases t<;>rfl
 | .fst::p,.pair s u,d,b,o,x,fp,hat,hin,hk=>by
  obtain⟨f1,h1,h2⟩:=hat.fst
  simp only[Yo]
  exact Yak p h1 hin λn hn=>hk n (hn.imp id (h2 n))
 | .snd::p,.pair s u,d,b,o,x,fp,hat,hin,hk=>by
  obtain⟨f1,h1,h2⟩:=hat.snd
  simp only[Yo]
  exact Yak p h1 hin λn hn=>hk n (hn.imp id (h2 n))
 | .idx i::p,.slice e,d+1,b,o,x,fp,hat,hin,hk=>by
  simp only[InB]at hin
  obtain⟨h,hc,hr⟩:=hat.hdr
  have hc':w'.cell? ⟨b,o,none⟩=some h:=by
   rw[←hc];simp[World.cell?,hk b (.inl rfl)]
  obtain⟨b1,l,c,f1,rfl,h1,h2,h3⟩:=hr.idx hin.1
  simp only[Yo,hc,hc']
  have:=Yak p h1 hin.2 λn hn=>hk n (.inr (by rcases hn with rfl|hn;exact h3;exact h2 n hn))
  simpa using this
 | .idx i::p,.slice e,0,_,_,_,_,_,hin,_=>by simp[InB]at hin
 | .fst::p,.num _,_,_,_,_,_,_,hin,_=>by simp[InB]at hin
 | .fst::p,.bool,_,_,_,_,_,_,hin,_=>by simp[InB]at hin
 | .fst::p,.str,_,_,_,_,_,_,hin,_=>by simp[InB]at hin
 | .fst::p,.fn _,_,_,_,_,_,_,hin,_=>by simp[InB]at hin
 | .fst::p,.smap _,_,_,_,_,_,_,hin,_=>by simp[InB]at hin
 | .fst::p,.op _,_,_,_,_,_,_,hin,_=>by simp[InB]at hin
 | .fst::p,.ptr _,_,_,_,_,_,_,hin,_=>by simp[InB]at hin
 | .fst::p,.fc _ _,_,_,_,_,_,_,hin,_=>by simp[InB]at hin
 | .fst::p,.slice _,_,_,_,_,_,_,hin,_=>by simp[InB]at hin
 | .snd::p,.num _,_,_,_,_,_,_,hin,_=>by simp[InB]at hin
 | .snd::p,.bool,_,_,_,_,_,_,hin,_=>by simp[InB]at hin
 | .snd::p,.str,_,_,_,_,_,_,hin,_=>by simp[InB]at hin
 | .snd::p,.fn _,_,_,_,_,_,_,hin,_=>by simp[InB]at hin
 | .snd::p,.smap _,_,_,_,_,_,_,hin,_=>by simp[InB]at hin
 | .snd::p,.op _,_,_,_,_,_,_,hin,_=>by simp[InB]at hin
 | .snd::p,.ptr _,_,_,_,_,_,_,hin,_=>by simp[InB]at hin
 | .snd::p,.fc _ _,_,_,_,_,_,_,hin,_=>by simp[InB]at hin
 | .snd::p,.slice _,_,_,_,_,_,_,hin,_=>by simp[InB]at hin
 | .idx i::p,.num _,_,_,_,_,_,_,hin,_=>by simp[InB]at hin
 | .idx i::p,.bool,_,_,_,_,_,_,hin,_=>by simp[InB]at hin
 | .idx i::p,.str,_,_,_,_,_,_,hin,_=>by simp[InB]at hin
 | .idx i::p,.fn _,_,_,_,_,_,_,hin,_=>by simp[InB]at hin
 | .idx i::p,.smap _,_,_,_,_,_,_,hin,_=>by simp[InB]at hin
 | .idx i::p,.op _,_,_,_,_,_,_,hin,_=>by simp[InB]at hin
 | .idx i::p,.ptr _,_,_,_,_,_,_,hin,_=>by simp[InB]at hin
 | .idx i::p,.fc _ _,_,_,_,_,_,_,hin,_=>by simp[InB]at hin
 | .idx i::p,.pair _ _,_,_,_,_,_,_,hin,_=>by simp[InB]at hin
theorem Ycm {e:Ty} {d:Nat} {h:Value} {xs:List e.den} {fp:Fp} {p:List PE} (hr:Rep w F (.slice e) (d+1) [h] xs fp) (hin:InB (.slice e) (d+1) xs p)
  (hk: ∀n,fp n->w'.heap[n]? =w.heap[n]?):Yz w' e h p=Yz w e h p:=by
 cases p with
 |nil=>rfl
 |cons q p=>
  cases q with
  |fst=>rfl
  |snd=>rfl
  |idx i=>
   simp only[InB]at hin
   obtain⟨b1,l,c,f1,rfl,h1,h2,h3⟩:=hr.idx hin.1
   simp only[Yz]
   have:=Yak p h1 hin.2 λn hn=>hk n (by rcases hn with rfl|hn;exact h3;exact h2 n hn)
   simpa using this
theorem Yaj: ∀(p:List PE) (t:Ty) (b o:Nat),p.any XB=false->Yo w' t b o p=Yo w t b o p
 | [],t,_,_,_=>by cases t<;>rfl
 | .fst::p,t,b,o,h=>by
  cases t with
  |pair x y=>simp only[Yo];exact Yaj p x b o (by simpa[XB]using h)
  |_=>rfl
 | .snd::p,t,b,o,h=>by
  cases t with
  |pair x y=>simp only[Yo];exact Yaj p y b _ (by simpa[XB]using h)
  |_=>rfl
 | .idx _::p,_,_,_,h=>by simp[XB]at h
theorem Ybm: ∀(p:List PE) (t:Ty) (d d':Nat) (x y:t.den),p.any XB=false->InB t d x p->InB t d' y p
 | [],t,_,_,_,_,_,_=>by cases t<;>trivial
 | .fst::p,t,d,d',x,y,h,hin=>by
  cases t with
  |pair a b=>simp only[InB]at hin⊢;exact Ybm p a (dl d) (dl d') _ _ (by simpa[XB]using h) hin
  |_=>simp[InB]at hin
 | .snd::p,t,d,d',x,y,h,hin=>by
  cases t with
  |pair a b=>simp only[InB]at hin⊢;exact Ybm p b (dr d) (dr d') _ _ (by simpa[XB]using h) hin
  |_=>simp[InB]at hin
 | .idx _::p,_,_,_,_,_,h,_=>by simp[XB]at h
end
abbrev Loc:=Nat->Value
def Yc6:Value->Prop
 | .slice _ _ _=>True
 |_=>False
def SubV (l:Value) (a b:Int) (v:Value):Prop:=(l= .slice none 0 0/\a=0/\b=0/\v= .slice none 0 0)∨ ∃blk len cap,l= .slice (some ⟨blk,0,none⟩) len cap/\0<=a/\a<=b/\b<=(len:Int)/\v= .slice (some ⟨blk,if cap=a.toNat then 0 else a.toNat,none⟩) (b.toNat-a.toNat) (cap-a.toNat)
theorem SubV.nn {l:Value} {a b:Int} {v:Value} (h:SubV l a b v):0<=b:=by
 rcases h with ⟨_,_,h,_⟩|⟨_,_,_,_,h1,h2,_⟩<;>omega
def NN (v:Value):Prop:= ∃b o l c,v= .slice (some ⟨b,o,none⟩) l c
def Yjc (ver:Nat) (p:List PE) (v:Value):Prop:=Xu v/\(p= []->ver=1->NN v)
def VwV (l:Value) (n:Nat) (b:Int) (v:Value):Prop:= ∃blk len cap,l= .slice (some ⟨blk,0,none⟩) len cap/\0<=b/\b<=(n:Int)/\v= .slice (some ⟨blk,0,none⟩) b.toNat cap
def BfR (w:World) (F:Fp) (e:Ty) (l:Value) (xs:List e.den) (fp:Fp):Prop:=
 ∃(b len cap:Nat) (c:List Value),l= .slice (some ⟨b,0,none⟩) len cap/\Blk w b c/\c.length=cap*e.cells/\List.length xs<=cap/\(∀n,fp n↔n=b)/\
  ∀(j:Nat) (x:e.den),nth (α:=e.den) xs j=some x->Rep w F e 0 ((c.drop (j*e.cells)).take e.cells) x Fp.none
theorem BfR.keep {w w':World} {F:Fp} {e:Ty} {l:Value} {xs:List e.den} {fp:Fp} (h:BfR w F e l xs fp) (hF: ∀n,F n->w'.heap[n]? =w.heap[n]?) (hf: ∀n,fp n->w'.heap[n]? =w.heap[n]?):BfR w' F e l xs fp:=by
 obtain⟨b,len,cap,c,h1,hb,hc,hl,hfp,hx⟩:=h
 exact⟨b,len,cap,c,h1,hb.keep (hf b ((hfp b).2 rfl)),hc,hl,hfp,λj x hi=>Rep.keep e (hx j x hi) hF λn hn=>hn.elim⟩
theorem BfR.mono {w:World} {F F':Fp} {e:Ty} {l:Value} {xs:List e.den} {fp:Fp} (h:BfR w F e l xs fp) (hF: ∀n,F n->F' n):BfR w F' e l xs fp:=by
 obtain⟨b,len,cap,c,h1,hb,hc,hl,hfp,hx⟩:=h
 exact⟨b,len,cap,c,h1,hb,hc,hl,hfp,λj x hi=>Rep.mono hF e (hx j x hi)⟩
theorem BfR.live {w:World} {F:Fp} {e:Ty} {l:Value} {xs:List e.den} {fp:Fp} (h:BfR w F e l xs fp) (n:Nat) (hn:fp n): ∃c,Blk w n c:=by
 obtain⟨b,len,cap,c,h1,hb,hc,hl,hfp,hx⟩:=h
 rw[(hfp n).1 hn];exact⟨c,hb⟩
theorem BfR.rep1 {w:World} {F:Fp} {e:Ty} {l:Value} {xs:List e.den} {n:Int} {fp:Fp} (h:BfR w F e l xs fp) (hl:VwV l (List.length xs) n l):Rep w F (.slice e) 1 [l] (xs.take n.toNat:List e.den) fp:=by
 obtain⟨b,len,cap,c,h1,hb,hc,hle,hfp,hx⟩:=h
 obtain⟨b',len',c',h2,h3,h4,h5⟩:=hl
 rw[h1]at h5
 injection h5 with e1 e2 e3
 have hlen:List.length (xs.take n.toNat)=len:=by rw[List.length_take];omega
 refine .inr ⟨b,len,cap,c,λ_=>Fp.none,by rw[h1],hb,hc,hlen,by rw[List.length_take]at hlen;omega,λn=>⟨λh=> .inl ((hfp n).1 h),λh=>h.elim (hfp n).2 λ⟨_,_,h⟩=>h.elim⟩,λ_ _ h=>h,λ_ _ _ _ _ h=>h.elim,λi x hi=>hx i x ?_⟩
 have hi':(xs.take n.toNat)[i]? =some x:=hi
 rw[List.getElem?_take]at hi'
 split at hi'
 ·exact hi'
 ·cases hi'
theorem BfR.view {w:World} {F:Fp} {e:Ty} {l v:Value} {xs:List e.den} {n:Nat} {b:Int} {fp:Fp} (h:BfR w F e l xs fp) (hl:VwV l n b v):BfR w F e v xs fp/\VwV v n b v:=by
 obtain⟨bk,len,cap,c,h1,hb,hc,hle,hfp,hx⟩:=h
 obtain⟨b',len',c',h2,h3,h4,h5⟩:=hl
 rw[h1]at h2
 injection h2 with e1 e2 e3
 subst e3
 injection e1 with e1
 injection e1 with e1
 subst e1
 exact⟨⟨bk,b.toNat,cap,c,h5,hb,hc,hle,hfp,hx⟩,bk,b.toNat,cap,h5,h3,h4,h5⟩
theorem BfR.of1 {w:World} {F:Fp} {e:Ty} {l:Value} {xs:List e.den} {fp:Fp} (h:Rep w F (.slice e) 1 [l] xs fp) (h0:0<List.length xs):BfR w F e l xs fp/\VwV l (List.length xs) (List.length xs:Int) l:=by
 rcases h with ⟨_,hx,_⟩|⟨b,len,cap,c,fps,hv,hb,hc,hl,hle,hfp,g1,g2,hx⟩
 ·rw[hx]at h0;simp at h0
 ·have hv:=(List.cons.inj hv).1
  have hno: ∀i,i<len-> ∀n,¬fps i n:=λi hi n hn=>by
   have hi':i<List.length xs:=by omega
   have:=hx i xs[i] (List.getElem?_eq_getElem hi')
   exact Rep.none0 e this n hn
  refine⟨⟨b,len,cap,c,hv,hb,hc,by omega,λn=>(hfp n).trans ⟨λh=>h.elim id λ⟨i,hi,h⟩=>(hno i hi n h).elim,.inl⟩,λj x hj=>?_⟩,b,len,cap,hv,by omega,by omega,by rw[hv,Int.toNat_natCast,hl]⟩
  have hjl:=Ye hj
  have e1:fps j=Fp.none:=Fp.eq λn=>⟨λh=>(hno j (by omega) n h).elim,λh=>h.elim⟩
  exact e1▸hx j x hj
theorem BfR.cast {w:World} {F:Fp} {e e':Ty} {l:Value} {xs:List e.den} {ys:List e'.den} {fp:Fp} (hc:YJ (.slice e) (.slice e') xs=some ys) (h:BfR w F e l xs fp):BfR w F e' l ys fp:=by
 unfold YJ at hc
 split at hc
 ·rename_i he
  cases he
  cases hc
  exact h
 ·cases hc
def RefR (w:World) (H:Store) (loc:Loc) (r ver:Nat) (p:List PE) (v:Value):Prop:=
 Yjc ver p v/\match H r with
 | .free=>False
 | .box _=>False
 | .pz _ _=>False
 | .gone=>p= []->v=loc r
 | .lnk _ _ _=>p= []->v=loc r
 | .fz _ _=>p= []->v=loc r
 | .mp _ _=>p= []->v=loc r
 | .kz _ _=>False
 | .ho _ _ _ ver' _ _=>ver<=ver'/\(p= []->v=loc r)/\(ver=ver'-> ∀a b,p= [.fst,.idx a,.idx b]->SubV (loc r) a b v)
 | .bf _ xs _ ver' _=>ver<=ver'/\(p= []->v=loc r)/\(ver=ver'-> ∀b,p= [.fst,.idx 0,.idx b]->VwV (loc r) xs.length b v)
 | .arr e d xs ver' _=>ver<=ver'/\(p= []->v=loc r)/\(p≠ []->ver=ver'->InB (.slice e) (d+1) xs p/\ ∃b o,Yz w e (loc r) p=some (b,o)/\w.cell? ⟨b,o,none⟩=some v/\Yc6 v)
def YfV (w:World) (H:Store) (loc:Loc) (r ver:Nat) (t:Ty) (p:List PE) (v:Value):Prop:=
 ∃b o,v= .pointer (some ⟨b,o,none⟩)/\match H r with
 | .free=>False
 | .arr e d xs ver' _=>ver<=ver'/\(ver=ver'∨Ybf p=false->InB (.slice e) (d+1) xs p/\Yz w e (loc r) p=some (b,o)/\tyP (.slice e) p=some t)
 | .bf e xs _ ver' _=>ver<=ver'/\(ver=ver'-> ∀j,p= [.idx j]->inb j xs/\t=e/\ ∃len cap,loc r= .slice (some ⟨b,0,none⟩) len cap/\o=j.toNat*e.cells)
 | .ho e d xs ver' _ _=>ver<=ver'/\(Ybf p=false->InB (.slice e) (d+1) xs p/\Yz w e (loc r) p=some (b,o)/\tyP (.slice e) p=some t)
 |_=>True
def BptrR (H:Store) (loc:Loc) (r off:Nat) (v:Value):Prop:=
 ∃b,v= .pointer (some ⟨b,off,none⟩)/\match H r with
 | .free=>False
 | .box _=>loc r= .pointer (some ⟨b,0,none⟩)
 | .pz _ _=>loc r= .pointer (some ⟨b,0,none⟩)
 | .kz _ _=>loc r= .pointer (some ⟨b,0,none⟩)
 |_=>True
def CapsR (H:Store) (loc:Loc) (l:List Nat) (caps:List Value):Prop:=
 caps.length=l.length/\ ∀(i r:Nat) (c:Value),l[i]? =some r->caps[i]? =some c->BptrR H loc r 0 c
def hol (i:Int) (j:Nat):Prop:=if 0<=i then j=i.toNat else(j:Int)< -1-i
def SndR (w:World) (F:Fp):(e:Ty)->(d:Nat)->List Value->e.den->Prop
 | .pair a b,d,cs,x=>2000<=d->Rep w F b 0 (cs.drop a.cells) x.2 Fp.none
 |_,_,_,_=>True
theorem SndR.mono {w w':World} {F F':Fp} (hF: ∀n,F n->F' n) (hk: ∀n,F n->w'.heap[n]? =w.heap[n]?) {e:Ty} {d:Nat} {cs:List Value} {x:e.den} (h:SndR w F e d cs x):SndR w' F' e d cs x:=by
 cases e with
 |pair a b=>exact λhd=>Rep.mono hF _ (Rep.keep _ (h hd) hk λn hn=>hn.elim)
 |_=>trivial
theorem SndR.one {w:World} {F:Fp} {e:Ty} {d:Nat} {cs:List Value} {x:e.den} (h:e.cells=1):SndR w F e d cs x:=by
 have pos: ∀t:Ty,0<t.cells:=by
  intro t
  induction t with
  |pair a b ha hb=>simp only[Ty.cells];omega
  |_=>exact Nat.one_pos
 cases e with
 |pair a b=>simp only[Ty.cells]at h;have:=pos a;have:=pos b;omega
 |_=>trivial
def Yi4 (w:World) (F:Fp) (e:Ty) (d:Nat) (i:Int) (l:Value) (xs:List e.den) (fp:Fp):Prop:=
 ∃(b len cap:Nat) (c:List Value) (fps:Nat->Fp),l= .slice (some ⟨b,0,none⟩) len cap/\
  Blk w b c/\c.length=cap*e.cells/\List.length xs=len/\len<=cap/\(∀n,fp n↔n=b∨ ∃i,i<len/\fps i n)/\(∀i,i<len-> ¬fps i b)/\
  (∀(i j n:Nat),i<len->j<len->fps i n->fps j n->i=j)/\(∀j,hol i j-> ∀n,¬fps j n)/\(0<=i->inb i xs)/\
  (∀(j:Nat) (x:e.den),¬hol i j->nth (α:=e.den) xs j=some x->Rep w F e d ((c.drop (j*e.cells)).take e.cells) x (fps j))/\
  ∀(j:Nat) (x:e.den),hol i j->nth (α:=e.den) xs j=some x->SndR w F e d ((c.drop (j*e.cells)).take e.cells) x
def HoR (w:World) (F:Fp) (e:Ty) (d:Nat) (i:Int) (l:Value) (xs:List e.den) (fp:Fp):Prop:=
 (i<0/\l= .slice none 0 0/\xs= []/\ ∀n,¬fp n)∨Yi4 w F e d i l xs fp
theorem HoR.keep {w w':World} {F:Fp} {e:Ty} {d:Nat} {i:Int} {l:Value} {xs:List e.den} {fp:Fp} (h:HoR w F e d i l xs fp) (hF: ∀n,F n->w'.heap[n]? =w.heap[n]?) (hf: ∀n,fp n->w'.heap[n]? =w.heap[n]?):HoR w' F e d i l xs fp:=by
 rcases h with h|⟨b,len,cap,c,fps,h1,hb,hc,hl,hle,hfp,g1,g2,g3,g4,hx,hs⟩
 ·exact .inl h
 refine .inr ⟨b,len,cap,c,fps,h1,hb.keep (hf b ((hfp b).2 (.inl rfl))),hc,hl,hle,hfp,g1,g2,g3,g4,λj x hj hi=>?_,λj x hj hi=>(hs j x hj hi).mono (λ_ h=>h) hF⟩
 have hlt:=Ye hi
 exact Rep.keep e (hx j x hj hi) hF (λn hn=>hf n ((hfp n).2 (.inr ⟨j,by omega,hn⟩)))
theorem HoR.mono {w:World} {F F':Fp} {e:Ty} {d:Nat} {i:Int} {l:Value} {xs:List e.den} {fp:Fp} (h:HoR w F e d i l xs fp) (hF: ∀n,F n->F' n):HoR w F' e d i l xs fp:=by
 rcases h with h|⟨b,len,cap,c,fps,h1,hb,hc,hl,hle,hfp,g1,g2,g3,g4,hx,hs⟩
 ·exact .inl h
 exact .inr ⟨b,len,cap,c,fps,h1,hb,hc,hl,hle,hfp,g1,g2,g3,g4,λj x hj hi=>Rep.mono hF e (hx j x hj hi),λj x hj hi=>(hs j x hj hi).mono hF λ_ _=>rfl⟩
theorem HoR.live {w:World} {F:Fp} {e:Ty} {d:Nat} {i:Int} {l:Value} {xs:List e.den} {fp:Fp} (h:HoR w F e d i l xs fp) (n:Nat) (hn:fp n): ∃c,Blk w n c:=by
 rcases h with h|⟨b,len,cap,c,fps,h1,hb,hc,hl,hle,hfp,g1,g2,g3,g4,hx,hs⟩
 ·exact(h.2.2.2 n hn).elim
 rcases(hfp n).1 hn with rfl|⟨j,hj,hn⟩
 ·exact⟨c,hb⟩
 ·by_cases e1:hol i j
  ·exact(g3 j e1 n hn).elim
  ·have hj':j<List.length xs:=hl▸hj
   exact Rep.live e (hx j _ e1 (List.getElem?_eq_getElem hj')) n hn
theorem HoR.one {w:World} {F:Fp} {e:Ty} {d:Nat} {i:Int} {l:Value} {xs:List e.den} {fp:Fp} (h:HoR w F e d i l xs fp): ∃a n m,l= .slice a n m:=by
 rcases h with h|⟨b,len,cap,c,fps,h1,_⟩
 ·exact⟨_,_,_,h.2.1⟩
 ·exact⟨_,_,_,h1⟩
theorem HoR.single {w:World} {F:Fp} {e:Ty} {d:Nat} {i:Int} {l:Value} {xs:List e.den} {fp:Fp} (h:HoR w F e d i l xs fp) (h0:0<=i):
  ∃(b len cap:Nat) (c:List Value) (fps:Nat->Fp),l= .slice (some ⟨b,0,none⟩) len cap/\
  Blk w b c/\c.length=cap*e.cells/\List.length xs=len/\len<=cap/\(∀n,fp n↔n=b∨ ∃i,i<len/\fps i n)/\(∀i,i<len-> ¬fps i b)/\
  (∀(i j n:Nat),i<len->j<len->fps i n->fps j n->i=j)/\(∀n,¬fps i.toNat n)/\inb i xs/\
  ∀(j:Nat) (x:e.den),j≠i.toNat->nth (α:=e.den) xs j=some x->Rep w F e d ((c.drop (j*e.cells)).take e.cells) x (fps j):=by
 rcases h with h|⟨b,len,cap,c,fps,h1,hb,hc,hl,hle,hfp,g1,g2,g3,g4,hx,hs⟩
 ·omega
 ·refine⟨b,len,cap,c,fps,h1,hb,hc,hl,hle,hfp,g1,g2,g3 _ (by unfold hol;rw[if_pos h0]),g4 h0,λj x hj hi=>hx j x (by unfold hol;rw[if_pos h0];exact hj) hi⟩
theorem HoR.single2 {w:World} {F:Fp} {e:Ty} {d:Nat} {i:Int} {l:Value} {xs:List e.den} {fp:Fp} (h:HoR w F e d i l xs fp) (h0:0<=i):
  ∃(b len cap:Nat) (c:List Value) (fps:Nat->Fp),l= .slice (some ⟨b,0,none⟩) len cap/\
  Blk w b c/\c.length=cap*e.cells/\List.length xs=len/\len<=cap/\(∀n,fp n↔n=b∨ ∃i,i<len/\fps i n)/\(∀i,i<len-> ¬fps i b)/\
  (∀(i j n:Nat),i<len->j<len->fps i n->fps j n->i=j)/\(∀n,¬fps i.toNat n)/\inb i xs/\
  (∀(j:Nat) (x:e.den),j≠i.toNat->nth (α:=e.den) xs j=some x->Rep w F e d ((c.drop (j*e.cells)).take e.cells) x (fps j))/\
  ∀x:e.den,nth (α:=e.den) xs i.toNat=some x->SndR w F e d ((c.drop (i.toNat*e.cells)).take e.cells) x:=by
 rcases h with h|⟨b,len,cap,c,fps,h1,hb,hc,hl,hle,hfp,g1,g2,g3,g4,hx,hs⟩
 ·omega
 ·refine⟨b,len,cap,c,fps,h1,hb,hc,hl,hle,hfp,g1,g2,g3 _ (by unfold hol;rw[if_pos h0]),g4 h0,λj x hj hi=>hx j x (by unfold hol;rw[if_pos h0];exact hj) hi,λx hi=>hs _ x (by unfold hol;rw[if_pos h0]) hi⟩
theorem HoR.mk1 {w:World} {F:Fp} {e:Ty} {d:Nat} {i:Int} {l:Value} {xs:List e.den} {fp:Fp} (h: ∃(b len cap:Nat) (c:List Value) (fps:Nat->Fp),l= .slice (some ⟨b,0,none⟩) len cap/\
  Blk w b c/\c.length=cap*e.cells/\List.length xs=len/\len<=cap/\(∀n,fp n↔n=b∨ ∃i,i<len/\fps i n)/\(∀i,i<len-> ¬fps i b)/\
  (∀(i j n:Nat),i<len->j<len->fps i n->fps j n->i=j)/\(∀n,¬fps i.toNat n)/\inb i xs/\
  (∀(j:Nat) (x:e.den),j≠i.toNat->nth (α:=e.den) xs j=some x->Rep w F e d ((c.drop (j*e.cells)).take e.cells) x (fps j))/\
  ∀x:e.den,nth (α:=e.den) xs i.toNat=some x->SndR w F e d ((c.drop (i.toNat*e.cells)).take e.cells) x):HoR w F e d i l xs fp:=by
 obtain⟨b,len,cap,c,fps,h1,hb,hc,hl,hle,hfp,g1,g2,g3,g4,hx,hs⟩:=h
 have h0:0<=i:=g4.1
 refine .inr ⟨b,len,cap,c,fps,h1,hb,hc,hl,hle,hfp,g1,g2,λj hj=>?_,λ_=>g4,λj x hj hi=>hx j x (λe=>hj (by unfold hol;rw[if_pos h0];exact e)) hi,λj x hj hi=>?_⟩
 ·unfold hol at hj;rw[if_pos h0]at hj;subst hj;exact g3
 ·unfold hol at hj;rw[if_pos h0]at hj;subst hj;exact hs x hi
def AVC (w:World) (F:Fp) (H:Store) (loc:Loc):AV->List Value->Prop
 | .un,cs=>cs.length=1
 | .jk n,cs=>cs.length=n
 | .val t x,cs=>Rep w F t 0 cs x Fp.none
 | .nils,cs=>cs= [.slice none 0 0]
 | .ref r ver p,cs=> ∃v,cs= [v]/\RefR w H loc r ver p v
 | .bptr r o,cs=> ∃v,cs= [v]/\BptrR H loc r o v
 | .nv b r,cs=> ∃v,cs= [v]/\RefR w H loc r 0 [] v/\(b=true->NN v)/\(b=false->v= .slice none 0 0)
 | .pr a b,cs=> ∃c1 c2,cs=c1++c2/\AVC w F H loc a c1/\AVC w F H loc b c2
 | .ptr _ _ _ _,_=>False
 | .vptr _ _,_=>False
 | .tup _,_=>False
 | .clo _ _,_=>False
def Shp (a:AV) (v:Value) (cs:List Value):Prop:=if YF a then v= .agg cs.toArray else cs= [v]
def AVS (w:World) (F:Fp) (H:Store) (loc:Loc):AV->Value->Prop
 | .un,_=>True
 | .jk _,_=>True
 | .tup _,_=>False
 | .clo f l,v=> ∃caps:List Value,v= .func (.func f) #[] caps.toArray/\CapsR H loc l caps
 | .ptr r ver t p,v=>YfV w H loc r ver t p v
 | .vptr t x,v=> ∃b o cs,v= .pointer (some ⟨b,o,none⟩)/\F b/\Lies w b o cs/\Rep w F t 0 cs x Fp.none
 |a,v=> ∃cs,AVC w F H loc a cs/\Shp a v cs
def AVV (w:World) (F:Fp) (H:Store) (loc:Loc):AV->Value->Prop
 | .tup l,v=> ∃vs:Array Value,v= .tuple vs/\vs.size=l.length/\ ∀(i:Nat) (a:AV) (u:Value),l[i]? =some a->vs[i]? =some u->AVS w F H loc a u
 |a,v=>AVS w F H loc a v
def RootOk (w:World) (F:Fp) (H:Store) (loc:Loc) (R:Root) (l:Value) (fp:Fp):Prop:=
 match R with
 | .free=> ∀n,¬fp n
 | .gone=> ∀n,¬fp n
 | .box c=> ∃b cs,l= .pointer (some ⟨b,0,none⟩)/\Blk w b cs/\cs.length=c.length/\(∀n,fp n↔n=b)/\ ∀(j:Nat) a v,c[j]? =some a->cs[j]? =some v->AVC w F H loc a [v]/\YF a=false
 | .arr e d xs _ _=>Rep w F (.slice e) (d+1) [l] xs fp
 | .fz e xs=>Rep w F (.slice e) 0 [l] xs fp
 | .pz t x=>Rep w F (.ptr t) 0 [l] (true,x) fp
 | .mp k ks=> ∃b,l= .map (some b)/\(∀n,fp n↔n=b)/\Yde w b k ks
 | .kz f q=>(∀n,¬fp n)/\ ∃(b:Nat) (caps:List Value),l= .pointer (some ⟨b,0,none⟩)/\F b/\w.cell? ⟨b,0,none⟩=some (.func (.func f) #[] caps.toArray)/\CapsR H loc q caps
 | .ho e d xs _ _ i=>HoR w F e d i l xs fp
 | .bf e xs n _ _=>BfR w F e l xs fp/\VwV l (List.length xs) n l
 | .lnk r ver j=>(∀n,¬fp n)/\AVC w F H loc (.ref r ver [.idx j]) [l]
structure Roots (w:World) (F:Fp) (H:Store) (loc:Loc) (fp:Nat->Fp):Prop where
 ok: ∀r,RootOk w F H loc (H r) (loc r) (fp r)
 disj: ∀r r' n,fp r n->fp r' n->r=r'
 frz: ∀r n,fp r n-> ¬F n
 dom: ∀n,F n->n<w.heap.size
theorem Yal {w w':World} (hc: ∀b o v,w.cell? ⟨b,o,none⟩=some v->Yc6 v->w'.cell? ⟨b,o,none⟩=some v): ∀(p:List PE) {t:Ty} {b o:Nat} {q:Nat×Nat},Yo w t b o p=some q->Yo w' t b o p=some q
 | [],t,_,_,_,h=>by cases t<;>exact h
 | .fst::p,t,b,o,q,h=>by
  cases t with
  |pair x y=>simp only[Yo]at h⊢;exact Yal hc p h
  |_=>simp[Yo]at h
 | .snd::p,t,b,o,q,h=>by
  cases t with
  |pair x y=>simp only[Yo]at h⊢;exact Yal hc p h
  |_=>simp[Yo]at h
 | .idx i::p,t,b,o,q,h=>by
  cases t with
  |slice e=>
   simp only[Yo]at h
   split at h
   ·rename_i a n m hcell
    simp only[Yo,hc _ _ _ hcell trivial]
    exact Yal hc p h
   ·cases h
  |_=>simp[Yo]at h
theorem Ycn {w w':World} (hc: ∀b o v,w.cell? ⟨b,o,none⟩=some v->Yc6 v->w'.cell? ⟨b,o,none⟩=some v) {e:Ty} {h:Value} {p:List PE} {q:Nat×Nat} (ha:Yz w e h p=some q):Yz w' e h p=some q:=by
 cases p with
 |nil=>simp[Yz]at ha
 |cons c p=>
  cases c with
  |fst=>simp[Yz]at ha
  |snd=>simp[Yz]at ha
  |idx i=>
   simp only[Yz]at ha⊢
   split at ha
   ·exact Yal hc p ha
   ·cases ha
inductive RS (w w':World):Root->Root->Value->Value->Fp->Prop
 |same (R:Root) (l:Value) (fp:Fp) (h: ∀n,fp n->w'.heap[n]? =w.heap[n]?):RS w w' R R l l fp
 |gone (R:Root) (l:Value) (fp:Fp):RS w w' R .gone l l fp
 |lnk (r ver:Nat) (j:Int) (l:Value) (fp:Fp):RS w w' .gone (.lnk r ver j) l l fp
 |hmove (e:Ty) (d:Nat) (xs xs':List e.den) (ver ver':Nat) (pin pin':Bool) (i i':Int) (l:Value) (fp:Fp) (h:ver<ver') (hl:xs'.length=xs.length):RS w w' (.ho e d xs ver pin i) (.ho e d xs' ver' pin' i') l l fp
 |frz (e:Ty) (d:Nat) (xs:List e.den) (ver:Nat) (pin:Bool) (l:Value) (fp:Fp):RS w w' (.arr e d xs ver pin) (.fz e xs) l l fp
 |turn (e:Ty) (d:Nat) (xs xs':List e.den) (ver ver':Nat) (pin pin':Bool) (l:Value) (fp:Fp) (h:ver<ver') (hl:xs'.length=xs.length):RS w w' (.arr e d xs ver pin) (.arr e d xs' ver' pin') l l fp
 |flat (e:Ty) (d:Nat) (xs xs':List e.den) (ver:Nat) (pin:Bool) (l:Value) (fp:Fp) (hi: ∀p,InB (.slice e) (d+1) xs p->InB (.slice e) (d+1) xs' p)
  (hc: ∀b o v,w.cell? ⟨b,o,none⟩=some v->Yc6 v->w'.cell? ⟨b,o,none⟩=some v):RS w w' (.arr e d xs ver pin) (.arr e d xs' ver pin) l l fp
 |mturn (k:MK) (ks ks':List ByteArray) (l:Value) (fp:Fp):RS w w' (.mp k ks) (.mp k ks') l l fp
 |box (c c':List AV) (l:Value) (fp:Fp):RS w w' (.box c) (.box c') l l fp
 |pz (c:List AV) (t:Ty) (x:t.den) (l:Value) (fp:Fp):RS w w' (.box c) (.pz t x) l l fp
 |boxz (c:List AV) (f:Nat) (q:List Nat) (l:Value) (fp:Fp):RS w w' (.box c) (.kz f q) l l fp
 |hole (e:Ty) (d:Nat) (xs:List e.den) (ver ver':Nat) (pin pin':Bool) (i:Int) (l:Value) (fp:Fp) (h:ver<ver'):RS w w' (.arr e d xs ver pin) (.ho e d xs ver' pin' i) l l fp
 |fill (e:Ty) (d:Nat) (xs xs':List e.den) (ver ver':Nat) (pin pin':Bool) (i:Int) (l:Value) (fp:Fp) (h:ver<ver') (hl:xs'.length=xs.length):RS w w' (.ho e d xs ver pin i) (.arr e d xs' ver' pin') l l fp
 |tob (e:Ty) (xs:List e.den) (ver ver':Nat) (l:Value) (fp:Fp) (h:ver<ver'):RS w w' (.arr e 0 xs ver false) (.bf e xs (List.length xs:Int) ver' false) l l fp
 |bturn (e:Ty) (xs xs':List e.den) (n:Int) (ver:Nat) (pin:Bool) (l:Value) (fp:Fp) (hl:xs'.length=xs.length):RS w w' (.bf e xs n ver pin) (.bf e xs' n ver pin) l l fp
 |bfz (e:Ty) (xs xs':List e.den) (n:Int) (ver:Nat) (l:Value) (fp:Fp):RS w w' (.bf e xs n ver false) (.fz e xs') l l fp
 |new (R:Root) (l l':Value) (fp:Fp):RS w w' .free R l l' fp
structure Keep (w:World) (F:Fp) (H:Store) (loc:Loc) (w':World) (F':Fp) (H':Store) (loc':Loc):Prop where
 c: ∀a cs,AVC w F H loc a cs->AVC w' F' H' loc' a cs
 s: ∀a v,AVS w F H loc a v->AVS w' F' H' loc' a v
theorem Keep.v {w w':World} {F F':Fp} {H H':Store} {loc loc':Loc} (k:Keep w F H loc w' F' H' loc') (a:AV) (v:Value) (h:AVV w F H loc a v):AVV w' F' H' loc' a v:=by
 cases a with
 |tup l=>obtain⟨vs,h1,h2,h3⟩:=h;exact⟨vs,h1,h2,λi a u ha hu=>k.s a u (h3 i a u ha hu)⟩
 |_=>simp only[AVV]at h⊢;exact k.s _ v h
theorem Keep.refl (w:World) (F:Fp) (H:Store) (loc:Loc):Keep w F H loc w F H loc:=⟨λ_ _ h=>h,λ_ _ h=>h⟩
theorem Keep.trans {w w' w'':World} {F F' F'':Fp} {H H' H'':Store} {loc loc' loc'':Loc} (k:Keep w F H loc w' F' H' loc') (k':Keep w' F' H' loc' w'' F'' H'' loc''):Keep w F H loc w'' F'' H'' loc'':=
 ⟨λa cs h=>k'.c a cs (k.c a cs h),λa v h=>k'.s a v (k.s a v h)⟩
theorem Yas {w w':World} {F F':Fp} {H H':Store} {loc loc':Loc} {fp:Nat->Fp} (hR:Roots w F H loc fp) (hF: ∀n,F n->F' n) (hk: ∀n,F n->w'.heap[n]? =w.heap[n]?)
  (hs: ∀r,RS w w' (H r) (H' r) (loc r) (loc' r) (fp r)):Keep w F H loc w' F' H' loc':=by
 have hrep: ∀(t:Ty) (cs:List Value) (x:t.den),Rep w F t 0 cs x Fp.none->Rep w' F' t 0 cs x Fp.none:=λt cs x h=>
  Rep.mono hF t (Rep.keep t h hk λn hn=>hn.elim)
 have href: ∀r ver p v,RefR w H loc r ver p v->RefR w' H' loc' r ver p v:=by
  rintro r ver p v ⟨h1,h⟩
  refine⟨h1,?_⟩
  have hok:=hR.ok r
  have hs:=hs r
  generalize hHr:H r=R at h hs hok
  generalize hHr':H' r=R' at hs⊢
  generalize hl:loc r=l at h hs hok
  generalize hl':loc' r=l' at hs⊢
  cases hs with
  |same _ _ _ hm=>
   cases R with
   |arr e d xs ver' pin=>
    refine⟨h.1,h.2.1,λhp hv=>?_⟩
    obtain⟨hin,b,o,ha,hc,hsl⟩:=h.2.2 hp hv
    have hok':Rep w F (.slice e) (d+1) [l] xs (fp r):=hok
    refine⟨hin,b,o,by rw[Ycm hok' hin hm];exact ha,?_,hsl⟩
    cases p with
    |nil=>exact absurd rfl hp
    |cons q p=>
     cases q with
     |fst=>simp[InB]at hin
     |snd=>simp[InB]at hin
     |idx i=>
      have hg: ∃g,YW (.slice e) (d+1) xs (.idx i::p)=some g:=by
       have key: ∀(p:List PE) (t:Ty) (d:Nat) (x:t.den),InB t d x p-> ∃g,YW t d x p=some g:=by
        intro p
        induction p with
        |nil=>intro t d x _;exact⟨⟨t,d,x⟩,by simp[YW]⟩
        |cons q p ih=>
         intro t d x hin
         cases q with
         |fst=>cases t with
          |pair a b=>simp only[InB]at hin;simp only[YW];exact ih a (dl d) x.1 hin
          |_=>simp[InB]at hin
         |snd=>cases t with
          |pair a b=>simp only[InB]at hin;simp only[YW];exact ih b (dr d) x.2 hin
          |_=>simp[InB]at hin
         |idx i=>cases t with
          |slice e=>cases d with
           |zero=>simp[InB]at hin
           |succ d=>simp only[InB]at hin;simp only[YW];exact ih e d _ hin.2
          |_=>simp[InB]at hin
       exact key _ _ _ _ hin
      obtain⟨g,hg⟩:=hg
      obtain⟨b',o',f,ha',hA,hf,hb',_⟩:=YaG (XG p) i w F e d l xs (fp r) g hok' hin hg
      rw[ha]at ha';injection ha' with ha';injection ha' with e1 e2;subst e1;subst e2
      rw[←hc];simp[World.cell?,hm b hb']
   |fz e xs=>exact h
   |mp ks=>exact h
   |gone=>exact h
   |lnk=>exact h
   |free=>exact h.elim
   |box c=>exact h.elim
   |pz=>exact h.elim
   |kz=>exact h.elim
   |ho=>exact h
   |bf=>exact h
  |gone R=>
   cases R with
   |arr=>exact h.2.1
   |fz=>exact h
   |mp=>exact h
   |gone=>exact h
   |lnk=>exact h
   |free=>exact h.elim
   |box c=>exact h.elim
   |pz=>exact h.elim
   |kz=>exact h.elim
   |ho=>exact h.2.1
   |bf=>exact h.2.1
  |lnk=>exact h
  |tob e xs ver' ver'' _ _ hlt=>exact⟨Nat.le_trans h.1 (Nat.le_of_lt hlt),h.2.1,λhv=>absurd h.1 (by omega)⟩
  |bturn e xs xs' n' ver' pin _ _ hlen=>exact⟨h.1,h.2.1,λhv b hp=>by rw[hlen];exact h.2.2 hv b hp⟩
  |bfz=>exact h.2.1
  |hmove e d xs xs' ver' ver'' pin pin' i i' _ _ hlt hlen=>exact⟨Nat.le_trans h.1 (Nat.le_of_lt hlt),h.2.1,λhv=>absurd h.1 (by omega)⟩
  |boxz=>exact h.elim
  |pz=>exact h.elim
  |hole e d xs ver' ver'' pin pin' i _ _ hlt=>exact⟨Nat.le_trans h.1 (Nat.le_of_lt hlt),h.2.1,λhv=>absurd h.1 (by omega)⟩
  |fill e d xs xs' ver' ver'' pin pin' i _ _ hlt hlen=>exact⟨Nat.le_trans h.1 (Nat.le_of_lt hlt),h.2.1,λhp hv=>absurd h.1 (by omega)⟩
  |frz e d xs ver' pin=>exact h.2.1
  |turn e d xs xs' ver' ver'' pin pin' _ _ hlt hlen=>exact⟨Nat.le_trans h.1 (Nat.le_of_lt hlt),h.2.1,λhp hv=>absurd h.1 (by omega)⟩
  |flat e d xs xs' ver' pin _ _ hi hc=>
   refine⟨h.1,h.2.1,λhp hv=>?_⟩
   obtain⟨hin,b,o,ha,hcell,hsl⟩:=h.2.2 hp hv
   exact⟨hi _ hin,b,o,Ycn hc ha,hc _ _ _ hcell hsl,hsl⟩
  |mturn=>exact h
  |box=>exact h.elim
  |new=>exact h.elim
 have hbptr: ∀r o v,BptrR H loc r o v->BptrR H' loc' r o v:=by
  rintro r o v ⟨b,h1,h⟩
  refine⟨b,h1,?_⟩
  have hs:=hs r
  generalize hHr:H r=R at h hs
  generalize hHr':H' r=R' at hs⊢
  generalize hl:loc r=l at h hs
  generalize hl':loc' r=l' at hs⊢
  cases hs with
  |same=>exact h
  |gone=>trivial
  |lnk=>trivial
  |hmove=>trivial
  |frz=>trivial
  |turn=>trivial
  |flat=>trivial
  |mturn=>trivial
  |box=>exact h
  |boxz=>exact h
  |pz=>exact h
  |hole=>trivial
  |fill=>trivial
  |tob=>trivial
  |bturn=>trivial
  |bfz=>trivial
  |new=>exact h.elim
 have hcaps: ∀l caps,CapsR H loc l caps->CapsR H' loc' l caps:=λl caps h=>⟨h.1,λi r c h1 h2=>hbptr r 0 c (h.2 i r c h1 h2)⟩
 have hflat: ∀(e:Ty) (d d':Nat) (xs xs':List e.den) (l:Value) (p:List PE) (q:Nat×Nat),xs'.length=xs.length->Ybf p=false->InB (.slice e) (d+1) xs p->Yz w e l p=some q->InB (.slice e) (d'+1) xs' p/\Yz w' e l p=some q:=by
  intro e d d' xs xs' l p q hlen hd hin ha
  cases p with
  |nil=>simp[Yz]at ha
  |cons q p=>
   cases q with
   |fst=>simp[InB]at hin
   |snd=>simp[InB]at hin
   |idx i=>
    simp only[InB]at hin⊢
    have hd':p.any XB=false:=hd
    refine⟨⟨by unfold inb at*;rw[hlen];exact hin.1,Ybm p e d d' _ _ hd' hin.2⟩,?_⟩
    simp only[Yz]at ha⊢
    split at ha
    ·rename_i a' _ _;rw[Yaj p e _ _ hd'];exact ha
    ·cases ha
 have hptr: ∀r ver t p v,YfV w H loc r ver t p v->YfV w' H' loc' r ver t p v:=by
  rintro r ver t p v ⟨b,o,h1,h⟩
  refine⟨b,o,h1,?_⟩
  have hok:=hR.ok r
  have hs:=hs r
  generalize hHr:H r=R at h hs hok
  generalize hHr':H' r=R' at hs⊢
  generalize hl:loc r=l at h hs hok
  generalize hl':loc' r=l' at hs⊢
  cases hs with
  |same _ _ _ hm=>
   cases R with
   |arr e d xs ver' pin=>
    refine⟨h.1,λhv=>?_⟩
    obtain⟨hin,ha,hty⟩:=h.2 hv
    have hok':Rep w F (.slice e) (d+1) [l] xs (fp r):=hok
    exact⟨hin,by rw[Ycm hok' hin hm];exact ha,hty⟩
   |ho e d xs ver' pin i=>
    refine⟨h.1,λhd=>?_⟩
    obtain⟨hin,ha,hty⟩:=h.2 hd
    obtain⟨g1,g2⟩:=hflat e d d xs xs _ p _ rfl hd hin ha
    exact⟨g1,g2,hty⟩
   |_=>exact h
  |gone=>trivial
  |lnk=>trivial
  |tob e xs ver' ver'' _ _ hlt=>exact⟨Nat.le_trans h.1 (Nat.le_of_lt hlt),λhv=>absurd h.1 (by omega)⟩
  |bturn e xs xs' n' ver' pin _ _ hlen=>exact⟨h.1,λhv j hp=>by
    obtain⟨g1,g2⟩:=h.2 hv j hp
    exact⟨by unfold inb at*;rw[hlen];exact g1,g2⟩⟩
  |bfz=>trivial
  |hmove e d xs xs' ver' ver'' pin pin' i i' _ _ hlt hlen=>
   refine⟨Nat.le_trans h.1 (Nat.le_of_lt hlt),λhd=>?_⟩
   obtain⟨hin,ha,hty⟩:=h.2 hd
   obtain⟨g1,g2⟩:=hflat e d d xs xs' _ p _ hlen hd hin ha
   exact⟨g1,g2,hty⟩
  |pz=>trivial
  |boxz=>trivial
  |hole e d xs ver' ver'' pin pin' i _ _ hlt=>
   refine⟨Nat.le_trans h.1 (Nat.le_of_lt hlt),λhd=>?_⟩
   obtain⟨hin,ha,hty⟩:=h.2 (.inr hd)
   obtain⟨g1,g2⟩:=hflat e d d xs xs _ p _ rfl hd hin ha
   exact⟨g1,g2,hty⟩
  |fill e d xs xs' ver' ver'' pin pin' i _ _ hlt hlen=>
   refine⟨Nat.le_trans h.1 (Nat.le_of_lt hlt),λhv=>?_⟩
   have hd:Ybf p=false:=by
    rcases hv with hv|hv
    ·exact absurd h.1 (by omega)
    ·exact hv
   obtain⟨hin,ha,hty⟩:=h.2 hd
   obtain⟨g1,g2⟩:=hflat e d d xs xs' _ p _ hlen hd hin ha
   exact⟨g1,g2,hty⟩
  |frz=>trivial
  |turn e d xs xs' ver' ver'' pin pin' _ _ hlt hlen=>
   refine⟨Nat.le_trans h.1 (Nat.le_of_lt hlt),λhv=>?_⟩
   have hd:Ybf p=false:=by
    rcases hv with hv|hv
    ·exact absurd h.1 (by omega)
    ·exact hv
   obtain⟨hin,ha,hty⟩:=h.2 (.inr hd)
   cases p with
   |nil=>exact⟨trivial,ha,hty⟩
   |cons q p=>
    cases q with
    |fst=>simp[InB]at hin
    |snd=>simp[InB]at hin
    |idx i=>
     simp only[InB]at hin⊢
     have hd':p.any XB=false:=hd
     refine⟨⟨by unfold inb at*;rw[hlen];exact hin.1,Ybm p e d d _ _ hd' hin.2⟩,?_,hty⟩
     simp only[Yz]at ha⊢
     split at ha
     ·rename_i a' _ _;rw[Yaj p e _ _ hd'];exact ha
     ·cases ha
  |flat e d xs xs' ver' pin _ _ hi hc=>
   refine⟨h.1,λhv=>?_⟩
   obtain⟨hin,ha,hty⟩:=h.2 hv
   exact⟨hi _ hin,Ycn hc ha,hty⟩
  |mturn=>trivial
  |box=>trivial
  |new=>exact h.elim
 have hc: ∀a cs,AVC w F H loc a cs->AVC w' F' H' loc' a cs:=by
  intro a
  induction a using AV.rec (motive_2:=λ_=>True)with
  |un=>exact λ_ h=>h
  |jk=>exact λ_ h=>h
  |val t x=>exact λcs h=>hrep t cs x h
  |nils=>exact λ_ h=>h
  |ref r ver p=>rintro cs ⟨v,h1,h2⟩;exact⟨v,h1,href r ver p v h2⟩
  |ptr=>exact λ_ h=>h
  |bptr r o=>rintro cs ⟨v,h1,h2⟩;exact⟨v,h1,hbptr r o v h2⟩
  |nv b r=>rintro cs ⟨v,h1,h2,h3⟩;exact⟨v,h1,href r 0 [] v h2,h3⟩
  |vptr=>exact λ_ h=>h
  |pr a b iha ihb=>rintro cs ⟨c1,c2,h1,h2,h3⟩;exact⟨c1,c2,h1,iha c1 h2,ihb c2 h3⟩
  |tup=>exact λ_ h=>h
  |clo=>exact λ_ h=>h
  |nil=>trivial
  |cons=>trivial
 refine⟨hc,?_⟩
 intro a v h
 cases a with
 |un=>trivial
 |jk=>trivial
 |tup=>exact h.elim
 |clo f l=>obtain⟨caps,h1,h2⟩:=h;exact⟨caps,h1,hcaps l caps h2⟩
 |ptr r ver t p=>exact hptr r ver t p v h
 |vptr t x=>obtain⟨b,o,cs,h1,h2,h3,h4⟩:=h;exact⟨b,o,cs,h1,hF b h2,h3.keep (hk b h2),hrep t cs x h4⟩
 |val t x=>obtain⟨cs,h1,h2⟩:=h;exact⟨cs,hc _ _ h1,h2⟩
 |nils=>obtain⟨cs,h1,h2⟩:=h;exact⟨cs,hc _ _ h1,h2⟩
 |ref r ver p=>obtain⟨cs,h1,h2⟩:=h;exact⟨cs,hc _ _ h1,h2⟩
 |bptr r o=>obtain⟨cs,h1,h2⟩:=h;exact⟨cs,hc _ _ h1,h2⟩
 |nv b r=>obtain⟨cs,h1,h2⟩:=h;exact⟨cs,hc _ _ h1,h2⟩
 |pr a b=>obtain⟨cs,h1,h2⟩:=h;exact⟨cs,hc _ _ h1,h2⟩
end Go.Va
namespace Go.Va
theorem Store.set_same (H:Store) (r:Nat) (x:Root):(H.set r x) r=x:=by simp[Store.set]
theorem Store.set_other (H:Store) {r r':Nat} (x:Root) (h:r'≠r):(H.set r x) r'=H r':=by simp[Store.set,h]
theorem Store.upd_append (H:Store) (u v:Ups):H.upd (u++v)=(H.upd u).upd v:=by
 induction u generalizing H with
 |nil=>rfl
 |cons q u ih=>exact ih _
def View (V H:Store):Prop:= ∀r,V r≠ .free->V r=H r
theorem View.refl (H:Store):View H H:=λ_ _=>rfl
theorem View.set {V H:Store} (h:View V H) (r:Nat) (x:Root):View (V.set r x) (H.set r x):=by
 intro r' hr'
 by_cases e:r'=r
 ·subst e;rw[Store.set_same,Store.set_same]
 ·rw[Store.set_other _ _ e]at hr'⊢;rw[Store.set_other _ _ e];exact h r' hr'
theorem View.upd {V H:Store} (h:View V H) (u:Ups):View (V.upd u) (H.upd u):=by
 induction u generalizing V H with
 |nil=>exact h
 |cons q u ih=>exact ih (h.set q.1 q.2)
theorem View.arr {V H:Store} (h:View V H) {r:Nat} {R:Root} (hv:V r=R) (hn:R≠ .free):H r=R:=by
 rw[←h r (by rw[hv];exact hn),hv]
def Lv (w:World) (n:Nat) (o:Obj):Prop:=w.heap[n]? =some o
theorem Lv.lt {w:World} {n:Nat} {o:Obj} (h:Lv w n o):n<w.heap.size:=by
 rcases Nat.lt_or_ge n w.heap.size with h'|h'
 ·exact h'
 ·unfold Lv at h;rw[Array.getElem?_eq_none h']at h;cases h
theorem Blk.lv {w:World} {n:Nat} {c:List Value} (h:Blk w n c): ∃o,Lv w n o:=by obtain⟨t,h⟩:=h;exact⟨_,h⟩
theorem RootOk.keep {w w':World} {F F':Fp} {H H':Store} {loc loc':Loc} {R:Root} {l:Value} {fp:Fp} (h:RootOk w F H loc R l fp) (k:Keep w F H loc w' F' H' loc')
  (hF: ∀n,F n->F' n) (hk: ∀n,F n->w'.heap[n]? =w.heap[n]?) (hm: ∀n,fp n->w'.heap[n]? =w.heap[n]?):RootOk w' F' H' loc' R l fp:=by
 cases R with
 |free=>exact h
 |gone=>exact h
 |box c=>obtain⟨b,cs,h1,h2,h3,h4,h5⟩:=h;exact⟨b,cs,h1,h2.keep (hm b ((h4 b).2 rfl)),h3,h4,λj a v ha hv=>⟨k.c _ _ (h5 j a v ha hv).1,(h5 j a v ha hv).2⟩⟩
 |arr e d xs ver pin=>exact Rep.mono hF _ (Rep.keep _ h hk hm)
 |fz e xs=>exact Rep.mono hF _ (Rep.keep _ h hk hm)
 |pz t x=>exact Rep.mono hF _ (Rep.keep _ h hk hm)
 |mp ks=>obtain⟨b,h1,h2,es,cl,h3,h4⟩:=h;exact⟨b,h1,h2,es,cl,(hm b ((h2 b).2 rfl)).trans h3,h4⟩
 |kz f q=>obtain⟨h0,b,caps,h1,h2,h3,h4,h5⟩:=h;exact⟨h0,b,caps,h1,hF b h2,by rw[←h3];simp[World.cell?,hk b h2],h4,λi r c hr hc=>by
   obtain⟨v,e,hb⟩:=k.c (.bptr r 0) [c] ⟨c,rfl,h5 i r c hr hc⟩
   rw[(List.cons.inj e).1];exact hb⟩
 |ho e d xs ver pin i=>exact HoR.mono (HoR.keep h hk hm) hF
 |bf e xs n ver pin=>exact⟨BfR.mono (BfR.keep h.1 hk hm) hF,h.2⟩
 |lnk r ver j=>exact⟨h.1,k.c _ _ h.2⟩
theorem RootOk.live {w:World} {F:Fp} {H:Store} {loc:Loc} {R:Root} {l:Value} {fp:Fp} (h:RootOk w F H loc R l fp) (n:Nat) (hn:fp n): ∃c,Lv w n c:=by
 cases R with
 |free=>exact(h n hn).elim
 |gone=>exact(h n hn).elim
 |box c=>obtain⟨b,cs,h1,h2,h3,h4,h5⟩:=h;rw[(h4 n).1 hn];exact h2.lv
 |mp ks=>obtain⟨b,h1,h2,es,cl,h3,h4⟩:=h;rw[(h2 n).1 hn];exact⟨_,h3⟩
 |arr e d xs ver pin=>obtain⟨c,hc⟩:=Rep.live _ h n hn;exact hc.lv
 |fz e xs=>obtain⟨c,hc⟩:=Rep.live _ h n hn;exact hc.lv
 |pz t x=>obtain⟨c,hc⟩:=Rep.live _ h n hn;exact hc.lv
 |kz f q=>exact(h.1 n hn).elim
 |ho e d xs ver pin i=>obtain⟨c,hc⟩:=HoR.live h n hn;exact hc.lv
 |bf e xs n' ver pin=>obtain⟨c,hc⟩:=BfR.live h.1 n hn;exact hc.lv
 |lnk r ver j=>exact(h.1 n hn).elim
structure Taken (w:World) (F:Fp) (H:Store) (loc:Loc) (fp:Nat->Fp) (u:Ups) (F':Fp) (fp':Nat->Fp) (f:Fp):Prop where
 roots:Roots w F' (H.upd u) loc fp'
 mono: ∀n,F n->F' n
 from_: ∀n,F' n->F n∨ ∃r,fp r n
 sub: ∀r n,fp' r n->fp r n
 own: ∀n,f n-> ∃r,fp r n
 offR: ∀n r,f n-> ¬fp' r n
 offF: ∀n,f n-> ¬F' n
 keep:Keep w F H loc w F' (H.upd u) loc
 kept: ∀r,(∀q∈u,q.1≠r)->fp' r=fp r
theorem Taken.nil {w:World} {F:Fp} {H:Store} {loc:Loc} {fp:Nat->Fp} (h:Roots w F H loc fp):Taken w F H loc fp [] F fp Fp.none:=
 ⟨h,λ_ h=>h,λ_ h=> .inl h,λ_ _ h=>h,λ_ h=>h.elim,λ_ _ h=>h.elim,λ_ h=>h.elim,Keep.refl ..,λ_ _=>rfl⟩
theorem Taken.seq {w:World} {F F1 F2:Fp} {H:Store} {loc:Loc} {fp fp1 fp2:Nat->Fp} {u1 u2:Ups} {f1 f2:Fp}
  (h1:Taken w F H loc fp u1 F1 fp1 f1) (h2:Taken w F1 (H.upd u1) loc fp1 u2 F2 fp2 f2):
  Taken w F H loc fp (u1++u2) F2 fp2 (λn=>f1 n∨f2 n)/\(∀n,f1 n->f2 n->False):=by
 refine⟨⟨by rw[Store.upd_append];exact h2.roots,λn h=>h2.mono n (h1.mono n h),?_,λr n h=>h1.sub r n (h2.sub r n h),?_,?_,?_,by rw[Store.upd_append];exact h1.keep.trans h2.keep,λr h=>(h2.kept r λq hq=>h q (List.mem_append_right _ hq)).trans (h1.kept r λq hq=>h q (List.mem_append_left _ hq))⟩,?_⟩
 ·intro n h
  rcases h2.from_ n h with h|⟨r,h⟩
  ·exact h1.from_ n h
  ·exact .inr ⟨r,h1.sub r n h⟩
 ·rintro n (h|h)
  ·exact h1.own n h
  ·obtain⟨r,h⟩:=h2.own n h;exact⟨r,h1.sub r n h⟩
 ·rintro n r (h|h) hf
  ·exact h1.offR n r h (h2.sub r n hf)
  ·exact h2.offR n r h hf
 ·rintro n (h|h) hf
  ·rcases h2.from_ n hf with hf|⟨r,hf⟩
   ·exact h1.offF n h hf
   ·exact h1.offR n r h hf
  ·exact h2.offF n h hf
 ·intro n h h'
  obtain⟨r,h'⟩:=h2.own n h'
  exact h1.offR n r h h'
section
variable {w:World} {F:Fp} {H V:Store} {loc:Loc} {fp:Nat->Fp}
theorem Taken.one' {r:Nat} {R':Root} (h:Roots w F H loc fp) {F' f:Fp} (hr:RS w w (H r) R' (loc r) (loc r) (fp r)) (hF: ∀n,F n->F' n) (hF': ∀n,F' n->F n∨fp r n)
  (hf: ∀n,f n->fp r n/\ ¬F' n) (hok:Keep w F H loc w F' (H.set r R') loc->RootOk w F' (H.set r R') loc R' (loc r) Fp.none):
  Taken w F H loc fp [(r,R')] F' (λr'=>if r'=r then Fp.none else fp r') f:=by
 have hk:Keep w F H loc w F' (H.set r R') loc:=Yas h hF (λ_ _=>rfl) λr'=>by
  by_cases e:r'=r
  ·subst e;rw[Store.set_same];exact hr
  ·rw[Store.set_other _ _ e];exact .same _ _ _ λ_ _=>rfl
 refine⟨⟨λr'=>?_,?_,?_,?_⟩,hF,λn h=>(hF' n h).imp id λh=>⟨r,h⟩,?_,λn h=>⟨r,(hf n h).1⟩,?_,λn h=>(hf n h).2,hk,λr' h=>by
  have:r'≠r:=λe=>h (r,R') (List.mem_cons_self ..) e.symm
  simp[this]⟩
 ·show RootOk w F' (H.set r R') loc ((H.set r R') r') (loc r') _
  by_cases e:r'=r
  ·subst e;rw[Store.set_same];simp;exact hok hk
  ·rw[Store.set_other _ _ e];simp[e];exact(h.ok r').keep hk hF (λ_ _=>rfl) λ_ _=>rfl
 ·intro r1 r2 n h1 h2
  by_cases e1:r1=r
  ·simp[e1]at h1;exact h1.elim
  ·by_cases e2:r2=r
   ·simp[e2]at h2;exact h2.elim
   ·simp[e1]at h1;simp[e2]at h2;exact h.disj r1 r2 n h1 h2
 ·intro r1 n h1 hn
  by_cases e1:r1=r
  ·simp[e1]at h1;exact h1.elim
  ·simp[e1]at h1
   rcases hF' n hn with hn|hn
   ·exact h.frz r1 n h1 hn
   ·exact e1 (h.disj r1 r n h1 hn)
 ·intro n hn
  rcases hF' n hn with hn|hn
  ·exact h.dom n hn
  ·obtain⟨c,hc⟩:=(h.ok r).live n hn;exact hc.lt
 ·intro r1 n h1
  by_cases e1:r1=r
  ·simp[e1]at h1;exact h1.elim
  ·simp[e1]at h1;exact h1
 ·intro n r1 hn h1
  by_cases e1:r1=r
  ·simp[e1]at h1;exact h1.elim
  ·simp[e1]at h1;exact e1 (h.disj r1 r n h1 (hf n hn).1)
theorem Taken.one {r:Nat} {R':Root} (h:Roots w F H loc fp) {F' f:Fp} (hr:RS w w (H r) R' (loc r) (loc r) (fp r)) (hF: ∀n,F n->F' n) (hF': ∀n,F' n->F n∨fp r n)
  (hf: ∀n,f n->fp r n/\ ¬F' n) (hok: ∀H',RootOk w F' H' loc R' (loc r) Fp.none):
  Taken w F H loc fp [(r,R')] F' (λr'=>if r'=r then Fp.none else fp r') f:=Taken.one' h hr hF hF' hf λ_=>hok _
theorem Taken.part {r:Nat} {R':Root} (h:Roots w F H loc fp) {f g:Fp} (hr:RS w w (H r) R' (loc r) (loc r) (fp r)) (hf: ∀n,f n->fp r n) (hg: ∀n,g n->fp r n) (hd: ∀n,f n->g n->False) (hok: ∀H',RootOk w F H' loc R' (loc r) g):
  Taken w F H loc fp [(r,R')] F (λr'=>if r'=r then g else fp r') f:=by
 have hk:Keep w F H loc w F (H.set r R') loc:=Yas h (λ_ h=>h) (λ_ _=>rfl) λr'=>by
  by_cases e:r'=r
  ·subst e;rw[Store.set_same];exact hr
  ·rw[Store.set_other _ _ e];exact .same _ _ _ λ_ _=>rfl
 have hsub: ∀r1 n,(if r1=r then g else fp r1) n->fp r1 n:=λr1 n h1=>by
  by_cases e1:r1=r
  ·subst e1;simp at h1;exact hg n h1
  ·simp[e1]at h1;exact h1
 refine⟨⟨λr'=>?_,λr1 r2 n h1 h2=>h.disj r1 r2 n (hsub r1 n h1) (hsub r2 n h2),λr1 n h1=>h.frz r1 n (hsub r1 n h1),h.dom⟩,λ_ h=>h,λ_ h=> .inl h,hsub,λn h=>⟨r,hf n h⟩,?_,λn hn=>h.frz r n (hf n hn),hk,λr' h=>by
  have:r'≠r:=λe=>h (r,R') (List.mem_cons_self ..) e.symm
  simp[this]⟩
 ·show RootOk w F (H.set r R') loc ((H.set r R') r') (loc r') _
  by_cases e:r'=r
  ·subst e;rw[Store.set_same];simp;exact hok _
  ·rw[Store.set_other _ _ e];simp[e];exact(h.ok r').keep hk (λ_ h=>h) (λ_ _=>rfl) λ_ _=>rfl
 ·intro n r1 hn h1
  by_cases e1:r1=r
  ·subst e1;simp at h1;exact hd n hn h1
  ·simp[e1]at h1;exact e1 (h.disj r1 r n h1 (hf n hn))
theorem Rep.fpEq {t:Ty} {d:Nat} {cs:List Value} {x:t.den} {f g:Fp} (h:Rep w F t d cs x f) (e: ∀n,f n↔g n):Rep w F t d cs x g:=by rw[←Fp.eq e];exact h
theorem Yw: ∀(a:AV) {F:Fp} {H V:Store} {fp:Nat->Fp} {t:Ty} {d:Nat} {x:t.den} {u:Ups} {cs:List Value},Roots w F H loc fp->View V H->AVC w F H loc a cs->Ya V a t d=some (x,u)->
  ∃F' fp' f,Taken w F H loc fp u F' fp' f/\Rep w F' t d cs x f
 | .nils,F,H,V,fp,t,d,x,u,cs,hR,hV,hc,ht=>by
  cases t with
  |slice e=>
   simp only[Ya,Option.some.injEq,Prod.mk.injEq]at ht
   obtain⟨rfl,rfl⟩:=ht
   have hc:cs= [.slice none 0 0]:=hc
   subst hc
   exact⟨F,fp,Fp.none,Taken.nil hR,Rep.zero (.slice e) d⟩
  |_=>simp[Ya]at ht
 | .val s y,F,H,V,fp,t,d,x,u,cs,hR,hV,hc,ht=>by
  simp only[Ya]at ht
  split at ht
  rotate_left
  ·cases ht
  rename_i hd
  split at ht
  rotate_left
  ·cases ht
  rename_i z hz
  simp only[Option.some.injEq,Prod.mk.injEq]at ht
  obtain⟨rfl,rfl⟩:=ht
  have hr:Rep w F t 0 cs z Fp.none:=Rep.cast hz hc
  refine⟨F,fp,Fp.none,Taken.nil hR,?_⟩
  rcases hd with rfl|hd
  ·exact hr
  ·have:=YI hz;subst this;exact Rep.alone s (.inl (by omega)) (.inl (by omega)) hr
 | .pr a b,F,H,V,fp,t,d,x,u,cs,hR,hV,hc,ht=>by
  cases t with
  |pair s s'=>
   obtain⟨c1,c2,rfl,hc1,hc2⟩:=hc
   simp only[Ya]at ht
   split at ht
   rotate_left
   ·cases ht
   rename_i x1 u1 h1
   split at ht
   rotate_left
   ·cases ht
   rename_i x2 u2 h2
   simp only[Option.some.injEq,Prod.mk.injEq]at ht
   obtain⟨rfl,rfl⟩:=ht
   obtain⟨F1,fp1,f1,ht1,hr1⟩:=Yw a hR hV hc1 h1
   obtain⟨F2,fp2,f2,ht2,hr2⟩:=Yw b ht1.roots (hV.upd u1) (ht1.keep.c _ _ hc2) h2
   obtain⟨ht,hd⟩:=ht1.seq ht2
   exact⟨F2,fp2,_,ht,c1,c2,f1,f2,rfl,λ_=>Iff.rfl,hd,Rep.mono ht2.mono s hr1,hr2⟩
  |_=>simp[Ya]at ht
 | .ref r ver [],F,H,V,fp,t,d,x,u,cs,hR,hV,hc,ht=>by
  cases t with
  |slice e=>
   obtain⟨v,rfl,hv⟩:=hc
   simp only[Ya]at ht
   split at ht
   ·rename_i e' d' xs ver' hVr
    have hHr:H r= .arr e' d' xs ver' false:=hV.arr hVr (by simp)
    have hok:=hR.ok r
    rw[hHr]at hok
    have hvl:v=loc r:=by obtain⟨_,hv⟩:=hv;rw[hHr]at hv;exact hv.2.1 rfl
    subst hvl
    split at ht
    rotate_left
    ·cases ht
    rename_i ys hys
    cases d with
    |zero=>
     simp only[Option.some.injEq,Prod.mk.injEq]at ht
     obtain⟨rfl,rfl⟩:=ht
     have hfz:Rep w (λn=>F n∨fp r n) (.slice e') 0 [loc r] xs Fp.none:=Rep.freeze (λ_ h=> .inl h) (.slice e') hok λ_ h=> .inr h
     refine⟨λn=>F n∨fp r n,_,Fp.none,Taken.one (r:=r) (R':= .fz e' xs) (F':=λn=>F n∨fp r n) (f:=Fp.none) hR (by rw[hHr];exact .frz ..) (λ_ h=> .inl h) (λ_ h=>h) (λ_ h=>h.elim) (λ_=>hfz),Rep.cast hys hfz⟩
    |succ d1=>
     dsimp only at ht
     split at ht
     rotate_left
     ·cases ht
     rename_i hdd
     simp only[Option.some.injEq,Prod.mk.injEq]at ht
     obtain⟨rfl,rfl⟩:=ht
     by_cases h0:d1=0
     ·subst h0
      obtain⟨f1,g1,g2⟩:=Rep.freeze1 hok
      exact⟨λn=>F n∨(fp r n/\ ¬f1 n),_,f1,Taken.one (r:=r) (R':= .gone) (F':=λn=>F n∨(fp r n/\ ¬f1 n)) (f:=f1) hR (.gone ..) (λ_ h=> .inl h) (λ_ h=>h.imp id (·.1)) (λn h=>⟨g1 n h,λh'=>h'.elim (hR.frz r n (g1 n h)) λh'=>h'.2 h⟩) (λ_ _ h=>h),Rep.cast hys (g2 _ (λ_ h=> .inl h) λn h h'=> .inr ⟨h,h'⟩)⟩
     refine⟨F,_,fp r,Taken.one (r:=r) (R':= .gone) (F':=F) (f:=fp r) hR (.gone ..) (λ_ h=>h) (λ_ h=> .inl h) (λn h=>⟨h,hR.frz r n h⟩) (λ_ _ h=>h),?_⟩
     refine Rep.cast hys ?_
     rcases hdd with rfl|h1|⟨g1,g2⟩
     ·exact hok
     ·exact absurd h1 h0
     ·exact Rep.alone (.slice e') (.inr (by simp only[Ty.dep];omega)) (.inr (by simp only[Ty.dep];omega)) hok
   ·rename_i e' xs hVr
    have hHr:H r= .fz e' xs:=hV.arr hVr (by simp)
    have hok:=hR.ok r
    rw[hHr]at hok
    have hvl:v=loc r:=by obtain⟨_,hv⟩:=hv;rw[hHr]at hv;exact hv rfl
    subst hvl
    cases d with
    |zero=>
     simp only at ht
     split at ht
     rotate_left
     ·cases ht
     rename_i ys hys
     simp only[Option.some.injEq,Prod.mk.injEq]at ht
     obtain⟨rfl,rfl⟩:=ht
     have hn:=Rep.none0 _ hok
     exact⟨F,fp,Fp.none,Taken.nil hR,Rep.cast hys (Rep.fpEq hok λn=>⟨λh=>(hn n h).elim,λh=>h.elim⟩)⟩
    |succ d1=>simp at ht
   ·rename_i e' xs n ver' hVr
    have hHr:H r= .bf e' xs n ver' false:=hV.arr hVr (by simp)
    have hok:=hR.ok r
    rw[hHr]at hok
    have hvl:v=loc r:=by obtain⟨_,hv⟩:=hv;rw[hHr]at hv;exact hv.2.1 rfl
    subst hvl
    have hrep:Rep w F (.slice e') 1 [loc r] (xs.take n.toNat:List e'.den) (fp r):=BfR.rep1 hok.1 hok.2
    split at ht
    rotate_left
    ·cases ht
    rename_i ys hys
    match d with
    |0=>
     simp only[Option.some.injEq,Prod.mk.injEq]at ht
     obtain⟨rfl,rfl⟩:=ht
     have hfz:Rep w (λn=>F n∨fp r n) (.slice e') 0 [loc r] (xs.take n.toNat:List e'.den) Fp.none:=Rep.freeze (λ_ h=> .inl h) (.slice e') hrep λ_ h=> .inr h
     exact⟨λn=>F n∨fp r n,_,Fp.none,Taken.one (r:=r) (R':= .fz e' (xs.take n.toNat)) (F':=λn=>F n∨fp r n) (f:=Fp.none) hR (by rw[hHr];exact .bfz ..) (λ_ h=> .inl h) (λ_ h=>h) (λ_ h=>h.elim) (λ_=>hfz),Rep.cast hys hfz⟩
    |1=>
     simp only[Option.some.injEq,Prod.mk.injEq]at ht
     obtain⟨rfl,rfl⟩:=ht
     exact⟨F,_,fp r,Taken.one (r:=r) (R':= .gone) (F':=F) (f:=fp r) hR (.gone ..) (λ_ h=>h) (λ_ h=> .inl h) (λn h=>⟨h,hR.frz r n h⟩) (λ_ _ h=>h),Rep.cast hys hrep⟩
    |d+2=>cases ht
   ·cases ht
  |smap kd=>
   obtain⟨v,rfl,hv⟩:=hc
   simp only[Ya]at ht
   split at ht
   rotate_left
   ·cases ht
   rename_i ks hVr
   split at ht
   rotate_left
   ·cases ht
   rename_i hd
   obtain⟨hd,rfl⟩:=hd
   cases ht
   have hHr:=hV.arr hVr (by simp)
   have hok:=hR.ok r
   rw[hHr]at hok
   have hvl:v=loc r:=by obtain⟨_,hv⟩:=hv;rw[hHr]at hv;exact hv rfl
   subst hvl
   obtain⟨b,h1,h2,h3⟩:=hok
   refine⟨λn=>F n∨fp r n,_,Fp.none,Taken.one (r:=r) (R':= .gone) (F':=λn=>F n∨fp r n) (f:=Fp.none) hR (.gone ..) (λ_ h=> .inl h) (λ_ h=>h) (λ_ h=>h.elim) (λ_ _ h=>h),λ_ h=>h,.inr ⟨hd,b,by rw[h1],.inr ((h2 b).2 rfl),h3⟩⟩
  |_=>simp[Ya]at ht
 | .ref r ver [.idx j],F,H,V,fp,.slice e,d+1,x,u,cs,hR,hV,hc,ht=>by
  simp only[Ya]at ht
  split at ht
  rotate_left
  ·cases ht
  rename_i e' d' xs ver' hVr
  split at ht
  rotate_left
  ·cases ht
  rename_i hdd
  obtain⟨rfl,rfl⟩:=hdd
  split at ht
  rotate_left
  ·cases ht
  rename_i ys hys
  cases ht
  have hty:=YI hys
  injection hty with hty
  subst hty
  have hys:=YM hys
  subst hys
  have hHr:H r= .arr (.slice e) (d+1) ys ver false:=hV.arr hVr (by simp)
  have hok:=hR.ok r
  rw[hHr]at hok
  obtain⟨v,rfl,_,hv⟩:=hc
  rw[hHr]at hv
  obtain⟨hin,b0,o0,ha,hcell,_⟩:=hv.2.2 (by simp) rfl
  have hin1:inb (α:=List e.den) j ys:=hin.1
  have hnth:=YaH (d:=([]:List e.den)) hin1
  have hlt:j.toNat<List.length (α:=List e.den) ys:=Ye hnth
  rcases hok with ⟨_,hx,_⟩|⟨b1,len,cap,c1,fps,hl0,hb1,hcl,hl,hle,hfp,h1,h2,hx⟩
  ·have h9:List.length (α:=List e.den) ys=0:=congrArg (List.length (α:=List e.den)) hx
   omega
  simp only[List.cons.injEq,and_true]at hl0
  have hl':List.length (α:=List e.den) ys=len:=hl
  have hj:j.toNat<len:=by omega
  have hcl':c1.length=cap:=by simpa[Ty.cells]using hcl
  have hrow:=hx _ _ hnth
  simp only[Yz,hl0,Yo,Option.some.injEq,Prod.mk.injEq]at ha
  obtain⟨rfl,rfl⟩:=ha
  have hseg:(c1.drop (j.toNat*(Ty.slice e).cells)).take (Ty.slice e).cells= [v]:=by
   have h3:c1[j.toNat]? =some v:=by
    rw[←hb1.lies,←hcell];simp[Ty.cells]
   simp only[Ty.cells,Nat.mul_one]
   have hlt3:j.toNat<c1.length:=by omega
   rw[List.drop_eq_getElem_cons hlt3,List.take_succ_cons,List.take_zero]
   rw[List.getElem?_eq_getElem hlt3]at h3
   injection h3 with h3;rw[h3]
  rw[hseg]at hrow
  have hfr:=hR.frz r
  refine⟨F,_,fps j.toNat,Taken.part (r:=r) (R':= .ho (.slice e) (d+1) ys (ver+1) false j) (f:=fps j.toNat) (g:=λn=>n=b1∨ ∃i,i<len/\(i≠j.toNat/\fps i n)) hR (by rw[hHr];exact .hole _ _ _ _ _ _ _ _ _ _ (by omega)) (λn hn=>(hfp n).2 (.inr ⟨_,hj,hn⟩)) (λn hn=>(hfp n).2 (hn.imp id λ⟨i,h3,_,h4⟩=>⟨i,h3,h4⟩)) (λn h3 h4=>?_) (λ_=>?_),hrow⟩
  ·rcases h4 with rfl|⟨i,g1,g2,g3⟩
   ·exact h1 _ hj h3
   ·exact g2 (h2 _ _ _ g1 hj g3 h3)
  ·refine HoR.mk1 ⟨b1,len,cap,c1,λi n=>i≠j.toNat/\fps i n,hl0,hb1,hcl,hl,hle,λ_=>Iff.rfl,λi hi h3=>h1 i hi h3.2,λi k n hi hk h3 h4=>h2 i k n hi hk h3.2 h4.2,λn h3=>h3.1 rfl,hin1,λk x hk hi=>?_,λ_ _=>trivial⟩
   refine Rep.fpEq (hx k x hi) λn=>⟨λh=>⟨hk,h⟩,λh=>h.2⟩
 | .ref r ver [.idx j,.fst],F,H,V,fp,.slice e,d+1,x,u,cs,hR,hV,hc,ht=>by
  simp only[Ya]at ht
  split at ht
  rotate_left
  ·cases ht
  rename_i e' d' ys ver' hVr
  split at ht
  rotate_left
  ·cases ht
  rename_i hver
  subst hver
  split at ht
  rotate_left
  ·cases ht
  rename_i y hy
  cases ht
  cases e' with
  |pair a b=>
   simp only[Yhf]at hy
   by_cases hdd:dl d'=d+1/\2000<=d'
   rotate_left
   ·have hy:=(if_neg hdd).symm.trans hy
    cases hy
   have hy:=(if_pos hdd).symm.trans hy
   obtain⟨hd1,hd2⟩:=hdd
   have hty:=YI hy
   subst hty
   have hy:=YM hy
   subst hy
   have hdr:dr d'=0:=by
    have:Nat.ble 2000 d'=true:=Nat.ble_eq_true_of_le hd2
    unfold dr;rw[this]
   have hHr:H r= .arr (.pair (.slice e) b) d' ys ver false:=hV.arr hVr (by simp)
   have hok:=hR.ok r
   rw[hHr]at hok
   obtain⟨v,rfl,_,hv⟩:=hc
   rw[hHr]at hv
   obtain⟨hin,b0,o0,ha,hcell,_⟩:=hv.2.2 (by simp) rfl
   have hin1:inb (α:=List e.den×b.den) j ys:=hin.1
   have hnth:=YaH (d:=(Ty.dflt (.pair (.slice e) b):List e.den×b.den)) hin1
   have hlt:j.toNat<List.length (α:=List e.den×b.den) ys:=Ye hnth
   rcases hok with ⟨_,hx,_⟩|⟨b1,len,cap,c1,fps,hl0,hb1,hcl,hl,hle,hfp,h1,h2,hx⟩
   ·have h9:List.length (α:=List e.den×b.den) ys=0:=congrArg (List.length (α:=List e.den×b.den)) hx
    omega
   simp only[List.cons.injEq,and_true]at hl0
   have hl':List.length (α:=List e.den×b.den) ys=len:=hl
   have hj:j.toNat<len:=by omega
   have hrow:=hx _ _ hnth
   simp only[Yz,hl0,Yo,Option.some.injEq,Prod.mk.injEq]at ha
   obtain⟨rfl,rfl⟩:=ha
   obtain⟨k1,k2,f1,f2,hk,hff,hfd,r1,r2⟩:=hrow
   rw[hdr]at r2
   rw[hd1]at r1
   have hn2:=Rep.none0 _ r2
   have hf1: ∀n,f1 n↔fps j.toNat n:=λn=>⟨λh=>(hff n).2 (.inl h),λh=>((hff n).1 h).elim id λh=>(hn2 n h).elim⟩
   have hk1:=Rep.len _ r1
   have hk1:k1.length=1:=hk1
   have hseg:k1= [v]:=by
    have h3:(((c1.drop (j.toNat*(Ty.pair (.slice e) b).cells)).take (Ty.pair (.slice e) b).cells))[0]? =k1[0]? :=by rw[hk,List.getElem?_append_left (by omega)]
    rw[List.getElem?_take,if_pos (by simp only[Ty.cells];omega),List.getElem?_drop,Nat.add_zero,←hb1.lies]at h3
    have hc3:w.cell? ⟨b1,j.toNat*(Ty.pair (.slice e) b).cells,none⟩=some v:=by simpa using hcell
    rw[hc3]at h3
    match k1,hk1 with
    | [z],_=>simp at h3;rw[h3]
   subst hseg
   refine⟨F,_,f1,Taken.part (r:=r) (R':= .ho (.pair (.slice e) b) d' ys (ver+1) false j) (f:=f1) (g:=λn=>n=b1∨ ∃i,i<len/\(i≠j.toNat/\fps i n)) hR (by rw[hHr];exact .hole _ _ _ _ _ _ _ _ _ _ (by omega)) (λn hn=>(hfp n).2 (.inr ⟨_,hj,(hf1 n).1 hn⟩)) (λn hn=>(hfp n).2 (hn.imp id λ⟨i,h3,_,h4⟩=>⟨i,h3,h4⟩)) (λn h3 h4=>?_) (λ_=>?_),r1⟩
   ·have h3:=(hf1 n).1 h3
    rcases h4 with rfl|⟨i,g1,g2,g3⟩
    ·exact h1 _ hj h3
    ·exact g2 (h2 _ _ _ g1 hj g3 h3)
   ·refine HoR.mk1 ⟨b1,len,cap,c1,λi n=>i≠j.toNat/\fps i n,hl0,hb1,hcl,hl,hle,λ_=>Iff.rfl,λi hi h3=>h1 i hi h3.2,λi k n hi hk h3 h4=>h2 i k n hi hk h3.2 h4.2,λn h3=>h3.1 rfl,hin1,λk x hk hi=>?_,λz hz _=>?_⟩
    ·refine Rep.fpEq (hx k x hi) λn=>⟨λh=>⟨hk,h⟩,λh=>h.2⟩
    ·have ez:z=gd (α:=List e.den×b.den) ys j (Ty.dflt (.pair (.slice e) b):List e.den×b.den):=by
      rw[hnth]at hz;exact(Option.some.inj hz).symm
     subst ez
     rw[hk]
     exact Rep.fpEq r2 λn=>⟨λh=>(hn2 n h).elim,λh=>h.elim⟩
  |_=>simp[Yhf]at hy
 | .ref r ver (q::p),F,H,V,fp,.slice e,0,x,u,cs,hR,hV,hc,ht=>by
  simp only[Ya]at ht
  split at ht
  rotate_left
  ·cases ht
  rename_i e' d' xs ver' hVr
  split at ht
  rotate_left
  ·cases ht
  rename_i hver
  split at ht
  rotate_left
  ·cases ht
  rename_i g hg
  split at ht
  rotate_left
  ·cases ht
  rename_i ys hys
  cases ht
  have hHr:H r= .arr e' d' xs ver' false:=hV.arr hVr (by simp)
  have hok:=hR.ok r
  rw[hHr]at hok
  obtain⟨v,rfl,_,hv⟩:=hc
  rw[hHr]at hv
  obtain⟨hin,b,o,ha,hcell,_⟩:=hv.2.2 (by simp) hver
  cases q with
  |fst=>simp[InB]at hin
  |snd=>simp[InB]at hin
  |idx i=>
   obtain⟨b',o',f,ha',hA,hf,_,_⟩:=YaG (XG p) i w F e' d' (loc r) xs (fp r) g hok hin hg
   rw[ha]at ha';injection ha' with ha';injection ha' with e1 e2;subst e1;subst e2
   have hgt:=YI hys
   obtain⟨gt,gd,gx⟩:=g
   dsimp only at hgt;subst hgt
   obtain⟨h,hh,hr⟩:=hA.hdr
   rw[hcell]at hh;injection hh with hh;subst hh
   have hfz:Rep w (λn=>F n∨fp r n) (.slice e') 0 [loc r] xs Fp.none:=Rep.freeze (λ_ h=> .inl h) (.slice e') hok λ_ h=> .inr h
   refine⟨λn=>F n∨fp r n,_,Fp.none,Taken.one (r:=r) (R':= .fz e' xs) (F':=λn=>F n∨fp r n) (f:=Fp.none) hR (by rw[hHr];exact .frz ..) (λ_ h=> .inl h) (λ_ h=>h) (λ_ h=>h.elim) (λ_=>hfz),?_⟩
   exact Rep.cast hys (Rep.freeze (λ_ h=> .inl h) _ hr λn hn=> .inr (hf n hn))
 | .ref r ver (q::p),_,_,_,_,.num _,_,_,_,_,_,_,_,ht=>by simp[Ya]at ht
 | .ref r ver (q::p),_,_,_,_,.bool,_,_,_,_,_,_,_,ht=>by simp[Ya]at ht
 | .ref r ver (q::p),_,_,_,_,.str,_,_,_,_,_,_,_,ht=>by simp[Ya]at ht
 | .ref r ver (q::p),_,_,_,_,.pair _ _,_,_,_,_,_,_,_,ht=>by simp[Ya]at ht
 | .ref r ver (q::p),_,_,_,_,.fn _,_,_,_,_,_,_,_,ht=>by simp[Ya]at ht
 | .ref r ver (q::p),_,_,_,_,.smap _,_,_,_,_,_,_,_,ht=>by simp[Ya]at ht
 | .ref r ver (q::p),_,_,_,_,.op _,_,_,_,_,_,_,_,ht=>by simp[Ya]at ht
 | .ref r ver (q::p),_,_,_,_,.ptr _,_,_,_,_,_,_,_,ht=>by simp[Ya]at ht
 | .ref r ver (q::p),_,_,_,_,.fc _ _,_,_,_,_,_,_,_,ht=>by simp[Ya]at ht
 | .ref r ver (.fst::p),_,_,_,_,.slice e,d+1,_,_,_,_,_,_,ht=>by simp[Ya]at ht
 | .ref r ver (.snd::p),_,_,_,_,.slice e,d+1,_,_,_,_,_,_,ht=>by simp[Ya]at ht
 | .ref r ver (.idx j:: .snd::p),_,_,_,_,.slice e,d+1,_,_,_,_,_,_,ht=>by simp[Ya]at ht
 | .ref r ver (.idx j:: .idx _::p),_,_,_,_,.slice e,d+1,_,_,_,_,_,_,ht=>by simp[Ya]at ht
 | .ref r ver (.idx j:: .fst::q::p),_,_,_,_,.slice e,d+1,_,_,_,_,_,_,ht=>by simp[Ya]at ht
 | .clo _ _,_,_,_,_,t,_,_,_,_,_,_,_,ht=>by cases t<;>simp[Ya]at ht
 | .un,_,_,_,_,t,_,_,_,_,_,_,_,ht=>by cases t<;>simp[Ya]at ht
 | .jk _,_,_,_,_,t,_,_,_,_,_,_,_,ht=>by cases t<;>simp[Ya]at ht
 | .ptr _ _ _ _,_,_,_,_,t,_,_,_,_,_,_,_,ht=>by cases t<;>simp[Ya]at ht
 | .bptr _ _,_,_,_,_,t,_,_,_,_,_,_,_,ht=>by cases t<;>simp[Ya]at ht
 | .vptr _ _,_,_,_,_,t,_,_,_,_,_,_,_,ht=>by cases t<;>simp[Ya]at ht
 | .tup _,_,_,_,_,t,_,_,_,_,_,_,_,ht=>by cases t<;>simp[Ya]at ht
 | .nv _ _,_,_,_,_,t,_,_,_,_,_,_,_,ht=>by cases t<;>simp[Ya]at ht
theorem YcY {kd:MK} {a:AV} {F:Fp} {H V:Store} {fp:Nat->Fp} {ks:List ByteArray} {u:Ups} {cs:List Value} (hR:Roots w F H loc fp) (hV:View V H) (hc:AVC w F H loc a cs) (ht:YbB V kd a=some (ks,u)):
  ∃fp' f,Taken w F H loc fp u F fp' f/\ ∃b,cs= [.map (some b)]/\(∀n,f n↔n=b)/\Yde w b kd ks:=by
 unfold YbB at ht
 split at ht
 rotate_left
 ·cases ht
 rename_i r ver
 split at ht
 rotate_left
 ·cases ht
 rename_i ks' hVr
 split at ht
 rotate_left
 ·cases ht
 rename_i hkd
 subst hkd
 cases ht
 have hHr:H r= .mp _ ks:=hV.arr hVr (by simp)
 have hok:=hR.ok r
 rw[hHr]at hok
 obtain⟨v,rfl,hv⟩:=hc
 have hvl:v=loc r:=by obtain⟨_,hv⟩:=hv;rw[hHr]at hv;exact hv rfl
 subst hvl
 obtain⟨b,h1,h2,h3⟩:=hok
 exact⟨_,fp r,Taken.one (r:=r) (R':= .gone) (F':=F) (f:=fp r) hR (.gone ..) (λ_ h=>h) (λ_ h=> .inl h) (λn h=>⟨h,hR.frz r n h⟩) (λ_ _ h=>h),b,by rw[h1],h2,h3⟩
end
end Go.Va
namespace Go.Va
section
variable {w:World} {F:Fp} {H V:Store} {loc:Loc} {fp:Nat->Fp}
def rsF (l:List Nat) (fp:Nat->Fp):Fp:=λn=> ∃q,q∈l/\fp q n
theorem Yae (hR:Roots w F H loc fp) (hV:View V H) {a:AV} {cs:List Value} (hc:AVC w F H loc a cs) {g:Got} (hg:YX V a=some g) {e:Ty} (he:g.t= .slice e):
  ∃f,Rep w F g.t g.d cs g.x f/\ ∀n,f n-> ∃r ver p,a= .ref r ver p/\fp r n:=by
 cases a with
 |val t x=>
  cases t with
  |slice e'=>
   simp only[YX,Option.some.injEq]at hg
   subst hg
   exact⟨Fp.none,hc,λ_ h=>h.elim⟩
  |_=>simp[YX]at hg
 |ref r ver p=>
  obtain⟨v,rfl,hv⟩:=hc
  simp only[YX]at hg
  split at hg
  ·rename_i e' d xs ver' pin hVr
   have hHr:=hV.arr hVr (by simp)
   have hok:=hR.ok r
   rw[hHr]at hok
   obtain⟨_,hv⟩:=hv
   rw[hHr]at hv
   split at hg
   ·simp only[Option.some.injEq]at hg
    subst hg
    have:=hv.2.1 rfl;subst this
    exact⟨fp r,hok,λn hn=>⟨r,ver,_,rfl,hn⟩⟩
   ·rename_i hp
    split at hg
    rotate_left
    ·cases hg
    rename_i hver
    obtain⟨hin,b,o,ha,hcell,_⟩:=hv.2.2 hp hver
    cases p with
    |nil=>exact absurd rfl hp
    |cons q p=>
     cases q with
     |fst=>simp[InB]at hin
     |snd=>simp[InB]at hin
     |idx i=>
      obtain⟨b',o',f,ha',hA,hf,_,_⟩:=YaG (XG p) i w F e' d (loc r) xs (fp r) g hok hin hg
      rw[ha]at ha';injection ha' with ha';injection ha' with e1 e2;subst e1;subst e2
      obtain⟨gt,gd,gx⟩:=g
      dsimp only at he;subst he
      obtain⟨h,hh,hr⟩:=hA.hdr
      rw[hcell]at hh;injection hh with hh;subst hh
      exact⟨f,hr,λn hn=>⟨r,ver,_,rfl,hf n hn⟩⟩
  ·rename_i e' xs hVr
   have hHr:=hV.arr hVr (by simp)
   have hok:=hR.ok r
   rw[hHr]at hok
   obtain⟨_,hv⟩:=hv
   rw[hHr]at hv
   split at hg
   ·simp only[Option.some.injEq]at hg
    subst hg
    have:=hv rfl;subst this
    exact⟨fp r,hok,λn hn=>⟨r,ver,_,rfl,hn⟩⟩
   ·cases hg
  ·cases hg
 |_=>simp[YX]at hg
theorem YeY (hR:Roots w F H loc fp) (hV:View V H): ∀(a:AV) {t:Ty} {x:t.den} {cs:List Value},AVC w F H loc a cs->asV V a t=some x->
  Rep w (λn=>F n∨rsF (Yj a) fp n) t 0 cs x Fp.none
 | .val s y,t,x,cs,hc,hx=>by
  simp only[asV]at hx
  exact Rep.mono (λ_ h=> .inl h) t (Rep.cast hx hc)
 | .nils,t,x,cs,hc,hx=>by
  cases t with
  |slice e=>
   simp only[asV]at hx
   cases hx
   have hc:cs= [.slice none 0 0]:=hc
   subst hc
   exact Rep.zero (.slice e) 0
  |_=>simp[asV]at hx
 | .pr a b,t,x,cs,hc,hx=>by
  cases t with
  |pair s s'=>
   obtain⟨c1,c2,rfl,hc1,hc2⟩:=hc
   simp only[asV]at hx
   split at hx
   rotate_left
   ·cases hx
   rename_i x1 x2 h1 h2
   cases hx
   refine⟨c1,c2,Fp.none,Fp.none,rfl,λn=>by simp[Fp.none],λ_ h=>h.elim,Rep.mono ?_ s (YeY hR hV a hc1 h1),Rep.mono ?_ s' (YeY hR hV b hc2 h2)⟩
   ·rintro n (h|⟨q,hq,h⟩)
    ·exact .inl h
    ·exact .inr ⟨q,by simp only[Yj];exact List.mem_append_left _ hq,h⟩
   ·rintro n (h|⟨q,hq,h⟩)
    ·exact .inl h
    ·exact .inr ⟨q,by simp only[Yj];exact List.mem_append_right _ hq,h⟩
  |_=>simp[asV]at hx
 | .ref r ver p,.slice e,x,cs,hc,hx=>by
  simp only[asV]at hx
  split at hx
  rotate_left
  ·cases hx
  rename_i g hg
  have hgt:=YI hx
  have he:=hgt
  obtain⟨f,hr,hf⟩:=Yae hR hV hc hg he
  refine Rep.cast hx (Rep.freeze (λ_ h=> .inl h) g.t hr λn hn=>?_)
  obtain⟨r',ver',p',h,hn⟩:=hf n hn
  injection h with h1 h2 h3;subst h1
  exact .inr ⟨r,by simp[Yj],hn⟩
 | .ref _ _ _,.num _,_,_,_,hx=>by simp[asV]at hx
 | .ref _ _ _,.bool,_,_,_,hx=>by simp[asV]at hx
 | .ref _ _ _,.str,_,_,_,hx=>by simp[asV]at hx
 | .ref _ _ _,.pair _ _,_,_,_,hx=>by simp[asV]at hx
 | .un,t,_,_,_,hx=>by cases t<;>simp[asV]at hx
 | .jk _,t,_,_,_,hx=>by cases t<;>simp[asV]at hx
 | .ptr _ _ _ _,t,_,_,_,hx=>by cases t<;>simp[asV]at hx
 | .bptr _ _,t,_,_,_,hx=>by cases t<;>simp[asV]at hx
 | .vptr _ _,t,_,_,_,hx=>by cases t<;>simp[asV]at hx
 | .tup _,t,_,_,_,hx=>by cases t<;>simp[asV]at hx
 | .nv _ _,t,_,_,_,hx=>by cases t<;>simp[asV]at hx
 | .clo _ _,t,_,_,_,hx=>by cases t<;>simp[asV]at hx
end
end Go.Va
namespace Go.Va
def CW (w:World) (F:Fp) (H:Store) (loc:Loc) (l:List AV) (cs:List Value):Prop:=
 cs.length=l.length/\ ∀(j:Nat) (a:AV) (v:Value),l[j]? =some a->cs[j]? =some v->AVC w F H loc a [v]/\YF a=false
section
variable {w:World} {F:Fp} {H:Store} {loc:Loc}
theorem CW.append {l l':List AV} {cs cs':List Value} (h:CW w F H loc l cs) (h':CW w F H loc l' cs'):CW w F H loc (l++l') (cs++cs'):=by
 refine⟨by simp[h.1,h'.1],λj a v ha hv=>?_⟩
 by_cases hj:j<l.length
 ·rw[List.getElem?_append_left hj]at ha
  rw[List.getElem?_append_left (by rw[h.1];exact hj)]at hv
  exact h.2 j a v ha hv
 ·rw[List.getElem?_append_right (by omega)]at ha
  rw[List.getElem?_append_right (by rw[h.1];omega),h.1]at hv
  exact h'.2 _ a v ha hv
theorem CW.take {l:List AV} {cs:List Value} (h:CW w F H loc l cs) (n:Nat):CW w F H loc (l.take n) (cs.take n):=by
 refine⟨by simp[h.1],λj a v ha hv=>?_⟩
 rw[List.getElem?_take]at ha hv
 split at ha
 ·rename_i hj;rw[if_pos hj]at hv;exact h.2 j a v ha hv
 ·cases ha
theorem CW.drop {l:List AV} {cs:List Value} (h:CW w F H loc l cs) (n:Nat):CW w F H loc (l.drop n) (cs.drop n):=by
 refine⟨by simp[h.1],λj a v ha hv=>?_⟩
 rw[List.getElem?_drop]at ha hv
 exact h.2 _ a v ha hv
theorem CW.one {a:AV} {v:Value} (h:AVC w F H loc a [v]) (hp:YF a=false):CW w F H loc [a] [v]:=by
 refine⟨rfl,λj b u hb hu=>?_⟩
 cases j with
 |zero=>simp at hb hu;subst hb;subst hu;exact⟨h,hp⟩
 |succ j=>simp at hb
theorem CW.keep {w':World} {F':Fp} {H':Store} {loc':Loc} {l:List AV} {cs:List Value} (h:CW w F H loc l cs) (k:Keep w F H loc w' F' H' loc'):CW w' F' H' loc' l cs:=
 ⟨h.1,λj a v ha hv=>⟨k.c _ _ (h.2 j a v ha hv).1,(h.2 j a v ha hv).2⟩⟩
theorem CW.single {a:AV} {cs:List Value} (h:CW w F H loc [a] cs):AVC w F H loc a cs:=by
 obtain⟨h1,h2⟩:=h
 match cs,h1 with
 | [v],_=>exact(h2 0 a v rfl rfl).1
theorem Ybs: ∀(t:Ty) {x:t.den} {cs:List Value},Rep w F t 0 cs x Fp.none->CW w F H loc (X4 t x) cs
 | .pair a b,x,cs,h=>by
  obtain⟨c1,c2,f1,f2,rfl,hf,_,h1,h2⟩:=h
  have e1:f1=Fp.none:=Fp.eq λn=>⟨λh=>(hf n).2 (.inl h),λh=>h.elim⟩
  have e2:f2=Fp.none:=Fp.eq λn=>⟨λh=>(hf n).2 (.inr h),λh=>h.elim⟩
  subst e1;subst e2
  simp only[X4]
  exact(Ybs a h1).append (Ybs b h2)
 | .num k,x,cs,h=>by simp only[X4];obtain⟨rfl,h'⟩:=h;exact CW.one ⟨rfl,h'⟩ rfl
 | .bool,x,cs,h=>by simp only[X4];obtain⟨rfl,h'⟩:=h;exact CW.one ⟨rfl,h'⟩ rfl
 | .str,x,cs,h=>by simp only[X4];obtain⟨rfl,h'⟩:=h;exact CW.one ⟨rfl,h'⟩ rfl
 | .fn f,x,cs,h=>by simp only[X4];obtain⟨rfl,h'⟩:=h;exact CW.one ⟨rfl,h'⟩ rfl
 | .smap _,x,cs,h=>by
  simp only[X4]
  have hl:=Rep.len _ h
  match cs,hl with
  | [v],_=>exact CW.one h rfl
 | .slice e,x,cs,h=>by
  simp only[X4]
  have hl:=Rep.len _ h
  match cs,hl with
  | [v],_=>exact CW.one h rfl
 | .op k,x,cs,h=>by
  simp only[X4]
  have hl:=Rep.len _ h
  match cs,hl with
  | [v],_=>exact CW.one h rfl
 | .ptr t,x,cs,h=>by
  simp only[X4]
  have hl:=Rep.len _ h
  match cs,hl with
  | [v],_=>exact CW.one h rfl
 | .fc g t,x,cs,h=>by
  simp only[X4]
  have hl:=Rep.len _ h
  match cs,hl with
  | [v],_=>exact CW.one h rfl
theorem Xa: ∀(a:AV) {cs:List Value} {l:List AV},AVC w F H loc a cs->Yu a=some l->CW w F H loc l cs/\ ∀v∈cs,Xu v
 | .val t x,cs,l,h,hl=>by
  simp only[Yu,Option.some.injEq]at hl;subst hl
  exact⟨Ybs t h,Rep.one t h⟩
 | .nils,cs,l,h,hl=>by
  simp only[Yu,Option.some.injEq]at hl;subst hl
  have h':cs= [.slice none 0 0]:=h
  subst h'
  exact⟨CW.one h rfl,λv hv=>by simp at hv;subst hv;trivial⟩
 | .ref r ver p,cs,l,h,hl=>by
  simp only[Yu,Option.some.injEq]at hl;subst hl
  obtain⟨v,rfl,hv⟩:=h
  exact⟨CW.one ⟨v,rfl,hv⟩ rfl,λu hu=>by simp at hu;subst hu;exact hv.1.1⟩
 | .bptr r o,cs,l,h,hl=>by
  simp only[Yu,Option.some.injEq]at hl;subst hl
  obtain⟨v,rfl,hv⟩:=h
  exact⟨CW.one ⟨v,rfl,hv⟩ rfl,λu hu=>by simp at hu;subst hu;obtain⟨b,rfl,_⟩:=hv;trivial⟩
 | .nv b r,cs,l,h,hl=>by
  simp only[Yu,Option.some.injEq]at hl;subst hl
  obtain⟨v,rfl,hv⟩:=h
  exact⟨CW.one ⟨v,rfl,hv⟩ rfl,λu hu=>by simp at hu;subst hu;exact hv.1.1.1⟩
 | .pr a b,cs,l,h,hl=>by
  obtain⟨c1,c2,rfl,h1,h2⟩:=h
  simp only[Yu]at hl
  split at hl
  rotate_left
  ·cases hl
  rename_i x y hx hy
  simp only[Option.some.injEq]at hl;subst hl
  obtain⟨g1,g2⟩:=Xa a h1 hx
  obtain⟨g3,g4⟩:=Xa b h2 hy
  exact⟨g1.append g3,λv hv=>(List.mem_append.1 hv).elim (g2 v) (g4 v)⟩
 | .un,_,_,_,hl=>by simp[Yu]at hl
 | .jk _,_,_,_,hl=>by simp[Yu]at hl
 | .ptr _ _ _ _,_,_,_,hl=>by simp[Yu]at hl
 | .vptr _ _,_,_,_,hl=>by simp[Yu]at hl
 | .tup _,_,_,_,hl=>by simp[Yu]at hl
 | .clo _ _,_,_,_,hl=>by simp[Yu]at hl
theorem Ybr: ∀(a:AV) {cs:List Value} {l:List AV},AVC w F H loc a cs->XI a=some l->CW w F H loc l cs
 | .jk n,cs,l,h,hl=>by
  simp only[XI,Option.some.injEq]at hl;subst hl
  have h:cs.length=n:=h
  refine⟨by simp[h],λj a v ha _=>?_⟩
  have:=List.mem_of_getElem? ha
  rw[List.mem_replicate]at this
  rw[this.2];exact⟨rfl,rfl⟩
 | .pr a b,cs,l,h,hl=>by
  obtain⟨c1,c2,rfl,h1,h2⟩:=h
  simp only[XI]at hl
  split at hl
  rotate_left
  ·cases hl
  rename_i x y hx hy
  simp only[Option.some.injEq]at hl;subst hl
  exact(Ybr a h1 hx).append (Ybr b h2 hy)
 | .val t x,cs,l,h,hl=>(Xa (.val t x) h (by simpa[XI]using hl)).1
 | .nils,cs,l,h,hl=>(Xa .nils h (by simpa[XI]using hl)).1
 | .ref r v p,cs,l,h,hl=>(Xa (.ref r v p) h (by simpa[XI]using hl)).1
 | .bptr r o,cs,l,h,hl=>(Xa (.bptr r o) h (by simpa[XI]using hl)).1
 | .nv b r,cs,l,h,hl=>(Xa (.nv b r) h (by simpa[XI]using hl)).1
 | .un,_,_,_,hl=>by simp[XI,Yu]at hl
 | .ptr _ _ _ _,_,_,_,hl=>by simp[XI,Yu]at hl
 | .vptr _ _,_,_,_,hl=>by simp[XI,Yu]at hl
 | .tup _,_,_,_,hl=>by simp[XI,Yu]at hl
 | .clo _ _,_,_,_,hl=>by simp[XI,Yu]at hl
theorem XC: ∀(t:Ty) {l:List AV} {cs:List Value},CW w F H loc l cs->l.length=t.cells->AVC w F H loc (Xt t l) cs
 | .pair a b,l,cs,h,hl=>by
  simp only[Ty.cells]at hl
  simp only[Xt]
  exact⟨cs.take a.cells,cs.drop a.cells,(List.take_append_drop ..).symm,XC a (h.take _) (by simp;omega),XC b (h.drop _) (by simp;omega)⟩
 | .num k,l,cs,h,hl=>by match l,hl with| [a],_=>exact h.single
 | .bool,l,cs,h,hl=>by match l,hl with| [a],_=>exact h.single
 | .str,l,cs,h,hl=>by match l,hl with| [a],_=>exact h.single
 | .fn f,l,cs,h,hl=>by match l,hl with| [a],_=>exact h.single
 | .smap _,l,cs,h,hl=>by match l,hl with| [a],_=>exact h.single
 | .op k,l,cs,h,hl=>by match l,hl with| [a],_=>exact h.single
 | .ptr t,l,cs,h,hl=>by match l,hl with| [a],_=>exact h.single
 | .fc g t,l,cs,h,hl=>by match l,hl with| [a],_=>exact h.single
 | .slice e,l,cs,h,hl=>by match l,hl with| [a],_=>exact h.single
theorem Xl: ∀(a:AD) {l:List AV} {cs:List Value},CW w F H loc l cs->l.length=a.cells->AVC w F H loc (YN a l) cs
 | .v t,l,cs,h,hl=>XC t h hl
 | .pr a b,l,cs,h,hl=>by
  simp only[AD.cells]at hl
  simp only[YN]
  exact⟨cs.take a.cells,cs.drop a.cells,(List.take_append_drop ..).symm,Xl a (h.take _) (by simp;omega),Xl b (h.drop _) (by simp;omega)⟩
 | .jk n,l,cs,h,hl=>h.1
 | .io e d,l,cs,h,hl=>by match l,hl with| [a],_=>exact h.single
 | .mv e d,l,cs,h,hl=>by match l,hl with| [a],_=>exact h.single
 | .nv e d,l,cs,h,hl=>by match l,hl with| [a],_=>exact h.single
 | .bx a,l,cs,h,hl=>by match l,hl with| [a],_=>exact h.single
 | .mp _,l,cs,h,hl=>by match l,hl with| [a],_=>exact h.single
 | .gs e d,l,cs,h,hl=>by match l,hl with| [a],_=>exact h.single
 | .bf e,l,cs,h,hl=>by match l,hl with| [a],_=>exact h.single
 | .pz t,l,cs,h,hl=>by match l,hl with| [a],_=>exact h.single
 | .un,l,cs,h,hl=>by match l,hl with| [a],_=>exact h.single
theorem XD {a b:AV} {cs:List Value} (h:AVC w F H loc a cs): ∀ {x y:AV},Yd a [.fst]=some x->Yd a [.snd]=some y->
  ∃c1 c2,cs=c1++c2/\AVC w F H loc x c1/\AVC w F H loc y c2:=by
 intro x y hx hy
 cases a with
 |pr s t=>
  obtain⟨c1,c2,rfl,h1,h2⟩:=h
  simp only[Yd,Option.some.injEq]at hx hy
  subst hx;subst hy
  exact⟨c1,c2,rfl,h1,h2⟩
 |val t z=>
  cases t with
  |pair s t=>
   obtain⟨c1,c2,f1,f2,rfl,hf,_,h1,h2⟩:=h
   have e1:f1=Fp.none:=Fp.eq λn=>⟨λh=>(hf n).2 (.inl h),λh=>h.elim⟩
   have e2:f2=Fp.none:=Fp.eq λn=>⟨λh=>(hf n).2 (.inr h),λh=>h.elim⟩
   subst e1;subst e2
   simp only[Yd,Option.some.injEq]at hx hy
   subst hx;subst hy
   exact⟨c1,c2,rfl,h1,h2⟩
  |_=>simp[Yd]at hx
 |_=>simp[Yd]at hx
end
theorem HoR.ofRep {w:World} {F:Fp} {e:Ty} {d:Nat} {l:Value} {xs:List e.den} {fp:Fp} (h:Rep w F (.slice e) (d+1) [l] xs fp):HoR w F e d (-1-0) l xs fp:=by
 have hn: ∀j,¬hol (-1-0) j:=λj hj=>by unfold hol at hj;rw[if_neg (by omega)]at hj;omega
 rcases h with ⟨h1,hx,h2⟩|⟨b1,len,cap,c1,fps,hl0,hb1,hcl,hl,hle,hfp,h1,h2,hx⟩
 ·exact .inl ⟨by omega,by injection h1,hx,h2⟩
 ·simp only[List.cons.injEq,and_true]at hl0
  exact .inr ⟨b1,len,cap,c1,fps,hl0,hb1,hcl,hl,hle,hfp,h1,h2,λj hj=>absurd hj (hn j),λh=>by omega,λj x _ hi=>hx j x hi,λj x hj _=>absurd hj (hn j)⟩
def NVc (b:Bool) (cs:List Value):Prop:=(b=true-> ∃v,cs= [v]/\NN v)/\(b=false->cs= [.slice none 0 0])
def DR (w:World) (F:Fp):(a:AD)->List Value->a.den->Fp->Prop
 | .v t,cs,x,fp=>Rep w F t 0 cs x fp
 | .io e d,cs,x,fp=>Rep w F (.slice e) (d+1) cs x fp
 | .mv e d,cs,x,fp=>Rep w F (.slice e) (d+1) cs x fp
 | .nv e d,cs,x,fp=>Rep w F (.slice e) (d+1) cs x.2 fp/\NVc x.1 cs
 | .pr a b,cs,x,fp=> ∃(c1 c2:List Value) (f1 f2:Fp),cs=c1++c2/\(∀n,fp n↔f1 n∨f2 n)/\(∀n,f1 n->f2 n->False)/\DR w F a c1 x.1 f1/\DR w F b c2 x.2 f2
 | .bx a,cs,x,fp=> ∃(b:Nat) (c:List Value) (f:Fp),cs= [.pointer (some ⟨b,0,none⟩)]/\Blk w b c/\(∀n,fp n↔n=b∨f n)/\ ¬f b/\DR w F a c x f
 | .jk n,cs,_,fp=>cs.length=n/\ ∀n,¬fp n
 | .mp k,cs,ks,fp=> ∃b,cs= [.map (some b)]/\(∀n,fp n↔n=b)/\Yde w b k ks
 | .gs e d,cs,x,fp=> ∃l,cs= [l]/\HoR w F e d (-1-x.2) l x.1 fp
 | .bf e,cs,x,fp=> ∃l,cs= [l]/\BfR w F e l x.1 fp/\VwV l (List.length (α:=e.den) x.1) x.2 l
 | .pz t,cs,x,fp=> ∃b,cs= [.pointer (some ⟨b,0,none⟩)]/\Rep w F (.ptr t) 0 cs (true,x) fp
 | .un,_,_,_=>False
section
variable {w w':World} {F F':Fp}
theorem DR.len: ∀(a:AD) {cs:List Value} {x:a.den} {fp:Fp},DR w F a cs x fp->cs.length=a.cells
 | .v t,_,_,_,h=>Rep.len t h
 | .io e d,_,_,_,h=>Rep.len (.slice e) h
 | .mv e d,_,_,_,h=>Rep.len (.slice e) h
 | .nv e d,_,_,_,h=>Rep.len (.slice e) h.1
 | .pr a b,_,_,_,⟨c1,c2,f1,f2,hc,_,_,h1,h2⟩=>by rw[hc,List.length_append,DR.len a h1,DR.len b h2];rfl
 | .bx a,_,_,_,⟨b,c,f,hc,_⟩=>by rw[hc];rfl
 | .jk n,_,_,_,h=>h.1
 | .mp _,_,_,_,⟨b,hc,_⟩=>by rw[hc];rfl
 | .gs e d,_,_,_,⟨l,hc,_⟩=>by rw[hc];rfl
 | .bf e,_,_,_,⟨l,hc,_⟩=>by rw[hc];rfl
 | .pz t,_,_,_,⟨b,hc,_⟩=>by rw[hc];rfl
 | .un,_,_,_,h=>h.elim
theorem DR.mono (hF: ∀n,F n->F' n): ∀(a:AD) {cs:List Value} {x:a.den} {fp:Fp},DR w F a cs x fp->DR w F' a cs x fp
 | .v t,_,_,_,h=>Rep.mono hF t h
 | .io e d,_,_,_,h=>Rep.mono hF (.slice e) h
 | .mv e d,_,_,_,h=>Rep.mono hF (.slice e) h
 | .nv e d,_,_,_,h=>⟨Rep.mono hF (.slice e) h.1,h.2⟩
 | .pr a b,_,_,_,⟨c1,c2,f1,f2,hc,h3,h4,h1,h2⟩=>⟨c1,c2,f1,f2,hc,h3,h4,DR.mono hF a h1,DR.mono hF b h2⟩
 | .bx a,_,_,_,⟨b,c,f,hc,h1,h2,h3,h4⟩=>⟨b,c,f,hc,h1,h2,h3,DR.mono hF a h4⟩
 | .jk n,_,_,_,h=>h
 | .mp _,_,_,_,h=>h
 | .gs e d,_,_,_,⟨l,hc,h⟩=>⟨l,hc,h.mono hF⟩
 | .bf e,_,_,_,⟨l,hc,h,h'⟩=>⟨l,hc,h.mono hF,h'⟩
 | .pz t,_,_,_,⟨b,hc,h⟩=>⟨b,hc,Rep.mono hF _ h⟩
 | .un,_,_,_,h=>h.elim
theorem DR.keep: ∀(a:AD) {cs:List Value} {x:a.den} {fp:Fp},DR w F a cs x fp->(∀n,F n->w'.heap[n]? =w.heap[n]?)->(∀n,fp n->w'.heap[n]? =w.heap[n]?)->DR w' F a cs x fp
 | .v t,_,_,_,h,h1,h2=>Rep.keep t h h1 h2
 | .io e d,_,_,_,h,h1,h2=>Rep.keep (.slice e) h h1 h2
 | .mv e d,_,_,_,h,h1,h2=>Rep.keep (.slice e) h h1 h2
 | .nv e d,_,_,_,h,h1,h2=>⟨Rep.keep (.slice e) h.1 h1 h2,h.2⟩
 | .pr a b,_,_,_,⟨c1,c2,f1,f2,hc,h3,h4,g1,g2⟩,h1,h2=>⟨c1,c2,f1,f2,hc,h3,h4,DR.keep a g1 h1 λn hn=>h2 n ((h3 n).2 (.inl hn)),DR.keep b g2 h1 λn hn=>h2 n ((h3 n).2 (.inr hn))⟩
 | .bx a,_,_,_,⟨b,c,f,hc,g1,g2,g3,g4⟩,h1,h2=>⟨b,c,f,hc,g1.keep (h2 b ((g2 b).2 (.inl rfl))),g2,g3,DR.keep a g4 h1 λn hn=>h2 n ((g2 n).2 (.inr hn))⟩
 | .jk n,_,_,_,h,_,_=>h
 | .mp _,_,_,_,⟨b,hc,hf,es,cl,he,hm⟩,_,h2=>⟨b,hc,hf,es,cl,(h2 b ((hf b).2 rfl)).trans he,hm⟩
 | .gs e d,_,_,_,⟨l,hc,h⟩,h1,h2=>⟨l,hc,h.keep h1 h2⟩
 | .bf e,_,_,_,⟨l,hc,h,h'⟩,h1,h2=>⟨l,hc,h.keep h1 h2,h'⟩
 | .pz t,_,_,_,⟨b,hc,h⟩,h1,h2=>⟨b,hc,Rep.keep _ h h1 h2⟩
 | .un,_,_,_,h,_,_=>h.elim
theorem DR.live: ∀(a:AD) {cs:List Value} {x:a.den} {fp:Fp},DR w F a cs x fp-> ∀n,fp n-> ∃c,Lv w n c
 | .v t,_,_,_,h=>λn hn=>by obtain⟨c,hc⟩:=Rep.live t h n hn;exact hc.lv
 | .io e d,_,_,_,h=>λn hn=>by obtain⟨c,hc⟩:=Rep.live (.slice e) h n hn;exact hc.lv
 | .mv e d,_,_,_,h=>λn hn=>by obtain⟨c,hc⟩:=Rep.live (.slice e) h n hn;exact hc.lv
 | .nv e d,_,_,_,h=>λn hn=>by obtain⟨c,hc⟩:=Rep.live (.slice e) h.1 n hn;exact hc.lv
 | .pr a b,_,_,_,⟨c1,c2,f1,f2,hc,h3,h4,g1,g2⟩=>λn hn=>((h3 n).1 hn).elim (DR.live a g1 n) (DR.live b g2 n)
 | .bx a,_,_,_,⟨b,c,f,hc,g1,g2,g3,g4⟩=>λn hn=>((g2 n).1 hn).elim (λe=>e▸g1.lv) (DR.live a g4 n)
 | .mp _,_,_,_,⟨b,hc,hf,es,cl,he,hm⟩=>λn hn=>by rw[(hf n).1 hn];exact⟨_,he⟩
 | .gs e d,_,_,_,⟨l,hc,h⟩=>λn hn=>by obtain⟨c,hc⟩:=h.live n hn;exact hc.lv
 | .bf e,_,_,_,⟨l,hc,h,_⟩=>λn hn=>by obtain⟨c,hc⟩:=h.live n hn;exact hc.lv
 | .pz t,_,_,_,⟨b,hc,h⟩=>λn hn=>by obtain⟨c,hc⟩:=Rep.live _ h n hn;exact hc.lv
 | .jk n,_,_,_,h=>λn hn=>(h.2 n hn).elim
 | .un,_,_,_,h=>h.elim
theorem DR.alone: ∀(a:AD) {cs:List Value} {x:a.den} {fp:Fp},a.alone=true->DR w F a cs x fp->DR w F' a cs x fp
 | .v t,_,_,_,ha,h=>Rep.alone t (by simp[AD.alone]at ha;exact .inl ha) (by simp[AD.alone]at ha;exact .inl ha) h
 | .io e d,_,_,_,ha,h=>Rep.alone (.slice e) (by simp[AD.alone]at ha;exact .inr (by simp only[Ty.dep];omega)) (by simp[AD.alone]at ha;exact .inr (by simp only[Ty.dep];omega)) h
 | .mv e d,_,_,_,ha,h=>Rep.alone (.slice e) (by simp[AD.alone]at ha;exact .inr (by simp only[Ty.dep];omega)) (by simp[AD.alone]at ha;exact .inr (by simp only[Ty.dep];omega)) h
 | .nv e d,_,_,_,ha,h=>⟨Rep.alone (.slice e) (by simp[AD.alone]at ha;exact .inr (by simp only[Ty.dep];omega)) (by simp[AD.alone]at ha;exact .inr (by simp only[Ty.dep];omega)) h.1,h.2⟩
 | .pr a b,_,_,_,ha,⟨c1,c2,f1,f2,hc,h3,h4,h1,h2⟩=>by
  simp only[AD.alone,Bool.and_eq_true]at ha
  exact⟨c1,c2,f1,f2,hc,h3,h4,DR.alone a ha.1 h1,DR.alone b ha.2 h2⟩
 | .bx a,_,_,_,ha,⟨b,c,f,hc,h1,h2,h3,h4⟩=>⟨b,c,f,hc,h1,h2,h3,DR.alone a ha h4⟩
 | .jk n,_,_,_,_,h=>h
 | .mp _,_,_,_,_,h=>h
 | .gs e d,_,_,_,ha,_=>by simp[AD.alone]at ha
 | .bf e,_,_,_,ha,_=>by simp[AD.alone]at ha
 | .pz t,_,_,_,ha,_=>by simp[AD.alone]at ha
 | .un,_,_,_,_,h=>h.elim
end
theorem Ygm {w:World} {loc:Loc} {F:Fp} {H V:Store} {fp:Nat->Fp} {a:AV} {t:Ty} {x:t.den} {u:Ups} {cs:List Value} (hR:Roots w F H loc fp) (hV:View V H) (hc:AVC w F H loc a cs) (ht:Ybj V a t=some (x,u)):
  ∃F' fp' f,Taken w F H loc fp u F' fp' f/\Rep w F' t 0 cs x f:=by
 by_cases hcase: ∃r s,a= .bptr r 0/\t= .ptr s
 ·obtain⟨r,s,rfl,rfl⟩:=hcase
  simp only[Ybj]at ht
  split at ht
  rotate_left
  ·cases ht
  rename_i c hVr
  split at ht
  rotate_left
  ·cases ht
  rename_i hcl
  split at ht
  rotate_left
  ·cases ht
  rename_i y u1 h1
  cases ht
  have hHr:=hV.arr hVr (by simp)
  have hok:=hR.ok r
  rw[hHr]at hok
  obtain⟨b,cs',hl,hb,hlen,hfp,hcw⟩:=hok
  obtain⟨v,rfl,b',hv,hl'⟩:=hc
  rw[hHr]at hl'
  rw[hl]at hl'
  simp only[Value.pointer.injEq,Option.some.injEq,Addr.mk.injEq,and_true]at hl'
  subst hl'
  have t1:Taken w F H loc fp [(r,.gone)] (λn=>F n∨fp r n) (λr'=>if r'=r then Fp.none else fp r') Fp.none:=
   Taken.one (r:=r) (R':= .gone) (F':=λn=>F n∨fp r n) (f:=Fp.none) hR (.gone ..) (λ_ h=> .inl h) (λ_ h=>h) (λ_ h=>h.elim) (λ_ _ h=>h)
  have hcw':CW w F H loc c cs':=⟨hlen,hcw⟩
  have hc1:=t1.keep.c _ _ (XC s hcw' hcl)
  obtain⟨F2,fp2,f2,ht2,hr2⟩:=Yw (Xt s c) t1.roots (hV.set r .gone) hc1 h1
  obtain⟨ht,_⟩:=t1.seq ht2
  have hn:=Rep.none0 s hr2
  have ht':Taken w F H loc fp ((r,.gone)::u1) F2 fp2 Fp.none:=by
   have e:(λn=>Fp.none n∨f2 n)=Fp.none:=Fp.eq λn=>⟨λh=>h.elim id λh=>(hn n h).elim,λh=> .inl h⟩
   rw[e]at ht;exact ht
  refine⟨F2,fp2,Fp.none,ht',λ_ h=>h,.inr ⟨by omega,rfl,b,0,cs',?_,ht2.mono b (.inr ((hfp b).2 rfl)),?_,Rep.fpEq hr2 λn=>⟨λh=>(hn n h).elim,λh=>h.elim⟩⟩⟩
  ·rw[hv]
  ·simpa using hb.lies' 0 cs'.length
 ·have e:Ybj V a t=Ya V a t 0:=by
   unfold Ybj
   split
   ·exact absurd ⟨_,_,rfl,rfl⟩ hcase
   ·rfl
  rw[e]at ht
  exact Yw a hR hV hc ht
theorem Yhg {w:World} {loc:Loc} {F:Fp} {H V:Store} {fp:Nat->Fp} {a:AV} {t:Ty} {x:t.den} {u:Ups} {cs:List Value} (hR:Roots w F H loc fp) (hV:View V H) (hc:AVC w F H loc a cs) (ht:YeN V a t=some (x,u)):
  ∃F' fp' f,Taken w F H loc fp u F' fp' f/\Rep w F' t 0 cs x f:=by
 unfold YeN at ht
 split at ht
 ·rename_i hn
  cases a with
  |val s y=>
   cases s with
   |ptr s=>
    cases t with
    |ptr t=>
     have hn:(!decide (s=t)&&!y.1)=true:=hn
     simp only[Bool.and_eq_true,Bool.not_eq_true']at hn
     cases ht
     refine⟨F,fp,Fp.none,Taken.nil hR,λ_ h=>h,.inl ⟨?_,rfl⟩⟩
     have hc:Rep w F (.ptr s) 0 cs y Fp.none:=hc
     rcases hc.2 with ⟨h,_⟩|⟨_,h,_⟩
     ·exact h
     ·rw[hn.2]at h;cases h
    |_=>cases hn
   |_=>cases t<;>cases hn
  |_=>cases hn
 ·exact Ygm hR hV hc ht
theorem YbD {w:World} {loc:Loc} {F:Fp} {H V:Store} {fp:Nat->Fp} {a:AV} {s:Ty} {x:s.den} {u:Ups} {cs:List Value} (hR:Roots w F H loc fp) (hV:View V H) (hc:AVC w F H loc a cs) (ht:YaS V s a=some (x,u)):
  ∃F' fp' f,Taken w F H loc fp u F' fp' f/\DR w F' (.pz s) cs x f/\ ∀n,¬f n:=by
 unfold YaS at ht
 split at ht
 rotate_left
 ·cases ht
 rename_i r
 split at ht
 ·rename_i t' x' hVr
  split at ht
  rotate_left
  ·cases ht
  rename_i y hy
  cases ht
  have e:=YI hy
  subst e
  have hy:=YM hy
  subst hy
  have hHr:=hV.arr hVr (by simp)
  have hok:=hR.ok r
  rw[hHr]at hok
  obtain⟨v,rfl,b',hv,hl'⟩:=hc
  rw[hHr]at hl'
  rw[hl',←hv]at hok
  exact⟨F,fp,Fp.none,Taken.nil hR,⟨b',by rw[hv],Rep.fpEq hok λn=>⟨λh=>(Rep.none0 _ hok n h).elim,λh=>h.elim⟩⟩,λ_ h=>h⟩
 ·rename_i c hVr
  split at ht
  rotate_left
  ·cases ht
  rename_i hcl
  have hHr:=hV.arr hVr (by simp)
  have hok:=hR.ok r
  rw[hHr]at hok
  obtain⟨b,cs',hl,hb,hlen,hfp,hcw⟩:=hok
  obtain⟨v,rfl,b',hv,hl'⟩:=hc
  rw[hHr]at hl'
  rw[hl]at hl'
  simp only[Value.pointer.injEq,Option.some.injEq,Addr.mk.injEq,and_true]at hl'
  subst hl'
  have t1:Taken w F H loc fp [(r,.gone)] (λn=>F n∨fp r n) (λr'=>if r'=r then Fp.none else fp r') Fp.none:=
   Taken.one (r:=r) (R':= .gone) (F':=λn=>F n∨fp r n) (f:=Fp.none) hR (.gone ..) (λ_ h=> .inl h) (λ_ h=>h) (λ_ h=>h.elim) (λ_ _ h=>h)
  have hcw':CW w F H loc c cs':=⟨hlen,hcw⟩
  have hc1:=t1.keep.c _ _ (XC s hcw' hcl)
  split at ht
  rotate_left
  ·cases ht
  rename_i y h1
  cases ht
  obtain⟨F2,fp2,f2,ht2,hr2⟩:=Yw (Xt s c) t1.roots (hV.set r .gone) hc1 h1
  have hn:=Rep.none0 s hr2
  have hF:F2=λn=>F n∨fp r n:=Fp.eq λn=>⟨λh=>(ht2.from_ n h).elim id λ⟨r',h'⟩=>absurd h (ht2.roots.frz r' n (by rw[ht2.kept r' (by simp)];exact h')),ht2.mono n⟩
  subst hF
  have hrep: ∀f:Fp,(∀n,¬f n)->Rep w (λn=>F n∨fp r n) (.ptr s) 0 [v] (true,x) f:=λf hf=>⟨hf,.inr ⟨by omega,rfl,b,0,cs',by rw[hv],.inr ((hfp b).2 rfl),by simpa using hb.lies' 0 cs'.length,Rep.fpEq hr2 λn=>⟨λh=>(hn n h).elim,λh=>h.elim⟩⟩⟩
  refine⟨λn=>F n∨fp r n,_,Fp.none,Taken.one (r:=r) (R':= .pz s x) (F':=λn=>F n∨fp r n) (f:=Fp.none) hR (by rw[hHr];exact .pz ..) (λ_ h=> .inl h) (λ_ h=>h) (λ_ h=>h.elim) (λ_=>?_),⟨b,by rw[hv],hrep _ λ_ h=>h⟩,λ_ h=>h⟩
  have:=hrep Fp.none λ_ h=>h
  rw[hv,←hl]at this
  exact this
 ·cases ht
theorem Yfn {V:Store} {s:Ty} {r:Nat} {x:s.den} {u:Ups} (ht:YaS V s (.bptr r 0)=some (x,u)):u= []∨u= [(r,.pz s x)]:=by
 unfold YaS at ht
 split at ht
 rotate_left
 ·cases ht
 rename_i r' e
 injection e with e
 subst e
 split at ht
 ·split at ht<;>cases ht
  exact .inl rfl
 ·split at ht
  rotate_left
  ·cases ht
  split at ht<;>cases ht
  exact .inr rfl
 ·cases ht
theorem Ydw {w:World} {loc:Loc} {F:Fp} {H V:Store} {fp:Nat->Fp} {r:Nat}: ∀ {t:Ty} {x:t.den} {u:Ups} {v:Value},Roots w F H loc fp->View V H->BptrR H loc r 0 v->XE V r t=some (x,u)->
  ∃F' fp' f,Taken w F H loc fp u F' fp' f/\Rep w F' t 0 [v] x Fp.none/\ ∀n,¬f n
 | .ptr s,x,u,v,hR,hV,hc,ht=>by
  simp only[XE]at ht
  split at ht
  rotate_left
  ·cases ht
  rename_i y u1 h1
  cases ht
  obtain⟨F',fp',f,h2,⟨b,_,h3⟩,h4⟩:=YbD hR hV (show AVC w F H loc (.bptr r 0) [v] from⟨v,rfl,hc⟩) h1
  exact⟨F',fp',f,h2,Rep.fpEq h3 λn=>⟨λh=>(h4 n h).elim,λh=>h.elim⟩,h4⟩
 | .num _,_,_,_,_,_,_,ht=>by simp[XE]at ht
 | .bool,_,_,_,_,_,_,ht=>by simp[XE]at ht
 | .str,_,_,_,_,_,_,ht=>by simp[XE]at ht
 | .fn _,_,_,_,_,_,_,ht=>by simp[XE]at ht
 | .fc _ _,_,_,_,_,_,_,ht=>by simp[XE]at ht
 | .smap _,_,_,_,_,_,_,ht=>by simp[XE]at ht
 | .op _,_,_,_,_,_,_,ht=>by simp[XE]at ht
 | .slice _,_,_,_,_,_,_,ht=>by simp[XE]at ht
 | .pair _ _,_,_,_,_,_,_,ht=>by simp[XE]at ht
theorem YeJ {w:World} {loc:Loc}: ∀(l:List Nat) {F:Fp} {H V:Store} {fp:Nat->Fp} {t:Ty} {x:t.den} {u:Ups} {caps:List Value},Roots w F H loc fp->View V H->CapsR H loc l caps->YcW V l t=some (x,u)->
  ∃F' fp' f,Taken w F H loc fp u F' fp' f/\Rep w F' t 0 caps x Fp.none/\ ∀n,¬f n
 | [],_,_,_,_,_,_,_,_,_,_,_,ht=>by simp[YcW]at ht
 | [r],F,H,V,fp,t,x,u,caps,hR,hV,hc,ht=>by
  simp only[YcW]at ht
  match caps,hc.1 with
  | [v],_=>exact Ydw hR hV (hc.2 0 r v rfl rfl) ht
 |r::r'::l,F,H,V,fp,t,x,u,caps,hR,hV,hc,ht=>by
  cases t with
  |pair s t=>
   simp only[YcW]at ht
   split at ht
   rotate_left
   ·cases ht
   rename_i y u1 h1
   split at ht
   rotate_left
   ·cases ht
   rename_i z u2 h2
   cases ht
   obtain⟨v,cs,rfl⟩: ∃v cs,caps=v::cs:=by
    match caps,hc.1 with
    |v::cs,_=>exact⟨v,cs,rfl⟩
   obtain⟨F1,fp1,f1,t1,g1,n1⟩:=Ydw hR hV (hc.2 0 r v rfl rfl) h1
   have hc2:CapsR (H.upd u1) loc (r'::l) cs:=⟨by simpa using hc.1,λi s c hs hx=>by
    have:=hc.2 (i+1) s c (by simpa using hs) (by simpa using hx)
    obtain⟨y,e,hy⟩:=t1.keep.c (.bptr s 0) [c] ⟨c,rfl,this⟩
    rw[(List.cons.inj e).1];exact hy⟩
   obtain⟨F2,fp2,f2,t2,g2,n2⟩:=YeJ (r'::l) t1.roots (hV.upd u1) hc2 h2
   obtain⟨t3,_⟩:=t1.seq t2
   exact⟨F2,fp2,_,t3,⟨[v],cs,Fp.none,Fp.none,rfl,λn=>by simp[Fp.none],λ_ h=>h.elim,Rep.mono t2.mono _ g1,g2⟩,λn h=>h.elim (n1 n) (n2 n)⟩
  |_=>simp[YcW]at ht
theorem Yb6 {V:Store} {s:Ty} {a:AV} {x:s.den} {u:Ups} (ht:YaS V s a=some (x,u)): ∀q∈u,q.1∈YdY a:=by
 unfold YaS at ht
 split at ht
 rotate_left
 ·cases ht
 rename_i r
 split at ht
 ·split at ht<;>cases ht
  simp
 ·split at ht
  rotate_left
  ·cases ht
  split at ht<;>cases ht
  simp[YdY]
 ·cases ht
theorem Yft {w:World} {F:Fp} {H:Store} {loc:Loc} {a:AV} {cs:List Value} (h:AVC w F H loc a cs):AVC w F H loc (unN a) cs:=by
 cases a with
 |nv b r=>obtain⟨v,h1,h2,_⟩:=h;exact⟨v,h1,h2⟩
 |_=>exact h
theorem YbU {w:World} {loc:Loc} {F:Fp} {H V:Store} {fp:Nat->Fp} {a:AV} {e:Ty} {d:Nat} {x:Bool×List e.den} {u:Ups} {cs:List Value} (hR:Roots w F H loc fp) (hV:View V H) (hc:AVC w F H loc a cs) (ht:Yay V e d a=some (x,u)):
  ∃F' fp' f,Taken w F H loc fp u F' fp' f/\DR w F' (.nv e d) cs x f:=by
 unfold Yay at ht
 split at ht
 ·cases ht
  have hc:cs= [.slice none 0 0]:=hc
  subst hc
  exact⟨F,fp,Fp.none,Taken.nil hR,Rep.zero (.slice e) (d+1),⟨(λh=>by cases h),λ_=>rfl⟩⟩
 ·rename_i b r
  split at ht
  rotate_left
  ·cases ht
  rename_i y u1 h1
  cases ht
  obtain⟨F1,fp1,f1,t1,r1⟩:=Yw (.ref r 0 []) hR hV (Yft hc) h1
  obtain⟨v,h2,h3,h4,h5⟩:=hc
  exact⟨F1,fp1,f1,t1,r1,⟨λe=>⟨v,h2,h4 e⟩,λe=>by rw[h2,h5 e]⟩⟩
 ·rename_i r
  split at ht
  rotate_left
  ·cases ht
  rename_i y u1 h1
  cases ht
  obtain⟨F1,fp1,f1,t1,r1⟩:=Yw (.ref r 1 []) hR hV hc h1
  obtain⟨v,h2,h3⟩:=hc
  exact⟨F1,fp1,f1,t1,r1,⟨λ_=>⟨v,h2,h3.1.2 rfl rfl⟩,(λe=>by cases e)⟩⟩
 ·cases ht
theorem XN {w:World} {loc:Loc}: ∀(ad:AD) {F:Fp} {H V:Store} {fp:Nat->Fp} {slot k k':Nat} {a:AV} {x:ad.den} {u:Ups} {cs:List Value},Roots w F H loc fp->View V H->
  AVC w F H loc a cs->Yi V slot k ad a=some (x,u,k')-> ∃F' fp' f,Taken w F H loc fp u F' fp' f/\DR w F' ad cs x f
 | .v t,F,H,V,fp,slot,k,k',a,x,u,cs,hR,hV,hc,ht=>by
  simp only[Yi]at ht
  split at ht
  rotate_left
  ·cases ht
  rename_i y u1 h1
  cases ht
  exact Yhg hR hV (Yft hc) h1
 | .nv e d,F,H,V,fp,slot,k,k',a,x,u,cs,hR,hV,hc,ht=>by
  simp only[Yi]at ht
  split at ht
  rotate_left
  ·cases ht
  rename_i y u1 h1
  cases ht
  exact YbU hR hV hc h1
 | .mv e d,F,H,V,fp,slot,k,k',a,x,u,cs,hR,hV,hc,ht=>by
  simp only[Yi]at ht
  split at ht
  rotate_left
  ·cases ht
  rename_i y u1 h1
  cases ht
  exact Yw _ hR hV (Yft hc) h1
 | .io e d,F,H,V,fp,slot,k,k',a,x,u,cs,hR,hV,hc,ht=>by
  cases a with
  |ref r ver p=>
   cases p with
   |nil=>
    simp only[Yi]at ht
    split at ht
    rotate_left
    ·cases ht
    split at ht
    rotate_left
    ·cases ht
    rename_i e' d' xs ver' hVr
    split at ht
    rotate_left
    ·cases ht
    rename_i hd
    subst hd
    split at ht
    rotate_left
    ·cases ht
    rename_i ys hys
    cases ht
    have hHr:=hV.arr hVr (by simp)
    have hok:=hR.ok r
    rw[hHr]at hok
    obtain⟨v,rfl,_,hv⟩:=hc
    rw[hHr]at hv
    have hvl:=hv.2.1 rfl
    subst hvl
    exact⟨F,_,fp r,Taken.one (r:=r) (R':= .gone) (F':=F) (f:=fp r) hR (.gone ..) (λ_ h=>h) (λ_ h=> .inl h) (λn h=>⟨h,hR.frz r n h⟩) (λ_ _ h=>h),Rep.cast hys hok⟩
   |cons=>simp[Yi]at ht
  |_=>simp[Yi]at ht
 | .pr ad bd,F,H,V,fp,slot,k,k',a,x,u,cs,hR,hV,hc,ht=>by
  simp only[Yi]at ht
  split at ht
  rotate_left
  ·cases ht
  rename_i y z hy hz
  obtain⟨c1,c2,rfl,hc1,hc2⟩:=XD (b:=a) hc hy hz
  split at ht
  rotate_left
  ·cases ht
  rename_i x1 u1 k1 h1
  split at ht
  rotate_left
  ·cases ht
  rename_i x2 u2 k2 h2
  cases ht
  obtain⟨F1,fp1,f1,ht1,hr1⟩:=XN ad hR hV hc1 h1
  obtain⟨F2,fp2,f2,ht2,hr2⟩:=XN bd ht1.roots (hV.upd u1) (ht1.keep.c _ _ hc2) h2
  obtain⟨ht,hd⟩:=ht1.seq ht2
  exact⟨F2,fp2,_,ht,c1,c2,f1,f2,rfl,λ_=>Iff.rfl,hd,DR.mono ht2.mono ad hr1,hr2⟩
 | .bx ad,F,H,V,fp,slot,k,k',a,x,u,cs,hR,hV,hc,ht=>by
  cases a with
  |bptr r o=>
   cases o with
   |zero=>
    simp only[Yi]at ht
    split at ht
    rotate_left
    ·cases ht
    rename_i c hVr
    split at ht
    rotate_left
    ·cases ht
    rename_i hcl
    split at ht
    rotate_left
    ·cases ht
    rename_i y u1 k1 h1
    cases ht
    have hHr:=hV.arr hVr (by simp)
    have hok:=hR.ok r
    rw[hHr]at hok
    obtain⟨v,rfl,b,hvv,hl⟩:=hc
    rw[hHr]at hl
    subst hvv
    obtain⟨b',cs',hl',hb',hlen,hfp,hcw⟩:=hok
    rw[hl]at hl';injection hl' with hl';injection hl' with hl';injection hl' with hl' _ _;subst hl'
    have t1:Taken w F H loc fp [(r,.gone)] F (λr'=>if r'=r then Fp.none else fp r') (fp r):=
     Taken.one (r:=r) (R':= .gone) (F':=F) (f:=fp r) hR (.gone ..) (λ_ h=>h) (λ_ h=> .inl h) (λn h=>⟨h,hR.frz r n h⟩) (λ_ _ h=>h)
    have hcw':CW w F H loc c cs':=⟨hlen,hcw⟩
    have hc1:AVC w F (H.set r .gone) loc (YN ad c) cs':=t1.keep.c _ _ (Xl ad hcw' hcl)
    obtain⟨F2,fp2,f2,ht2,hr2⟩:=XN ad t1.roots (hV.set r .gone) hc1 h1
    obtain⟨ht,hd⟩:=t1.seq ht2
    exact⟨F2,fp2,_,ht,b,cs',f2,rfl,hb',λn=>or_congr (hfp n) Iff.rfl,λhh=>hd b ((hfp b).2 rfl) hh,hr2⟩
   |succ=>simp[Yi]at ht
  |_=>simp[Yi]at ht
 | .jk n,F,H,V,fp,slot,k,k',a,x,u,cs,hR,hV,hc,ht=>by
  cases a with
  |jk m=>
   simp only[Yi]at ht
   split at ht
   rotate_left
   ·cases ht
   rename_i hm
   cases ht
   subst hm
   exact⟨F,fp,Fp.none,Taken.nil hR,hc,λ_ h=>h⟩
  |_=>simp[Yi]at ht
 | .mp _,F,H,V,fp,slot,k,k',a,x,u,cs,hR,hV,hc,ht=>by
  simp only[Yi]at ht
  split at ht
  rotate_left
  ·cases ht
  rename_i ks u1 h1
  cases ht
  obtain⟨fp',f,h2,h3⟩:=YcY hR hV hc h1
  exact⟨F,fp',f,h2,h3⟩
 | .pz t,F,H,V,fp,slot,k,k',a,x,u,cs,hR,hV,hc,ht=>by
  simp only[Yi]at ht
  split at ht
  rotate_left
  ·cases ht
  rename_i y u1 h1
  cases ht
  obtain⟨F',fp',f,h2,h3,_⟩:=YbD hR hV hc h1
  exact⟨F',fp',f,h2,h3⟩
 | .gs e d,F,H,V,fp,slot,k,k',a,x,u,cs,hR,hV,hc,ht=>by
  cases a with
  |ref r ver p=>
   cases p with
   |cons=>simp[Yi]at ht
   |nil=>
    simp only[Yi]at ht
    split at ht
    ·rename_i e' d' xs ver' hVr
     split at ht
     rotate_left
     ·cases ht
     rename_i hd
     subst hd
     split at ht
     rotate_left
     ·cases ht
     rename_i ys hys
     cases ht
     have hty:=YI hys
     injection hty with hty
     subst hty
     have hys:=YM hys
     subst hys
     have hHr:H r= .arr e' d' ys ver' false:=hV.arr hVr (by simp)
     have hok:=hR.ok r
     rw[hHr]at hok
     obtain⟨v,rfl,_,hv⟩:=hc
     rw[hHr]at hv
     have hvl:v=loc r:=hv.2.1 rfl
     subst hvl
     refine⟨F,_,fp r,Taken.part (r:=r) (R':= .gone) (f:=fp r) (g:=Fp.none) hR (by rw[hHr];exact .gone ..) (λn hn=>hn) (λn hn=>hn.elim) (λn _ h=>h) (λ_=>λ_ h=>h),_,rfl,HoR.ofRep hok⟩
    ·rename_i e' d' xs ver' i hVr
     split at ht
     rotate_left
     ·cases ht
     rename_i hd
     subst hd
     split at ht
     rotate_left
     ·cases ht
     rename_i ys hys
     cases ht
     have hty:=YI hys
     injection hty with hty
     subst hty
     have hys:=YM hys
     subst hys
     have hHr:H r= .ho e' d' ys ver' false i:=hV.arr hVr (by simp)
     have hok:=hR.ok r
     rw[hHr]at hok
     obtain⟨v,rfl,_,hv⟩:=hc
     rw[hHr]at hv
     have hvl:v=loc r:=hv.2.1 rfl
     subst hvl
     refine⟨F,_,fp r,Taken.part (r:=r) (R':= .gone) (f:=fp r) (g:=Fp.none) hR (by rw[hHr];exact .gone ..) (λn hn=>hn) (λn hn=>hn.elim) (λn _ h=>h) (λ_=>λ_ h=>h),_,rfl,?_⟩
     have e1: -1-(-1-i)=i:=by omega
     show HoR w F e' d' (-1-(-1-i)) (loc r) ys (fp r)
     rw[e1];exact hok
    ·cases ht
  |_=>simp[Yi]at ht
 | .bf e,F,H,V,fp,slot,k,k',a,x,u,cs,hR,hV,hc,ht=>by
  cases a with
  |ref r ver p=>
   cases p with
   |cons=>simp[Yi]at ht
   |nil=>
    simp only[Yi]at ht
    split at ht
    rotate_left
    ·cases ht
    split at ht
    rotate_left
    ·cases ht
    rename_i e' xs n ver' hVr
    split at ht
    rotate_left
    ·cases ht
    rename_i ys hys
    cases ht
    have hty:=YI hys
    injection hty with hty
    subst hty
    have hys:=YM hys
    subst hys
    have hHr:H r= .bf e' ys n ver' true:=hV.arr hVr (by simp)
    have hok:=hR.ok r
    rw[hHr]at hok
    obtain⟨v,rfl,_,hv⟩:=hc
    rw[hHr]at hv
    have hvl:v=loc r:=hv.2.1 rfl
    subst hvl
    exact⟨F,_,fp r,Taken.part (r:=r) (R':= .gone) (f:=fp r) (g:=Fp.none) hR (by rw[hHr];exact .gone ..) (λn hn=>hn) (λn hn=>hn.elim) (λn _ h=>h) (λ_=>λ_ h=>h),_,rfl,hok⟩
  |_=>simp[Yi]at ht
 | .un,F,H,V,fp,slot,k,k',a,x,u,cs,hR,hV,hc,ht=>by simp[Yi]at ht
end Go.Va
namespace Go.Va
def Own (V H:Store) (slot:Nat):Prop:= ∀k,k<16->V (slot*16+k)= .free->H (slot*16+k)= .free
theorem Own.refl (H:Store) (slot:Nat):Own H H slot:=λ_ _ h=>h
theorem Own.set {V H:Store} {slot:Nat} (h:Own V H slot) (r:Nat) (x:Root):Own (V.set r x) (H.set r x) slot:=by
 intro k hlt hk
 by_cases e:slot*16+k=r
 ·rw[e,Store.set_same]at hk⊢;exact hk
 ·rw[Store.set_other _ _ e]at hk⊢;exact h k hlt hk
theorem Own.upd {V H:Store} {slot:Nat} (h:Own V H slot) (u:Ups):Own (V.upd u) (H.upd u) slot:=by
 induction u generalizing V H with
 |nil=>exact h
 |cons q u ih=>exact ih (h.set q.1 q.2)
theorem Yf9 {R:Root} (h:Ye8 R=true):R= .free:=by cases R<;>simp[Ye8]at h;rfl
theorem Own.at {V H:Store} {slot k:Nat} (h:Own V H slot) (hf:YS V slot k=true):H (slot*16+k)= .free:=by
 unfold YS at hf
 rw[Bool.and_eq_true,decide_eq_true_eq]at hf
 exact h k hf.1 (Yf9 hf.2)
theorem Own.zero {V H:Store} {slot:Nat} (h:Own V H slot) (hf:V (slot*16)= .free):H (slot*16)= .free:=h 0 (by omega) hf
def Loc.set (l:Loc) (r:Nat) (v:Value):Loc:=λn=>if n=r then v else l n
def Yq (f:Nat->Fp) (r:Nat) (g:Fp):Nat->Fp:=λn=>if n=r then g else f n
theorem Ydf {w:World} {F:Fp} {H:Store} {loc:Loc} {fp:Nat->Fp} (hR:Roots w F H loc fp) {r:Nat} (hr:H r= .free) {R:Root} {l:Value} {f:Fp}
  (hok:Keep w F H loc w F (H.set r R) (loc.set r l)->RootOk w F (H.set r R) (loc.set r l) R l f) (hd: ∀n r,f n-> ¬fp r n) (hF: ∀n,f n-> ¬F n):
  Roots w F (H.set r R) (loc.set r l) (Yq fp r f)/\Keep w F H loc w F (H.set r R) (loc.set r l):=by
 have hk:Keep w F H loc w F (H.set r R) (loc.set r l):=Yas hR (λ_ h=>h) (λ_ _=>rfl) λr'=>by
  by_cases e:r'=r
  ·subst e;rw[Store.set_same,hr];exact .new ..
  ·rw[Store.set_other _ _ e];simp only[Loc.set,e,if_false];exact .same _ _ _ λ_ _=>rfl
 refine⟨⟨λr'=>?_,?_,?_,hR.dom⟩,hk⟩
 ·by_cases e:r'=r
  ·subst e;rw[Store.set_same];simp only[Loc.set,Yq,if_true];exact hok hk
  ·rw[Store.set_other _ _ e];simp only[Loc.set,Yq,e,if_false];exact(hR.ok r').keep hk (λ_ h=>h) (λ_ _=>rfl) λ_ _=>rfl
 ·intro r1 r2 n h1 h2
  by_cases e1:r1=r<;>by_cases e2:r2=r
  ·rw[e1,e2]
  ·simp only[Yq,e1,if_true]at h1;simp only[Yq,e2,if_false]at h2;exact(hd n r2 h1 h2).elim
  ·simp only[Yq,e1,if_false]at h1;simp only[Yq,e2,if_true]at h2;exact(hd n r1 h2 h1).elim
  ·simp only[Yq,e1,if_false]at h1;simp only[Yq,e2,if_false]at h2;exact hR.disj r1 r2 n h1 h2
 ·intro r1 n h1
  by_cases e1:r1=r
  ·simp only[Yq,e1,if_true]at h1;exact hF n h1
  ·simp only[Yq,e1,if_false]at h1;exact hR.frz r1 n h1
theorem Xp {w:World} {F:Fp} {H:Store} {loc:Loc} {fp:Nat->Fp} (hR:Roots w F H loc fp) {r:Nat} (hr:H r= .free) {R:Root} {l:Value} {f:Fp}
  (hok: ∀H' loc',Keep w F H loc w F H' loc'->RootOk w F H' loc' R l f) (hd: ∀n r,f n-> ¬fp r n) (hF: ∀n,f n-> ¬F n):
  Roots w F (H.set r R) (loc.set r l) (Yq fp r f)/\Keep w F H loc w F (H.set r R) (loc.set r l):=Ydf hR hr (λhk=>hok _ _ hk) hd hF
structure Given (w:World) (F:Fp) (H:Store) (loc:Loc) (fp:Nat->Fp) (u:Ups) (loc':Loc) (fp':Nat->Fp) (f:Fp):Prop where
 roots:Roots w F (H.upd u) loc' fp'
 keep:Keep w F H loc w F (H.upd u) loc'
 from_: ∀r n,fp' r n->fp r n∨f n
theorem RefR.root {w:World} {H:Store} {loc:Loc} {r:Nat} {e:Ty} {d:Nat} {xs:List e.den} {ver:Nat} {pin:Bool} {v:Value} (h:H r= .arr e d xs ver pin) (hl:loc r=v) (h1:Xu v) (hn:ver=1->NN v:=by intro h;cases h):
  RefR w H loc r ver [] v:=⟨⟨h1,λ_=>hn⟩,by rw[h];exact⟨Nat.le_refl _,λ_=>hl.symm,λh=>absurd rfl h⟩⟩
theorem RefR.rootM {w:World} {H:Store} {loc:Loc} {r:Nat} {kd:MK} {ks:List ByteArray} {v:Value} (h:H r= .mp kd ks) (hl:loc r=v) (h1:Xu v) (ver:Nat) (hn:ver=1->NN v:=by intro h;cases h):RefR w H loc r ver [] v:=⟨⟨h1,λ_=>hn⟩,by rw[h];exact λ_=>hl.symm⟩
theorem BptrR.root {H:Store} {loc:Loc} {r:Nat} {c:List AV} {b:Nat} (h:H r= .box c) (hl:loc r= .pointer (some ⟨b,0,none⟩)) (o:Nat):
  BptrR H loc r o (.pointer (some ⟨b,o,none⟩)):=⟨b,rfl,by rw[h];exact hl⟩
theorem Loc.set_same (l:Loc) (r:Nat) (v:Value):(l.set r v) r=v:=by simp[Loc.set]
theorem YaL {w:World} {F:Fp}: ∀(ad:AD) {H V:Store} {loc:Loc} {fp:Nat->Fp} {slot k k':Nat} {a:AV} {x:ad.den} {u:Ups} {cs:List Value} {f:Fp},Roots w F H loc fp->
  Own V H slot->DR w F ad cs x f->(∀n r,f n-> ¬fp r n)->(∀n,f n-> ¬F n)->mkD V slot k ad x=some (a,u,k')-> ∃loc' fp',Given w F H loc fp u loc' fp' f/\AVC w F (H.upd u) loc' a cs
 | .v t,H,V,loc,fp,slot,k,k',a,x,u,cs,f,hR,hO,hr,hd,hF,hm=>by
  simp only[mkD]at hm
  cases hm
  have hn:=Rep.none0 t hr
  exact⟨loc,fp,⟨hR,Keep.refl ..,λ_ _ h=> .inl h⟩,Rep.fpEq hr λn=>⟨λh=>(hn n h).elim,λh=>h.elim⟩⟩
 | .mv e d,H,V,loc,fp,slot,k,k',a,x,u,cs,f,hR,hO,hr,hd,hF,hm=>by
  simp only[mkD]at hm
  split at hm
  rotate_left
  ·cases hm
  rename_i hfree
  cases hm
  have hfr:=hO.at hfree
  have hl:=Rep.len _ hr
  match cs,hl,hr with
  | [v],_,hr=>
   obtain⟨h1,h2⟩:=Xp hR hfr (R:= .arr e d x 0 false) (l:=v) (f:=f) (λ_ _ _=>hr) hd hF
   refine⟨_,_,⟨h1,h2,λr n hn=>?_⟩,v,rfl,RefR.root (Store.set_same ..) (Loc.set_same ..) (Rep.one _ hr v (by simp))⟩
   by_cases e1:r=slot*16+k
   ·simp only[Yq,e1,if_true]at hn;exact .inr hn
   ·simp only[Yq,e1,if_false]at hn;exact .inl hn
 | .io e d,H,V,loc,fp,slot,k,k',a,x,u,cs,f,hR,hO,hr,hd,hF,hm=>by
  simp only[mkD]at hm
  split at hm
  rotate_left
  ·cases hm
  rename_i hfree
  cases hm
  have hfr:=hO.at hfree
  have hl:=Rep.len _ hr
  match cs,hl,hr with
  | [v],_,hr=>
   obtain⟨h1,h2⟩:=Xp hR hfr (R:= .arr e d x 0 true) (l:=v) (f:=f) (λ_ _ _=>hr) hd hF
   refine⟨_,_,⟨h1,h2,λr n hn=>?_⟩,v,rfl,RefR.root (Store.set_same ..) (Loc.set_same ..) (Rep.one _ hr v (by simp))⟩
   by_cases e1:r=slot*16+k
   ·simp only[Yq,e1,if_true]at hn;exact .inr hn
   ·simp only[Yq,e1,if_false]at hn;exact .inl hn
 | .nv e d,H,V,loc,fp,slot,k,k',a,x,u,cs,f,hR,hO,hr,hd,hF,hm=>by
  obtain⟨hr,hnv⟩:=hr
  simp only[mkD]at hm
  split at hm
  rotate_left
  ·cases hm
  rename_i hfree
  cases hm
  have hfr:=hO.at hfree
  have hl:=Rep.len _ hr
  match cs,hl,hr with
  | [v],_,hr=>
   obtain⟨h1,h2⟩:=Xp hR hfr (R:= .arr e d x.2 0 false) (l:=v) (f:=f) (λ_ _ _=>hr) hd hF
   refine⟨_,_,⟨h1,h2,λr n hn=>?_⟩,v,rfl,RefR.root (Store.set_same ..) (Loc.set_same ..) (Rep.one _ hr v (by simp)),λe=>?_,λe=>(List.cons.inj (hnv.2 e)).1⟩
   ·by_cases e1:r=slot*16+k
    ·simp only[Yq,e1,if_true]at hn;exact .inr hn
    ·simp only[Yq,e1,if_false]at hn;exact .inl hn
   ·obtain⟨v',h3,h4⟩:=hnv.1 e
    rw[(List.cons.inj h3).1];exact h4
 | .pr ad bd,H,V,loc,fp,slot,k,k',a,x,u,cs,f,hR,hO,hr,hd,hF,hm=>by
  obtain⟨c1,c2,f1,f2,rfl,hf,hdis,hr1,hr2⟩:=hr
  simp only[mkD]at hm
  split at hm
  rotate_left
  ·cases hm
  rename_i y u1 k1 h1
  split at hm
  rotate_left
  ·cases hm
  rename_i z u2 k2 h2
  cases hm
  obtain⟨loc1,fp1,g1,a1⟩:=YaL ad hR hO hr1 (λn r hn=>hd n r ((hf n).2 (.inl hn))) (λn hn=>hF n ((hf n).2 (.inl hn))) h1
  obtain⟨loc2,fp2,g2,a2⟩:=YaL bd g1.roots (hO.upd u1) hr2 (λn r hn hh=>by
   rcases g1.from_ r n hh with hh|hh
   ·exact hd n r ((hf n).2 (.inr hn)) hh
   ·exact hdis n hh hn) (λn hn=>hF n ((hf n).2 (.inr hn))) h2
  refine⟨loc2,fp2,⟨by rw[Store.upd_append];exact g2.roots,by rw[Store.upd_append];exact g1.keep.trans g2.keep,λr n hn=>?_⟩,?_⟩
  ·rcases g2.from_ r n hn with hn|hn
   ·rcases g1.from_ r n hn with hn|hn
    ·exact .inl hn
    ·exact .inr ((hf n).2 (.inl hn))
   ·exact .inr ((hf n).2 (.inr hn))
  ·rw[Store.upd_append];exact⟨c1,c2,rfl,g2.keep.c _ _ a1,a2⟩
 | .bx ad,H,V,loc,fp,slot,k,k',a,x,u,cs,f,hR,hO,hr,hd,hF,hm=>by
  obtain⟨b,c0,f0,rfl,hb,hf,hoff,hr⟩:=hr
  simp only[mkD]at hm
  split at hm
  rotate_left
  ·cases hm
  split at hm
  rotate_left
  ·cases hm
  rename_i y u1 k1 h1
  split at hm
  rotate_left
  ·cases hm
  rename_i c hc
  split at hm
  rotate_left
  ·cases hm
  rename_i hfree
  cases hm
  obtain⟨loc1,fp1,g1,a1⟩:=YaL ad hR hO hr (λn r hn=>hd n r ((hf n).2 (.inr hn))) (λn hn=>hF n ((hf n).2 (.inr hn))) h1
  have hfr:=(hO.upd u1).at hfree
  have hcw:=Ybr y a1 hc
  obtain⟨h1,h2⟩:=Xp g1.roots hfr (R:= .box c) (l:= .pointer (some ⟨b,0,none⟩)) (f:=λn=>n=b) (λH' loc' kk=>⟨b,c0,rfl,hb,hcw.1,λ_=>Iff.rfl,(hcw.keep kk).2⟩) (by
   rintro n r rfl hh
   rcases g1.from_ r n hh with hh|hh
   ·exact hd n r ((hf n).2 (.inl rfl)) hh
   ·exact hoff hh) (by rintro n rfl;exact hF n ((hf n).2 (.inl rfl)))
  refine⟨_,_,⟨by rw[Store.upd_append];exact h1,by rw[Store.upd_append];exact g1.keep.trans h2,λr n hn=>?_⟩,?_⟩
  ·by_cases e1:r=slot*16+k
   ·simp only[Yq,e1,if_true]at hn;exact .inr ((hf n).2 (.inl hn))
   ·simp only[Yq,e1,if_false]at hn
    rcases g1.from_ r n hn with hn|hn
    ·exact .inl hn
    ·exact .inr ((hf n).2 (.inr hn))
  ·rw[Store.upd_append]
   exact⟨_,rfl,BptrR.root (Store.set_same ..) (Loc.set_same ..) 0⟩
 | .jk n,H,V,loc,fp,slot,k,k',a,x,u,cs,f,hR,hO,hr,hd,hF,hm=>by
  simp only[mkD]at hm
  cases hm
  exact⟨loc,fp,⟨hR,Keep.refl ..,λ_ _ h=> .inl h⟩,hr.1⟩
 | .mp _,H,V,loc,fp,slot,k,k',a,x,u,cs,f,hR,hO,hr,hd,hF,hm=>by
  simp only[mkD]at hm
  split at hm
  rotate_left
  ·cases hm
  rename_i hfree
  cases hm
  have hfr:=hO.at hfree
  obtain⟨b,rfl,hf,es,cl,he,hmi⟩:=hr
  obtain⟨h1,h2⟩:=Xp hR hfr (R:= .mp _ x) (l:= .map (some b)) (f:=f) (λ_ _ _=>⟨b,rfl,hf,es,cl,he,hmi⟩) hd hF
  refine⟨_,_,⟨h1,h2,λr n hn=>?_⟩,.map (some b),rfl,RefR.rootM (Store.set_same ..) (Loc.set_same ..) (show Xu (.map (some b)) from trivial) 0⟩
  by_cases e1:r=slot*16+k
  ·simp only[Yq,e1,if_true]at hn;exact .inr hn
  ·simp only[Yq,e1,if_false]at hn;exact .inl hn
 | .gs e d,H,V,loc,fp,slot,k,k',a,x,u,cs,f,hR,hO,hr,hd,hF,hm=>by
  simp only[mkD]at hm
  split at hm
  rotate_left
  ·cases hm
  rename_i hfree
  cases hm
  have hfr:=hO.at hfree
  obtain⟨l,rfl,hr⟩:=hr
  obtain⟨h1,h2⟩:=Xp hR hfr (R:= .ho e d x.1 0 false (-1-x.2)) (l:=l) (f:=f) (λ_ _ _=>hr) hd hF
  have hone:Xu l:=by obtain⟨_,_,_,rfl⟩:=hr.one;trivial
  refine⟨_,_,⟨h1,h2,λr n hn=>?_⟩,l,rfl,⟨hone,λ_ h=>by cases h⟩,?_⟩
  ·by_cases e1:r=slot*16+k
   ·simp only[Yq,e1,if_true]at hn;exact .inr hn
   ·simp only[Yq,e1,if_false]at hn;exact .inl hn
  ·have e1:(H.upd [(slot*16+k,Root.ho e d x.1 0 false (-1-x.2))]) (slot*16+k)=Root.ho e d x.1 0 false (-1-x.2):=Store.set_same ..
   rw[e1]
   exact⟨Nat.le_refl _,λ_=>(Loc.set_same ..).symm,λ_ a b hp=>by cases hp⟩
 | .pz t,H,V,loc,fp,slot,k,k',a,x,u,cs,f,hR,hO,hr,hd,hF,hm=>by
  simp only[mkD]at hm
  split at hm
  rotate_left
  ·cases hm
  rename_i hfree
  cases hm
  have hfr:=hO.at hfree
  obtain⟨b,rfl,hr⟩:=hr
  obtain⟨h1,h2⟩:=Xp hR hfr (R:= .pz t x) (l:= .pointer (some ⟨b,0,none⟩)) (f:=f) (λ_ _ _=>hr) hd hF
  refine⟨_,_,⟨h1,h2,λr n hn=>?_⟩,_,rfl,b,rfl,?_⟩
  ·by_cases e1:r=slot*16+k
   ·simp only[Yq,e1,if_true]at hn;exact .inr hn
   ·simp only[Yq,e1,if_false]at hn;exact .inl hn
  ·have e1:(H.upd [(slot*16+k,Root.pz t x)]) (slot*16+k)=Root.pz t x:=Store.set_same ..
   rw[e1]
   exact Loc.set_same ..
 | .bf e,H,V,loc,fp,slot,k,k',a,x,u,cs,f,hR,hO,hr,hd,hF,hm=>by
  simp only[mkD]at hm
  split at hm
  rotate_left
  ·cases hm
  rename_i hfree
  cases hm
  have hfr:=hO.at hfree
  obtain⟨l,rfl,hr,hv⟩:=hr
  obtain⟨h1,h2⟩:=Xp hR hfr (R:= .bf e x.1 x.2 0 true) (l:=l) (f:=f) (λ_ _ _=>⟨hr,hv⟩) hd hF
  have hone:Xu l:=by obtain⟨_,_,_,rfl,_⟩:=hv;trivial
  refine⟨_,_,⟨h1,h2,λr n hn=>?_⟩,l,rfl,⟨hone,λ_ h=>by cases h⟩,?_⟩
  ·by_cases e1:r=slot*16+k
   ·simp only[Yq,e1,if_true]at hn;exact .inr hn
   ·simp only[Yq,e1,if_false]at hn;exact .inl hn
  ·have e1:(H.upd [(slot*16+k,Root.bf e x.1 x.2 0 true)]) (slot*16+k)=Root.bf e x.1 x.2 0 true:=Store.set_same ..
   rw[e1]
   exact⟨Nat.le_refl _,λ_=>(Loc.set_same ..).symm,λ_ b hp=>by cases hp⟩
 | .un,H,V,loc,fp,slot,k,k',a,x,u,cs,f,hR,hO,hr,hd,hF,hm=>hr.elim
end Go.Va
