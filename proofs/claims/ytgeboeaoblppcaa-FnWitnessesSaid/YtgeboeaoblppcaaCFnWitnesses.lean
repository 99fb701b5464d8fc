/- Contexts of the typed functions; no conditions. -/
import Derived.Test.YtgeboeaoblppcaaV5
import Derived.Test.YtgeboeaoblppcaaProg
import Derived.Test.YtgeboeaoblppcaaPFnWitnesses
import Derived.KernelRfl
set_option linter.all false
set_option linter.unusedVariables false
set_option maxRecDepth 10000
open Go Go.Va Go.Proofs
namespace T
noncomputable section
abbrev y0:Ty:= .slice .int
abbrev y1:Ty:= .pair .int (.slice (.pair .int y0))
abbrev y2:Ty:= .pair (.slice (.num .u8)) (.pair .int (.num .u64))
abbrev y3:Ty:= .slice y0
abbrev y4:Ty:= .pair .int y0
abbrev y5:Ty:= .pair y1 (.pair .int (.pair y3 (.smap .si)))
abbrev y6:Ty:= .slice (.num .u8)
def tt:List (Nat×TI):= [
 (2,{ ty:= .int }),
 (3,{ ty:= .int }),
 (4,{ ty:= .bool }),
 (5,{ ty:=(.num .u8) }),
 (6,{ ty:=(.num .u8) }),
 (8,{ ty:=(.pair .int (.pair .int (.pair .bool (.num .u8)))),fields:= [2,3,4,6] }),
 (9,{ ty:= .str }),
 (22,{ ty:=y0,elem:=3 }),
 (25,{ ty:=y3,elem:=22 }),
 (30,{ ty:=y4,fields:= [3,22] }),
 (39,{ ty:=y6,elem:=5 }),
 (47,{ ty:=(.slice y4),elem:=30 }),
 (49,{ ty:=y1,fields:= [3,47] }),
 (59,{ ty:=(.smap (.ab 3)),elem:=61 }),
 (61,{ ty:=(.pair .int (.pair .int .int)),fields:= [3,3,3],arr:=true }),
 (64,{ ty:=(.op false) }),
 (72,{ ty:=(.smap .si) }),
 (74,{ ty:=y5,fields:= [49,3,25,72] }),
 (76,{ ty:=(.num .u64) }),
 (78,{ ty:=y2,fields:= [39,3,76] }),
 (126,{ ty:=(.num .u64) })]
theorem tabT:Yif Try.prog tt=true:=by kernel_rfl
theorem mixT:Try.prog.follows .mixedOrders=true:=by kernel_rfl
def E_1:Entry where
 params:= [.v y6]
 results:= [.v .bool]
 B:=Bool
 run:=λa=>E2 a
 out:=λb=>()
 res:=λb=>b
def C_1:Cx:=cx0 tt [] [] 1
def D_1:Code:=Try.f19.body.getD .skip
def N_1 (_:XK E_1.params) (r:YH E_1.results):E_1.B:=r
def E_2:Entry where
 params:= [.bx (.v y2)]
 results:= [.v .int]
 B:=((List Int)×Int×Int)×Int
 run:=λa=>Bx a
 out:=λb=>b.1
 res:=λb=>b.2
def C_2:Cx:=cx0 tt [] [] 1
def D_2:Code:=Try.f100.body.getD .skip
def N_2 (o:XK E_2.params) (r:YH E_2.results):E_2.B:=(o,r)
def E_3:Entry where
 params:= [.bx (.v y2),.v .int]
 results:= [.v .int]
 B:=((List Int)×Int×Int)×Int
 run:=λa=>Ad a.1 a.2
 out:=λb=>(b.1,())
 res:=λb=>b.2
def C_3:Cx:=cx0 tt [(100,E_2)] [] 2
def D_3:Code:=Try.f86.body.getD .skip
def N_3 (o:XK E_3.params) (r:YH E_3.results):E_3.B:=(o.1,r)
def E_4:Entry where
 params:= [.bx (.v y2),.v y0]
 results:= [.v .int]
 B:=((List Int)×Int×Int)×Int
 run:=λa=>Ab a.1 a.2
 out:=λb=>(b.1,())
 res:=λb=>b.2
def C_4:Cx:=cx0 tt [(86,E_3)] [] 2
def D_4:Code:=Try.f85.body.getD .skip
def N_4 (o:XK E_4.params) (r:YH E_4.results):E_4.B:=(o.1,r)
def E_5:Entry where
 params:= [.v y0,.v y0]
 results:= [.v .bool]
 B:=Bool
 run:=λa=>DM a.1 a.2
 out:=λb=>((),())
 res:=λb=>b
def S_5L2 (n:Nat):LoopSpec where
 sh:= [(0,.v y0),(1,.v y0),(5,.v .int)]
 ex:= [(.exit 0,[]),(.ret,[(4,.v .bool)])]
 run:=B4 n
def C_5:Cx:=cx0 tt [] [(2,S_5L2 Aa)] 2
def B_5L2:Code:=(Try.f62.body.bind (Yag 2)).getD .skip
def D_5:Code:=Try.f62.body.getD .skip
def N_5 (_:XK E_5.params) (r:YH E_5.results):E_5.B:=r
def E_6:Entry where
 params:= [.v y0,.v y0]
 results:= [.v .bool]
 B:=Bool
 run:=λa=>Da a.1 a.2
 out:=λb=>((),())
 res:=λb=>b
def S_6L4 (n:Nat):LoopSpec where
 sh:= [(0,.v y0),(1,.v y0),(5,.v .int)]
 ex:= [(.exit 0,[]),(.ret,[(4,.v .bool)])]
 run:=B1 n
def C_6:Cx:=cx0 tt [] [(4,S_6L4 Aa)] 2
def B_6L4:Code:=(Try.f93.body.bind (Yag 4)).getD .skip
def D_6:Code:=Try.f93.body.getD .skip
def N_6 (_:XK E_6.params) (r:YH E_6.results):E_6.B:=r
def E_7:Entry where
 params:= [.v y3,.v y0]
 results:= [.v .int,.v .bool]
 B:=Int×Bool
 run:=λa=>BC a.1 a.2
 out:=λb=>((),())
 res:=λb=>(b.1,b.2)
def S_7L2 (n:Nat):LoopSpec where
 sh:= [(0,.v y3),(1,.v y0),(6,.v .int),(7,.v .int)]
 ex:= [(.exit 0,[(0,.v y3),(1,.v y0),(6,.v .int)])]
 run:=BK n
def C_7:Cx:=cx0 tt [(62,E_5),(93,E_6)] [(2,S_7L2 Aa)] 2
def B_7L2:Code:=(Try.f66.body.bind (Yag 2)).getD .skip
def D_7:Code:=Try.f66.body.getD .skip
def N_7 (_:XK E_7.params) (r:YH E_7.results):E_7.B:=(r.1,r.2)
def E_8:Entry where
 params:= [.v y3,.v y0]
 results:= [.v y3]
 B:=(List (List Int))
 run:=λa=>CI a.1 a.2
 out:=λb=>((),())
 res:=λb=>b
def C_8:Cx:=cx0 tt [(66,E_7)] [] 2
def D_8:Code:=Try.f67.body.getD .skip
def N_8 (_:XK E_8.params) (r:YH E_8.results):E_8.B:=r
def E_9:Entry where
 params:= [.bx (.v y2),.v .int]
 results:= [.v .bool]
 B:=((List Int)×Int×Int)×Bool
 run:=λa=>Ag a.1 a.2
 out:=λb=>(b.1,())
 res:=λb=>b.2
def C_9:Cx:=cx0 tt [(86,E_3)] [] 2
def D_9:Code:=Try.f56.body.getD .skip
def N_9 (o:XK E_9.params) (r:YH E_9.results):E_9.B:=(o.1,r)
def E_10:Entry where
 params:= [.v .int]
 results:= [.pr (.v .int) (.mv .int 0)]
 B:=(Int×(List Int))
 run:=λa=>A9 a
 out:=λb=>()
 res:=λb=>b
def S_10L3 (n:Nat):LoopSpec where
 sh:= [(0,.v .int),(2,.bx (.pr (.v .int) (.mv .int 0))),(3,.bx (.pr (.v .int) (.mv .int 0))),(4,.v .int)]
 ex:= [(.exit 0,[(2,.bx (.pr (.v .int) (.mv .int 0))),(3,.bx (.pr (.v .int) (.mv .int 0)))])]
 run:=Bp n
def C_10:Cx:=cx0 tt [] [(3,S_10L3 Aa)] 1
def B_10L3:Code:=(Try.f57.body.bind (Yag 3)).getD .skip
def D_10:Code:=Try.f57.body.getD .skip
def N_10 (_:XK E_10.params) (r:YH E_10.results):E_10.B:=r
def E_11:Entry where
 params:= [.v .int,.v .int]
 results:= [.v .int]
 B:=Int
 run:=λa=>Ca a.1 a.2
 out:=λb=>((),())
 res:=λb=>b
def C_11:Cx:=cx0 tt [] [] 2
def D_11:Code:=Try.f87.body.getD .skip
def N_11 (_:XK E_11.params) (r:YH E_11.results):E_11.B:=r
def E_12:Entry where
 params:= [.v .int,.v .int]
 results:= [.v .int]
 B:=Int
 run:=λa=>Ey a.1 a.2
 out:=λb=>((),())
 res:=λb=>b
def C_12:Cx:=cx0 tt [] [] 2
def D_12:Code:=Try.f92.body.getD .skip
def N_12 (_:XK E_12.params) (r:YH E_12.results):E_12.B:=r
def E_13:Entry where
 params:= [.v y1]
 results:= [.v .int]
 B:=Int
 run:=λa=>Db a
 out:=λb=>()
 res:=λb=>b
def S_13L3 (n:Nat):LoopSpec where
 sh:= [(1,.bx (.v y1)),(3,.v .int),(4,.v .int)]
 ex:= [(.exit 0,[(3,.v .int)])]
 run:=C3 n
def C_13:Cx:=cx0 tt [(92,E_12)] [(3,S_13L3 Aa)] 1
def B_13L3:Code:=(Try.f63.body.bind (Yag 3)).getD .skip
def D_13:Code:=Try.f63.body.getD .skip
def N_13 (_:XK E_13.params) (r:YH E_13.results):E_13.B:=r
def E_14:Entry where
 params:= [.v y0]
 results:= [.mv .int 0]
 B:=(List Int)
 run:=λa=>B0 a
 out:=λb=>()
 res:=λb=>b
def C_14:Cx:=cx0 tt [] [] 1
def D_14:Code:=Try.f64.body.getD .skip
def N_14 (_:XK E_14.params) (r:YH E_14.results):E_14.B:=r
def E_15:Entry where
 params:= [.v y1,.v .int,.v y3,.v .int]
 results:= [.mv .int 0]
 B:=(List Int)
 run:=λa=>Cb a.1 a.2.1 a.2.2.1 a.2.2.2
 out:=λb=>((),(),(),())
 res:=λb=>b
def S_15L7 (n:Nat):LoopSpec where
 sh:= [(1,.v .int),(2,.v y3),(3,.v .int),(4,.bx (.v y1)),(9,.mv .int 0),(10,.v .int),(11,.v .int),(12,.v .int)]
 ex:= [(.exit 2,[(1,.v .int),(2,.v y3),(3,.v .int),(4,.bx (.v y1)),(9,.mv .int 0),(10,.v .int),(11,.v .int)])]
 run:=Ck n
def S_15L3 (n:Nat):LoopSpec where
 sh:= [(1,.v .int),(2,.v y3),(3,.v .int),(4,.bx (.v y1)),(9,.mv .int 0),(10,.v .int)]
 ex:= [(.exit 0,[(9,.mv .int 0)])]
 run:=Bz n
def C_15:Cx:=cx0 tt [] [(7,S_15L7 Aa),(3,S_15L3 Aa)] 4
def B_15L7:Code:=(Try.f65.body.bind (Yag 7)).getD .skip
def B_15L3:Code:=(Try.f65.body.bind (Yag 3)).getD .skip
def D_15:Code:=Try.f65.body.getD .skip
def N_15 (_:XK E_15.params) (r:YH E_15.results):E_15.B:=r
def E_16:Entry where
 params:= [.v y0,.v .int]
 results:= [.v .bool]
 B:=Bool
 run:=λa=>Dx a.1 a.2
 out:=λb=>((),())
 res:=λb=>b
def S_16L2 (n:Nat):LoopSpec where
 sh:= [(0,.v y0),(1,.v .int),(5,.v .int)]
 ex:= [(.exit 0,[]),(.ret,[(4,.v .bool)])]
 run:=Ci n
def C_16:Cx:=cx0 tt [] [(2,S_16L2 Aa)] 2
def B_16L2:Code:=(Try.f68.body.bind (Yag 2)).getD .skip
def D_16:Code:=Try.f68.body.getD .skip
def N_16 (_:XK E_16.params) (r:YH E_16.results):E_16.B:=r
def E_17:Entry where
 params:= [.v y3,.v y0]
 results:= [.mv y0 0]
 B:=(List (List Int))
 run:=λa=>GU a.1 a.2
 out:=λb=>((),())
 res:=λb=>b
def S_17L3 (n:Nat):LoopSpec where
 sh:= [(0,.v y3),(1,.v y0),(5,.mv y0 0),(6,.v .int)]
 ex:= [(.exit 0,[(5,.mv y0 0)])]
 run:=Dp n
def C_17:Cx:=cx0 tt [] [(3,S_17L3 Aa)] 2
def B_17L3:Code:=(Try.f69.body.bind (Yag 3)).getD .skip
def D_17:Code:=Try.f69.body.getD .skip
def N_17 (_:XK E_17.params) (r:YH E_17.results):E_17.B:=r
def E_18:Entry where
 params:= [.v y0,.v .int]
 results:= [.mv .int 0,.v .bool]
 B:=(List Int)×Bool
 run:=λa=>BN a.1 a.2
 out:=λb=>((),())
 res:=λb=>(b.1,b.2)
def S_18L3 (n:Nat):LoopSpec where
 sh:= [(1,.v .int),(6,.mv .int 0),(7,.v .int)]
 ex:= [(.exit 0,[(6,.mv .int 0)]),(.ret,[(4,.mv .int 0),(5,.v .bool)])]
 run:=B5 n
def C_18:Cx:=cx0 tt [(64,E_14)] [(3,S_18L3 Aa)] 2
def B_18L3:Code:=(Try.f70.body.bind (Yag 3)).getD .skip
def D_18:Code:=Try.f70.body.getD .skip
def N_18 (_:XK E_18.params) (r:YH E_18.results):E_18.B:=(r.1,r.2)
def E_19:Entry where
 params:= [.mv y0 0,.v y0]
 results:= [.mv y0 0]
 B:=(List (List Int))
 run:=λa=>BO a.1 a.2
 out:=λb=>((),())
 res:=λb=>b
def C_19:Cx where
 tt:=YaU tt
 T:=Ygp [(66,E_7)]
 L:=Ygo []
 dep:=λi=>0
 n:=2
 pre:=λi=>match i with
  |4=> [0]
  |_=> []
def D_19:Code:=Try.f67.body.getD .skip
def N_19 (_:XK E_19.params) (r:YH E_19.results):E_19.B:=r
def E_20:Entry where
 params:= [.io y0 0,.v y0]
 results:= [.mv y0 0]
 B:=(List (List Int))×(List (List Int))
 run:=λa=>Cl a.1 a.2
 out:=λb=>(b.1,())
 res:=λb=>b.2
def S_20L3 (n:Nat):LoopSpec where
 sh:= [(0,.io y0 0),(1,.v y0),(5,.mv y0 0),(6,.v .int)]
 ex:= [(.exit 0,[(0,.io y0 0),(5,.mv y0 0)])]
 run:=Bv n
def C_20:Cx:=cx0 tt [] [(3,S_20L3 Aa)] 2
def B_20L3:Code:=(Try.f69.body.bind (Yag 3)).getD .skip
def D_20:Code:=Try.f69.body.getD .skip
def N_20 (o:XK E_20.params) (r:YH E_20.results):E_20.B:=(o.1,r)
def E_21:Entry where
 params:= [.v y1,.v .int,.v y3]
 results:= [.mv y0 0,.v .bool]
 B:=(List (List Int))×Bool
 run:=λa=>Dz a.1 a.2.1 a.2.2
 out:=λb=>((),(),())
 res:=λb=>(b.1,b.2)
def S_21L4 (n:Nat):LoopSpec where
 sh:= [(1,.v .int),(2,.v y3),(3,.bx (.v y1)),(8,.mv y0 0),(9,.mv y0 0),(10,.v .int),(11,.mv y0 0),(12,.v .int)]
 ex:= [(.exit 0,[(1,.v .int),(3,.bx (.v y1)),(8,.mv y0 0),(9,.mv y0 0),(10,.v .int),(11,.mv y0 0)])]
 run:=BA n
def S_21L8 (n:Nat):LoopSpec where
 sh:= [(1,.v .int),(3,.bx (.v y1)),(8,.mv y0 0),(9,.mv y0 0),(10,.v .int),(11,.mv y0 0),(13,.v .int)]
 ex:= [(.exit 2,[(1,.v .int),(3,.bx (.v y1)),(8,.mv y0 0),(9,.mv y0 0),(10,.v .int),(11,.mv y0 0)])]
 run:=BR n
def S_21L13 (n:Nat):LoopSpec where
 sh:= [(1,.v .int),(3,.bx (.v y1)),(8,.mv y0 0),(9,.mv y0 0),(10,.v .int),(11,.mv y0 0),(14,.v .int)]
 ex:= [(.exit 4,[(1,.v .int),(3,.bx (.v y1)),(8,.mv y0 0),(9,.mv y0 0),(10,.v .int)])]
 run:=Bd n
def S_21L26 (n:Nat):LoopSpec where
 sh:= [(1,.v .int),(3,.bx (.v y1)),(8,.mv y0 0),(9,.mv y0 0),(10,.v .int),(17,.v .int),(18,.v .int),(19,.mv .int 0),(20,.v .bool)]
 ex:= [(.exit 10,[(1,.v .int),(3,.bx (.v y1)),(8,.mv y0 0),(9,.mv y0 0),(10,.v .int),(17,.v .int),(18,.v .int)])]
 run:=Aw n
def S_21L23 (n:Nat):LoopSpec where
 sh:= [(1,.v .int),(3,.bx (.v y1)),(8,.mv y0 0),(9,.mv y0 0),(10,.v .int),(17,.v .int),(18,.v .int)]
 ex:= [(.exit 8,[(1,.v .int),(3,.bx (.v y1)),(8,.mv y0 0),(9,.mv y0 0),(10,.v .int),(17,.v .int)])]
 run:=Bq n
def S_21L20 (n:Nat):LoopSpec where
 sh:= [(1,.v .int),(3,.bx (.v y1)),(8,.mv y0 0),(9,.mv y0 0),(10,.v .int),(17,.v .int)]
 ex:= [(.exit 6,[(8,.mv y0 0),(10,.v .int)])]
 run:=A7 n
def C_21:Cx:=cx0 tt [(63,E_13),(64,E_14),(65,E_15),(66,E_7),(67,E_19),(68,E_16),(69,E_20),(70,E_18)] [(4,S_21L4 Aa),(8,S_21L8 Aa),(13,S_21L13 Aa),(26,S_21L26 Aa),(23,S_21L23 Aa),(20,S_21L20 Aa)] 3
def B_21L4:Code:=(Try.f31.body.bind (Yag 4)).getD .skip
def B_21L8:Code:=(Try.f31.body.bind (Yag 8)).getD .skip
def B_21L13:Code:=(Try.f31.body.bind (Yag 13)).getD .skip
def B_21L26:Code:=(Try.f31.body.bind (Yag 26)).getD .skip
def B_21L23:Code:=(Try.f31.body.bind (Yag 23)).getD .skip
def B_21L20:Code:=(Try.f31.body.bind (Yag 20)).getD .skip
def D_21:Code:=Try.f31.body.getD .skip
def N_21 (_:XK E_21.params) (r:YH E_21.results):E_21.B:=(r.1,r.2)
def E_22:Entry where
 params:= [.v y1,.v .int,.bf y0]
 results:= [.mv y0 0,.v .bool]
 B:=(List (List Int))×(List (List Int))×Bool
 run:=λa=>Bw a.1 a.2.1 a.2.2
 out:=λb=>((),(),b.1)
 res:=λb=>(b.2.1,b.2.2)
def S_22L4 (n:Nat):LoopSpec where
 sh:= [(1,.v .int),(2,.bf y0),(3,.bx (.v y1)),(8,.mv y0 0),(9,.mv y0 0),(10,.v .int),(11,.mv y0 0),(12,.v .int)]
 ex:= [(.exit 0,[(1,.v .int),(2,.bf y0),(3,.bx (.v y1)),(8,.mv y0 0),(9,.mv y0 0),(10,.v .int),(11,.mv y0 0)])]
 run:=Bi n
def S_22L8 (n:Nat):LoopSpec where
 sh:= [(1,.v .int),(2,.bf y0),(3,.bx (.v y1)),(8,.mv y0 0),(9,.mv y0 0),(10,.v .int),(11,.mv y0 0),(13,.v .int)]
 ex:= [(.exit 2,[(1,.v .int),(2,.bf y0),(3,.bx (.v y1)),(8,.mv y0 0),(9,.mv y0 0),(10,.v .int),(11,.mv y0 0)])]
 run:=BB n
def S_22L13 (n:Nat):LoopSpec where
 sh:= [(1,.v .int),(2,.bf y0),(3,.bx (.v y1)),(8,.mv y0 0),(9,.mv y0 0),(10,.v .int),(11,.mv y0 0),(14,.v .int)]
 ex:= [(.exit 4,[(1,.v .int),(2,.bf y0),(3,.bx (.v y1)),(8,.mv y0 0),(9,.mv y0 0),(10,.v .int)])]
 run:=AU n
def S_22L26 (n:Nat):LoopSpec where
 sh:= [(1,.v .int),(2,.bf y0),(3,.bx (.v y1)),(8,.mv y0 0),(9,.mv y0 0),(10,.v .int),(17,.v .int),(18,.v .int),(19,.mv .int 0),(20,.v .bool)]
 ex:= [(.exit 10,[(1,.v .int),(2,.bf y0),(3,.bx (.v y1)),(8,.mv y0 0),(9,.mv y0 0),(10,.v .int),(17,.v .int),(18,.v .int)])]
 run:=Ap n
def S_22L23 (n:Nat):LoopSpec where
 sh:= [(1,.v .int),(2,.bf y0),(3,.bx (.v y1)),(8,.mv y0 0),(9,.mv y0 0),(10,.v .int),(17,.v .int),(18,.v .int)]
 ex:= [(.exit 8,[(1,.v .int),(2,.bf y0),(3,.bx (.v y1)),(8,.mv y0 0),(9,.mv y0 0),(10,.v .int),(17,.v .int)])]
 run:=Be n
def S_22L20 (n:Nat):LoopSpec where
 sh:= [(1,.v .int),(2,.bf y0),(3,.bx (.v y1)),(8,.mv y0 0),(9,.mv y0 0),(10,.v .int),(17,.v .int)]
 ex:= [(.exit 6,[(2,.bf y0),(8,.mv y0 0),(10,.v .int)])]
 run:=AO n
def C_22:Cx:=cx0 tt [(63,E_13),(64,E_14),(65,E_15),(66,E_7),(67,E_19),(68,E_16),(69,E_20),(70,E_18)] [(4,S_22L4 Aa),(8,S_22L8 Aa),(13,S_22L13 Aa),(26,S_22L26 Aa),(23,S_22L23 Aa),(20,S_22L20 Aa)] 3
def B_22L4:Code:=(Try.f31.body.bind (Yag 4)).getD .skip
def B_22L8:Code:=(Try.f31.body.bind (Yag 8)).getD .skip
def B_22L13:Code:=(Try.f31.body.bind (Yag 13)).getD .skip
def B_22L26:Code:=(Try.f31.body.bind (Yag 26)).getD .skip
def B_22L23:Code:=(Try.f31.body.bind (Yag 23)).getD .skip
def B_22L20:Code:=(Try.f31.body.bind (Yag 20)).getD .skip
def D_22:Code:=Try.f31.body.getD .skip
def N_22 (o:XK E_22.params) (r:YH E_22.results):E_22.B:=(o.2.2,r.1,r.2)
def E_23:Entry where
 params:= [.bx (.v y2),.v .bool]
 results:= [.v .int,.v .int,.mv y0 0]
 B:=((List Int)×Int×Int)×Int×Int×(List (List Int))
 run:=λa=>B8 a.1 a.2
 out:=λb=>(b.1,())
 res:=λb=>(b.2.1,b.2.2.1,b.2.2.2)
def S_23L10 (n:Nat):LoopSpec where
 sh:= [(0,.bx (.v y2)),(7,.v .int),(8,.v .int),(9,.mv y0 0),(10,.v .int),(11,.mv .int 0),(12,.v .int)]
 ex:= [(.exit 2,[(0,.bx (.v y2)),(7,.v .int),(8,.v .int),(9,.mv y0 0),(10,.v .int),(11,.mv .int 0)])]
 run:=AY n
def S_23L6 (n:Nat):LoopSpec where
 sh:= [(0,.bx (.v y2)),(7,.v .int),(8,.v .int),(9,.mv y0 0),(10,.v .int)]
 ex:= [(.exit 0,[(0,.bx (.v y2)),(7,.v .int),(8,.v .int),(9,.mv y0 0)])]
 run:=AA n
def C_23:Cx where
 tt:=YaU tt
 T:=Ygp [(31,E_22),(56,E_9),(57,E_10),(67,E_19),(85,E_4),(86,E_3),(87,E_11)]
 L:=Ygo [(10,S_23L10 Aa),(6,S_23L6 Aa)]
 dep:=λi=>match i with
  |62=>98
  |_=>0
 n:=2
def B_23L10:Code:=(Try.f53.body.bind (Yag 10)).getD .skip
def B_23L6:Code:=(Try.f53.body.bind (Yag 6)).getD .skip
def D_23:Code:=Try.f53.body.getD .skip
def N_23 (o:XK E_23.params) (r:YH E_23.results):E_23.B:=(o.1,r.1,r.2.1,r.2.2)
def E_24:Entry where
 params:= [.v y6]
 results:= [.v .int,.v .int,.mv y0 0]
 B:=Int×Int×(List (List Int))
 run:=λa=>Dn a
 out:=λb=>()
 res:=λb=>(b.1,b.2.1,b.2.2)
def C_24:Cx:=cx0 tt [(53,E_23)] [] 1
def D_24:Code:=Try.f43.body.getD .skip
def N_24 (_:XK E_24.params) (r:YH E_24.results):E_24.B:=(r.1,r.2.1,r.2.2)
def E_25:Entry where
 params:= [.v y6]
 results:= [.v .int,.v .int,.mv y0 0]
 B:=Int×Int×(List (List Int))
 run:=λa=>BZ a
 out:=λb=>()
 res:=λb=>(b.1,b.2.1,b.2.2)
def C_25:Cx:=cx0 tt [(43,E_24)] [] 1
def D_25:Code:=Try.f20.body.getD .skip
def N_25 (_:XK E_25.params) (r:YH E_25.results):E_25.B:=(r.1,r.2.1,r.2.2)
def E_26:Entry where
 params:= [.v .int]
 results:= [.v .bool]
 B:=Bool
 run:=λa=>C6 a
 out:=λb=>()
 res:=λb=>b
def C_26:Cx:=cx0 tt [] [] 1
def D_26:Code:=Try.f48.body.getD .skip
def N_26 (_:XK E_26.params) (r:YH E_26.results):E_26.B:=r
def E_27:Entry where
 params:= [.v y0,.v .int]
 results:= [.v .bool]
 B:=Bool
 run:=λa=>CP a.1 a.2
 out:=λb=>((),())
 res:=λb=>b
def S_27L2 (n:Nat):LoopSpec where
 sh:= [(1,.v .int),(7,.v y0),(8,.v .int),(9,.v .int)]
 ex:= [(.exit 0,[]),(.ret,[(4,.v .bool)])]
 run:=BX n
def C_27:Cx:=cx0 tt [] [(2,S_27L2 Aa)] 2
def B_27L2:Code:=(Try.f71.body.bind (Yag 2)).getD .skip
def D_27:Code:=Try.f71.body.getD .skip
def N_27 (_:XK E_27.params) (r:YH E_27.results):E_27.B:=r
def E_28:Entry where
 params:= [.v y0,.v y0]
 results:= [.v .int]
 B:=Int
 run:=λa=>C5 a.1 a.2
 out:=λb=>((),())
 res:=λb=>b
def S_28L2 (n:Nat):LoopSpec where
 sh:= [(0,.v y0),(1,.v y0),(5,.v .int)]
 ex:= [(.exit 0,[(0,.v y0),(1,.v y0)]),(.ret,[(4,.v .int)])]
 run:=AW n
def C_28:Cx:=cx0 tt [] [(2,S_28L2 Aa)] 2
def B_28L2:Code:=(Try.f47.body.bind (Yag 2)).getD .skip
def D_28:Code:=Try.f47.body.getD .skip
def N_28 (_:XK E_28.params) (r:YH E_28.results):E_28.B:=r
def E_29:Entry where
 params:= [.v .int,.v .int,.v y3]
 results:= [.v .bool]
 B:=Bool
 run:=λa=>BP a.1 a.2.1 a.2.2
 out:=λb=>((),(),())
 res:=λb=>b
def S_29L4 (n:Nat):LoopSpec where
 sh:= [(0,.v .int),(1,.v .int),(2,.v y3),(20,.v y3),(21,.v .int),(22,.v .int)]
 ex:= [(.exit 0,[]),(.ret,[(6,.v .bool)])]
 run:=Bb n
def C_29:Cx:=cx0 tt [(47,E_28),(48,E_26),(71,E_27)] [(4,S_29L4 Aa)] 3
def B_29L4:Code:=(Try.f33.body.bind (Yag 4)).getD .skip
def D_29:Code:=Try.f33.body.getD .skip
def N_29 (_:XK E_29.params) (r:YH E_29.results):E_29.B:=r
def E_30:Entry where
 params:= [.v y0,.v y0]
 results:= [.v .bool]
 B:=Bool
 run:=λa=>CK a.1 a.2
 out:=λb=>((),())
 res:=λb=>b
def S_30L4 (n:Nat):LoopSpec where
 sh:= [(1,.v y0),(12,.v y0),(13,.v .int),(14,.v .int)]
 ex:= [(.exit 0,[]),(.ret,[(4,.v .bool)])]
 run:=BG n
def C_30:Cx:=cx0 tt [] [(4,S_30L4 Aa)] 2
def B_30L4:Code:=(Try.f74.body.bind (Yag 4)).getD .skip
def D_30:Code:=Try.f74.body.getD .skip
def N_30 (_:XK E_30.params) (r:YH E_30.results):E_30.B:=r
def E_31:Entry where
 params:= [.v y0]
 results:= [.mv .int 0]
 B:=(List Int)
 run:=λa=>CE a
 out:=λb=>()
 res:=λb=>b
def C_31:Cx:=cx0 tt [] [] 1
def D_31:Code:=Try.f82.body.getD .skip
def N_31 (_:XK E_31.params) (r:YH E_31.results):E_31.B:=r
def E_32:Entry where
 params:= [.v y3]
 results:= [.mv y0 1]
 B:=(List (List Int))
 run:=λa=>CY a
 out:=λb=>()
 res:=λb=>b
def S_32L3 (n:Nat):LoopSpec where
 sh:= [(3,.mv y0 1),(7,.v y3),(8,.v .int),(9,.v .int)]
 ex:= [(.exit 0,[(3,.mv y0 1)])]
 run:=Bh n
def C_32:Cx where
 tt:=YaU tt
 T:=Ygp [(82,E_31)]
 L:=Ygo [(3,S_32L3 Aa)]
 dep:=λi=>match i with
  |6=>1
  |16=>1
  |17=>1
  |_=>0
 n:=1
def B_32L3:Code:=(Try.f75.body.bind (Yag 3)).getD .skip
def D_32:Code:=Try.f75.body.getD .skip
def N_32 (_:XK E_32.params) (r:YH E_32.results):E_32.B:=r
def E_33:Entry where
 params:= [.io y0 1,.v (.fn 47)]
 results:= []
 B:=List (List Int)
 run:=λa=>Au a.1 a.2
 out:=λb=>(b,())
 res:=λb=>()
def D_33:Code:=Try.f46.body.getD .skip
def E_34:Entry where
 params:= [.v y3]
 results:= [.mv y0 1]
 B:=(List (List Int))
 run:=λa=>BV a
 out:=λb=>()
 res:=λb=>b
def C_34:Cx:=cx0 tt [(75,E_32),(3145774,E_33)] [] 1
def D_34:Code:=Try.f42.body.getD .skip
def N_34 (_:XK E_34.params) (r:YH E_34.results):E_34.B:=r
def E_35:Entry where
 params:= [.mv y0 1]
 results:= [.mv y0 1]
 B:=List (List Int)
 run:=λa=>BF a
 out:=λb=>()
 res:=λb=>b
def D_35:Code:=Try.f41.body.getD .skip
def E_36:Entry where
 params:= [.v .int,.v y0,.v y0,.bx ((.mp (.ab 3))),.bx (.mv y0 0)]
 results:= []
 B:=(List ByteArray)×(List (List Int))
 run:=λa=>Ce a.1 a.2.1 a.2.2.1 a.2.2.2.1 a.2.2.2.2
 out:=λb=>((),(),(),b.1,b.2)
 res:=λb=>()
def C_36:Cx:=cx0 tt [] [] 5
def D_36:Code:=Try.f40.body.getD .skip
def N_36 (o:XK E_36.params) (_:YH E_36.results):E_36.B:=(o.2.2.2.1,o.2.2.2.2)
def E_37:Entry where
 params:= [.v .int,.v y3,.pr (.bx ((.mp (.ab 3)))) (.bx (.mv y0 0))]
 results:= []
 cod:= [(2,.cl 40)]
 B:=((List ByteArray)×(List (List Int)))
 run:=λa=>AM a.1 a.2.1 a.2.2
 out:=λb=>((),(),b)
 res:=λb=>()
def S_37L7 (n:Nat):LoopSpec where
 sh:= [(0,.v .int),(1,.v y3),(2,.pr (.bx ((.mp (.ab 3)))) (.bx (.mv y0 0))),(6,.v .int),(7,.v .int),(8,.v .int),(9,.mv y0 0)]
 ex:= [(.exit 4,[(0,.v .int),(1,.v y3),(2,.pr (.bx ((.mp (.ab 3)))) (.bx (.mv y0 0))),(6,.v .int),(8,.v .int),(9,.mv y0 0)])]
 run:=Ac n
def S_37L15 (n:Nat):LoopSpec where
 sh:= [(655434,.jk 1),(655440,.jk 1),(0,.v .int),(1,.v y3),(2,.pr (.bx ((.mp (.ab 3)))) (.bx (.mv y0 0))),(6,.v .int),(8,.v .int),(9,.mv y0 0),(11,.v y0),(75,.v .int),(76,.v .int),(81,.v .int),(82,.v .int)]
 ex:= [(.exit 8,[(655434,.jk 1),(0,.v .int),(1,.v y3),(2,.pr (.bx ((.mp (.ab 3)))) (.bx (.mv y0 0))),(6,.v .int),(8,.v .int),(9,.mv y0 0),(75,.v .int),(76,.v .int)])]
 run:=Al n
def S_37L12 (n:Nat):LoopSpec where
 sh:= [(655434,.jk 1),(0,.v .int),(1,.v y3),(2,.pr (.bx ((.mp (.ab 3)))) (.bx (.mv y0 0))),(6,.v .int),(8,.v .int),(9,.mv y0 0),(75,.v .int),(76,.v .int)]
 ex:= [(.exit 6,[(0,.v .int),(1,.v y3),(2,.pr (.bx ((.mp (.ab 3)))) (.bx (.mv y0 0))),(6,.v .int),(8,.v .int)])]
 run:=Ak n
def S_37L4 (n:Nat):LoopSpec where
 sh:= [(0,.v .int),(1,.v y3),(2,.pr (.bx ((.mp (.ab 3)))) (.bx (.mv y0 0))),(6,.v .int),(7,.v .int)]
 ex:= [(.exit 2,[(0,.v .int),(1,.v y3),(2,.pr (.bx ((.mp (.ab 3)))) (.bx (.mv y0 0))),(6,.v .int)])]
 run:=Ai n
def S_37L1 (n:Nat):LoopSpec where
 sh:= [(0,.v .int),(1,.v y3),(2,.pr (.bx ((.mp (.ab 3)))) (.bx (.mv y0 0))),(6,.v .int)]
 ex:= [(.exit 0,[(2,.pr (.bx ((.mp (.ab 3)))) (.bx (.mv y0 0)))])]
 run:=Ah n
def C_37:Cx where
 tt:=YaU tt
 T:=Ygp [(40,E_36),(74,E_30)]
 L:=Ygo [(7,S_37L7 Aa),(15,S_37L15 Aa),(12,S_37L12 Aa),(4,S_37L4 Aa),(1,S_37L1 Aa)]
 dep:=λi=>0
 n:=3
 cod:= [(2,.cl 40)]
def B_37L7:Code:=(Try.f39.body.bind (Yag 7)).getD .skip
def B_37L15:Code:=(Try.f39.body.bind (Yag 15)).getD .skip
def B_37L12:Code:=(Try.f39.body.bind (Yag 12)).getD .skip
def B_37L4:Code:=(Try.f39.body.bind (Yag 4)).getD .skip
def B_37L1:Code:=(Try.f39.body.bind (Yag 1)).getD .skip
def D_37:Code:=Try.f39.body.getD .skip
def N_37 (o:XK E_37.params) (_:YH E_37.results):E_37.B:=o.2.2
def E_38:Entry where
 params:= [.v .int,.v .int,.v y3]
 results:= [.mv y0 1,.v .bool]
 B:=(List (List Int))×Bool
 run:=λa=>CD a.1 a.2.1 a.2.2
 out:=λb=>((),(),())
 res:=λb=>(b.1,b.2)
def C_38:Cx where
 tt:=YaU tt
 T:=Ygp [(33,E_29),(41,E_35),(42,E_34),(2687015,E_37)]
 L:=Ygo []
 dep:=λi=>match i with
  |15=>1
  |_=>0
 n:=3
def D_38:Code:=Try.f18.body.getD .skip
def N_38 (_:XK E_38.params) (r:YH E_38.results):E_38.B:=(r.1,r.2)
def E_39:Entry where
 params:= [.v .int,.v .int,.v .int]
 results:= [.v .bool]
 B:=Bool
 run:=λa=>Cq a.1 a.2.1 a.2.2
 out:=λb=>((),(),())
 res:=λb=>b
def C_39:Cx:=cx0 tt [] [] 3
def D_39:Code:=Try.f59.body.getD .skip
def N_39 (_:XK E_39.params) (r:YH E_39.results):E_39.B:=r
def E_40:Entry where
 params:= [.v .int]
 results:= [.v .bool]
 B:=Bool
 run:=λa=>Cs a
 out:=λb=>()
 res:=λb=>b
def C_40:Cx:=cx0 tt [(59,E_39)] [] 1
def D_40:Code:=Try.f55.body.getD .skip
def N_40 (_:XK E_40.params) (r:YH E_40.results):E_40.B:=r
def E_41:Entry where
 params:= [.v .int,.v .int]
 results:= [.v .int]
 B:=Int
 run:=λa=>Co a.1 a.2
 out:=λb=>((),())
 res:=λb=>b
def S_41L2 (n:Nat):LoopSpec where
 sh:= [(0,.v .int),(1,.v .int),(5,.v .int)]
 ex:= [(.exit 0,[(5,.v .int)])]
 run:=CN n
def C_41:Cx:=cx0 tt [] [(2,S_41L2 Aa)] 2
def B_41L2:Code:=(Try.f60.body.bind (Yag 2)).getD .skip
def D_41:Code:=Try.f60.body.getD .skip
def N_41 (_:XK E_41.params) (r:YH E_41.results):E_41.B:=r
def E_42:Entry where
 params:= [.v .int,.v y0]
 results:= [.v .bool]
 B:=Bool
 run:=λa=>CT a.1 a.2
 out:=λb=>((),())
 res:=λb=>b
def S_42L2 (n:Nat):LoopSpec where
 sh:= [(0,.v .int),(1,.v y0),(5,.v .int)]
 ex:= [(.exit 0,[]),(.ret,[(4,.v .bool)])]
 run:=Bu n
def C_42:Cx:=cx0 tt [(59,E_39)] [(2,S_42L2 Aa)] 2
def B_42L2:Code:=(Try.f91.body.bind (Yag 2)).getD .skip
def D_42:Code:=Try.f91.body.getD .skip
def N_42 (_:XK E_42.params) (r:YH E_42.results):E_42.B:=r
def E_43:Entry where
 params:= [.v .int,.v .int,.v y0]
 results:= [.v .bool]
 B:=Bool
 run:=λa=>DA a.1 a.2.1 a.2.2
 out:=λb=>((),(),())
 res:=λb=>b
def C_43:Cx:=cx0 tt [(91,E_42)] [] 3
def D_43:Code:=Try.f61.body.getD .skip
def N_43 (_:XK E_43.params) (r:YH E_43.results):E_43.B:=r
def E_44:Entry where
 params:= [.v .int,.v .int,.v y3]
 results:= [.v .bool]
 B:=Bool
 run:=λa=>Bl a.1 a.2.1 a.2.2
 out:=λb=>((),(),())
 res:=λb=>b
def S_44L4 (n:Nat):LoopSpec where
 sh:= [(0,.v .int),(1,.v .int),(2,.v y3),(7,.v .int)]
 ex:= [(.exit 0,[]),(.ret,[(6,.v .bool)])]
 run:=BJ n
def C_44:Cx:=cx0 tt [(55,E_40),(59,E_39),(60,E_41),(61,E_43),(62,E_5)] [(4,S_44L4 Aa)] 3
def B_44L4:Code:=(Try.f29.body.bind (Yag 4)).getD .skip
def D_44:Code:=Try.f29.body.getD .skip
def N_44 (_:XK E_44.params) (r:YH E_44.results):E_44.B:=r
def E_45:Entry where
 params:= [.v y3,.v .int,.v .int,.v .int]
 results:= [.v .int,.v .int,.v .bool]
 B:=Int×Int×Bool
 run:=λa=>Dy a.1 a.2.1 a.2.2.1 a.2.2.2
 out:=λb=>((),(),(),())
 res:=λb=>(b.1,b.2.1,b.2.2)
def S_45L5 (n:Nat):LoopSpec where
 sh:= [(0,.v y3),(1,.v .int),(2,.v .int),(3,.v .int),(11,.v .int),(12,.v .int)]
 ex:= [(.exit 2,[(0,.v y3),(1,.v .int),(2,.v .int),(3,.v .int),(11,.v .int)]),(.ret,[(8,.v .int),(9,.v .int),(10,.v .bool)])]
 run:=AR n
def S_45L2 (n:Nat):LoopSpec where
 sh:= [(0,.v y3),(1,.v .int),(2,.v .int),(3,.v .int),(11,.v .int)]
 ex:= [(.exit 0,[]),(.ret,[(8,.v .int),(9,.v .int),(10,.v .bool)])]
 run:=By n
def C_45:Cx:=cx0 tt [(93,E_6)] [(5,S_45L5 Aa),(2,S_45L2 Aa)] 4
def B_45L5:Code:=(Try.f73.body.bind (Yag 5)).getD .skip
def B_45L2:Code:=(Try.f73.body.bind (Yag 2)).getD .skip
def D_45:Code:=Try.f73.body.getD .skip
def N_45 (_:XK E_45.params) (r:YH E_45.results):E_45.B:=(r.1,r.2.1,r.2.2)
def E_46:Entry where
 params:= [.v .int,.v .int,.v y3]
 results:= [.mv y0 0,.v y3]
 B:=(List (List Int))×(List (List Int))
 run:=λa=>A8 a.1 a.2.1 a.2.2
 out:=λb=>((),(),())
 res:=λb=>(b.1,b.2)
def S_46L9 (n:Nat):LoopSpec where
 sh:= [(0,.v .int),(1,.v .int),(2,.v y3),(8,.mv y0 0),(9,.v y3),(10,.v .int),(11,.v .int),(12,.v .int)]
 ex:= [(.exit 4,[(0,.v .int),(1,.v .int),(2,.v y3),(8,.mv y0 0),(9,.v y3),(10,.v .int),(11,.v .int)])]
 run:=AZ n
def S_46L6 (n:Nat):LoopSpec where
 sh:= [(0,.v .int),(1,.v .int),(2,.v y3),(8,.mv y0 0),(9,.v y3),(10,.v .int),(11,.v .int)]
 ex:= [(.exit 2,[(0,.v .int),(1,.v .int),(2,.v y3),(8,.mv y0 0),(9,.v y3),(10,.v .int)])]
 run:=Bn n
def S_46L3 (n:Nat):LoopSpec where
 sh:= [(0,.v .int),(1,.v .int),(2,.v y3),(8,.mv y0 0),(9,.v y3),(10,.v .int)]
 ex:= [(.exit 0,[(8,.mv y0 0),(9,.v y3)])]
 run:=Bm n
def C_46:Cx:=cx0 tt [(64,E_14),(67,E_8),(73,E_45)] [(9,S_46L9 Aa),(6,S_46L6 Aa),(3,S_46L3 Aa)] 3
def B_46L9:Code:=(Try.f38.body.bind (Yag 9)).getD .skip
def B_46L6:Code:=(Try.f38.body.bind (Yag 6)).getD .skip
def B_46L3:Code:=(Try.f38.body.bind (Yag 3)).getD .skip
def D_46:Code:=Try.f38.body.getD .skip
def N_46 (_:XK E_46.params) (r:YH E_46.results):E_46.B:=(r.1,r.2)
def E_47:Entry where
 params:= [.v .int,.v .int,.v y3]
 results:= [.v y3,.v .bool]
 B:=(List (List Int))×Bool
 run:=λa=>CG a.1 a.2.1 a.2.2
 out:=λb=>((),(),())
 res:=λb=>(b.1,b.2)
def C_47:Cx:=cx0 tt [(29,E_44),(38,E_46)] [] 3
def D_47:Code:=Try.f17.body.getD .skip
def N_47 (_:XK E_47.params) (r:YH E_47.results):E_47.B:=(r.1,r.2)
def E_48:Entry where
 params:= [.v y0,.v y0]
 results:= [.v .bool]
 B:=Bool
 run:=λa=>Dw a.1 a.2
 out:=λb=>((),())
 res:=λb=>b
def S_48L4 (n:Nat):LoopSpec where
 sh:= [(0,.v y0),(1,.v y0),(5,.v .int)]
 ex:= [(.exit 0,[]),(.ret,[(4,.v .bool)])]
 run:=Cg n
def C_48:Cx:=cx0 tt [] [(4,S_48L4 Aa)] 2
def B_48L4:Code:=(Try.f44.body.bind (Yag 4)).getD .skip
def D_48:Code:=Try.f44.body.getD .skip
def N_48 (_:XK E_48.params) (r:YH E_48.results):E_48.B:=r
def E_49:Entry where
 params:= [.v y3,.v y3]
 results:= [.v .bool]
 B:=Bool
 run:=λa=>Aq a.1 a.2
 out:=λb=>((),())
 res:=λb=>b
def S_49L4 (n:Nat):LoopSpec where
 sh:= [(0,.v y3),(1,.v y3),(5,.v .int)]
 ex:= [(.exit 0,[]),(.ret,[(4,.v .bool)])]
 run:=BY n
def C_49:Cx:=cx0 tt [(44,E_48)] [(4,S_49L4 Aa)] 2
def B_49L4:Code:=(Try.f21.body.bind (Yag 4)).getD .skip
def D_49:Code:=Try.f21.body.getD .skip
def N_49 (_:XK E_49.params) (r:YH E_49.results):E_49.B:=r
def E_50:Entry where
 params:= [.v .int,.v y0,.v y0,.bx (.mv y0 1)]
 results:= []
 B:=(List (List Int))
 run:=λa=>CS a.1 a.2.1 a.2.2.1 a.2.2.2
 out:=λb=>((),(),(),b)
 res:=λb=>()
def C_50:Cx where
 tt:=YaU tt
 T:=Ygp []
 L:=Ygo []
 dep:=λi=>match i with
  |18=>1
  |19=>1
  |_=>0
 n:=4
def D_50:Code:=Try.f45.body.getD .skip
def N_50 (o:XK E_50.params) (_:YH E_50.results):E_50.B:=o.2.2.2
def E_51:Entry where
 params:= [.v .int,.v y3,.bx (.mv y0 1)]
 results:= []
 cod:= [(2,.cl 45)]
 B:=(List (List Int))
 run:=λa=>Bj a.1 a.2.1 a.2.2
 out:=λb=>((),(),b)
 res:=λb=>()
def S_51L7 (n:Nat):LoopSpec where
 sh:= [(0,.v .int),(1,.v y3),(2,.bx (.mv y0 1)),(6,.v .int),(7,.v .int),(8,.v .int),(9,.mv y0 0)]
 ex:= [(.exit 4,[(0,.v .int),(1,.v y3),(2,.bx (.mv y0 1)),(6,.v .int),(8,.v .int),(9,.mv y0 0)])]
 run:=Ae n
def S_51L15 (n:Nat):LoopSpec where
 sh:= [(655434,.jk 1),(655440,.jk 1),(0,.v .int),(1,.v y3),(2,.bx (.mv y0 1)),(6,.v .int),(8,.v .int),(9,.mv y0 0),(11,.v y0),(75,.v .int),(76,.v .int),(81,.v .int),(82,.v .int)]
 ex:= [(.exit 8,[(655434,.jk 1),(0,.v .int),(1,.v y3),(2,.bx (.mv y0 1)),(6,.v .int),(8,.v .int),(9,.mv y0 0),(75,.v .int),(76,.v .int)])]
 run:=An n
def S_51L12 (n:Nat):LoopSpec where
 sh:= [(655434,.jk 1),(0,.v .int),(1,.v y3),(2,.bx (.mv y0 1)),(6,.v .int),(8,.v .int),(9,.mv y0 0),(75,.v .int),(76,.v .int)]
 ex:= [(.exit 6,[(0,.v .int),(1,.v y3),(2,.bx (.mv y0 1)),(6,.v .int),(8,.v .int)])]
 run:=Am n
def S_51L4 (n:Nat):LoopSpec where
 sh:= [(0,.v .int),(1,.v y3),(2,.bx (.mv y0 1)),(6,.v .int),(7,.v .int)]
 ex:= [(.exit 2,[(0,.v .int),(1,.v y3),(2,.bx (.mv y0 1)),(6,.v .int)])]
 run:=As n
def S_51L1 (n:Nat):LoopSpec where
 sh:= [(0,.v .int),(1,.v y3),(2,.bx (.mv y0 1)),(6,.v .int)]
 ex:= [(.exit 0,[(2,.bx (.mv y0 1))])]
 run:=Ar n
def C_51:Cx where
 tt:=YaU tt
 T:=Ygp [(45,E_50),(74,E_30)]
 L:=Ygo [(7,S_51L7 Aa),(15,S_51L15 Aa),(12,S_51L12 Aa),(4,S_51L4 Aa),(1,S_51L1 Aa)]
 dep:=λi=>0
 n:=3
 cod:= [(2,.cl 45)]
def B_51L7:Code:=(Try.f39.body.bind (Yag 7)).getD .skip
def B_51L15:Code:=(Try.f39.body.bind (Yag 15)).getD .skip
def B_51L12:Code:=(Try.f39.body.bind (Yag 12)).getD .skip
def B_51L4:Code:=(Try.f39.body.bind (Yag 4)).getD .skip
def B_51L1:Code:=(Try.f39.body.bind (Yag 1)).getD .skip
def D_51:Code:=Try.f39.body.getD .skip
def N_51 (o:XK E_51.params) (_:YH E_51.results):E_51.B:=o.2.2
def E_52:Entry where
 params:= [.v .int,.v .int,.v y3]
 results:= [.mv y0 1,.v .bool]
 B:=(List (List Int))×Bool
 run:=λa=>Cu a.1 a.2.1 a.2.2
 out:=λb=>((),(),())
 res:=λb=>(b.1,b.2)
def C_52:Cx where
 tt:=YaU tt
 T:=Ygp [(33,E_29),(41,E_35),(3014695,E_51),(3145774,E_33)]
 L:=Ygo []
 dep:=λi=>match i with
  |14=>1
  |15=>1
  |_=>0
 n:=3
def D_52:Code:=Try.f22.body.getD .skip
def N_52 (_:XK E_52.params) (r:YH E_52.results):E_52.B:=(r.1,r.2)
def E_53:Entry where
 params:= [.v .int,.v .int,.v y3]
 results:= [.mv y0 0,.v .bool]
 B:=(List (List Int))×Bool
 run:=λa=>Cw a.1 a.2.1 a.2.2
 out:=λb=>((),(),())
 res:=λb=>(b.1,b.2)
def C_53:Cx:=cx0 tt [(29,E_44),(38,E_46)] [] 3
def D_53:Code:=Try.f23.body.getD .skip
def N_53 (_:XK E_53.params) (r:YH E_53.results):E_53.B:=(r.1,r.2)
def E_54:Entry where
 params:= [.v y3,.v y0]
 results:= [.v .bool]
 B:=Bool
 run:=λa=>EM a.1 a.2
 out:=λb=>((),())
 res:=λb=>b
def S_54L2 (n:Nat):LoopSpec where
 sh:= [(0,.v y3),(1,.v y0),(5,.v .int)]
 ex:= [(.exit 0,[]),(.ret,[(4,.v .bool)])]
 run:=CQ n
def C_54:Cx:=cx0 tt [(44,E_48)] [(2,S_54L2 Aa)] 2
def B_54L2:Code:=(Try.f24.body.bind (Yag 2)).getD .skip
def D_54:Code:=Try.f24.body.getD .skip
def N_54 (_:XK E_54.params) (r:YH E_54.results):E_54.B:=r
def E_55:Entry where
 params:= [.v .int,.v .int,.v .int,.bx (.v .int)]
 results:= [.v .int]
 B:=Int×Int
 run:=λa=>Dj a.1 a.2.1 a.2.2.1 a.2.2.2
 out:=λb=>((),(),(),b.1)
 res:=λb=>b.2
def C_55:Cx:=cx0 tt [] [] 4
def D_55:Code:=Try.f50.body.getD .skip
def N_55 (o:XK E_55.params) (r:YH E_55.results):E_55.B:=(o.2.2.2,r)
def E_56:Entry where
 params:= [.v .int,.bx (.v .int)]
 results:= [.pr (.v .int) (.mv .int 0)]
 cod:= [(1,.cl 50)]
 B:=Int×(Int×(List Int))
 run:=λa=>Bf a.1 a.2
 out:=λb=>((),b.1)
 res:=λb=>b.2
def S_56L3 (n:Nat):LoopSpec where
 sh:= [(0,.v .int),(1,.bx (.v .int)),(4,.bx (.pr (.v .int) (.mv .int 0))),(5,.bx (.pr (.v .int) (.mv .int 0))),(6,.v .int)]
 ex:= [(.exit 0,[(1,.bx (.v .int)),(4,.bx (.pr (.v .int) (.mv .int 0))),(5,.bx (.pr (.v .int) (.mv .int 0)))])]
 run:=Ao n
def C_56:Cx where
 tt:=YaU tt
 T:=Ygp [(50,E_55)]
 L:=Ygo [(3,S_56L3 Aa)]
 dep:=λi=>0
 n:=2
 cod:= [(1,.cl 50)]
def B_56L3:Code:=(Try.f49.body.bind (Yag 3)).getD .skip
def D_56:Code:=Try.f49.body.getD .skip
def N_56 (o:XK E_56.params) (r:YH E_56.results):E_56.B:=(o.2,r)
def E_57:Entry where
 params:= [.v .int]
 results:= [.pr (.v .int) (.mv .int 0),.v .bool]
 B:=(Int×(List Int))×Bool
 run:=λa=>De a
 out:=λb=>()
 res:=λb=>(b.1,b.2)
def C_57:Cx:=cx0 tt [(48,E_26),(3342385,E_56)] [] 1
def D_57:Code:=Try.f25.body.getD .skip
def N_57 (_:XK E_57.params) (r:YH E_57.results):E_57.B:=(r.1,r.2)
def E_58:Entry where
 params:= [.v .int,.v .int]
 results:= [.v .int]
 B:=Int
 run:=λa=>Dv a.1 a.2
 out:=λb=>((),())
 res:=λb=>b
def S_58L2 (n:Nat):LoopSpec where
 sh:= [(0,.v .int),(1,.v .int),(5,.v .int)]
 ex:= [(.exit 0,[(5,.v .int)])]
 run:=CJ n
def C_58:Cx:=cx0 tt [] [(2,S_58L2 Aa)] 2
def B_58L2:Code:=(Try.f72.body.bind (Yag 2)).getD .skip
def D_58:Code:=Try.f72.body.getD .skip
def N_58 (_:XK E_58.params) (r:YH E_58.results):E_58.B:=r
def E_59:Entry where
 params:= [.v y4,.v .int]
 results:= [.v .bool]
 B:=Bool
 run:=λa=>DT a.1 a.2
 out:=λb=>((),())
 res:=λb=>b
def C_59:Cx:=cx0 tt [(71,E_27),(72,E_58)] [] 2
def D_59:Code:=Try.f34.body.getD .skip
def N_59 (_:XK E_59.params) (r:YH E_59.results):E_59.B:=r
def E_60:Entry where
 params:= [.v y1]
 results:= [.v .bool]
 B:=Bool
 run:=λa=>CV a
 out:=λb=>()
 res:=λb=>b
def S_60L4 (n:Nat):LoopSpec where
 sh:= [(1,.bx (.v y1)),(20,.v (.slice y4)),(21,.v .int),(22,.v .int)]
 ex:= [(.exit 0,[]),(.ret,[(2,.v .bool)])]
 run:=Cv n
def C_60:Cx:=cx0 tt [(34,E_59)] [(4,S_60L4 Aa)] 1
def B_60L4:Code:=(Try.f78.body.bind (Yag 4)).getD .skip
def D_60:Code:=Try.f78.body.getD .skip
def N_60 (_:XK E_60.params) (r:YH E_60.results):E_60.B:=r
def E_61:Entry where
 params:= [.v .int]
 results:= [.v .bool]
 B:=Bool
 run:=λa=>Df a
 out:=λb=>()
 res:=λb=>b
def C_61:Cx:=cx0 tt [] [] 1
def D_61:Code:=Try.f79.body.getD .skip
def N_61 (_:XK E_61.params) (r:YH E_61.results):E_61.B:=r
def E_62:Entry where
 params:= [.v y1,.v .int,.v y3]
 results:= [.v .bool]
 B:=Bool
 run:=λa=>CX a.1 a.2.1 a.2.2
 out:=λb=>((),(),())
 res:=λb=>b
def S_62L2 (n:Nat):LoopSpec where
 sh:= [(1,.v .int),(3,.bx (.v y1)),(9,.v y3),(10,.v .int),(11,.v .int)]
 ex:= [(.exit 0,[]),(.ret,[(6,.v .bool)])]
 run:=Bg n
def C_62:Cx:=cx0 tt [(71,E_27)] [(2,S_62L2 Aa)] 3
def B_62L2:Code:=(Try.f80.body.bind (Yag 2)).getD .skip
def D_62:Code:=Try.f80.body.getD .skip
def N_62 (_:XK E_62.params) (r:YH E_62.results):E_62.B:=r
def E_63:Entry where
 params:= [.v y1,.v .int,.v y3]
 results:= [.v .bool]
 B:=Bool
 run:=λa=>CU a.1 a.2.1 a.2.2
 out:=λb=>((),(),())
 res:=λb=>b
def C_63:Cx:=cx0 tt [(78,E_60),(79,E_61),(80,E_62)] [] 3
def D_63:Code:=Try.f51.body.getD .skip
def N_63 (_:XK E_63.params) (r:YH E_63.results):E_63.B:=r
def E_64:Entry where
 params:= [.v y0]
 results:= [.v .str]
 B:=ByteArray
 run:=λa=>C0 a
 out:=λb=>()
 res:=λb=>b
def S_64L3 (n:Nat):LoopSpec where
 sh:= [(3,.mv (.num .u8) 0),(10,.v y0),(11,.v .int),(12,.v .int)]
 ex:= [(.exit 0,[(3,.mv (.num .u8) 0)])]
 run:=BS n
def C_64:Cx:=cx0 tt [] [(3,S_64L3 Aa)] 1
def B_64L3:Code:=(Try.f98.body.bind (Yag 3)).getD .skip
def D_64:Code:=Try.f98.body.getD .skip
def N_64 (_:XK E_64.params) (r:YH E_64.results):E_64.B:=r
def E_65:Entry where
 params:= [.bx (.pr (.v y1) (.pr (.v .int) (.pr (.mv y0 0) ((.mp .si))))),.v y0]
 results:= []
 B:=((Int×(List (Int×(List Int))))×(Int×((List (List Int))×(List ByteArray))))
 run:=λa=>Cf a.1 a.2
 out:=λb=>(b,())
 res:=λb=>()
def C_65:Cx:=cx0 tt [(98,E_64)] [] 2
def D_65:Code:=Try.f81.body.getD .skip
def N_65 (o:XK E_65.params) (_:YH E_65.results):E_65.B:=o.1
def E_66:Entry where
 params:= [.v y1]
 results:= [.v .int]
 B:=Int
 run:=λa=>Bk a
 out:=λb=>()
 res:=λb=>b
def S_66L3 (n:Nat):LoopSpec where
 sh:= [(3,.v .int),(7,.v (.slice y4)),(8,.v .int),(9,.v .int)]
 ex:= [(.exit 0,[(3,.v .int)])]
 run:=Cn n
def C_66:Cx:=cx0 tt [] [(3,S_66L3 Aa)] 1
def B_66L3:Code:=(Try.f83.body.bind (Yag 3)).getD .skip
def D_66:Code:=Try.f83.body.getD .skip
def N_66 (_:XK E_66.params) (r:YH E_66.results):E_66.B:=r
def E_67:Entry where
 params:= [.v y1,.v y4,.v .int,.bf y0]
 results:= [.mv .int 0]
 B:=(List (List Int))×(List Int)
 run:=λa=>B6 a.1 a.2.1 a.2.2.1 a.2.2.2
 out:=λb=>((),(),(),b.1)
 res:=λb=>b.2
def S_67L7 (n:Nat):LoopSpec where
 sh:= [(262165,.jk 1),(3,.bf y0),(4,.bx (.v y1)),(5,.bx (.v y4)),(9,.mv .int 0),(10,.v .int),(11,.v .int),(17,.v .int),(18,.v .int),(22,.v .int),(23,.v .int)]
 ex:= [(.exit 2,[(3,.bf y0),(4,.bx (.v y1)),(5,.bx (.v y4)),(9,.mv .int 0),(10,.v .int),(11,.v .int),(17,.v .int),(18,.v .int)])]
 run:=BE n
def S_67L3 (n:Nat):LoopSpec where
 sh:= [(3,.bf y0),(4,.bx (.v y1)),(5,.bx (.v y4)),(9,.mv .int 0),(17,.v .int),(18,.v .int)]
 ex:= [(.exit 0,[(3,.bf y0),(9,.mv .int 0)])]
 run:=Ba n
def C_67:Cx:=cx0 tt [] [(7,S_67L7 Aa),(3,S_67L3 Aa)] 4
def B_67L7:Code:=(Try.f99.body.bind (Yag 7)).getD .skip
def B_67L3:Code:=(Try.f99.body.bind (Yag 3)).getD .skip
def D_67:Code:=Try.f99.body.getD .skip
def N_67 (o:XK E_67.params) (r:YH E_67.results):E_67.B:=(o.2.2.2,r)
def E_68_of (rec:(((Int×(List (Int×(List Int))))×(Int×((List (List Int))×(List ByteArray))))×(Int×(List Int))×((List (List Int))×Int)×Int×Int×Bool)->Option (((Int×(List (Int×(List Int))))×(Int×((List (List Int))×(List ByteArray))))×(List (List Int))×Bool)):Entry where
 params:= [.bx (.pr (.v y1) (.pr (.v .int) (.pr (.mv y0 0) ((.mp .si))))),.v y4,.bf y0,.v .int,.v .int,.v .bool]
 results:= [.v .bool]
 B:=((Int×(List (Int×(List Int))))×(Int×((List (List Int))×(List ByteArray))))×(List (List Int))×Bool
 run:=rec
 out:=λb=>(b.1,(),b.2.1,(),(),())
 res:=λb=>b.2.2
def E_68 (d:Nat):Entry:=E_68_of (AE d)
def S_68L6 (rec:(((Int×(List (Int×(List Int))))×(Int×((List (List Int))×(List ByteArray))))×(Int×(List Int))×((List (List Int))×Int)×Int×Int×Bool)->Option (((Int×(List (Int×(List Int))))×(Int×((List (List Int))×(List ByteArray))))×(List (List Int))×Bool)) (n:Nat):LoopSpec where
 sh:= [(0,.bx (.pr (.v y1) (.pr (.v .int) (.pr (.mv y0 0) ((.mp .si)))))),(2,.bf y0),(3,.v .int),(4,.v .int),(5,.v .bool),(7,.bx (.v y4)),(13,.v .int)]
 ex:= [(.exit 0,[(0,.bx (.pr (.v y1) (.pr (.v .int) (.pr (.mv y0 0) ((.mp .si)))))),(2,.bf y0)]),(.ret,[(0,.bx (.pr (.v y1) (.pr (.v .int) (.pr (.mv y0 0) ((.mp .si)))))),(2,.bf y0),(12,.v .bool)])]
 run:=Ay rec n
def C_68 (rec:(((Int×(List (Int×(List Int))))×(Int×((List (List Int))×(List ByteArray))))×(Int×(List Int))×((List (List Int))×Int)×Int×Int×Bool)->Option (((Int×(List (Int×(List Int))))×(Int×((List (List Int))×(List ByteArray))))×(List (List Int))×Bool)):Cx where
 tt:=YaU tt
 T:=Ygp [(81,E_65),(83,E_66),(84,E_68_of rec),(99,E_67)]
 L:=Ygo [(6,S_68L6 rec Aa)]
 dep:=λi=>match i with
  |69=>1
  |_=>0
 n:=6
def B_68L6:Code:=(Try.f84.body.bind (Yag 6)).getD .skip
def D_68:Code:=Try.f84.body.getD .skip
def N_68 (o:XK [.bx (.pr (.v y1) (.pr (.v .int) (.pr (.mv y0 0) ((.mp .si))))),.v y4,.bf y0,.v .int,.v .int,.v .bool]) (r:YH [.v .bool]):((Int×(List (Int×(List Int))))×(Int×((List (List Int))×(List ByteArray))))×(List (List Int))×Bool:=(o.1,o.2.2.1,r)
def E_69:Entry where
 params:= [.v y1,.v .int,.v y3]
 results:= [.v (.ptr y5),.v .bool]
 B:=(Bool×(Int×(List (Int×(List Int))))×Int×(List (List Int))×(List ByteArray))×Bool
 run:=λa=>C7 a.1 a.2.1 a.2.2
 out:=λb=>((),(),())
 res:=λb=>(b.1,b.2)
def S_69L3 (n:Nat):LoopSpec where
 sh:= [(3,.bx (.v y1)),(8,.bx (.pr (.v y1) (.pr (.v .int) (.pr (.mv y0 0) ((.mp .si)))))),(21,.v y3),(22,.v .int),(23,.v .int)]
 ex:= [(.exit 0,[(3,.bx (.v y1)),(8,.bx (.pr (.v y1) (.pr (.v .int) (.pr (.mv y0 0) ((.mp .si))))))])]
 run:=Bs n
def S_69L14 (n:Nat):LoopSpec where
 sh:= [(3,.bx (.v y1)),(8,.bx (.pr (.v y1) (.pr (.v .int) (.pr (.mv y0 0) ((.mp .si)))))),(11,.v .int),(13,.v .int),(56,.v (.slice y4)),(57,.v .int),(58,.v .int)]
 ex:= [(.exit 4,[(3,.bx (.v y1)),(8,.bx (.pr (.v y1) (.pr (.v .int) (.pr (.mv y0 0) ((.mp .si)))))),(13,.v .int)]),(.ret,[(6,.v (.ptr y5)),(7,.v .bool)])]
 run:=AG n
def S_69L10 (n:Nat):LoopSpec where
 sh:= [(3,.bx (.v y1)),(8,.bx (.pr (.v y1) (.pr (.v .int) (.pr (.mv y0 0) ((.mp .si)))))),(11,.v .int),(12,.v .bool)]
 ex:= [(.exit 2,[(8,.bx (.pr (.v y1) (.pr (.v .int) (.pr (.mv y0 0) ((.mp .si))))))]),(.ret,[(6,.v (.ptr y5)),(7,.v .bool)])]
 run:=AB n
def C_69:Cx where
 tt:=YaU tt
 T:=Ygp [(81,E_65),(82,E_31),(83,E_66),(84,E_68 Aa)]
 L:=Ygo [(3,S_69L3 Aa),(14,S_69L14 Aa),(10,S_69L10 Aa)]
 dep:=λi=>match i with
  |64=>96
  |_=>0
 n:=3
def B_69L3:Code:=(Try.f52.body.bind (Yag 3)).getD .skip
def B_69L14:Code:=(Try.f52.body.bind (Yag 14)).getD .skip
def B_69L10:Code:=(Try.f52.body.bind (Yag 10)).getD .skip
def D_69:Code:=Try.f52.body.getD .skip
def N_69 (_:XK E_69.params) (r:YH E_69.results):E_69.B:=(r.1,r.2)
def E_70:Entry where
 params:= [.v y1,.v .int,.v y3]
 results:= [.mv y0 1,.v .bool]
 B:=(List (List Int))×Bool
 run:=λa=>AQ a.1 a.2.1 a.2.2
 out:=λb=>((),(),())
 res:=λb=>(b.1,b.2)
def C_70:Cx where
 tt:=YaU tt
 T:=Ygp [(42,E_34),(51,E_63),(52,E_69)]
 L:=Ygo []
 dep:=λi=>match i with
  |15=>1
  |25=>1
  |_=>0
 n:=3
def D_70:Code:=Try.f26.body.getD .skip
def N_70 (_:XK E_70.params) (r:YH E_70.results):E_70.B:=(r.1,r.2)
def E_71:Entry where
 params:= [.v .int,.v y4,.v .int,.v y3]
 results:= [.mv y0 1,.v .bool]
 B:=(List (List Int))×Bool
 run:=λa=>AF a.1 a.2.1 a.2.2.1 a.2.2.2
 out:=λb=>((),(),(),())
 res:=λb=>(b.1,b.2)
def C_71:Cx where
 tt:=YaU tt
 T:=Ygp [(26,E_70),(33,E_29),(34,E_59)]
 L:=Ygo []
 dep:=λi=>match i with
  |31=>1
  |_=>0
 n:=4
def D_71:Code:=Try.f11.body.getD .skip
def N_71 (_:XK E_71.params) (r:YH E_71.results):E_71.B:=(r.1,r.2)
def E_72:Entry where
 params:= [.v .int,.v y4]
 results:= [.v .bool]
 B:=Bool
 run:=λa=>Er a.1 a.2
 out:=λb=>((),())
 res:=λb=>b
def S_72L4 (n:Nat):LoopSpec where
 sh:= [(0,.v .int),(3,.bx (.v y4)),(5,.v .int)]
 ex:= [(.exit 0,[]),(.ret,[(4,.v .bool)])]
 run:=Cz n
def C_72:Cx:=cx0 tt [(59,E_39),(60,E_41)] [(4,S_72L4 Aa)] 2
def B_72L4:Code:=(Try.f30.body.bind (Yag 4)).getD .skip
def D_72:Code:=Try.f30.body.getD .skip
def N_72 (_:XK E_72.params) (r:YH E_72.results):E_72.B:=r
def E_73:Entry where
 params:= [.v .int,.v y4,.v .int,.v y3]
 results:= [.mv y0 0,.v .bool]
 B:=(List (List Int))×Bool
 run:=λa=>AH a.1 a.2.1 a.2.2.1 a.2.2.2
 out:=λb=>((),(),(),())
 res:=λb=>(b.1,b.2)
def C_73:Cx:=cx0 tt [(29,E_44),(30,E_72),(31,E_21)] [] 4
def D_73:Code:=Try.f8.body.getD .skip
def N_73 (_:XK E_73.params) (r:YH E_73.results):E_73.B:=(r.1,r.2)
def E_74:Entry where
 params:= [.v .str]
 results:= [.pr (.v .int) (.mv .int 0)]
 B:=(Int×(List Int))
 run:=λa=>Ax a
 out:=λb=>()
 res:=λb=>b
def S_74L3 (n:Nat):LoopSpec where
 sh:= [(0,.v .str),(2,.bx (.pr (.v .int) (.mv .int 0))),(3,.bx (.pr (.v .int) (.mv .int 0))),(4,.v .int)]
 ex:= [(.exit 0,[(2,.bx (.pr (.v .int) (.mv .int 0))),(3,.bx (.pr (.v .int) (.mv .int 0)))])]
 run:=Do n
def C_74:Cx:=cx0 tt [] [(3,S_74L3 Aa)] 1
def B_74L3:Code:=(Try.f101.body.bind (Yag 3)).getD .skip
def D_74:Code:=Try.f101.body.getD .skip
def N_74 (_:XK E_74.params) (r:YH E_74.results):E_74.B:=r
def E_75:Entry where
 params:= [.v .int]
 results:= [.pr (.v .int) (.mv y4 0)]
 B:=(Int×(List (Int×(List Int))))
 run:=λa=>Cy a
 out:=λb=>()
 res:=λb=>b
def C_75:Cx:=cx0 tt [(57,E_10),(101,E_74)] [] 1
def D_75:Code:=Try.f88.body.getD .skip
def N_75 (_:XK E_75.params) (r:YH E_75.results):E_75.B:=r
def E_76:Entry where
 params:= [.v y4]
 results:= [.pr (.v .int) (.mv .int 0)]
 B:=(Int×(List Int))
 run:=λa=>DL a
 out:=λb=>()
 res:=λb=>b
def C_76:Cx:=cx0 tt [(64,E_14)] [] 1
def D_76:Code:=Try.f89.body.getD .skip
def N_76 (_:XK E_76.params) (r:YH E_76.results):E_76.B:=r
def E_77:Entry where
 params:= [.v .int,.v .int,.v .int]
 results:= [.mv .int 0]
 B:=(List Int)
 run:=λa=>Cr a.1 a.2.1 a.2.2
 out:=λb=>((),(),())
 res:=λb=>b
def S_77L3 (n:Nat):LoopSpec where
 sh:= [(0,.v .int),(2,.v .int),(7,.mv .int 0),(8,.v .int)]
 ex:= [(.exit 0,[(7,.mv .int 0)])]
 run:=B3 n
def C_77:Cx:=cx0 tt [] [(3,S_77L3 Aa)] 3
def B_77L3:Code:=(Try.f90.body.bind (Yag 3)).getD .skip
def D_77:Code:=Try.f90.body.getD .skip
def N_77 (_:XK E_77.params) (r:YH E_77.results):E_77.B:=r
def E_78:Entry where
 params:= [.bx (.v y2),.v .int,.v .int]
 results:= [.pr (.v .int) (.mv .int 0)]
 B:=((List Int)×Int×Int)×(Int×(List Int))
 run:=λa=>Cj a.1 a.2.1 a.2.2
 out:=λb=>(b.1,(),())
 res:=λb=>b.2
def S_78L5 (n:Nat):LoopSpec where
 sh:= [(0,.bx (.v y2)),(1,.v .int),(2,.v .int),(6,.bx (.pr (.v .int) (.mv .int 0))),(7,.bx (.pr (.v .int) (.mv .int 0))),(8,.v .int)]
 ex:= [(.exit 0,[(0,.bx (.v y2)),(1,.v .int),(2,.v .int),(6,.bx (.pr (.v .int) (.mv .int 0))),(7,.bx (.pr (.v .int) (.mv .int 0)))]),(.ret,[(0,.bx (.v y2)),(6,.bx (.pr (.v .int) (.mv .int 0)))])]
 run:=AT n
def S_78L11 (n:Nat):LoopSpec where
 sh:= [(0,.bx (.v y2)),(1,.v .int),(2,.v .int),(6,.bx (.pr (.v .int) (.mv .int 0))),(7,.bx (.pr (.v .int) (.mv .int 0))),(10,.v .int)]
 ex:= [(.exit 2,[(0,.bx (.v y2)),(1,.v .int),(6,.bx (.pr (.v .int) (.mv .int 0))),(7,.bx (.pr (.v .int) (.mv .int 0)))])]
 run:=AJ n
def C_78:Cx:=cx0 tt [(55,E_40),(56,E_9),(59,E_39),(60,E_41),(85,E_4),(86,E_3),(88,E_75),(89,E_76),(90,E_77)] [(5,S_78L5 Aa),(11,S_78L11 Aa)] 3
def B_78L5:Code:=(Try.f54.body.bind (Yag 5)).getD .skip
def B_78L11:Code:=(Try.f54.body.bind (Yag 11)).getD .skip
def D_78:Code:=Try.f54.body.getD .skip
def N_78 (o:XK E_78.params) (r:YH E_78.results):E_78.B:=(o.1,r)
def E_79:Entry where
 params:= [.v .int,.v .bool]
 results:= [.pr (.v .int) (.mv .int 0)]
 B:=(Int×(List Int))
 run:=λa=>D7 a.1 a.2
 out:=λb=>((),())
 res:=λb=>b
def S_79L3 (n:Nat):LoopSpec where
 sh:= [(0,.v .int),(1,.v .bool),(4,.bx (.pr (.v .int) (.mv .int 0))),(5,.bx (.pr (.v .int) (.mv .int 0))),(6,.v .int)]
 ex:= [(.exit 0,[(4,.bx (.pr (.v .int) (.mv .int 0))),(5,.bx (.pr (.v .int) (.mv .int 0)))])]
 run:=BD n
def C_79:Cx:=cx0 tt [(90,E_77)] [(3,S_79L3 Aa)] 2
def B_79L3:Code:=(Try.f58.body.bind (Yag 3)).getD .skip
def D_79:Code:=Try.f58.body.getD .skip
def N_79 (_:XK E_79.params) (r:YH E_79.results):E_79.B:=r
def E_80:Entry where
 params:= [.v y6]
 results:= [.v .int,.pr (.v .int) (.mv .int 0),.v .int,.v y3]
 B:=Int×(Int×(List Int))×Int×(List (List Int))
 run:=λa=>Az a
 out:=λb=>()
 res:=λb=>(b.1,b.2.1,b.2.2.1,b.2.2.2)
def C_80:Cx:=cx0 tt [(29,E_44),(38,E_46),(53,E_23),(54,E_78),(55,E_40),(56,E_9),(57,E_10),(58,E_79)] [] 1
def D_80:Code:=Try.f27.body.getD .skip
def N_80 (_:XK E_80.params) (r:YH E_80.results):E_80.B:=(r.1,r.2.1,r.2.2.1,r.2.2.2)
def E_81:Entry where
 params:= [.v y6]
 results:= [.v .bool]
 B:=Bool
 run:=λa=>Dl a
 out:=λb=>()
 res:=λb=>b
def S_81L14 (n:Nat):LoopSpec where
 sh:= [(0,.v y6),(3,.v .int),(4,.v .int),(5,.v y3),(6,.mv y0 1),(10,.mv y0 1),(14,.v .int)]
 ex:= [(.exit 0,[(0,.v y6),(3,.v .int),(4,.v .int),(5,.v y3),(6,.mv y0 1),(10,.mv y0 1)]),(.ret,[(2,.v .bool)])]
 run:=AX n
def C_81:Cx:=cx0 tt [(8,E_73),(11,E_71),(17,E_47),(18,E_38),(19,E_1),(20,E_25),(21,E_49),(22,E_52),(23,E_53),(24,E_54),(25,E_57),(26,E_70),(27,E_80)] [(14,S_81L14 Aa)] 1
def B_81L14:Code:=(Try.f5.body.bind (Yag 14)).getD .skip
def D_81:Code:=Try.f5.body.getD .skip
def N_81 (_:XK E_81.params) (r:YH E_81.results):E_81.B:=r
end
end T
