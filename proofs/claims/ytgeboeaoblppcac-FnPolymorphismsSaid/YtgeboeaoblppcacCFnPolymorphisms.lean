/- Contexts of the typed functions; no conditions. -/
import Derived.Test.YtgeboeaoblppcacV5
import Derived.Test.YtgeboeaoblppcacProg
import Derived.Test.YtgeboeaoblppcacPFnPolymorphisms
import Derived.KernelRfl
set_option linter.all false
set_option linter.unusedVariables false
set_option maxRecDepth 10000
open Go Go.Va Go.Proofs
namespace T
noncomputable section
abbrev y0:Ty:= .slice .int
abbrev y1:Ty:= .pair .int (.slice y0)
abbrev y2:Ty:= .pair .int (.pair .int (.slice (.slice (.pair y0 (.smap .sb)))))
abbrev y3:Ty:= .pair (.slice (.num .u8)) (.pair .int (.num .u64))
abbrev y4:Ty:= .pair .int y0
abbrev y5:Ty:= .slice (.pair y0 y1)
abbrev y6:Ty:= .slice y1
abbrev y7:Ty:= .slice (.pair y0 (.smap .sb))
abbrev y8:Ty:= .pair .int .int
abbrev y9:Ty:= .slice y0
abbrev y10:Ty:= .slice (.num .u8)
abbrev y11:Ty:= .slice y4
abbrev y12:Ty:= .pair .int y11
abbrev y13:Ty:= .pair .int (.pair .int (.pair .bool (.num .u8)))
def tt:List (Nat×TI):= [
 (2,{ ty:= .int }),
 (3,{ ty:= .int }),
 (4,{ ty:= .bool }),
 (5,{ ty:=(.num .u8) }),
 (6,{ ty:=(.num .u8) }),
 (7,{ ty:=y13,fields:= [2,3,4,6] }),
 (8,{ ty:=y13,fields:= [2,3,4,6] }),
 (9,{ ty:= .str }),
 (22,{ ty:=y10,elem:=5 }),
 (28,{ ty:=y9,elem:=36 }),
 (36,{ ty:=y0,elem:=3 }),
 (38,{ ty:=y1,fields:= [3,28] }),
 (50,{ ty:=y6,elem:=38 }),
 (53,{ ty:=y11,elem:=60 }),
 (60,{ ty:=y4,fields:= [3,36] }),
 (82,{ ty:=(.op false) }),
 (92,{ ty:=(.num .u64) }),
 (94,{ ty:=y3,fields:= [22,3,92] }),
 (102,{ ty:=(.pair y9 y8),fields:= [28,3,3] }),
 (105,{ ty:=(.op true) }),
 (110,{ ty:=(.op false) }),
 (137,{ ty:=(.slice y5),elem:=164 }),
 (139,{ ty:=(.slice y7),elem:=146 }),
 (141,{ ty:=y2,fields:= [3,3,139] }),
 (142,{ ty:=(.smap .sb) }),
 (146,{ ty:=y7,elem:=148 }),
 (148,{ ty:=(.pair y0 (.smap .sb)),fields:= [36,142] }),
 (164,{ ty:=y5,elem:=166 }),
 (166,{ ty:=(.pair y0 y1),fields:= [36,38] }),
 (167,{ ty:=(.num .u64) }),
 (175,{ ty:=y12,fields:= [3,53] })]
theorem tabT:Yif Try.prog tt=true:=by kernel_rfl
theorem mixT:Try.prog.follows .mixedOrders=true:=by kernel_rfl
def E_1:Entry where
 params:= [.v y10]
 results:= [.v .bool]
 B:=Bool
 run:=λa=>FW a
 out:=λb=>()
 res:=λb=>b
def C_1:Cx:=cx0 tt [] [] 1
def D_1:Code:=Try.f5.body.getD .skip
def N_1 (_:XK E_1.params) (r:YH E_1.results):E_1.B:=r
def E_2:Entry where
 params:= [.bx (.v y3)]
 results:= [.v .int]
 B:=((List Int)×Int×Int)×Int
 run:=λa=>BS a
 out:=λb=>b.1
 res:=λb=>b.2
def C_2:Cx:=cx0 tt [] [] 1
def D_2:Code:=Try.f120.body.getD .skip
def N_2 (o:XK E_2.params) (r:YH E_2.results):E_2.B:=(o,r)
def E_3:Entry where
 params:= [.bx (.v y3),.v .int]
 results:= [.v .int]
 B:=((List Int)×Int×Int)×Int
 run:=λa=>Ae a.1 a.2
 out:=λb=>(b.1,())
 res:=λb=>b.2
def C_3:Cx:=cx0 tt [(120,E_2)] [] 2
def D_3:Code:=Try.f79.body.getD .skip
def N_3 (o:XK E_3.params) (r:YH E_3.results):E_3.B:=(o.1,r)
def E_4:Entry where
 params:= [.bx (.v y3),.v .int]
 results:= [.v .bool]
 B:=((List Int)×Int×Int)×Bool
 run:=λa=>AA a.1 a.2
 out:=λb=>(b.1,())
 res:=λb=>b.2
def C_4:Cx:=cx0 tt [(79,E_3)] [] 2
def D_4:Code:=Try.f77.body.getD .skip
def N_4 (o:XK E_4.params) (r:YH E_4.results):E_4.B:=(o.1,r)
def E_5:Entry where
 params:= [.v .int]
 results:= [.v .int,.mv y1 0]
 B:=Int×(List (Int×(List (List Int))))
 run:=λa=>C3 a
 out:=λb=>()
 res:=λb=>(b.1,b.2)
def C_5:Cx:=cx0 tt [] [] 1
def D_5:Code:=Try.f105.body.getD .skip
def N_5 (_:XK E_5.params) (r:YH E_5.results):E_5.B:=(r.1,r.2)
def E_6:Entry where
 params:= [.v y0]
 results:= [.mv .int 0]
 B:=(List Int)
 run:=λa=>Cc a
 out:=λb=>()
 res:=λb=>b
def C_6:Cx:=cx0 tt [] [] 1
def D_6:Code:=Try.f78.body.getD .skip
def N_6 (_:XK E_6.params) (r:YH E_6.results):E_6.B:=r
def E_7:Entry where
 params:= [.bx (.v y3),.v y0]
 results:= [.v .int]
 B:=((List Int)×Int×Int)×Int
 run:=λa=>Ac a.1 a.2
 out:=λb=>(b.1,())
 res:=λb=>b.2
def C_7:Cx:=cx0 tt [(79,E_3)] [] 2
def D_7:Code:=Try.f106.body.getD .skip
def N_7 (o:XK E_7.params) (r:YH E_7.results):E_7.B:=(o.1,r)
def E_8:Entry where
 params:= [.v .int,.v .int,.v .int]
 results:= [.v .bool]
 B:=Bool
 run:=λa=>Cj a.1 a.2.1 a.2.2
 out:=λb=>((),(),())
 res:=λb=>b
def C_8:Cx:=cx0 tt [] [] 3
def D_8:Code:=Try.f90.body.getD .skip
def N_8 (_:XK E_8.params) (r:YH E_8.results):E_8.B:=r
def E_9:Entry where
 params:= [.v .int]
 results:= [.v .bool]
 B:=Bool
 run:=λa=>Eg a
 out:=λb=>()
 res:=λb=>b
def C_9:Cx:=cx0 tt [(90,E_8)] [] 1
def D_9:Code:=Try.f132.body.getD .skip
def N_9 (_:XK E_9.params) (r:YH E_9.results):E_9.B:=r
def E_10:Entry where
 params:= [.v y0,.v y0]
 results:= [.v .bool]
 B:=Bool
 run:=λa=>Ee a.1 a.2
 out:=λb=>((),())
 res:=λb=>b
def S_10L2 (n:Nat):LoopSpec where
 sh:= [(0,.v y0),(1,.v y0),(5,.v .int)]
 ex:= [(.exit 0,[]),(.ret,[(4,.v .bool)])]
 run:=Cv n
def C_10:Cx:=cx0 tt [] [(2,S_10L2 Aa)] 2
def B_10L2:Code:=(Try.f140.body.bind (Yag 2)).getD .skip
def D_10:Code:=Try.f140.body.getD .skip
def N_10 (_:XK E_10.params) (r:YH E_10.results):E_10.B:=r
def E_11:Entry where
 params:= [.v y0,.v y0]
 results:= [.v .bool]
 B:=Bool
 run:=λa=>Ed a.1 a.2
 out:=λb=>((),())
 res:=λb=>b
def S_11L4 (n:Nat):LoopSpec where
 sh:= [(0,.v y0),(1,.v y0),(5,.v .int)]
 ex:= [(.exit 0,[]),(.ret,[(4,.v .bool)])]
 run:=Ct n
def C_11:Cx:=cx0 tt [] [(4,S_11L4 Aa)] 2
def B_11L4:Code:=(Try.f149.body.bind (Yag 4)).getD .skip
def D_11:Code:=Try.f149.body.getD .skip
def N_11 (_:XK E_11.params) (r:YH E_11.results):E_11.B:=r
def E_12:Entry where
 params:= [.v y9,.v y0]
 results:= [.v .int,.v .bool]
 B:=Int×Bool
 run:=λa=>Dc a.1 a.2
 out:=λb=>((),())
 res:=λb=>(b.1,b.2)
def S_12L2 (n:Nat):LoopSpec where
 sh:= [(0,.v y9),(1,.v y0),(6,.v .int),(7,.v .int)]
 ex:= [(.exit 0,[(0,.v y9),(1,.v y0),(6,.v .int)])]
 run:=Ca n
def C_12:Cx:=cx0 tt [(140,E_10),(149,E_11)] [(2,S_12L2 Aa)] 2
def B_12L2:Code:=(Try.f147.body.bind (Yag 2)).getD .skip
def D_12:Code:=Try.f147.body.getD .skip
def N_12 (_:XK E_12.params) (r:YH E_12.results):E_12.B:=(r.1,r.2)
def E_13:Entry where
 params:= [.v y9,.v y0]
 results:= [.v y9]
 B:=(List (List Int))
 run:=λa=>EG a.1 a.2
 out:=λb=>((),())
 res:=λb=>b
def C_13:Cx:=cx0 tt [(147,E_12)] [] 2
def D_13:Code:=Try.f133.body.getD .skip
def N_13 (_:XK E_13.params) (r:YH E_13.results):E_13.B:=r
def E_14:Entry where
 params:= [.bx (.v y3),.v .int]
 results:= [.mv .int 0]
 B:=((List Int)×Int×Int)×(List Int)
 run:=λa=>BA a.1 a.2
 out:=λb=>(b.1,())
 res:=λb=>b.2
def S_14L3 (n:Nat):LoopSpec where
 sh:= [(0,.bx (.v y3)),(1,.v .int),(5,.mv .int 0),(6,.v .int)]
 ex:= [(.exit 0,[(0,.bx (.v y3)),(5,.mv .int 0)])]
 run:=Ar n
def C_14:Cx:=cx0 tt [(79,E_3)] [(3,S_14L3 Aa)] 2
def B_14L3:Code:=(Try.f135.body.bind (Yag 3)).getD .skip
def D_14:Code:=Try.f135.body.getD .skip
def N_14 (o:XK E_14.params) (r:YH E_14.results):E_14.B:=(o.1,r)
def E_15:Entry where
 params:= [.v y0]
 results:= [.pr (.v .int) (.mv y0 0)]
 B:=(Int×(List (List Int)))
 run:=λa=>CB a
 out:=λb=>()
 res:=λb=>b
def S_15L6 (n:Nat):LoopSpec where
 sh:= [(0,.v y0),(2,.bx (.pr (.v .int) (.mv y0 0))),(3,.bx (.pr (.v .int) (.mv y0 0))),(4,.v .int),(5,.v .int)]
 ex:= [(.exit 2,[(0,.v y0),(2,.bx (.pr (.v .int) (.mv y0 0))),(3,.bx (.pr (.v .int) (.mv y0 0))),(4,.v .int)])]
 run:=AC n
def S_15L3 (n:Nat):LoopSpec where
 sh:= [(0,.v y0),(2,.bx (.pr (.v .int) (.mv y0 0))),(3,.bx (.pr (.v .int) (.mv y0 0))),(4,.v .int)]
 ex:= [(.exit 0,[(2,.bx (.pr (.v .int) (.mv y0 0))),(3,.bx (.pr (.v .int) (.mv y0 0)))])]
 run:=AW n
def C_15:Cx:=cx0 tt [] [(6,S_15L6 Aa),(3,S_15L3 Aa)] 1
def B_15L6:Code:=(Try.f134.body.bind (Yag 6)).getD .skip
def B_15L3:Code:=(Try.f134.body.bind (Yag 3)).getD .skip
def D_15:Code:=Try.f134.body.getD .skip
def N_15 (_:XK E_15.params) (r:YH E_15.results):E_15.B:=r
def E_16:Entry where
 params:= [.v .int,.v .int]
 results:= [.v .int]
 B:=Int
 run:=λa=>AS a.1 a.2
 out:=λb=>((),())
 res:=λb=>b
def S_16L2 (n:Nat):LoopSpec where
 sh:= [(0,.v .int),(1,.v .int),(5,.v .int)]
 ex:= [(.exit 0,[(5,.v .int)])]
 run:=BY n
def C_16:Cx:=cx0 tt [] [(2,S_16L2 Aa)] 2
def B_16L2:Code:=(Try.f66.body.bind (Yag 2)).getD .skip
def D_16:Code:=Try.f66.body.getD .skip
def N_16 (_:XK E_16.params) (r:YH E_16.results):E_16.B:=r
def E_17:Entry where
 params:= [.v .int,.v .int,.v .int]
 results:= [.mv .int 0]
 B:=(List Int)
 run:=λa=>Db a.1 a.2.1 a.2.2
 out:=λb=>((),(),())
 res:=λb=>b
def S_17L3 (n:Nat):LoopSpec where
 sh:= [(0,.v .int),(2,.v .int),(7,.mv .int 0),(8,.v .int)]
 ex:= [(.exit 0,[(7,.mv .int 0)])]
 run:=Cu n
def C_17:Cx:=cx0 tt [] [(3,S_17L3 Aa)] 3
def B_17L3:Code:=(Try.f138.body.bind (Yag 3)).getD .skip
def D_17:Code:=Try.f138.body.getD .skip
def N_17 (_:XK E_17.params) (r:YH E_17.results):E_17.B:=r
def E_18:Entry where
 params:= [.v .int,.v .int]
 results:= [.pr (.v .int) (.mv y0 0)]
 B:=(Int×(List (List Int)))
 run:=λa=>Cz a.1 a.2
 out:=λb=>((),())
 res:=λb=>b
def S_18L3 (n:Nat):LoopSpec where
 sh:= [(0,.v .int),(1,.v .int),(4,.bx (.pr (.v .int) (.mv y0 0))),(5,.bx (.pr (.v .int) (.mv y0 0))),(6,.v .int)]
 ex:= [(.exit 0,[(4,.bx (.pr (.v .int) (.mv y0 0))),(5,.bx (.pr (.v .int) (.mv y0 0)))])]
 run:=BP n
def C_18:Cx:=cx0 tt [(66,E_16),(138,E_17)] [(3,S_18L3 Aa)] 2
def B_18L3:Code:=(Try.f136.body.bind (Yag 3)).getD .skip
def D_18:Code:=Try.f136.body.getD .skip
def N_18 (_:XK E_18.params) (r:YH E_18.results):E_18.B:=r
def E_19:Entry where
 params:= [.mv y0 0,.v y0]
 results:= [.mv y0 0]
 B:=(List (List Int))
 run:=λa=>ER a.1 a.2
 out:=λb=>((),())
 res:=λb=>b
def C_19:Cx where
 tt:=YaU tt
 T:=Ygp [(147,E_12)]
 L:=Ygo []
 dep:=λi=>0
 n:=2
 pre:=λi=>match i with
  |4=> [0]
  |_=> []
def D_19:Code:=Try.f133.body.getD .skip
def N_19 (_:XK E_19.params) (r:YH E_19.results):E_19.B:=r
def E_20:Entry where
 params:= [.bx (.v y3),.v .int,.v .int]
 results:= [.v y1]
 B:=((List Int)×Int×Int)×(Int×(List (List Int)))
 run:=λa=>B0 a.1 a.2.1 a.2.2
 out:=λb=>(b.1,(),())
 res:=λb=>b.2
def S_20L9 (n:Nat):LoopSpec where
 sh:= [(0,.bx (.v y3)),(1,.v .int),(2,.v .int),(6,.bx (.pr (.v .int) (.mv y0 0))),(7,.bx (.pr (.v .int) (.mv y0 0))),(8,.v .int),(9,.mv .int 0),(10,.v .int)]
 ex:= [(.exit 2,[(0,.bx (.v y3)),(1,.v .int),(2,.v .int),(6,.bx (.pr (.v .int) (.mv y0 0))),(7,.bx (.pr (.v .int) (.mv y0 0))),(8,.v .int),(9,.mv .int 0)])]
 run:=AY n
def S_20L5 (n:Nat):LoopSpec where
 sh:= [(0,.bx (.v y3)),(1,.v .int),(2,.v .int),(6,.bx (.pr (.v .int) (.mv y0 0))),(7,.bx (.pr (.v .int) (.mv y0 0))),(8,.v .int)]
 ex:= [(.exit 0,[(0,.bx (.v y3)),(1,.v .int),(2,.v .int),(6,.bx (.pr (.v .int) (.mv y0 0))),(7,.bx (.pr (.v .int) (.mv y0 0)))])]
 run:=AX n
def C_20:Cx:=cx0 tt [(77,E_4),(79,E_3),(90,E_8),(106,E_7),(132,E_9),(133,E_19),(134,E_15),(135,E_14),(136,E_18)] [(9,S_20L9 Aa),(5,S_20L5 Aa)] 3
def B_20L9:Code:=(Try.f107.body.bind (Yag 9)).getD .skip
def B_20L5:Code:=(Try.f107.body.bind (Yag 5)).getD .skip
def D_20:Code:=Try.f107.body.getD .skip
def N_20 (o:XK E_20.params) (r:YH E_20.results):E_20.B:=(o.1,r)
def E_21:Entry where
 params:= [.bx (.v y3)]
 results:= [.v .int,.mv y1 0]
 B:=((List Int)×Int×Int)×Int×(List (Int×(List (List Int))))
 run:=λa=>B1 a
 out:=λb=>b.1
 res:=λb=>(b.2.1,b.2.2)
def S_21L9 (n:Nat):LoopSpec where
 sh:= [(0,.bx (.v y3)),(4,.v .int),(5,.mv y1 0),(6,.mv y1 0),(7,.v .int),(8,.bx (.pr (.v .int) (.mv y0 0))),(9,.v .int)]
 ex:= [(.exit 2,[(0,.bx (.v y3)),(4,.v .int),(5,.mv y1 0),(6,.mv y1 0),(7,.v .int),(8,.bx (.pr (.v .int) (.mv y0 0)))])]
 run:=AF n
def S_21L5 (n:Nat):LoopSpec where
 sh:= [(0,.bx (.v y3)),(4,.v .int),(5,.mv y1 0),(6,.mv y1 0),(7,.v .int)]
 ex:= [(.exit 0,[(0,.bx (.v y3)),(4,.v .int),(6,.mv y1 0)])]
 run:=AE n
def S_21L17 (n:Nat):LoopSpec where
 sh:= [(0,.bx (.v y3)),(10,.v .int),(11,.mv y1 0),(12,.v .int)]
 ex:= [(.exit 4,[(0,.bx (.v y3)),(10,.v .int),(11,.mv y1 0)])]
 run:=AO n
def C_21:Cx:=cx0 tt [(77,E_4),(78,E_6),(79,E_3),(105,E_5),(106,E_7),(107,E_20)] [(9,S_21L9 Aa),(5,S_21L5 Aa),(17,S_21L17 Aa)] 1
def B_21L9:Code:=(Try.f57.body.bind (Yag 9)).getD .skip
def B_21L5:Code:=(Try.f57.body.bind (Yag 5)).getD .skip
def B_21L17:Code:=(Try.f57.body.bind (Yag 17)).getD .skip
def D_21:Code:=Try.f57.body.getD .skip
def N_21 (o:XK E_21.params) (r:YH E_21.results):E_21.B:=(o,r.1,r.2)
def E_22:Entry where
 params:= [.bx (.v y3)]
 results:= [.v .int]
 B:=((List Int)×Int×Int)×Int
 run:=λa=>Bq a
 out:=λb=>b.1
 res:=λb=>b.2
def C_22:Cx:=cx0 tt [(79,E_3),(106,E_7)] [] 1
def D_22:Code:=Try.f58.body.getD .skip
def N_22 (o:XK E_22.params) (r:YH E_22.results):E_22.B:=(o,r)
def E_23:Entry where
 params:= [.v y10]
 results:= [.v .int,.mv y1 0,.v .int]
 B:=Int×(List (Int×(List (List Int))))×Int
 run:=λa=>BX a
 out:=λb=>()
 res:=λb=>(b.1,b.2.1,b.2.2)
def C_23:Cx:=cx0 tt [(57,E_21),(58,E_22)] [] 1
def D_23:Code:=Try.f23.body.getD .skip
def N_23 (_:XK E_23.params) (r:YH E_23.results):E_23.B:=(r.1,r.2.1,r.2.2)
def E_24:Entry where
 params:= [.v .int]
 results:= [.v .bool]
 B:=Bool
 run:=λa=>Di a
 out:=λb=>()
 res:=λb=>b
def C_24:Cx:=cx0 tt [] [] 1
def D_24:Code:=Try.f87.body.getD .skip
def N_24 (_:XK E_24.params) (r:YH E_24.results):E_24.B:=r
def E_25:Entry where
 params:= [.v y0,.v .int]
 results:= [.v .bool]
 B:=Bool
 run:=λa=>Dx a.1 a.2
 out:=λb=>((),())
 res:=λb=>b
def S_25L2 (n:Nat):LoopSpec where
 sh:= [(1,.v .int),(7,.v y0),(8,.v .int),(9,.v .int)]
 ex:= [(.exit 0,[]),(.ret,[(4,.v .bool)])]
 run:=Cq n
def C_25:Cx:=cx0 tt [] [(2,S_25L2 Aa)] 2
def B_25L2:Code:=(Try.f117.body.bind (Yag 2)).getD .skip
def D_25:Code:=Try.f117.body.getD .skip
def N_25 (_:XK E_25.params) (r:YH E_25.results):E_25.B:=r
def E_26:Entry where
 params:= [.v y0,.v y0]
 results:= [.v .int]
 B:=Int
 run:=λa=>Dw a.1 a.2
 out:=λb=>((),())
 res:=λb=>b
def S_26L2 (n:Nat):LoopSpec where
 sh:= [(0,.v y0),(1,.v y0),(5,.v .int)]
 ex:= [(.exit 0,[(0,.v y0),(1,.v y0)]),(.ret,[(4,.v .int)])]
 run:=Be n
def C_26:Cx:=cx0 tt [] [(2,S_26L2 Aa)] 2
def B_26L2:Code:=(Try.f145.body.bind (Yag 2)).getD .skip
def D_26:Code:=Try.f145.body.getD .skip
def N_26 (_:XK E_26.params) (r:YH E_26.results):E_26.B:=r
def E_27:Entry where
 params:= [.v .int,.v y1]
 results:= [.v .bool]
 B:=Bool
 run:=λa=>Dd a.1 a.2
 out:=λb=>((),())
 res:=λb=>b
def S_27L4 (n:Nat):LoopSpec where
 sh:= [(0,.v .int),(3,.bx (.v y1)),(16,.v y9),(17,.v .int),(18,.v .int)]
 ex:= [(.exit 0,[]),(.ret,[(4,.v .bool)])]
 run:=Bm n
def C_27:Cx:=cx0 tt [(117,E_25),(145,E_26)] [(4,S_27L4 Aa)] 2
def B_27L4:Code:=(Try.f126.body.bind (Yag 4)).getD .skip
def D_27:Code:=Try.f126.body.getD .skip
def N_27 (_:XK E_27.params) (r:YH E_27.results):E_27.B:=r
def E_28:Entry where
 params:= [.v .int,.v y6]
 results:= [.v .bool]
 B:=Bool
 run:=λa=>DZ a.1 a.2
 out:=λb=>((),())
 res:=λb=>b
def S_28L4 (n:Nat):LoopSpec where
 sh:= [(0,.v .int),(10,.v y6),(11,.v .int),(12,.v .int)]
 ex:= [(.exit 0,[]),(.ret,[(4,.v .bool)])]
 run:=BK n
def C_28:Cx:=cx0 tt [(126,E_27)] [(4,S_28L4 Aa)] 2
def B_28L4:Code:=(Try.f108.body.bind (Yag 4)).getD .skip
def D_28:Code:=Try.f108.body.getD .skip
def N_28 (_:XK E_28.params) (r:YH E_28.results):E_28.B:=r
def E_29:Entry where
 params:= [.v .int,.v y6,.v .int]
 results:= [.v .bool]
 B:=Bool
 run:=λa=>CK a.1 a.2.1 a.2.2
 out:=λb=>((),(),())
 res:=λb=>b
def S_29L4 (n:Nat):LoopSpec where
 sh:= [(2,.v .int),(18,.v y6),(19,.v .int),(20,.v .int)]
 ex:= [(.exit 0,[]),(.ret,[(6,.v .bool)])]
 run:=B3 n
def C_29:Cx:=cx0 tt [(87,E_24),(108,E_28)] [(4,S_29L4 Aa)] 3
def B_29L4:Code:=(Try.f59.body.bind (Yag 4)).getD .skip
def D_29:Code:=Try.f59.body.getD .skip
def N_29 (_:XK E_29.params) (r:YH E_29.results):E_29.B:=r
def E_30:Entry where
 params:= [.v .int,.v .int]
 results:= [.v .int]
 B:=Int
 run:=λa=>Bd a.1 a.2
 out:=λb=>((),())
 res:=λb=>b
def S_30L2 (n:Nat):LoopSpec where
 sh:= [(0,.v .int),(1,.v .int),(5,.v .int)]
 ex:= [(.exit 0,[(5,.v .int)])]
 run:=BW n
def C_30:Cx:=cx0 tt [] [(2,S_30L2 Aa)] 2
def B_30L2:Code:=(Try.f63.body.bind (Yag 2)).getD .skip
def D_30:Code:=Try.f63.body.getD .skip
def N_30 (_:XK E_30.params) (r:YH E_30.results):E_30.B:=r
def E_31:Entry where
 params:= [.v .int,.v .int]
 results:= [.v .bool]
 B:=Bool
 run:=λa=>B4 a.1 a.2
 out:=λb=>((),())
 res:=λb=>b
def C_31:Cx:=cx0 tt [(63,E_30)] [] 2
def D_31:Code:=Try.f60.body.getD .skip
def N_31 (_:XK E_31.params) (r:YH E_31.results):E_31.B:=r
def E_32:Entry where
 params:= [.v .int]
 results:= [.mv .int 0]
 B:=(List Int)
 run:=λa=>CP a
 out:=λb=>()
 res:=λb=>b
def S_32L3 (n:Nat):LoopSpec where
 sh:= [(3,.mv .int 0),(8,.v .int),(9,.v .int)]
 ex:= [(.exit 0,[(3,.mv .int 0)])]
 run:=Bu n
def C_32:Cx:=cx0 tt [] [(3,S_32L3 Aa)] 1
def B_32L3:Code:=(Try.f62.body.bind (Yag 3)).getD .skip
def D_32:Code:=Try.f62.body.getD .skip
def N_32 (_:XK E_32.params) (r:YH E_32.results):E_32.B:=r
def E_33:Entry where
 params:= [.v y0]
 results:= [.v .str]
 B:=ByteArray
 run:=λa=>Cr a
 out:=λb=>()
 res:=λb=>b
def S_33L3 (n:Nat):LoopSpec where
 sh:= [(3,.mv (.num .u8) 0),(10,.v y0),(11,.v .int),(12,.v .int)]
 ex:= [(.exit 0,[(3,.mv (.num .u8) 0)])]
 run:=Cg n
def C_33:Cx:=cx0 tt [] [(3,S_33L3 Aa)] 1
def B_33L3:Code:=(Try.f114.body.bind (Yag 3)).getD .skip
def D_33:Code:=Try.f114.body.getD .skip
def N_33 (_:XK E_33.params) (r:YH E_33.results):E_33.B:=r
def E_34:Entry where
 params:= [.v y1]
 results:= [.v (.smap .sb)]
 B:=(List ByteArray)
 run:=λa=>Ch a
 out:=λb=>()
 res:=λb=>b
def S_34L3 (n:Nat):LoopSpec where
 sh:= [(3,(.mp .sb)),(8,.v y9),(9,.v .int),(10,.v .int)]
 ex:= [(.exit 0,[(3,(.mp .sb))])]
 run:=B6 n
def C_34:Cx:=cx0 tt [(114,E_33)] [(3,S_34L3 Aa)] 1
def B_34L3:Code:=(Try.f112.body.bind (Yag 3)).getD .skip
def D_34:Code:=Try.f112.body.getD .skip
def N_34 (_:XK E_34.params) (r:YH E_34.results):E_34.B:=r
def E_35:Entry where
 params:= [.v .int,.v .int,.v .int]
 results:= [.mv .int 0]
 B:=(List Int)
 run:=λa=>D7 a.1 a.2.1 a.2.2
 out:=λb=>((),(),())
 res:=λb=>b
def S_35L3 (n:Nat):LoopSpec where
 sh:= [(0,.v .int),(2,.v .int),(7,.mv .int 0),(8,.v .int)]
 ex:= [(.exit 0,[(7,.mv .int 0)])]
 run:=Cp n
def C_35:Cx:=cx0 tt [] [(3,S_35L3 Aa)] 3
def B_35L3:Code:=(Try.f113.body.bind (Yag 3)).getD .skip
def D_35:Code:=Try.f113.body.getD .skip
def N_35 (_:XK E_35.params) (r:YH E_35.results):E_35.B:=r
def E_36:Entry where
 params:= [.v .int,.v y6,.v .int]
 results:= [.v (.ptr y2)]
 B:=(Bool×Int×Int×(List (List ((List Int)×(List ByteArray)))))
 run:=λa=>BL a.1 a.2.1 a.2.2
 out:=λb=>((),(),())
 res:=λb=>b
def S_36L17 (n:Nat):LoopSpec where
 sh:= [(917564,.jk 1),(0,.v .int),(2,.v .int),(7,.bx (.pr (.v .int) (.pr (.v .int) (.mv y7 1)))),(9,.bx (.v y1)),(10,.v (.smap .sb)),(11,(.mp .sb)),(12,.v .int),(13,.mv .int 0),(14,.mv .int 0),(15,.v .int),(16,.v .int),(28,.v y6),(29,.v .int),(30,.v .int),(56,.v .int),(57,.v .int),(61,.v .int),(62,.v .int)]
 ex:= [(.exit 6,[(0,.v .int),(2,.v .int),(7,.bx (.pr (.v .int) (.pr (.v .int) (.mv y7 1)))),(9,.bx (.v y1)),(10,.v (.smap .sb)),(11,(.mp .sb)),(12,.v .int),(13,.mv .int 0),(14,.mv .int 0),(15,.v .int),(16,.v .int),(28,.v y6),(29,.v .int),(30,.v .int),(56,.v .int),(57,.v .int)])]
 run:=AU n
def S_36L14 (n:Nat):LoopSpec where
 sh:= [(0,.v .int),(2,.v .int),(7,.bx (.pr (.v .int) (.pr (.v .int) (.mv y7 1)))),(9,.bx (.v y1)),(10,.v (.smap .sb)),(11,(.mp .sb)),(12,.v .int),(13,.mv .int 0),(14,.mv .int 0),(15,.v .int),(28,.v y6),(29,.v .int),(30,.v .int),(56,.v .int),(57,.v .int)]
 ex:= [(.exit 4,[(0,.v .int),(2,.v .int),(7,.bx (.pr (.v .int) (.pr (.v .int) (.mv y7 1)))),(9,.bx (.v y1)),(10,.v (.smap .sb)),(11,(.mp .sb)),(12,.v .int),(14,.mv .int 0),(15,.v .int),(28,.v y6),(29,.v .int),(30,.v .int)])]
 run:=AT n
def S_36L8 (n:Nat):LoopSpec where
 sh:= [(0,.v .int),(2,.v .int),(7,.bx (.pr (.v .int) (.pr (.v .int) (.mv y7 1)))),(9,.bx (.v y1)),(10,.v (.smap .sb)),(11,(.mp .sb)),(12,.v .int),(28,.v y6),(29,.v .int),(30,.v .int)]
 ex:= [(.exit 2,[(0,.v .int),(2,.v .int),(7,.bx (.pr (.v .int) (.pr (.v .int) (.mv y7 1)))),(28,.v y6),(29,.v .int),(30,.v .int)])]
 run:=AM n
def S_36L3 (n:Nat):LoopSpec where
 sh:= [(0,.v .int),(2,.v .int),(7,.bx (.pr (.v .int) (.pr (.v .int) (.mv y7 1)))),(28,.v y6),(29,.v .int),(30,.v .int)]
 ex:= [(.exit 0,[(7,.bx (.pr (.v .int) (.pr (.v .int) (.mv y7 1))))])]
 run:=A8 n
def C_36:Cx where
 tt:=YaU tt
 T:=Ygp [(63,E_30),(112,E_34),(113,E_35),(114,E_33)]
 L:=Ygo [(17,S_36L17 Aa),(14,S_36L14 Aa),(8,S_36L8 Aa),(3,S_36L3 Aa)]
 dep:=λi=>match i with
  |25=>1
  |_=>0
 n:=3
 fine:=true
def B_36L17:Code:=(Try.f68.body.bind (Yag 17)).getD .skip
def B_36L14:Code:=(Try.f68.body.bind (Yag 14)).getD .skip
def B_36L8:Code:=(Try.f68.body.bind (Yag 8)).getD .skip
def B_36L3:Code:=(Try.f68.body.bind (Yag 3)).getD .skip
def D_36:Code:=Try.f68.body.getD .skip
def N_36 (_:XK E_36.params) (r:YH E_36.results):E_36.B:=r
def E_37:Entry where
 params:= [.v y0]
 results:= [.mv .int 0]
 B:=(List Int)
 run:=λa=>CY a
 out:=λb=>()
 res:=λb=>b
def C_37:Cx:=cx0 tt [] [] 1
def D_37:Code:=Try.f104.body.getD .skip
def N_37 (_:XK E_37.params) (r:YH E_37.results):E_37.B:=r
def E_38:Entry where
 params:= [.v y0,.bx (.mv y4 1),.bx (.v .int)]
 results:= [.v .bool]
 B:=(List (Int×(List Int)))×Int×Bool
 run:=λa=>Co a.1 a.2.1 a.2.2
 out:=λb=>((),b.1,b.2.1)
 res:=λb=>b.2.2
def C_38:Cx where
 tt:=YaU tt
 T:=Ygp [(104,E_37)]
 L:=Ygo []
 dep:=λi=>match i with
  |10=>1
  |11=>1
  |_=>0
 n:=3
def D_38:Code:=Try.f109.body.getD .skip
def N_38 (o:XK E_38.params) (r:YH E_38.results):E_38.B:=(o.2.1,o.2.2,r)
def E_39:Entry where
 params:= [.v y0,.v y0]
 results:= [.mv .int 0]
 B:=(List Int)
 run:=λa=>CO a.1 a.2
 out:=λb=>((),())
 res:=λb=>b
def S_39L3 (n:Nat):LoopSpec where
 sh:= [(1,.v y0),(5,.mv .int 0),(11,.v y0),(12,.v .int),(13,.v .int)]
 ex:= [(.exit 0,[(5,.mv .int 0)])]
 run:=Ce n
def C_39:Cx:=cx0 tt [] [(3,S_39L3 Aa)] 2
def B_39L3:Code:=(Try.f130.body.bind (Yag 3)).getD .skip
def D_39:Code:=Try.f130.body.getD .skip
def N_39 (_:XK E_39.params) (r:YH E_39.results):E_39.B:=r
def E_40:Entry where
 params:= [.v (.ptr y2),.v y0,.v .int]
 results:= [.v .bool]
 B:=Bool
 run:=λa=>Am a.1 a.2.1 a.2.2
 out:=λb=>((),(),())
 res:=λb=>b
def S_40L2 (n:Nat):LoopSpec where
 sh:= [(1,.v y0),(15,.v y7),(16,.v .int),(17,.v .int)]
 ex:= [(.exit 0,[]),(.ret,[(6,.v .bool)])]
 run:=AB n
def C_40:Cx:=cx0 tt [(114,E_33),(130,E_39)] [(2,S_40L2 Aa)] 3
def B_40L2:Code:=(Try.f116.body.bind (Yag 2)).getD .skip
def D_40:Code:=Try.f116.body.getD .skip
def N_40 (_:XK E_40.params) (r:YH E_40.results):E_40.B:=r
def E_41_of (rec:(Int×(List Int)×((List (Int×(List Int)))×Int)×(Bool×Int×Int×(List (List ((List Int)×(List ByteArray)))))×(List Int)×Unit)->Option ((List Int)×((List (Int×(List Int)))×Int)×(Bool×Int×Int×(List (List ((List Int)×(List ByteArray)))))×(List Int)×Bool)):Entry where
 params:= [.v .int,.bx (.mv .int 0),.pr (.bx (.mv y4 1)) (.bx (.v .int)),.bx (.v (.ptr y2)),.bx (.v y0),.jk 1]
 results:= [.v .bool]
 cod:= [(2,.kb 109),(5,.kn 115 1 5)]
 B:=(List Int)×((List (Int×(List Int)))×Int)×(Bool×Int×Int×(List (List ((List Int)×(List ByteArray)))))×(List Int)×Bool
 run:=rec
 out:=λb=>((),b.1,b.2.1,b.2.2.1,b.2.2.2.1,())
 res:=λb=>b.2.2.2.2
def E_41 (d:Nat):Entry:=E_41_of (An d)
def S_41L4 (rec:(Int×(List Int)×((List (Int×(List Int)))×Int)×(Bool×Int×Int×(List (List ((List Int)×(List ByteArray)))))×(List Int)×Unit)->Option ((List Int)×((List (Int×(List Int)))×Int)×(Bool×Int×Int×(List (List ((List Int)×(List ByteArray)))))×(List Int)×Bool)) (n:Nat):LoopSpec where
 sh:= [(0,.v .int),(1,.bx (.mv .int 0)),(2,.pr (.bx (.mv y4 1)) (.bx (.v .int))),(3,.bx (.v (.ptr y2))),(4,.bx (.v y0)),(5,.jk 1),(8,.v .int)]
 ex:= [(.exit 0,[(1,.bx (.mv .int 0)),(2,.pr (.bx (.mv y4 1)) (.bx (.v .int))),(3,.bx (.v (.ptr y2))),(4,.bx (.v y0)),(5,.jk 1)]),(.ret,[(1,.bx (.mv .int 0)),(2,.pr (.bx (.mv y4 1)) (.bx (.v .int))),(3,.bx (.v (.ptr y2))),(4,.bx (.v y0)),(5,.jk 1),(7,.v .bool)])]
 run:=Af rec n
def C_41 (rec:(Int×(List Int)×((List (Int×(List Int)))×Int)×(Bool×Int×Int×(List (List ((List Int)×(List ByteArray)))))×(List Int)×Unit)->Option ((List Int)×((List (Int×(List Int)))×Int)×(Bool×Int×Int×(List (List ((List Int)×(List ByteArray)))))×(List Int)×Bool)):Cx where
 tt:=YaU tt
 T:=Ygp [(109,E_38),(116,E_40),(7209075,E_41_of rec)]
 L:=Ygo [(4,S_41L4 rec Aa)]
 dep:=λi=>0
 n:=6
 cod:= [(2,.kb 109),(5,.kn 115 1 5)]
def B_41L4:Code:=(Try.f115.body.bind (Yag 4)).getD .skip
def D_41:Code:=Try.f115.body.getD .skip
def N_41 (o:XK [.v .int,.bx (.mv .int 0),.pr (.bx (.mv y4 1)) (.bx (.v .int)),.bx (.v (.ptr y2)),.bx (.v y0),.jk 1]) (r:YH [.v .bool]):(List Int)×((List (Int×(List Int)))×Int)×(Bool×Int×Int×(List (List ((List Int)×(List ByteArray)))))×(List Int)×Bool:=(o.2.1,o.2.2.1,o.2.2.2.1,o.2.2.2.2.1,r)
def E_42:Entry where
 params:= [.v (.ptr y2),.v y0,.pr (.bx (.mv y4 1)) (.bx (.v .int))]
 results:= []
 cod:= [(2,.cl 109)]
 B:=((List (Int×(List Int)))×Int)
 run:=λa=>Bt a.1 a.2.1 a.2.2
 out:=λb=>((),(),b)
 res:=λb=>()
def C_42:Cx where
 tt:=YaU tt
 T:=Ygp [(7209075,E_41 Aa)]
 L:=Ygo []
 dep:=λi=>0
 n:=3
 cod:= [(2,.cl 109)]
def D_42:Code:=Try.f69.body.getD .skip
def N_42 (o:XK E_42.params) (_:YH E_42.results):E_42.B:=o.2.2
def E_43:Entry where
 params:= [.v .int,.v y6,.v .int,.v y0]
 results:= [.mv y4 1,.v .bool]
 B:=(List (Int×(List Int)))×Bool
 run:=λa=>CQ a.1 a.2.1 a.2.2.1 a.2.2.2
 out:=λb=>((),(),(),())
 res:=λb=>(b.1,b.2)
def C_43:Cx where
 tt:=YaU tt
 T:=Ygp [(68,E_36),(7209029,E_42)]
 L:=Ygo []
 dep:=λi=>match i with
  |11=>1
  |22=>1
  |_=>0
 n:=4
def D_43:Code:=Try.f61.body.getD .skip
def N_43 (_:XK E_43.params) (r:YH E_43.results):E_43.B:=(r.1,r.2)
def E_44:Entry where
 params:= [.v .int,.v y6,.v .int]
 results:= [.mv y4 1,.v .bool]
 B:=(List (Int×(List Int)))×Bool
 run:=λa=>AQ a.1 a.2.1 a.2.2
 out:=λb=>((),(),())
 res:=λb=>(b.1,b.2)
def C_44:Cx where
 tt:=YaU tt
 T:=Ygp [(59,E_29),(60,E_31),(61,E_43),(62,E_32),(63,E_30)]
 L:=Ygo []
 dep:=λi=>match i with
  |19=>1
  |_=>0
 n:=3
def D_44:Code:=Try.f24.body.getD .skip
def N_44 (_:XK E_44.params) (r:YH E_44.results):E_44.B:=(r.1,r.2)
def E_45:Entry where
 params:= [.v .int]
 results:= [.v .bool]
 B:=Bool
 run:=λa=>Dm a
 out:=λb=>()
 res:=λb=>b
def C_45:Cx:=cx0 tt [(90,E_8)] [] 1
def D_45:Code:=Try.f81.body.getD .skip
def N_45 (_:XK E_45.params) (r:YH E_45.results):E_45.B:=r
def E_46:Entry where
 params:= [.v .int,.v y0]
 results:= [.v .bool]
 B:=Bool
 run:=λa=>Dg a.1 a.2
 out:=λb=>((),())
 res:=λb=>b
def S_46L2 (n:Nat):LoopSpec where
 sh:= [(0,.v .int),(1,.v y0),(5,.v .int)]
 ex:= [(.exit 0,[]),(.ret,[(4,.v .bool)])]
 run:=BN n
def C_46:Cx:=cx0 tt [(90,E_8)] [(2,S_46L2 Aa)] 2
def B_46L2:Code:=(Try.f127.body.bind (Yag 2)).getD .skip
def D_46:Code:=Try.f127.body.getD .skip
def N_46 (_:XK E_46.params) (r:YH E_46.results):E_46.B:=r
def E_47:Entry where
 params:= [.v .int,.v .int,.v y0]
 results:= [.v .bool]
 B:=Bool
 run:=λa=>DY a.1 a.2.1 a.2.2
 out:=λb=>((),(),())
 res:=λb=>b
def C_47:Cx:=cx0 tt [(127,E_46)] [] 3
def D_47:Code:=Try.f139.body.getD .skip
def N_47 (_:XK E_47.params) (r:YH E_47.results):E_47.B:=r
def E_48:Entry where
 params:= [.v .int,.v y1]
 results:= [.v .bool]
 B:=Bool
 run:=λa=>DW a.1 a.2
 out:=λb=>((),())
 res:=λb=>b
def S_48L4 (n:Nat):LoopSpec where
 sh:= [(0,.v .int),(3,.bx (.v y1)),(5,.v .int)]
 ex:= [(.exit 0,[]),(.ret,[(4,.v .bool)])]
 run:=BQ n
def C_48:Cx:=cx0 tt [(66,E_16),(90,E_8),(139,E_47),(140,E_10)] [(4,S_48L4 Aa)] 2
def B_48L4:Code:=(Try.f124.body.bind (Yag 4)).getD .skip
def D_48:Code:=Try.f124.body.getD .skip
def N_48 (_:XK E_48.params) (r:YH E_48.results):E_48.B:=r
def E_49:Entry where
 params:= [.v .int,.v y6]
 results:= [.v .bool]
 B:=Bool
 run:=λa=>CT a.1 a.2
 out:=λb=>((),())
 res:=λb=>b
def S_49L4 (n:Nat):LoopSpec where
 sh:= [(0,.v .int),(1,.v y6),(5,.v .int)]
 ex:= [(.exit 0,[]),(.ret,[(4,.v .bool)])]
 run:=Bi n
def C_49:Cx:=cx0 tt [(124,E_48)] [(4,S_49L4 Aa)] 2
def B_49L4:Code:=(Try.f82.body.bind (Yag 4)).getD .skip
def D_49:Code:=Try.f82.body.getD .skip
def N_49 (_:XK E_49.params) (r:YH E_49.results):E_49.B:=r
def E_50:Entry where
 params:= [.v .int,.v y6,.v .int]
 results:= [.v .bool]
 B:=Bool
 run:=λa=>C4 a.1 a.2.1 a.2.2
 out:=λb=>((),(),())
 res:=λb=>b
def S_50L4 (n:Nat):LoopSpec where
 sh:= [(1,.v y6),(2,.v .int),(7,.v .int)]
 ex:= [(.exit 0,[]),(.ret,[(6,.v .bool)])]
 run:=BH n
def C_50:Cx:=cx0 tt [(81,E_45),(82,E_49),(90,E_8)] [(4,S_50L4 Aa)] 3
def B_50L4:Code:=(Try.f84.body.bind (Yag 4)).getD .skip
def D_50:Code:=Try.f84.body.getD .skip
def N_50 (_:XK E_50.params) (r:YH E_50.results):E_50.B:=r
def E_51:Entry where
 params:= [.v .int,.v y6,.v .int]
 results:= [.v .bool]
 B:=Bool
 run:=λa=>CE a.1 a.2.1 a.2.2
 out:=λb=>((),(),())
 res:=λb=>b
def C_51:Cx:=cx0 tt [(66,E_16),(84,E_50)] [] 3
def D_51:Code:=Try.f64.body.getD .skip
def N_51 (_:XK E_51.params) (r:YH E_51.results):E_51.B:=r
def E_52:Entry where
 params:= [.v .int]
 results:= [.mv .int 0]
 B:=(List Int)
 run:=λa=>CS a
 out:=λb=>()
 res:=λb=>b
def S_52L3 (n:Nat):LoopSpec where
 sh:= [(0,.v .int),(3,.mv .int 0),(4,.v .int)]
 ex:= [(.exit 0,[(3,.mv .int 0)])]
 run:=BR n
def C_52:Cx:=cx0 tt [] [(3,S_52L3 Aa)] 1
def B_52L3:Code:=(Try.f52.body.bind (Yag 3)).getD .skip
def D_52:Code:=Try.f52.body.getD .skip
def N_52 (_:XK E_52.params) (r:YH E_52.results):E_52.B:=r
def E_53:Entry where
 params:= [.v .int,.v .int]
 results:= [.v .int]
 B:=Int
 run:=λa=>CL a.1 a.2
 out:=λb=>((),())
 res:=λb=>b
def C_53:Cx:=cx0 tt [] [] 2
def D_53:Code:=Try.f122.body.getD .skip
def N_53 (_:XK E_53.params) (r:YH E_53.results):E_53.B:=r
def E_54:Entry where
 params:= [.v .int,.v y6,.v .int]
 results:= [.mv y5 1]
 B:=(List (List ((List Int)×Int×(List (List Int)))))
 run:=λa=>DE a.1 a.2.1 a.2.2
 out:=λb=>((),(),())
 res:=λb=>b
def S_54L3 (n:Nat):LoopSpec where
 sh:= [(0,.v .int),(1,.v y6),(2,.v .int),(7,.mv y5 1),(8,.v .int)]
 ex:= [(.exit 0,[(0,.v .int),(1,.v y6),(2,.v .int),(7,.mv y5 1)])]
 run:=BF n
def S_54L21 (n:Nat):LoopSpec where
 sh:= [(0,.v .int),(1,.v y6),(2,.v .int),(7,.mv y5 1),(9,.v .int),(10,.v .int),(11,.v .int),(12,.mv .int 0),(13,.bx (.pr (.mv .int 0) (.v y1))),(14,.v .int),(15,.v .int),(16,.v .int),(17,.v .int)]
 ex:= [(.exit 8,[(0,.v .int),(1,.v y6),(2,.v .int),(7,.mv y5 1),(9,.v .int),(10,.v .int),(11,.v .int),(12,.mv .int 0),(13,.bx (.pr (.mv .int 0) (.v y1))),(14,.v .int),(15,.v .int),(16,.v .int)])]
 run:=By n
def S_54L17 (n:Nat):LoopSpec where
 sh:= [(0,.v .int),(1,.v y6),(2,.v .int),(7,.mv y5 1),(9,.v .int),(10,.v .int),(11,.v .int),(12,.mv .int 0),(13,.bx (.pr (.mv .int 0) (.v y1))),(14,.v .int),(15,.v .int)]
 ex:= [(.exit 6,[(0,.v .int),(1,.v y6),(2,.v .int),(7,.mv y5 1),(9,.v .int),(10,.v .int),(11,.v .int),(13,.bx (.pr (.mv .int 0) (.v y1))),(14,.v .int)])]
 run:=Bx n
def S_54L11 (n:Nat):LoopSpec where
 sh:= [(0,.v .int),(1,.v y6),(2,.v .int),(7,.mv y5 1),(9,.v .int),(10,.v .int),(11,.v .int)]
 ex:= [(.exit 4,[(0,.v .int),(1,.v y6),(2,.v .int),(7,.mv y5 1),(9,.v .int)])]
 run:=Bw n
def S_54L7 (n:Nat):LoopSpec where
 sh:= [(0,.v .int),(1,.v y6),(2,.v .int),(7,.mv y5 1),(9,.v .int)]
 ex:= [(.exit 2,[(7,.mv y5 1)])]
 run:=BG n
def C_54:Cx where
 tt:=YaU tt
 T:=Ygp [(66,E_16),(122,E_53),(138,E_17)]
 L:=Ygo [(3,S_54L3 Aa),(21,S_54L21 Aa),(17,S_54L17 Aa),(11,S_54L11 Aa),(7,S_54L7 Aa)]
 dep:=λi=>match i with
  |18=>1
  |28=>1
  |29=>1
  |_=>0
 n:=3
 fine:=true
def B_54L3:Code:=(Try.f111.body.bind (Yag 3)).getD .skip
def B_54L21:Code:=(Try.f111.body.bind (Yag 21)).getD .skip
def B_54L17:Code:=(Try.f111.body.bind (Yag 17)).getD .skip
def B_54L11:Code:=(Try.f111.body.bind (Yag 11)).getD .skip
def B_54L7:Code:=(Try.f111.body.bind (Yag 7)).getD .skip
def D_54:Code:=Try.f111.body.getD .skip
def N_54 (_:XK E_54.params) (r:YH E_54.results):E_54.B:=r
def E_55:Entry where
 params:= [.v y1,.v y0]
 results:= [.v .bool]
 B:=Bool
 run:=λa=>BU a.1 a.2
 out:=λb=>((),())
 res:=λb=>b
def C_55:Cx:=cx0 tt [(147,E_12)] [] 2
def D_55:Code:=Try.f143.body.getD .skip
def N_55 (_:XK E_55.params) (r:YH E_55.results):E_55.B:=r
def E_56:Entry where
 params:= [.v y5,.v y0]
 results:= [.v .bool]
 B:=Bool
 run:=λa=>CD a.1 a.2
 out:=λb=>((),())
 res:=λb=>b
def S_56L6 (n:Nat):LoopSpec where
 sh:= [(0,.v y5),(1,.v y0),(5,.v .int),(6,.mv .int 0),(7,.v .int)]
 ex:= [(.exit 2,[(0,.v y5),(1,.v y0),(5,.v .int),(6,.mv .int 0)])]
 run:=BE n
def S_56L2 (n:Nat):LoopSpec where
 sh:= [(0,.v y5),(1,.v y0),(5,.v .int)]
 ex:= [(.exit 0,[]),(.ret,[(4,.v .bool)])]
 run:=BD n
def C_56:Cx:=cx0 tt [(143,E_55)] [(6,S_56L6 Aa),(2,S_56L2 Aa)] 2
def B_56L6:Code:=(Try.f137.body.bind (Yag 6)).getD .skip
def B_56L2:Code:=(Try.f137.body.bind (Yag 2)).getD .skip
def D_56:Code:=Try.f137.body.getD .skip
def N_56 (_:XK E_56.params) (r:YH E_56.results):E_56.B:=r
def E_57_of (rec:(Int×(List (List ((List Int)×Int×(List (List Int)))))×(List Int)×(List Int)×((List (List Int))×(Int×Int)))->Option (((List (List Int))×(Int×Int)))):Entry where
 params:= [.v .int,.v (.slice y5),.v y0,.v y0,.pr (.mv y0 1) (.v y8)]
 results:= [.pr (.mv y0 1) (.v y8)]
 B:=((List (List Int))×(Int×Int))
 run:=rec
 out:=λb=>((),(),(),(),((),()))
 res:=λb=>b
def E_57 (d:Nat):Entry:=E_57_of (Bp d)
def S_57L8 (rec:(Int×(List (List ((List Int)×Int×(List (List Int)))))×(List Int)×(List Int)×((List (List Int))×(Int×Int)))->Option (((List (List Int))×(Int×Int)))) (n:Nat):LoopSpec where
 sh:= [(0,.v .int),(1,.v (.slice y5)),(2,.v y0),(3,.v y0),(9,.bx (.pr (.mv y0 1) (.v y8))),(10,.bx (.pr (.mv y0 1) (.v y8))),(11,.v .int),(12,.v .int)]
 ex:= [(.exit 0,[(9,.bx (.pr (.mv y0 1) (.v y8))),(10,.bx (.pr (.mv y0 1) (.v y8)))]),(.ret,[(10,.bx (.pr (.mv y0 1) (.v y8)))])]
 run:=Ao rec n
def C_57 (rec:(Int×(List (List ((List Int)×Int×(List (List Int)))))×(List Int)×(List Int)×((List (List Int))×(Int×Int)))->Option (((List (List Int))×(Int×Int)))):Cx where
 tt:=YaU tt
 T:=Ygp [(78,E_6),(110,E_57_of rec),(137,E_56)]
 L:=Ygo [(8,S_57L8 rec Aa)]
 dep:=λi=>match i with
  |34=>1
  |35=>1
  |_=>0
 n:=5
def B_57L8:Code:=(Try.f110.body.bind (Yag 8)).getD .skip
def D_57:Code:=Try.f110.body.getD .skip
def N_57 (_:XK [.v .int,.v (.slice y5),.v y0,.v y0,.pr (.mv y0 1) (.v y8)]) (r:YH [.pr (.mv y0 1) (.v y8)]):((List (List Int))×(Int×Int)):=r
def E_58:Entry where
 params:= [.v .int,.v y6,.v .int,.v y0,.v .int]
 results:= [.pr (.mv y0 1) (.v y8)]
 B:=((List (List Int))×(Int×Int))
 run:=λa=>BV a.1 a.2.1 a.2.2.1 a.2.2.2.1 a.2.2.2.2
 out:=λb=>((),(),(),(),())
 res:=λb=>b
def C_58:Cx:=cx0 tt [(110,E_57 Aa),(111,E_54)] [] 5
def D_58:Code:=Try.f65.body.getD .skip
def N_58 (_:XK E_58.params) (r:YH E_58.results):E_58.B:=r
def E_59:Entry where
 params:= [.v .int,.v y9]
 results:= [.mv y4 0]
 B:=(List (Int×(List Int)))
 run:=λa=>Dz a.1 a.2
 out:=λb=>((),())
 res:=λb=>b
def S_59L3 (n:Nat):LoopSpec where
 sh:= [(0,.v .int),(1,.v y9),(5,.mv y4 0),(6,.v .int)]
 ex:= [(.exit 0,[(5,.mv y4 0)])]
 run:=B8 n
def C_59:Cx:=cx0 tt [(78,E_6)] [(3,S_59L3 Aa)] 2
def B_59L3:Code:=(Try.f67.body.bind (Yag 3)).getD .skip
def D_59:Code:=Try.f67.body.getD .skip
def N_59 (_:XK E_59.params) (r:YH E_59.results):E_59.B:=r
def E_60:Entry where
 params:= [.v .int,.v y6,.v .int]
 results:= [.mv y4 0,.v .bool]
 B:=(List (Int×(List Int)))×Bool
 run:=λa=>Cs a.1 a.2.1 a.2.2
 out:=λb=>((),(),())
 res:=λb=>(b.1,b.2)
def C_60:Cx:=cx0 tt [(52,E_52),(64,E_51),(65,E_58),(66,E_16),(67,E_59)] [] 3
def D_60:Code:=Try.f25.body.getD .skip
def N_60 (_:XK E_60.params) (r:YH E_60.results):E_60.B:=(r.1,r.2)
def E_61:Entry where
 params:= [.v y0,.v y0]
 results:= [.v .bool]
 B:=Bool
 run:=λa=>ED a.1 a.2
 out:=λb=>((),())
 res:=λb=>b
def S_61L4 (n:Nat):LoopSpec where
 sh:= [(0,.v y0),(1,.v y0),(5,.v .int)]
 ex:= [(.exit 0,[]),(.ret,[(4,.v .bool)])]
 run:=Ci n
def C_61:Cx:=cx0 tt [] [(4,S_61L4 Aa)] 2
def B_61L4:Code:=(Try.f22.body.bind (Yag 4)).getD .skip
def D_61:Code:=Try.f22.body.getD .skip
def N_61 (_:XK E_61.params) (r:YH E_61.results):E_61.B:=r
def E_62:Entry where
 params:= [.v y4,.v y4]
 results:= [.v .bool]
 B:=Bool
 run:=λa=>BM a.1 a.2
 out:=λb=>((),())
 res:=λb=>b
def C_62:Cx:=cx0 tt [(22,E_61)] [] 2
def D_62:Code:=Try.f32.body.getD .skip
def N_62 (_:XK E_62.params) (r:YH E_62.results):E_62.B:=r
def E_63:Entry where
 params:= [.v y11,.v y11]
 results:= [.v .bool]
 B:=Bool
 run:=λa=>EW a.1 a.2
 out:=λb=>((),())
 res:=λb=>b
def S_63L4 (n:Nat):LoopSpec where
 sh:= [(0,.v y11),(1,.v y11),(5,.v .int)]
 ex:= [(.exit 0,[]),(.ret,[(4,.v .bool)])]
 run:=Cy n
def C_63:Cx:=cx0 tt [(32,E_62)] [(4,S_63L4 Aa)] 2
def B_63L4:Code:=(Try.f26.body.bind (Yag 4)).getD .skip
def D_63:Code:=Try.f26.body.getD .skip
def N_63 (_:XK E_63.params) (r:YH E_63.results):E_63.B:=r
def E_64:Entry where
 params:= [.v y0,.bx (.v .int)]
 results:= [.v .bool]
 B:=Int×Bool
 run:=λa=>BI a.1 a.2
 out:=λb=>((),b.1)
 res:=λb=>b.2
def C_64:Cx:=cx0 tt [] [] 2
def D_64:Code:=Try.f70.body.getD .skip
def N_64 (o:XK E_64.params) (r:YH E_64.results):E_64.B:=(o.2,r)
def E_65_of (rec:(Int×(List Int)×Int×(Bool×Int×Int×(List (List ((List Int)×(List ByteArray)))))×(List Int)×Unit)->Option ((List Int)×Int×(Bool×Int×Int×(List (List ((List Int)×(List ByteArray)))))×(List Int)×Bool)):Entry where
 params:= [.v .int,.bx (.mv .int 0),.bx (.v .int),.bx (.v (.ptr y2)),.bx (.v y0),.jk 1]
 results:= [.v .bool]
 cod:= [(2,.kb 70),(5,.kn 115 1 5)]
 B:=(List Int)×Int×(Bool×Int×Int×(List (List ((List Int)×(List ByteArray)))))×(List Int)×Bool
 run:=rec
 out:=λb=>((),b.1,b.2.1,b.2.2.1,b.2.2.2.1,())
 res:=λb=>b.2.2.2.2
def E_65 (d:Nat):Entry:=E_65_of (Ak d)
def S_65L4 (rec:(Int×(List Int)×Int×(Bool×Int×Int×(List (List ((List Int)×(List ByteArray)))))×(List Int)×Unit)->Option ((List Int)×Int×(Bool×Int×Int×(List (List ((List Int)×(List ByteArray)))))×(List Int)×Bool)) (n:Nat):LoopSpec where
 sh:= [(0,.v .int),(1,.bx (.mv .int 0)),(2,.bx (.v .int)),(3,.bx (.v (.ptr y2))),(4,.bx (.v y0)),(5,.jk 1),(8,.v .int)]
 ex:= [(.exit 0,[(1,.bx (.mv .int 0)),(2,.bx (.v .int)),(3,.bx (.v (.ptr y2))),(4,.bx (.v y0)),(5,.jk 1)]),(.ret,[(1,.bx (.mv .int 0)),(2,.bx (.v .int)),(3,.bx (.v (.ptr y2))),(4,.bx (.v y0)),(5,.jk 1),(7,.v .bool)])]
 run:=Ad rec n
def C_65 (rec:(Int×(List Int)×Int×(Bool×Int×Int×(List (List ((List Int)×(List ByteArray)))))×(List Int)×Unit)->Option ((List Int)×Int×(Bool×Int×Int×(List (List ((List Int)×(List ByteArray)))))×(List Int)×Bool)):Cx where
 tt:=YaU tt
 T:=Ygp [(70,E_64),(116,E_40),(4653171,E_65_of rec)]
 L:=Ygo [(4,S_65L4 rec Aa)]
 dep:=λi=>0
 n:=6
 cod:= [(2,.kb 70),(5,.kn 115 1 5)]
def B_65L4:Code:=(Try.f115.body.bind (Yag 4)).getD .skip
def D_65:Code:=Try.f115.body.getD .skip
def N_65 (o:XK [.v .int,.bx (.mv .int 0),.bx (.v .int),.bx (.v (.ptr y2)),.bx (.v y0),.jk 1]) (r:YH [.v .bool]):(List Int)×Int×(Bool×Int×Int×(List (List ((List Int)×(List ByteArray)))))×(List Int)×Bool:=(o.2.1,o.2.2.1,o.2.2.2.1,o.2.2.2.2.1,r)
def E_66:Entry where
 params:= [.v (.ptr y2),.v y0,.bx (.v .int)]
 results:= []
 cod:= [(2,.cl 70)]
 B:=Int
 run:=λa=>As a.1 a.2.1 a.2.2
 out:=λb=>((),(),b)
 res:=λb=>()
def C_66:Cx where
 tt:=YaU tt
 T:=Ygp [(4653171,E_65 Aa)]
 L:=Ygo []
 dep:=λi=>0
 n:=3
 cod:= [(2,.cl 70)]
def D_66:Code:=Try.f69.body.getD .skip
def N_66 (o:XK E_66.params) (_:YH E_66.results):E_66.B:=o.2.2
def E_67:Entry where
 params:= [.v .int,.v y6,.v .int]
 results:= [.v .int,.v .bool]
 B:=Int×Bool
 run:=λa=>B2 a.1 a.2.1 a.2.2
 out:=λb=>((),(),())
 res:=λb=>(b.1,b.2)
def C_67:Cx:=cx0 tt [(59,E_29),(60,E_31),(62,E_32),(63,E_30),(68,E_36),(4653125,E_66)] [] 3
def D_67:Code:=Try.f27.body.getD .skip
def N_67 (_:XK E_67.params) (r:YH E_67.results):E_67.B:=(r.1,r.2)
def E_68:Entry where
 params:= [.v .int,.v y6,.v .int]
 results:= [.v .int,.v .bool]
 B:=Int×Bool
 run:=λa=>B7 a.1 a.2.1 a.2.2
 out:=λb=>((),(),())
 res:=λb=>(b.1,b.2)
def C_68:Cx:=cx0 tt [(52,E_52),(64,E_51),(65,E_58),(66,E_16)] [] 3
def D_68:Code:=Try.f28.body.getD .skip
def N_68 (_:XK E_68.params) (r:YH E_68.results):E_68.B:=(r.1,r.2)
def E_69:Entry where
 params:= [.v y4,.v .int]
 results:= [.v .bool]
 B:=Bool
 run:=λa=>Do a.1 a.2
 out:=λb=>((),())
 res:=λb=>b
def C_69:Cx:=cx0 tt [(63,E_30),(117,E_25)] [] 2
def D_69:Code:=Try.f71.body.getD .skip
def N_69 (_:XK E_69.params) (r:YH E_69.results):E_69.B:=r
def E_70:Entry where
 params:= [.v .int,.v y4,.v y1]
 results:= [.mv .int 0,.mv .int 0,.v .bool]
 B:=(List Int)×(List Int)×Bool
 run:=λa=>CF a.1 a.2.1 a.2.2
 out:=λb=>((),(),())
 res:=λb=>(b.1,b.2.1,b.2.2)
def S_70L10 (n:Nat):LoopSpec where
 sh:= [(0,.v .int),(4,.bx (.v y4)),(5,.bx (.v y1)),(9,.v (.smap .sb)),(10,.v .int),(11,.mv .int 0),(12,.mv .int 0),(13,.v .int),(14,.v .int),(15,.v .int)]
 ex:= [(.exit 2,[(0,.v .int),(4,.bx (.v y4)),(5,.bx (.v y1)),(9,.v (.smap .sb)),(10,.v .int),(11,.mv .int 0),(12,.mv .int 0),(13,.v .int)])]
 run:=Bz n
def S_70L19 (n:Nat):LoopSpec where
 sh:= [(786493,.jk 1),(0,.v .int),(4,.bx (.v y4)),(5,.bx (.v y1)),(9,.v (.smap .sb)),(10,.v .int),(11,.mv .int 0),(12,.mv .int 0),(13,.v .int),(16,.v .int),(17,.v .int),(57,.v .int),(58,.v .int),(62,.v .int),(63,.v .int)]
 ex:= [(.exit 6,[(0,.v .int),(4,.bx (.v y4)),(5,.bx (.v y1)),(9,.v (.smap .sb)),(10,.v .int),(11,.mv .int 0),(12,.mv .int 0),(13,.v .int),(16,.v .int),(17,.v .int),(57,.v .int),(58,.v .int)])]
 run:=Bh n
def S_70L15 (n:Nat):LoopSpec where
 sh:= [(0,.v .int),(4,.bx (.v y4)),(5,.bx (.v y1)),(9,.v (.smap .sb)),(10,.v .int),(11,.mv .int 0),(12,.mv .int 0),(13,.v .int),(57,.v .int),(58,.v .int)]
 ex:= [(.exit 4,[(0,.v .int),(4,.bx (.v y4)),(5,.bx (.v y1)),(9,.v (.smap .sb)),(10,.v .int),(11,.mv .int 0),(12,.mv .int 0),(13,.v .int)])]
 run:=Bg n
def S_70L6 (n:Nat):LoopSpec where
 sh:= [(0,.v .int),(4,.bx (.v y4)),(5,.bx (.v y1)),(9,.v (.smap .sb)),(10,.v .int),(11,.mv .int 0),(12,.mv .int 0),(13,.v .int)]
 ex:= [(.exit 0,[]),(.ret,[(6,.mv .int 0),(7,.mv .int 0),(8,.v .bool)])]
 run:=Bl n
def C_70:Cx:=cx0 tt [(63,E_30),(112,E_34),(114,E_33)] [(10,S_70L10 Aa),(19,S_70L19 Aa),(15,S_70L15 Aa),(6,S_70L6 Aa)] 3
def B_70L10:Code:=(Try.f118.body.bind (Yag 10)).getD .skip
def B_70L19:Code:=(Try.f118.body.bind (Yag 19)).getD .skip
def B_70L15:Code:=(Try.f118.body.bind (Yag 15)).getD .skip
def B_70L6:Code:=(Try.f118.body.bind (Yag 6)).getD .skip
def D_70:Code:=Try.f118.body.getD .skip
def N_70 (_:XK E_70.params) (r:YH E_70.results):E_70.B:=(r.1,r.2.1,r.2.2)
def E_71:Entry where
 params:= [.v .int,.v y6,.v y4]
 results:= [.v .bool]
 B:=Bool
 run:=λa=>C0 a.1 a.2.1 a.2.2
 out:=λb=>((),(),())
 res:=λb=>b
def S_71L2 (n:Nat):LoopSpec where
 sh:= [(0,.v .int),(5,.bx (.v y4)),(12,.v y6),(13,.v .int),(14,.v .int)]
 ex:= [(.exit 0,[]),(.ret,[(6,.v .bool)])]
 run:=B5 n
def C_71:Cx:=cx0 tt [(118,E_70)] [(2,S_71L2 Aa)] 3
def B_71L2:Code:=(Try.f72.body.bind (Yag 2)).getD .skip
def D_71:Code:=Try.f72.body.getD .skip
def N_71 (_:XK E_71.params) (r:YH E_71.results):E_71.B:=r
def E_72:Entry where
 params:= [.v .int,.v y6,.v y4]
 results:= [.v .bool,.v .bool]
 B:=Bool×Bool
 run:=λa=>Aq a.1 a.2.1 a.2.2
 out:=λb=>((),(),())
 res:=λb=>(b.1,b.2)
def C_72:Cx:=cx0 tt [(59,E_29),(71,E_69),(72,E_71)] [] 3
def D_72:Code:=Try.f29.body.getD .skip
def N_72 (_:XK E_72.params) (r:YH E_72.results):E_72.B:=(r.1,r.2)
def E_73:Entry where
 params:= [.v .int]
 results:= [.v .bool]
 B:=Bool
 run:=λa=>Ea a
 out:=λb=>()
 res:=λb=>b
def C_73:Cx:=cx0 tt [] [] 1
def D_73:Code:=Try.f73.body.getD .skip
def N_73 (_:XK E_73.params) (r:YH E_73.results):E_73.B:=r
def E_74:Entry where
 params:= [.v .int,.v y4,.v y9,.v .int]
 results:= [.mv .int 0]
 B:=(List Int)
 run:=λa=>CI a.1 a.2.1 a.2.2.1 a.2.2.2
 out:=λb=>((),(),(),())
 res:=λb=>b
def S_74L7 (n:Nat):LoopSpec where
 sh:= [(0,.v .int),(2,.v y9),(5,.bx (.v y4)),(9,.mv .int 0),(10,.v .int),(11,.v .int),(17,.v .int),(18,.v .int),(21,.v y9),(22,.v .int),(23,.v .int)]
 ex:= [(.exit 2,[(0,.v .int),(2,.v y9),(5,.bx (.v y4)),(9,.mv .int 0),(10,.v .int),(11,.v .int),(17,.v .int),(18,.v .int)])]
 run:=A7 n
def S_74L3 (n:Nat):LoopSpec where
 sh:= [(0,.v .int),(2,.v y9),(5,.bx (.v y4)),(9,.mv .int 0),(17,.v .int),(18,.v .int)]
 ex:= [(.exit 0,[(9,.mv .int 0)])]
 run:=AZ n
def C_74:Cx:=cx0 tt [] [(7,S_74L7 Aa),(3,S_74L3 Aa)] 4
def B_74L7:Code:=(Try.f74.body.bind (Yag 7)).getD .skip
def B_74L3:Code:=(Try.f74.body.bind (Yag 3)).getD .skip
def D_74:Code:=Try.f74.body.getD .skip
def N_74 (_:XK E_74.params) (r:YH E_74.results):E_74.B:=r
def E_75:Entry where
 params:= [.v .int,.v y4,.v y11]
 results:= [.v y4,.v .bool]
 B:=(Int×(List Int))×Bool
 run:=λa=>Cl a.1 a.2.1 a.2.2
 out:=λb=>((),(),())
 res:=λb=>(b.1,b.2)
def S_75L6 (n:Nat):LoopSpec where
 sh:= [(0,.v .int),(4,.bx (.v y4)),(6,.bx (.pr (.v .int) (.mv .int 0))),(8,.v .int),(9,.mv y0 0),(39,.v y11),(40,.v .int),(41,.v .int)]
 ex:= [(.exit 0,[(0,.v .int),(4,.bx (.v y4)),(6,.bx (.pr (.v .int) (.mv .int 0))),(8,.v .int),(9,.mv y0 0)]),(.ret,[(6,.bx (.v y4)),(7,.v .bool)])]
 run:=AH n
def C_75:Cx:=cx0 tt [(63,E_30),(71,E_69),(73,E_73),(74,E_74)] [(6,S_75L6 Aa)] 3
def B_75L6:Code:=(Try.f30.body.bind (Yag 6)).getD .skip
def D_75:Code:=Try.f30.body.getD .skip
def N_75 (_:XK E_75.params) (r:YH E_75.results):E_75.B:=(r.1,r.2)
def E_76:Entry where
 params:= [.v y0]
 results:= [.v .bool]
 B:=Bool
 run:=λa=>E6 a
 out:=λb=>()
 res:=λb=>b
def C_76:Cx:=cx0 tt [] [] 1
def D_76:Code:=Try.f76.body.getD .skip
def N_76 (_:XK E_76.params) (r:YH E_76.results):E_76.B:=r
def E_77:Entry where
 params:= [.v y0,.bx (.v (.fn 76)),.bx (.v .int),.bx (.pr (.v .int) (.mv .int 0)),.bx (.v .bool)]
 results:= [.v .bool]
 B:=Int×(Int×(List Int))×Bool×Bool
 run:=λa=>Cn a.1 a.2.1 a.2.2.1 a.2.2.2.1 a.2.2.2.2
 out:=λb=>((),(),b.1,b.2.1,b.2.2.1)
 res:=λb=>b.2.2.2
def C_77:Cx:=cx0 tt [(76,E_76),(104,E_37)] [] 5
def D_77:Code:=Try.f119.body.getD .skip
def N_77 (o:XK E_77.params) (r:YH E_77.results):E_77.B:=(o.2.2.1,o.2.2.2.1,o.2.2.2.2,r)
def E_78_of (rec:(Int×(List Int)×(Unit×(Int×((Int×(List Int))×Bool)))×(Bool×Int×Int×(List (List ((List Int)×(List ByteArray)))))×(List Int)×Unit)->Option ((List Int)×(Unit×(Int×((Int×(List Int))×Bool)))×(Bool×Int×Int×(List (List ((List Int)×(List ByteArray)))))×(List Int)×Bool)):Entry where
 params:= [.v .int,.bx (.mv .int 0),.pr (.bx (.v (.fn 76))) (.pr (.bx (.v .int)) (.pr (.bx (.pr (.v .int) (.mv .int 0))) (.bx (.v .bool)))),.bx (.v (.ptr y2)),.bx (.v y0),.jk 1]
 results:= [.v .bool]
 cod:= [(2,.kb 119),(5,.kn 115 1 5)]
 B:=(List Int)×(Unit×(Int×((Int×(List Int))×Bool)))×(Bool×Int×Int×(List (List ((List Int)×(List ByteArray)))))×(List Int)×Bool
 run:=rec
 out:=λb=>((),b.1,b.2.1,b.2.2.1,b.2.2.2.1,())
 res:=λb=>b.2.2.2.2
def E_78 (d:Nat):Entry:=E_78_of (Aj d)
def S_78L4 (rec:(Int×(List Int)×(Unit×(Int×((Int×(List Int))×Bool)))×(Bool×Int×Int×(List (List ((List Int)×(List ByteArray)))))×(List Int)×Unit)->Option ((List Int)×(Unit×(Int×((Int×(List Int))×Bool)))×(Bool×Int×Int×(List (List ((List Int)×(List ByteArray)))))×(List Int)×Bool)) (n:Nat):LoopSpec where
 sh:= [(0,.v .int),(1,.bx (.mv .int 0)),(2,.pr (.bx (.v (.fn 76))) (.pr (.bx (.v .int)) (.pr (.bx (.pr (.v .int) (.mv .int 0))) (.bx (.v .bool))))),(3,.bx (.v (.ptr y2))),(4,.bx (.v y0)),(5,.jk 1),(8,.v .int)]
 ex:= [(.exit 0,[(1,.bx (.mv .int 0)),(2,.pr (.bx (.v (.fn 76))) (.pr (.bx (.v .int)) (.pr (.bx (.pr (.v .int) (.mv .int 0))) (.bx (.v .bool))))),(3,.bx (.v (.ptr y2))),(4,.bx (.v y0)),(5,.jk 1)]),(.ret,[(1,.bx (.mv .int 0)),(2,.pr (.bx (.v (.fn 76))) (.pr (.bx (.v .int)) (.pr (.bx (.pr (.v .int) (.mv .int 0))) (.bx (.v .bool))))),(3,.bx (.v (.ptr y2))),(4,.bx (.v y0)),(5,.jk 1),(7,.v .bool)])]
 run:=Ab rec n
def C_78 (rec:(Int×(List Int)×(Unit×(Int×((Int×(List Int))×Bool)))×(Bool×Int×Int×(List (List ((List Int)×(List ByteArray)))))×(List Int)×Unit)->Option ((List Int)×(Unit×(Int×((Int×(List Int))×Bool)))×(Bool×Int×Int×(List (List ((List Int)×(List ByteArray)))))×(List Int)×Bool)):Cx where
 tt:=YaU tt
 T:=Ygp [(116,E_40),(119,E_77),(7864435,E_78_of rec)]
 L:=Ygo [(4,S_78L4 rec Aa)]
 dep:=λi=>0
 n:=6
 cod:= [(2,.kb 119),(5,.kn 115 1 5)]
def B_78L4:Code:=(Try.f115.body.bind (Yag 4)).getD .skip
def D_78:Code:=Try.f115.body.getD .skip
def N_78 (o:XK [.v .int,.bx (.mv .int 0),.pr (.bx (.v (.fn 76))) (.pr (.bx (.v .int)) (.pr (.bx (.pr (.v .int) (.mv .int 0))) (.bx (.v .bool)))),.bx (.v (.ptr y2)),.bx (.v y0),.jk 1]) (r:YH [.v .bool]):(List Int)×(Unit×(Int×((Int×(List Int))×Bool)))×(Bool×Int×Int×(List (List ((List Int)×(List ByteArray)))))×(List Int)×Bool:=(o.2.1,o.2.2.1,o.2.2.2.1,o.2.2.2.2.1,r)
def E_79:Entry where
 params:= [.v (.ptr y2),.v y0,.pr (.bx (.v (.fn 76))) (.pr (.bx (.v .int)) (.pr (.bx (.pr (.v .int) (.mv .int 0))) (.bx (.v .bool))))]
 results:= []
 cod:= [(2,.cl 119)]
 B:=(Unit×(Int×((Int×(List Int))×Bool)))
 run:=λa=>AR a.1 a.2.1 a.2.2
 out:=λb=>((),(),b)
 res:=λb=>()
def C_79:Cx where
 tt:=YaU tt
 T:=Ygp [(7864435,E_78 Aa)]
 L:=Ygo []
 dep:=λi=>0
 n:=3
 cod:= [(2,.cl 119)]
def D_79:Code:=Try.f69.body.getD .skip
def N_79 (o:XK E_79.params) (_:YH E_79.results):E_79.B:=o.2.2
def E_80:Entry where
 params:= [.v .int,.v y6,.v .int,.v y0,.v (.fn 76)]
 results:= [.pr (.v .int) (.mv .int 0),.v .bool]
 B:=(Int×(List Int))×Bool
 run:=λa=>Bf a.1 a.2.1 a.2.2.1 a.2.2.2.1 a.2.2.2.2
 out:=λb=>((),(),(),(),())
 res:=λb=>(b.1,b.2)
def C_80:Cx:=cx0 tt [(68,E_36),(7864389,E_79)] [] 5
def D_80:Code:=Try.f75.body.getD .skip
def N_80 (_:XK E_80.params) (r:YH E_80.results):E_80.B:=(r.1,r.2)
def E_81:Entry where
 params:= [.v .int,.v y6,.v .int,.v y0]
 results:= [.pr (.v .int) (.mv .int 0),.v .bool]
 B:=(Int×(List Int))×Bool
 run:=λa=>Al a.1 a.2.1 a.2.2.1 a.2.2.2
 out:=λb=>((),(),(),())
 res:=λb=>(b.1,b.2)
def S_81L4 (n:Nat):LoopSpec where
 sh:= [(0,.v .int),(1,.v y6),(2,.v .int),(3,.v y0),(8,.bx (.pr (.v .int) (.mv .int 0))),(32,.v y0),(33,.v .int),(34,.v .int)]
 ex:= [(.exit 0,[(0,.v .int),(1,.v y6),(2,.v .int),(3,.v y0),(8,.bx (.pr (.v .int) (.mv .int 0)))]),(.ret,[(8,.bx (.pr (.v .int) (.mv .int 0))),(9,.v .bool)])]
 run:=AP n
def C_81:Cx:=cx0 tt [(59,E_29),(60,E_31),(63,E_30),(5046347,E_80)] [(4,S_81L4 Aa)] 4
def B_81L4:Code:=(Try.f31.body.bind (Yag 4)).getD .skip
def D_81:Code:=Try.f31.body.getD .skip
def N_81 (_:XK E_81.params) (r:YH E_81.results):E_81.B:=(r.1,r.2)
def E_82:Entry where
 params:= [.v .int,.v .int]
 results:= [.v .int]
 B:=Int
 run:=λa=>DX a.1 a.2
 out:=λb=>((),())
 res:=λb=>b
def C_82:Cx:=cx0 tt [] [] 2
def D_82:Code:=Try.f121.body.getD .skip
def N_82 (_:XK E_82.params) (r:YH E_82.results):E_82.B:=r
def E_83:Entry where
 params:= [.v .int,.v .int,.v .int]
 results:= [.mv .int 0]
 B:=(List Int)
 run:=λa=>Ds a.1 a.2.1 a.2.2
 out:=λb=>((),(),())
 res:=λb=>b
def S_83L3 (n:Nat):LoopSpec where
 sh:= [(0,.v .int),(1,.v .int),(2,.v .int),(7,.mv .int 0),(8,.v .int)]
 ex:= [(.exit 0,[(7,.mv .int 0)])]
 run:=A9 n
def C_83:Cx:=cx0 tt [(66,E_16),(138,E_17)] [(3,S_83L3 Aa)] 3
def B_83L3:Code:=(Try.f123.body.bind (Yag 3)).getD .skip
def D_83:Code:=Try.f123.body.getD .skip
def N_83 (_:XK E_83.params) (r:YH E_83.results):E_83.B:=r
def E_84:Entry where
 params:= [.bx (.v y3),.v .int]
 results:= [.pr (.v .int) (.mv .int 0)]
 B:=((List Int)×Int×Int)×(Int×(List Int))
 run:=λa=>AN a.1 a.2
 out:=λb=>(b.1,())
 res:=λb=>b.2
def S_84L4 (n:Nat):LoopSpec where
 sh:= [(0,.bx (.v y3)),(1,.v .int),(4,.bx (.pr (.v .int) (.mv .int 0))),(5,.bx (.pr (.v .int) (.mv .int 0))),(6,.v .int)]
 ex:= [(.exit 0,[(0,.bx (.v y3)),(1,.v .int),(4,.bx (.pr (.v .int) (.mv .int 0))),(5,.bx (.pr (.v .int) (.mv .int 0)))])]
 run:=AJ n
def C_84:Cx where
 tt:=YaU tt
 T:=Ygp [(66,E_16),(79,E_3),(106,E_7),(121,E_82),(122,E_53),(123,E_83)]
 L:=Ygo [(4,S_84L4 Aa)]
 dep:=λi=>0
 n:=2
 fine:=true
def B_84L4:Code:=(Try.f80.body.bind (Yag 4)).getD .skip
def D_84:Code:=Try.f80.body.getD .skip
def N_84 (o:XK E_84.params) (r:YH E_84.results):E_84.B:=(o.1,r)
def E_85:Entry where
 params:= [.v y10]
 results:= [.v .int,.mv y1 0,.pr (.v .int) (.mv .int 0)]
 B:=Int×(List (Int×(List (List Int))))×(Int×(List Int))
 run:=λa=>Az a
 out:=λb=>()
 res:=λb=>(b.1,b.2.1,b.2.2)
def C_85:Cx:=cx0 tt [(52,E_52),(57,E_21),(58,E_22),(64,E_51),(65,E_58),(66,E_16),(77,E_4),(78,E_6),(79,E_3),(80,E_84)] [] 1
def D_85:Code:=Try.f33.body.getD .skip
def N_85 (_:XK E_85.params) (r:YH E_85.results):E_85.B:=(r.1,r.2.1,r.2.2)
def E_86:Entry where
 params:= [.v .int,.v y4]
 results:= [.v .bool]
 B:=Bool
 run:=λa=>En a.1 a.2
 out:=λb=>((),())
 res:=λb=>b
def S_86L4 (n:Nat):LoopSpec where
 sh:= [(0,.v .int),(3,.bx (.v y4)),(5,.v .int)]
 ex:= [(.exit 0,[]),(.ret,[(4,.v .bool)])]
 run:=CU n
def C_86:Cx:=cx0 tt [(66,E_16),(90,E_8)] [(4,S_86L4 Aa)] 2
def B_86L4:Code:=(Try.f83.body.bind (Yag 4)).getD .skip
def D_86:Code:=Try.f83.body.getD .skip
def N_86 (_:XK E_86.params) (r:YH E_86.results):E_86.B:=r
def E_87:Entry where
 params:= [.v y9,.v y0]
 results:= [.mv y0 0]
 B:=(List (List Int))
 run:=λa=>DH a.1 a.2
 out:=λb=>((),())
 res:=λb=>b
def S_87L3 (n:Nat):LoopSpec where
 sh:= [(0,.v y9),(1,.v y0),(5,.mv y0 0),(6,.v .int)]
 ex:= [(.exit 0,[(5,.mv y0 0)])]
 run:=B9 n
def C_87:Cx:=cx0 tt [] [(3,S_87L3 Aa)] 2
def B_87L3:Code:=(Try.f142.body.bind (Yag 3)).getD .skip
def D_87:Code:=Try.f142.body.getD .skip
def N_87 (_:XK E_87.params) (r:YH E_87.results):E_87.B:=r
def E_88:Entry where
 params:= [.v y12,.v .int,.v y9,.v .int]
 results:= [.mv .int 0]
 B:=(List Int)
 run:=λa=>EP a.1 a.2.1 a.2.2.1 a.2.2.2
 out:=λb=>((),(),(),())
 res:=λb=>b
def S_88L7 (n:Nat):LoopSpec where
 sh:= [(1,.v .int),(2,.v y9),(3,.v .int),(4,.bx (.v y12)),(9,.mv .int 0),(10,.v .int),(11,.v .int),(12,.v .int)]
 ex:= [(.exit 2,[(1,.v .int),(2,.v y9),(3,.v .int),(4,.bx (.v y12)),(9,.mv .int 0),(10,.v .int),(11,.v .int)])]
 run:=BT n
def S_88L3 (n:Nat):LoopSpec where
 sh:= [(1,.v .int),(2,.v y9),(3,.v .int),(4,.bx (.v y12)),(9,.mv .int 0),(10,.v .int)]
 ex:= [(.exit 0,[(9,.mv .int 0)])]
 run:=Cf n
def C_88:Cx:=cx0 tt [] [(7,S_88L7 Aa),(3,S_88L3 Aa)] 4
def B_88L7:Code:=(Try.f148.body.bind (Yag 7)).getD .skip
def B_88L3:Code:=(Try.f148.body.bind (Yag 3)).getD .skip
def D_88:Code:=Try.f148.body.getD .skip
def N_88 (_:XK E_88.params) (r:YH E_88.results):E_88.B:=r
def E_89:Entry where
 params:= [.v .int,.v y4,.v y9,.v .int]
 results:= [.mv .int 0]
 B:=(List Int)
 run:=λa=>Dt a.1 a.2.1 a.2.2.1 a.2.2.2
 out:=λb=>((),(),(),())
 res:=λb=>b
def C_89:Cx:=cx0 tt [(148,E_88)] [] 4
def D_89:Code:=Try.f141.body.getD .skip
def N_89 (_:XK E_89.params) (r:YH E_89.results):E_89.B:=r
def E_90:Entry where
 params:= [.v y0,.v .int]
 results:= [.mv .int 0,.v .bool]
 B:=(List Int)×Bool
 run:=λa=>Eh a.1 a.2
 out:=λb=>((),())
 res:=λb=>(b.1,b.2)
def S_90L3 (n:Nat):LoopSpec where
 sh:= [(1,.v .int),(6,.mv .int 0),(7,.v .int)]
 ex:= [(.exit 0,[(6,.mv .int 0)]),(.ret,[(4,.mv .int 0),(5,.v .bool)])]
 run:=Cw n
def C_90:Cx:=cx0 tt [(78,E_6)] [(3,S_90L3 Aa)] 2
def B_90L3:Code:=(Try.f144.body.bind (Yag 3)).getD .skip
def D_90:Code:=Try.f144.body.getD .skip
def N_90 (_:XK E_90.params) (r:YH E_90.results):E_90.B:=(r.1,r.2)
def E_91:Entry where
 params:= [.v .int,.v y4,.v y1]
 results:= [.v y0,.mv .int 0,.v .bool]
 B:=(List Int)×(List Int)×Bool
 run:=λa=>Ev a.1 a.2.1 a.2.2
 out:=λb=>((),(),())
 res:=λb=>(b.1,b.2.1,b.2.2)
def S_91L2 (n:Nat):LoopSpec where
 sh:= [(0,.v .int),(4,.bx (.v y4)),(5,.bx (.v y1)),(9,.mv .int 0),(10,.v .bool)]
 ex:= [(.exit 0,[]),(.ret,[(6,.v y0),(7,.mv .int 0),(8,.v .bool)])]
 run:=Bn n
def C_91:Cx:=cx0 tt [(141,E_89),(142,E_87),(143,E_55),(144,E_90)] [(2,S_91L2 Aa)] 3
def B_91L2:Code:=(Try.f125.body.bind (Yag 2)).getD .skip
def D_91:Code:=Try.f125.body.getD .skip
def N_91 (_:XK E_91.params) (r:YH E_91.results):E_91.B:=(r.1,r.2.1,r.2.2)
def E_92:Entry where
 params:= [.v .int,.v y4,.v y1]
 results:= [.v .bool]
 B:=Bool
 run:=λa=>C2 a.1 a.2.1 a.2.2
 out:=λb=>((),(),())
 res:=λb=>b
def C_92:Cx:=cx0 tt [(125,E_91)] [] 3
def D_92:Code:=Try.f85.body.getD .skip
def N_92 (_:XK E_92.params) (r:YH E_92.results):E_92.B:=r
def E_93:Entry where
 params:= [.v .int,.v y6,.v y4]
 results:= [.v .bool,.v .bool]
 B:=Bool×Bool
 run:=λa=>AL a.1 a.2.1 a.2.2
 out:=λb=>((),(),())
 res:=λb=>(b.1,b.2)
def S_93L6 (n:Nat):LoopSpec where
 sh:= [(0,.v .int),(1,.v y6),(5,.bx (.v y4)),(8,.v .int)]
 ex:= [(.exit 0,[]),(.ret,[(6,.v .bool),(7,.v .bool)])]
 run:=Au n
def C_93:Cx:=cx0 tt [(81,E_45),(82,E_49),(83,E_86),(84,E_50),(85,E_92)] [(6,S_93L6 Aa)] 3
def B_93L6:Code:=(Try.f34.body.bind (Yag 6)).getD .skip
def D_93:Code:=Try.f34.body.getD .skip
def N_93 (_:XK E_93.params) (r:YH E_93.results):E_93.B:=(r.1,r.2)
def E_94:Entry where
 params:= [.v y10]
 results:= [.v .bool]
 B:=Bool
 run:=λa=>C9 a
 out:=λb=>()
 res:=λb=>b
def S_94L22 (n:Nat):LoopSpec where
 sh:= [(0,.v y10),(3,.v .int),(4,.v y6),(5,.v .int),(6,.v y11),(14,.v .int),(15,.bx (.v y4)),(18,.mv y4 0),(19,.v .int)]
 ex:= [(.exit 2,[(0,.v y10),(3,.v .int),(4,.v y6),(5,.v .int),(6,.v y11),(14,.v .int),(15,.bx (.v y4)),(18,.mv y4 0)])]
 run:=AI n
def S_94L14 (n:Nat):LoopSpec where
 sh:= [(0,.v y10),(3,.v .int),(4,.v y6),(5,.v .int),(6,.v y11),(14,.v .int)]
 ex:= [(.exit 0,[(0,.v y10),(3,.v .int),(4,.v y6),(5,.v .int),(6,.v y11)]),(.ret,[(2,.v .bool)])]
 run:=Av n
def S_94L30 (n:Nat):LoopSpec where
 sh:= [(0,.v y10),(3,.v .int),(4,.v y6),(5,.v .int),(6,.v y11),(24,.mv .int 0)]
 ex:= [(.exit 4,[(0,.v y10),(3,.v .int),(4,.v y6),(5,.v .int),(6,.v y11),(24,.mv .int 0)])]
 run:=Aw n
def C_94:Cx:=cx0 tt [(5,E_1),(23,E_23),(24,E_44),(25,E_60),(26,E_63),(27,E_67),(28,E_68),(29,E_72),(30,E_75),(31,E_81),(32,E_62),(33,E_85),(34,E_93)] [(22,S_94L22 Aa),(14,S_94L14 Aa),(30,S_94L30 Aa)] 1
def B_94L22:Code:=(Try.f4.body.bind (Yag 22)).getD .skip
def B_94L14:Code:=(Try.f4.body.bind (Yag 14)).getD .skip
def B_94L30:Code:=(Try.f4.body.bind (Yag 30)).getD .skip
def D_94:Code:=Try.f4.body.getD .skip
def N_94 (_:XK E_94.params) (r:YH E_94.results):E_94.B:=r
end
end T
