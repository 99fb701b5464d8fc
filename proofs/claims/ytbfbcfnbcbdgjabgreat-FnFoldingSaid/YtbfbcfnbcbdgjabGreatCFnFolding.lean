/- Contexts of the typed functions; no conditions. -/
import Derived.Test.YtbfbcfnbcbdgjabGreatV5
import Derived.Test.YtbfbcfnbcbdgjabGreatProg
import Derived.Test.YtbfbcfnbcbdgjabGreatPFnFolding
import Derived.KernelRfl
set_option linter.all false
set_option linter.unusedVariables false
set_option maxRecDepth 10000
open Go Go.Va Go.Proofs
namespace T
noncomputable section
abbrev y0:Ty:= .pair (.slice .int) (.pair .int (.slice (.slice .int)))
abbrev y1:Ty:= .slice .int
abbrev y2:Ty:= .pair .int (.pair .int (.slice y0))
abbrev y3:Ty:= .pair .int (.slice y1)
abbrev y4:Ty:= .pair (.slice (.num .u8)) (.pair .int (.num .u64))
abbrev y5:Ty:= .pair .int (.slice (.pair .int y1))
abbrev y6:Ty:= .pair .int (.pair (.slice (.slice y1)) (.slice (.slice .smap)))
abbrev y7:Ty:= .pair .int (.pair .int (.slice (.slice (.pair y1 .smap))))
abbrev y8:Ty:= .pair .int (.pair .int .int)
abbrev y9:Ty:= .slice y0
abbrev y10:Ty:= .slice y1
abbrev y11:Ty:= .slice .bool
abbrev y12:Ty:= .pair .int y1
abbrev y13:Ty:= .slice y3
abbrev y14:Ty:= .slice (.pair y1 .smap)
abbrev y15:Ty:= .pair .int .int
abbrev y16:Ty:= .slice (.num .u8)
abbrev y17:Ty:= .slice y11
abbrev y18:Ty:= .slice .smap
abbrev y19:Ty:= .pair .int (.pair .int (.pair .bool (.num .u8)))
def tt:List (Nat×TI):= [
 (2,{ ty:= .int }),
 (3,{ ty:= .int }),
 (4,{ ty:= .bool }),
 (5,{ ty:=(.num .u8) }),
 (6,{ ty:=(.num .u8) }),
 (7,{ ty:=y19,fields:= [2,3,4,6] }),
 (8,{ ty:=y19,fields:= [2,3,4,6] }),
 (9,{ ty:= .str }),
 (22,{ ty:=y16,elem:=5 }),
 (24,{ ty:=y9,elem:=40 }),
 (26,{ ty:=y2,fields:= [3,3,24] }),
 (27,{ ty:=y1,elem:=3 }),
 (29,{ ty:=y12,fields:= [3,27] }),
 (35,{ ty:=y13,elem:=38 }),
 (36,{ ty:=y10,elem:=27 }),
 (38,{ ty:=y3,fields:= [3,36] }),
 (40,{ ty:=y0,fields:= [27,38] }),
 (55,{ ty:=(.slice y12),elem:=29 }),
 (61,{ ty:=(.num .u64) }),
 (63,{ ty:=y4,fields:= [22,3,61] }),
 (65,{ ty:=(.op false) }),
 (71,{ ty:=y17,elem:=120 }),
 (75,{ ty:=(.slice y8),elem:=124 }),
 (84,{ ty:=(.op false) }),
 (86,{ ty:=(.pair y10 y15),fields:= [36,3,3] }),
 (89,{ ty:=y5,fields:= [3,55] }),
 (120,{ ty:=y11,elem:=4 }),
 (124,{ ty:=y8,fields:= [3,3,3],arr:=true }),
 (125,{ ty:=(.op true) }),
 (129,{ ty:=(.slice y9),elem:=160 }),
 (137,{ ty:=(.op true) }),
 (145,{ ty:=(.num .u64) }),
 (148,{ ty:=(.op false) }),
 (149,{ ty:=(.slice y14),elem:=156 }),
 (151,{ ty:=y7,fields:= [3,3,149] }),
 (152,{ ty:= .smap }),
 (156,{ ty:=y14,elem:=158 }),
 (158,{ ty:=(.pair y1 .smap),fields:= [27,152] }),
 (160,{ ty:=y9,elem:=162 }),
 (162,{ ty:=y0,fields:= [27,38] }),
 (167,{ ty:=(.slice y10),elem:=36 }),
 (168,{ ty:=(.slice y18),elem:=171 }),
 (170,{ ty:=y6,fields:= [3,167,168] }),
 (171,{ ty:=y18,elem:=152 })]
theorem tabT:Yhd Tryz.prog tt=true:=by kernel_rfl
theorem mixT:Tryz.prog.follows .mixedOrders=true:=by kernel_rfl
def E_1:Entry where
 params:= [.v y16]
 results:= [.v .bool]
 B:=Bool
 run:=λa=>I7 a
 out:=λb=>()
 res:=λb=>b
def C_1:Cx:=cx0 tt [] [] 1
def D_1:Code:=Tryz.f5.body.getD .skip
def N_1 (_:X0 E_1.params) (r:YE E_1.results):E_1.B:=r
def E_2:Entry where
 params:= [.bx (.v y4)]
 results:= [.v .int]
 B:=((List Int)×Int×Int)×Int
 run:=λa=>CK a
 out:=λb=>b.1
 res:=λb=>b.2
def C_2:Cx:=cx0 tt [] [] 1
def D_2:Code:=Tryz.f88.body.getD .skip
def N_2 (o:X0 E_2.params) (r:YE E_2.results):E_2.B:=(o,r)
def E_3:Entry where
 params:= [.bx (.v y4),.v .int]
 results:= [.v .int]
 B:=((List Int)×Int×Int)×Int
 run:=λa=>Ah a.1 a.2
 out:=λb=>(b.1,())
 res:=λb=>b.2
def C_3:Cx:=cx0 tt [(88,E_2)] [] 2
def D_3:Code:=Tryz.f35.body.getD .skip
def N_3 (o:X0 E_3.params) (r:YE E_3.results):E_3.B:=(o.1,r)
def E_4:Entry where
 params:= [.bx (.v y4),.v .int]
 results:= [.v .bool]
 B:=((List Int)×Int×Int)×Bool
 run:=λa=>Ao a.1 a.2
 out:=λb=>(b.1,())
 res:=λb=>b.2
def C_4:Cx:=cx0 tt [(35,E_3)] [] 2
def D_4:Code:=Tryz.f34.body.getD .skip
def N_4 (o:X0 E_4.params) (r:YE E_4.results):E_4.B:=(o.1,r)
def E_5:Entry where
 params:= [.v .int]
 results:= [.v .int,.mv y3 0]
 B:=Int×(List (Int×(List (List Int))))
 run:=λa=>EN a
 out:=λb=>()
 res:=λb=>(b.1,b.2)
def C_5:Cx:=cx0 tt [] [] 1
def D_5:Code:=Tryz.f125.body.getD .skip
def N_5 (_:X0 E_5.params) (r:YE E_5.results):E_5.B:=(r.1,r.2)
def E_6:Entry where
 params:= [.v y1]
 results:= [.mv .int 0]
 B:=(List Int)
 run:=λa=>DI a
 out:=λb=>()
 res:=λb=>b
def C_6:Cx:=cx0 tt [] [] 1
def D_6:Code:=Tryz.f114.body.getD .skip
def N_6 (_:X0 E_6.params) (r:YE E_6.results):E_6.B:=r
def E_7:Entry where
 params:= [.bx (.v y4),.v y1]
 results:= [.v .int]
 B:=((List Int)×Int×Int)×Int
 run:=λa=>Ad a.1 a.2
 out:=λb=>(b.1,())
 res:=λb=>b.2
def C_7:Cx:=cx0 tt [(35,E_3)] [] 2
def D_7:Code:=Tryz.f36.body.getD .skip
def N_7 (o:X0 E_7.params) (r:YE E_7.results):E_7.B:=(o.1,r)
def E_8:Entry where
 params:= [.v .int,.v .int,.v .int]
 results:= [.v .bool]
 B:=Bool
 run:=λa=>Ch a.1 a.2.1 a.2.2
 out:=λb=>((),(),())
 res:=λb=>b
def C_8:Cx:=cx0 tt [] [] 3
def D_8:Code:=Tryz.f86.body.getD .skip
def N_8 (_:X0 E_8.params) (r:YE E_8.results):E_8.B:=r
def E_9:Entry where
 params:= [.v .int]
 results:= [.v .bool]
 B:=Bool
 run:=λa=>GK a
 out:=λb=>()
 res:=λb=>b
def C_9:Cx:=cx0 tt [(86,E_8)] [] 1
def D_9:Code:=Tryz.f126.body.getD .skip
def N_9 (_:X0 E_9.params) (r:YE E_9.results):E_9.B:=r
def E_10:Entry where
 params:= [.v y1,.v y1]
 results:= [.v .bool]
 B:=Bool
 run:=λa=>GI a.1 a.2
 out:=λb=>((),())
 res:=λb=>b
def S_10L2 (n:Nat):LoopSpec where
 sh:= [(0,.v y1),(1,.v y1),(5,.v .int)]
 ex:= [(.exit 0,[]),(.ret,[(4,.v .bool)])]
 run:=DL n
def C_10:Cx:=cx0 tt [] [(2,S_10L2 Aa)] 2
def B_10L2:Code:=(Tryz.f131.body.bind (Yaa 2)).getD .skip
def D_10:Code:=Tryz.f131.body.getD .skip
def N_10 (_:X0 E_10.params) (r:YE E_10.results):E_10.B:=r
def E_11:Entry where
 params:= [.v y1,.v y1]
 results:= [.v .bool]
 B:=Bool
 run:=λa=>GF a.1 a.2
 out:=λb=>((),())
 res:=λb=>b
def S_11L4 (n:Nat):LoopSpec where
 sh:= [(0,.v y1),(1,.v y1),(5,.v .int)]
 ex:= [(.exit 0,[]),(.ret,[(4,.v .bool)])]
 run:=DJ n
def C_11:Cx:=cx0 tt [] [(4,S_11L4 Aa)] 2
def B_11L4:Code:=(Tryz.f123.body.bind (Yaa 4)).getD .skip
def D_11:Code:=Tryz.f123.body.getD .skip
def N_11 (_:X0 E_11.params) (r:YE E_11.results):E_11.B:=r
def E_12:Entry where
 params:= [.v y10,.v y1]
 results:= [.v .int,.v .bool]
 B:=Int×Bool
 run:=λa=>EV a.1 a.2
 out:=λb=>((),())
 res:=λb=>(b.1,b.2)
def S_12L2 (n:Nat):LoopSpec where
 sh:= [(0,.v y10),(1,.v y1),(6,.v .int),(7,.v .int)]
 ex:= [(.exit 0,[(0,.v y10),(1,.v y1),(6,.v .int)])]
 run:=Da n
def C_12:Cx:=cx0 tt [(123,E_11),(131,E_10)] [(2,S_12L2 Aa)] 2
def B_12L2:Code:=(Tryz.f149.body.bind (Yaa 2)).getD .skip
def D_12:Code:=Tryz.f149.body.getD .skip
def N_12 (_:X0 E_12.params) (r:YE E_12.results):E_12.B:=(r.1,r.2)
def E_13:Entry where
 params:= [.v y10,.v y1]
 results:= [.v y10]
 B:=(List (List Int))
 run:=λa=>F8 a.1 a.2
 out:=λb=>((),())
 res:=λb=>b
def C_13:Cx:=cx0 tt [(149,E_12)] [] 2
def D_13:Code:=Tryz.f115.body.getD .skip
def N_13 (_:X0 E_13.params) (r:YE E_13.results):E_13.B:=r
def E_14:Entry where
 params:= [.bx (.v y4),.v .int]
 results:= [.mv .int 0]
 B:=((List Int)×Int×Int)×(List Int)
 run:=λa=>Cn a.1 a.2
 out:=λb=>(b.1,())
 res:=λb=>b.2
def S_14L3 (n:Nat):LoopSpec where
 sh:= [(0,.bx (.v y4)),(1,.v .int),(5,.mv .int 0),(6,.v .int)]
 ex:= [(.exit 0,[(0,.bx (.v y4)),(5,.mv .int 0)])]
 run:=AC n
def C_14:Cx:=cx0 tt [(35,E_3)] [(3,S_14L3 Aa)] 2
def B_14L3:Code:=(Tryz.f128.body.bind (Yaa 3)).getD .skip
def D_14:Code:=Tryz.f128.body.getD .skip
def N_14 (o:X0 E_14.params) (r:YE E_14.results):E_14.B:=(o.1,r)
def E_15:Entry where
 params:= [.v y1]
 results:= [.pr (.v .int) (.mv y1 0)]
 B:=(Int×(List (List Int)))
 run:=λa=>DS a
 out:=λb=>()
 res:=λb=>b
def S_15L6 (n:Nat):LoopSpec where
 sh:= [(0,.v y1),(2,.bx (.pr (.v .int) (.mv y1 0))),(3,.bx (.pr (.v .int) (.mv y1 0))),(4,.v .int),(5,.v .int)]
 ex:= [(.exit 2,[(0,.v y1),(2,.bx (.pr (.v .int) (.mv y1 0))),(3,.bx (.pr (.v .int) (.mv y1 0))),(4,.v .int)])]
 run:=AQ n
def S_15L3 (n:Nat):LoopSpec where
 sh:= [(0,.v y1),(2,.bx (.pr (.v .int) (.mv y1 0))),(3,.bx (.pr (.v .int) (.mv y1 0))),(4,.v .int)]
 ex:= [(.exit 0,[(2,.bx (.pr (.v .int) (.mv y1 0))),(3,.bx (.pr (.v .int) (.mv y1 0)))])]
 run:=Bn n
def C_15:Cx:=cx0 tt [] [(6,S_15L6 Aa),(3,S_15L3 Aa)] 1
def B_15L6:Code:=(Tryz.f127.body.bind (Yaa 6)).getD .skip
def B_15L3:Code:=(Tryz.f127.body.bind (Yaa 3)).getD .skip
def D_15:Code:=Tryz.f127.body.getD .skip
def N_15 (_:X0 E_15.params) (r:YE E_15.results):E_15.B:=r
def E_16:Entry where
 params:= [.v .int,.v .int]
 results:= [.v .int]
 B:=Int
 run:=λa=>Cz a.1 a.2
 out:=λb=>((),())
 res:=λb=>b
def S_16L2 (n:Nat):LoopSpec where
 sh:= [(0,.v .int),(1,.v .int),(5,.v .int)]
 ex:= [(.exit 0,[(5,.v .int)])]
 run:=CT n
def C_16:Cx:=cx0 tt [] [(2,S_16L2 Aa)] 2
def B_16L2:Code:=(Tryz.f78.body.bind (Yaa 2)).getD .skip
def D_16:Code:=Tryz.f78.body.getD .skip
def N_16 (_:X0 E_16.params) (r:YE E_16.results):E_16.B:=r
def E_17:Entry where
 params:= [.v .int,.v .int,.v .int]
 results:= [.mv .int 0]
 B:=(List Int)
 run:=λa=>FE a.1 a.2.1 a.2.2
 out:=λb=>((),(),())
 res:=λb=>b
def S_17L3 (n:Nat):LoopSpec where
 sh:= [(0,.v .int),(2,.v .int),(7,.mv .int 0),(8,.v .int)]
 ex:= [(.exit 0,[(7,.mv .int 0)])]
 run:=DK n
def C_17:Cx:=cx0 tt [] [(3,S_17L3 Aa)] 3
def B_17L3:Code:=(Tryz.f144.body.bind (Yaa 3)).getD .skip
def D_17:Code:=Tryz.f144.body.getD .skip
def N_17 (_:X0 E_17.params) (r:YE E_17.results):E_17.B:=r
def E_18:Entry where
 params:= [.v .int,.v .int]
 results:= [.pr (.v .int) (.mv y1 0)]
 B:=(Int×(List (List Int)))
 run:=λa=>DN a.1 a.2
 out:=λb=>((),())
 res:=λb=>b
def S_18L3 (n:Nat):LoopSpec where
 sh:= [(0,.v .int),(1,.v .int),(4,.bx (.pr (.v .int) (.mv y1 0))),(5,.bx (.pr (.v .int) (.mv y1 0))),(6,.v .int)]
 ex:= [(.exit 0,[(4,.bx (.pr (.v .int) (.mv y1 0))),(5,.bx (.pr (.v .int) (.mv y1 0)))])]
 run:=CF n
def C_18:Cx:=cx0 tt [(78,E_16),(144,E_17)] [(3,S_18L3 Aa)] 2
def B_18L3:Code:=(Tryz.f129.body.bind (Yaa 3)).getD .skip
def D_18:Code:=Tryz.f129.body.getD .skip
def N_18 (_:X0 E_18.params) (r:YE E_18.results):E_18.B:=r
def E_19:Entry where
 params:= [.mv y1 0,.v y1]
 results:= [.mv y1 0]
 B:=(List (List Int))
 run:=λa=>Hs a.1 a.2
 out:=λb=>((),())
 res:=λb=>b
def C_19:Cx where
 tt:=YaO tt
 T:=YfC [(149,E_12)]
 L:=YfB []
 dep:=λi=>0
 n:=2
 pre:=λi=>match i with
  |4=> [0]
  |_=> []
def D_19:Code:=Tryz.f115.body.getD .skip
def N_19 (_:X0 E_19.params) (r:YE E_19.results):E_19.B:=r
def E_20:Entry where
 params:= [.bx (.v y4),.v .int,.v .int]
 results:= [.v y3]
 B:=((List Int)×Int×Int)×(Int×(List (List Int)))
 run:=λa=>BX a.1 a.2.1 a.2.2
 out:=λb=>(b.1,(),())
 res:=λb=>b.2
def S_20L9 (n:Nat):LoopSpec where
 sh:= [(0,.bx (.v y4)),(1,.v .int),(2,.v .int),(6,.bx (.pr (.v .int) (.mv y1 0))),(7,.bx (.pr (.v .int) (.mv y1 0))),(8,.v .int),(9,.mv .int 0),(10,.v .int)]
 ex:= [(.exit 2,[(0,.bx (.v y4)),(1,.v .int),(2,.v .int),(6,.bx (.pr (.v .int) (.mv y1 0))),(7,.bx (.pr (.v .int) (.mv y1 0))),(8,.v .int),(9,.mv .int 0)])]
 run:=Bs n
def S_20L5 (n:Nat):LoopSpec where
 sh:= [(0,.bx (.v y4)),(1,.v .int),(2,.v .int),(6,.bx (.pr (.v .int) (.mv y1 0))),(7,.bx (.pr (.v .int) (.mv y1 0))),(8,.v .int)]
 ex:= [(.exit 0,[(0,.bx (.v y4)),(1,.v .int),(2,.v .int),(6,.bx (.pr (.v .int) (.mv y1 0))),(7,.bx (.pr (.v .int) (.mv y1 0)))])]
 run:=Bq n
def C_20:Cx:=cx0 tt [(34,E_4),(35,E_3),(36,E_7),(86,E_8),(115,E_19),(126,E_9),(127,E_15),(128,E_14),(129,E_18)] [(9,S_20L9 Aa),(5,S_20L5 Aa)] 3
def B_20L9:Code:=(Tryz.f84.body.bind (Yaa 9)).getD .skip
def B_20L5:Code:=(Tryz.f84.body.bind (Yaa 5)).getD .skip
def D_20:Code:=Tryz.f84.body.getD .skip
def N_20 (o:X0 E_20.params) (r:YE E_20.results):E_20.B:=(o.1,r)
def E_21:Entry where
 params:= [.bx (.v y4)]
 results:= [.v .int,.mv y3 0]
 B:=((List Int)×Int×Int)×Int×(List (Int×(List (List Int))))
 run:=λa=>CX a
 out:=λb=>b.1
 res:=λb=>(b.2.1,b.2.2)
def S_21L9 (n:Nat):LoopSpec where
 sh:= [(0,.bx (.v y4)),(4,.v .int),(5,.mv y3 0),(6,.mv y3 0),(7,.v .int),(8,.bx (.pr (.v .int) (.mv y1 0))),(9,.v .int)]
 ex:= [(.exit 2,[(0,.bx (.v y4)),(4,.v .int),(5,.mv y3 0),(6,.mv y3 0),(7,.v .int),(8,.bx (.pr (.v .int) (.mv y1 0)))])]
 run:=AS n
def S_21L5 (n:Nat):LoopSpec where
 sh:= [(0,.bx (.v y4)),(4,.v .int),(5,.mv y3 0),(6,.mv y3 0),(7,.v .int)]
 ex:= [(.exit 0,[(0,.bx (.v y4)),(4,.v .int),(6,.mv y3 0)])]
 run:=AR n
def S_21L17 (n:Nat):LoopSpec where
 sh:= [(0,.bx (.v y4)),(10,.v .int),(11,.mv y3 0),(12,.v .int)]
 ex:= [(.exit 4,[(0,.bx (.v y4)),(10,.v .int),(11,.mv y3 0)])]
 run:=A8 n
def C_21:Cx:=cx0 tt [(34,E_4),(35,E_3),(36,E_7),(84,E_20),(114,E_6),(125,E_5)] [(9,S_21L9 Aa),(5,S_21L5 Aa),(17,S_21L17 Aa)] 1
def B_21L9:Code:=(Tryz.f83.body.bind (Yaa 9)).getD .skip
def B_21L5:Code:=(Tryz.f83.body.bind (Yaa 5)).getD .skip
def B_21L17:Code:=(Tryz.f83.body.bind (Yaa 17)).getD .skip
def D_21:Code:=Tryz.f83.body.getD .skip
def N_21 (o:X0 E_21.params) (r:YE E_21.results):E_21.B:=(o,r.1,r.2)
def E_22:Entry where
 params:= [.v .int,.v .int]
 results:= [.v .int]
 B:=Int
 run:=λa=>DH a.1 a.2
 out:=λb=>((),())
 res:=λb=>b
def C_22:Cx:=cx0 tt [] [] 2
def D_22:Code:=Tryz.f85.body.getD .skip
def N_22 (_:X0 E_22.params) (r:YE E_22.results):E_22.B:=r
def E_23:Entry where
 params:= [.bx (.v y4)]
 results:= [.v y2]
 B:=((List Int)×Int×Int)×(Int×Int×(List ((List Int)×Int×(List (List Int)))))
 run:=λa=>Dg a
 out:=λb=>b.1
 res:=λb=>b.2
def S_23L11 (n:Nat):LoopSpec where
 sh:= [(0,.bx (.v y4)),(2,.bx (.pr (.v .int) (.pr (.v .int) (.mv y0 2001)))),(3,.v .int),(4,.mv y3 0),(5,.bx (.pr (.v .int) (.pr (.v .int) (.mv y0 2001)))),(6,.v .int),(7,.bx (.v y3)),(8,.bx (.pr (.mv .int 0) (.v y3))),(9,.v .int)]
 ex:= [(.exit 2,[(0,.bx (.v y4)),(2,.bx (.pr (.v .int) (.pr (.v .int) (.mv y0 2001)))),(3,.v .int),(4,.mv y3 0),(5,.bx (.pr (.v .int) (.pr (.v .int) (.mv y0 2001)))),(6,.v .int),(8,.bx (.pr (.mv .int 0) (.v y3)))])]
 run:=Ay n
def S_23L4 (n:Nat):LoopSpec where
 sh:= [(0,.bx (.v y4)),(2,.bx (.pr (.v .int) (.pr (.v .int) (.mv y0 2001)))),(3,.v .int),(4,.mv y3 0),(5,.bx (.pr (.v .int) (.pr (.v .int) (.mv y0 2001)))),(6,.v .int)]
 ex:= [(.exit 0,[(0,.bx (.v y4)),(2,.bx (.pr (.v .int) (.pr (.v .int) (.mv y0 2001)))),(5,.bx (.pr (.v .int) (.pr (.v .int) (.mv y0 2001))))])]
 run:=AA n
def S_23L23 (n:Nat):LoopSpec where
 sh:= [(0,.bx (.v y4)),(2,.bx (.pr (.v .int) (.pr (.v .int) (.mv y0 2001)))),(5,.bx (.pr (.v .int) (.pr (.v .int) (.mv y0 0)))),(10,.v .int)]
 ex:= [(.exit 5,[(0,.bx (.v y4)),(2,.bx (.pr (.v .int) (.pr (.v .int) (.mv y0 2001)))),(5,.bx (.pr (.v .int) (.pr (.v .int) (.mv y0 0))))])]
 run:=Bp n
def C_23:Cx where
 tt:=YaO tt
 T:=YfC [(34,E_4),(35,E_3),(36,E_7),(83,E_21),(84,E_20),(85,E_22)]
 L:=YfB [(11,S_23L11 Aa),(4,S_23L4 Aa),(23,S_23L23 Aa)]
 dep:=λi=>match i with
  |76=>2001
  |77=>2001
  |_=>0
 n:=1
 fine:=true
def B_23L11:Code:=(Tryz.f31.body.bind (Yaa 11)).getD .skip
def B_23L4:Code:=(Tryz.f31.body.bind (Yaa 4)).getD .skip
def B_23L23:Code:=(Tryz.f31.body.bind (Yaa 23)).getD .skip
def D_23:Code:=Tryz.f31.body.getD .skip
def N_23 (o:X0 E_23.params) (r:YE E_23.results):E_23.B:=(o,r)
def E_24:Entry where
 params:= [.v .int]
 results:= [.v .bool]
 B:=Bool
 run:=λa=>Ey a
 out:=λb=>()
 res:=λb=>b
def C_24:Cx:=cx0 tt [(86,E_8)] [] 1
def D_24:Code:=Tryz.f32.body.getD .skip
def N_24 (_:X0 E_24.params) (r:YE E_24.results):E_24.B:=r
def E_25:Entry where
 params:= [.v .int,.v y1]
 results:= [.v .bool]
 B:=Bool
 run:=λa=>Do a.1 a.2
 out:=λb=>((),())
 res:=λb=>b
def S_25L2 (n:Nat):LoopSpec where
 sh:= [(0,.v .int),(1,.v y1),(5,.v .int)]
 ex:= [(.exit 0,[]),(.ret,[(4,.v .bool)])]
 run:=Cy n
def C_25:Cx:=cx0 tt [(86,E_8)] [(2,S_25L2 Aa)] 2
def B_25L2:Code:=(Tryz.f133.body.bind (Yaa 2)).getD .skip
def D_25:Code:=Tryz.f133.body.getD .skip
def N_25 (_:X0 E_25.params) (r:YE E_25.results):E_25.B:=r
def E_26:Entry where
 params:= [.v .int,.v .int,.v y1]
 results:= [.v .bool]
 B:=Bool
 run:=λa=>F9 a.1 a.2.1 a.2.2
 out:=λb=>((),(),())
 res:=λb=>b
def C_26:Cx:=cx0 tt [(133,E_25)] [] 3
def D_26:Code:=Tryz.f130.body.getD .skip
def N_26 (_:X0 E_26.params) (r:YE E_26.results):E_26.B:=r
def E_27:Entry where
 params:= [.v .int,.v y3]
 results:= [.v .bool]
 B:=Bool
 run:=λa=>Fa a.1 a.2
 out:=λb=>((),())
 res:=λb=>b
def S_27L4 (n:Nat):LoopSpec where
 sh:= [(0,.v .int),(3,.bx (.v y3)),(5,.v .int)]
 ex:= [(.exit 0,[]),(.ret,[(4,.v .bool)])]
 run:=CG n
def C_27:Cx:=cx0 tt [(78,E_16),(86,E_8),(130,E_26),(131,E_10)] [(4,S_27L4 Aa)] 2
def B_27L4:Code:=(Tryz.f87.body.bind (Yaa 4)).getD .skip
def D_27:Code:=Tryz.f87.body.getD .skip
def N_27 (_:X0 E_27.params) (r:YE E_27.results):E_27.B:=r
def E_28:Entry where
 params:= [.v .int,.v y13]
 results:= [.v .bool]
 B:=Bool
 run:=λa=>Ex a.1 a.2
 out:=λb=>((),())
 res:=λb=>b
def S_28L4 (n:Nat):LoopSpec where
 sh:= [(0,.v .int),(1,.v y13),(5,.v .int)]
 ex:= [(.exit 0,[]),(.ret,[(4,.v .bool)])]
 run:=BZ n
def C_28:Cx:=cx0 tt [(87,E_27)] [(4,S_28L4 Aa)] 2
def B_28L4:Code:=(Tryz.f33.body.bind (Yaa 4)).getD .skip
def D_28:Code:=Tryz.f33.body.getD .skip
def N_28 (_:X0 E_28.params) (r:YE E_28.results):E_28.B:=r
def E_29:Entry where
 params:= [.v .int,.v y13,.v .int]
 results:= [.v .bool]
 B:=Bool
 run:=λa=>FI a.1 a.2.1 a.2.2
 out:=λb=>((),(),())
 res:=λb=>b
def S_29L4 (n:Nat):LoopSpec where
 sh:= [(1,.v y13),(2,.v .int),(7,.v .int)]
 ex:= [(.exit 0,[]),(.ret,[(6,.v .bool)])]
 run:=Ct n
def C_29:Cx:=cx0 tt [(32,E_24),(33,E_28),(86,E_8)] [(4,S_29L4 Aa)] 3
def B_29L4:Code:=(Tryz.f51.body.bind (Yaa 4)).getD .skip
def D_29:Code:=Tryz.f51.body.getD .skip
def N_29 (_:X0 E_29.params) (r:YE E_29.results):E_29.B:=r
def E_30:Entry where
 params:= [.v .int]
 results:= [.mv .int 0]
 B:=(List Int)
 run:=λa=>FZ a
 out:=λb=>()
 res:=λb=>b
def S_30L3 (n:Nat):LoopSpec where
 sh:= [(0,.v .int),(3,.mv .int 0),(4,.v .int)]
 ex:= [(.exit 0,[(3,.mv .int 0)])]
 run:=CH n
def C_30:Cx:=cx0 tt [] [(3,S_30L3 Aa)] 1
def B_30L3:Code:=(Tryz.f72.body.bind (Yaa 3)).getD .skip
def D_30:Code:=Tryz.f72.body.getD .skip
def N_30 (_:X0 E_30.params) (r:YE E_30.results):E_30.B:=r
def E_31:Entry where
 params:= [.v .int,.v .int]
 results:= [.mv .int 0]
 B:=(List Int)
 run:=λa=>Df a.1 a.2
 out:=λb=>((),())
 res:=λb=>b
def S_31L7 (n:Nat):LoopSpec where
 sh:= [(0,.v .int),(1,.v .int),(5,.mv .int 0),(6,.v .int),(7,.v .int),(8,.v .int)]
 ex:= [(.exit 2,[(0,.v .int),(1,.v .int),(5,.mv .int 0),(6,.v .int),(7,.v .int)])]
 run:=BG n
def S_31L3 (n:Nat):LoopSpec where
 sh:= [(0,.v .int),(1,.v .int),(5,.mv .int 0),(6,.v .int)]
 ex:= [(.exit 0,[(5,.mv .int 0)])]
 run:=BF n
def C_31:Cx:=cx0 tt [(72,E_30),(78,E_16)] [(7,S_31L7 Aa),(3,S_31L3 Aa)] 2
def B_31L7:Code:=(Tryz.f53.body.bind (Yaa 7)).getD .skip
def B_31L3:Code:=(Tryz.f53.body.bind (Yaa 3)).getD .skip
def D_31:Code:=Tryz.f53.body.getD .skip
def N_31 (_:X0 E_31.params) (r:YE E_31.results):E_31.B:=r
def E_32:Entry where
 params:= [.v .int,.v y13,.v .int]
 results:= [.mv y9 1]
 B:=(List (List ((List Int)×Int×(List (List Int)))))
 run:=λa=>FH a.1 a.2.1 a.2.2
 out:=λb=>((),(),())
 res:=λb=>b
def S_32L3 (n:Nat):LoopSpec where
 sh:= [(0,.v .int),(1,.v y13),(2,.v .int),(7,.mv y9 1),(8,.v .int)]
 ex:= [(.exit 0,[(0,.v .int),(1,.v y13),(2,.v .int),(7,.mv y9 1)])]
 run:=Cr n
def S_32L21 (n:Nat):LoopSpec where
 sh:= [(0,.v .int),(1,.v y13),(2,.v .int),(7,.mv y9 1),(9,.v .int),(10,.v .int),(11,.v .int),(12,.mv .int 0),(13,.bx (.pr (.mv .int 0) (.v y3))),(14,.v .int),(15,.v .int),(16,.v .int),(17,.v .int)]
 ex:= [(.exit 8,[(0,.v .int),(1,.v y13),(2,.v .int),(7,.mv y9 1),(9,.v .int),(10,.v .int),(11,.v .int),(12,.mv .int 0),(13,.bx (.pr (.mv .int 0) (.v y3))),(14,.v .int),(15,.v .int),(16,.v .int)])]
 run:=Cg n
def S_32L17 (n:Nat):LoopSpec where
 sh:= [(0,.v .int),(1,.v y13),(2,.v .int),(7,.mv y9 1),(9,.v .int),(10,.v .int),(11,.v .int),(12,.mv .int 0),(13,.bx (.pr (.mv .int 0) (.v y3))),(14,.v .int),(15,.v .int)]
 ex:= [(.exit 6,[(0,.v .int),(1,.v y13),(2,.v .int),(7,.mv y9 1),(9,.v .int),(10,.v .int),(11,.v .int),(13,.bx (.pr (.mv .int 0) (.v y3))),(14,.v .int)])]
 run:=Cf n
def S_32L11 (n:Nat):LoopSpec where
 sh:= [(0,.v .int),(1,.v y13),(2,.v .int),(7,.mv y9 1),(9,.v .int),(10,.v .int),(11,.v .int)]
 ex:= [(.exit 4,[(0,.v .int),(1,.v y13),(2,.v .int),(7,.mv y9 1),(9,.v .int)])]
 run:=Ce n
def S_32L7 (n:Nat):LoopSpec where
 sh:= [(0,.v .int),(1,.v y13),(2,.v .int),(7,.mv y9 1),(9,.v .int)]
 ex:= [(.exit 2,[(7,.mv y9 1)])]
 run:=Cs n
def C_32:Cx where
 tt:=YaO tt
 T:=YfC [(78,E_16),(85,E_22),(144,E_17)]
 L:=YfB [(3,S_32L3 Aa),(21,S_32L21 Aa),(17,S_32L17 Aa),(11,S_32L11 Aa),(7,S_32L7 Aa)]
 dep:=λi=>match i with
  |18=>1
  |28=>1
  |29=>1
  |_=>0
 n:=3
 fine:=true
def B_32L3:Code:=(Tryz.f106.body.bind (Yaa 3)).getD .skip
def B_32L21:Code:=(Tryz.f106.body.bind (Yaa 21)).getD .skip
def B_32L17:Code:=(Tryz.f106.body.bind (Yaa 17)).getD .skip
def B_32L11:Code:=(Tryz.f106.body.bind (Yaa 11)).getD .skip
def B_32L7:Code:=(Tryz.f106.body.bind (Yaa 7)).getD .skip
def D_32:Code:=Tryz.f106.body.getD .skip
def N_32 (_:X0 E_32.params) (r:YE E_32.results):E_32.B:=r
def E_33:Entry where
 params:= [.v y3,.v y1]
 results:= [.v .bool]
 B:=Bool
 run:=λa=>Ek a.1 a.2
 out:=λb=>((),())
 res:=λb=>b
def C_33:Cx:=cx0 tt [(149,E_12)] [] 2
def D_33:Code:=Tryz.f155.body.getD .skip
def N_33 (_:X0 E_33.params) (r:YE E_33.results):E_33.B:=r
def E_34:Entry where
 params:= [.v y9,.v y1]
 results:= [.v .bool]
 B:=Bool
 run:=λa=>DX a.1 a.2
 out:=λb=>((),())
 res:=λb=>b
def S_34L6 (n:Nat):LoopSpec where
 sh:= [(0,.v y9),(1,.v y1),(5,.v .int),(6,.mv .int 0),(7,.v .int)]
 ex:= [(.exit 2,[(0,.v y9),(1,.v y1),(5,.v .int),(6,.mv .int 0)])]
 run:=Cq n
def S_34L2 (n:Nat):LoopSpec where
 sh:= [(0,.v y9),(1,.v y1),(5,.v .int)]
 ex:= [(.exit 0,[]),(.ret,[(4,.v .bool)])]
 run:=Cp n
def C_34:Cx:=cx0 tt [(155,E_33)] [(6,S_34L6 Aa),(2,S_34L2 Aa)] 2
def B_34L6:Code:=(Tryz.f143.body.bind (Yaa 6)).getD .skip
def B_34L2:Code:=(Tryz.f143.body.bind (Yaa 2)).getD .skip
def D_34:Code:=Tryz.f143.body.getD .skip
def N_34 (_:X0 E_34.params) (r:YE E_34.results):E_34.B:=r
def E_35_of (rec:(Int×(List (List ((List Int)×Int×(List (List Int)))))×(List Int)×(List Int)×((List (List Int))×(Int×Int)))->Option (((List (List Int))×(Int×Int)))):Entry where
 params:= [.v .int,.v (.slice y9),.v y1,.v y1,.pr (.mv y1 1) (.v y15)]
 results:= [.pr (.mv y1 1) (.v y15)]
 B:=((List (List Int))×(Int×Int))
 run:=rec
 out:=λb=>((),(),(),(),((),()))
 res:=λb=>b
def E_35 (d:Nat):Entry:=E_35_of (B4 d)
def S_35L8 (rec:(Int×(List (List ((List Int)×Int×(List (List Int)))))×(List Int)×(List Int)×((List (List Int))×(Int×Int)))->Option (((List (List Int))×(Int×Int)))) (n:Nat):LoopSpec where
 sh:= [(0,.v .int),(1,.v (.slice y9)),(2,.v y1),(3,.v y1),(9,.bx (.pr (.mv y1 1) (.v y15))),(10,.bx (.pr (.mv y1 1) (.v y15))),(11,.v .int),(12,.v .int)]
 ex:= [(.exit 0,[(9,.bx (.pr (.mv y1 1) (.v y15))),(10,.bx (.pr (.mv y1 1) (.v y15)))]),(.ret,[(10,.bx (.pr (.mv y1 1) (.v y15)))])]
 run:=Av rec n
def C_35 (rec:(Int×(List (List ((List Int)×Int×(List (List Int)))))×(List Int)×(List Int)×((List (List Int))×(Int×Int)))->Option (((List (List Int))×(Int×Int)))):Cx where
 tt:=YaO tt
 T:=YfC [(105,E_35_of rec),(114,E_6),(143,E_34)]
 L:=YfB [(8,S_35L8 rec Aa)]
 dep:=λi=>match i with
  |34=>1
  |35=>1
  |_=>0
 n:=5
def B_35L8:Code:=(Tryz.f105.body.bind (Yaa 8)).getD .skip
def D_35:Code:=Tryz.f105.body.getD .skip
def N_35 (_:X0 [.v .int,.v (.slice y9),.v y1,.v y1,.pr (.mv y1 1) (.v y15)]) (r:YE [.pr (.mv y1 1) (.v y15)]):((List (List Int))×(Int×Int)):=r
def E_36:Entry where
 params:= [.v .int,.v y13,.v .int,.v y1,.v .int]
 results:= [.pr (.mv y1 1) (.v y15)]
 B:=((List (List Int))×(Int×Int))
 run:=λa=>FC a.1 a.2.1 a.2.2.1 a.2.2.2.1 a.2.2.2.2
 out:=λb=>((),(),(),(),())
 res:=λb=>b
def C_36:Cx:=cx0 tt [(105,E_35 Aa),(106,E_32)] [] 5
def D_36:Code:=Tryz.f52.body.getD .skip
def N_36 (_:X0 E_36.params) (r:YE E_36.results):E_36.B:=r
def E_37:Entry where
 params:= [.v .int,.v y12]
 results:= [.v .bool]
 B:=Bool
 run:=λa=>GU a.1 a.2
 out:=λb=>((),())
 res:=λb=>b
def S_37L4 (n:Nat):LoopSpec where
 sh:= [(0,.v .int),(3,.bx (.v y12)),(5,.v .int)]
 ex:= [(.exit 0,[]),(.ret,[(4,.v .bool)])]
 run:=EC n
def C_37:Cx:=cx0 tt [(78,E_16),(86,E_8)] [(4,S_37L4 Aa)] 2
def B_37L4:Code:=(Tryz.f41.body.bind (Yaa 4)).getD .skip
def D_37:Code:=Tryz.f41.body.getD .skip
def N_37 (_:X0 E_37.params) (r:YE E_37.results):E_37.B:=r
def E_38:Entry where
 params:= [.v y5]
 results:= [.v .bool]
 B:=Bool
 run:=λa=>HR a
 out:=λb=>()
 res:=λb=>b
def S_38L4 (n:Nat):LoopSpec where
 sh:= [(1,.bx (.v y5)),(3,.v .int)]
 ex:= [(.exit 0,[]),(.ret,[(2,.v .bool)])]
 run:=EB n
def C_38:Cx:=cx0 tt [(41,E_37),(86,E_8)] [(4,S_38L4 Aa)] 1
def B_38L4:Code:=(Tryz.f145.body.bind (Yaa 4)).getD .skip
def D_38:Code:=Tryz.f145.body.getD .skip
def N_38 (_:X0 E_38.params) (r:YE E_38.results):E_38.B:=r
def E_39:Entry where
 params:= [.v y5,.v .int]
 results:= [.v .bool]
 B:=Bool
 run:=λa=>Fe a.1 a.2
 out:=λb=>((),())
 res:=λb=>b
def C_39:Cx:=cx0 tt [(86,E_8),(145,E_38)] [] 2
def D_39:Code:=Tryz.f107.body.getD .skip
def N_39 (_:X0 E_39.params) (r:YE E_39.results):E_39.B:=r
def E_40:Entry where
 params:= [.v y5,.v .int,.v y1]
 results:= [.v .int]
 B:=Int
 run:=λa=>CQ a.1 a.2.1 a.2.2
 out:=λb=>((),(),())
 res:=λb=>b
def S_40L3 (n:Nat):LoopSpec where
 sh:= [(1,.v .int),(2,.v y1),(3,.bx (.v y5)),(7,.v .int),(8,.v .int)]
 ex:= [(.exit 0,[(1,.v .int),(3,.bx (.v y5)),(7,.v .int)])]
 run:=D6 n
def C_40:Cx:=cx0 tt [] [(3,S_40L3 Aa)] 3
def B_40L3:Code:=(Tryz.f108.body.bind (Yaa 3)).getD .skip
def D_40:Code:=Tryz.f108.body.getD .skip
def N_40 (_:X0 E_40.params) (r:YE E_40.results):E_40.B:=r
def E_41:Entry where
 params:= [.v y5,.v .int]
 results:= [.v .bool,.v .bool]
 B:=Bool×Bool
 run:=λa=>Eh a.1 a.2
 out:=λb=>((),())
 res:=λb=>(b.1,b.2)
def S_41L7 (n:Nat):LoopSpec where
 sh:= [(1,.v .int),(2,.bx (.v y5)),(6,.v .int),(7,.v .int)]
 ex:= [(.exit 2,[(1,.v .int),(2,.bx (.v y5)),(6,.v .int)]),(.ret,[(4,.v .bool),(5,.v .bool)])]
 run:=BE n
def S_41L4 (n:Nat):LoopSpec where
 sh:= [(1,.v .int),(2,.bx (.v y5)),(6,.v .int)]
 ex:= [(.exit 0,[]),(.ret,[(4,.v .bool),(5,.v .bool)])]
 run:=BD n
def C_41:Cx:=cx0 tt [(107,E_39),(108,E_40)] [(7,S_41L7 Aa),(4,S_41L4 Aa)] 2
def B_41L7:Code:=(Tryz.f54.body.bind (Yaa 7)).getD .skip
def B_41L4:Code:=(Tryz.f54.body.bind (Yaa 4)).getD .skip
def D_41:Code:=Tryz.f54.body.getD .skip
def N_41 (_:X0 E_41.params) (r:YE E_41.results):E_41.B:=(r.1,r.2)
def E_42:Entry where
 params:= [.v y5,.v .int]
 results:= [.v .bool,.v .bool]
 B:=Bool×Bool
 run:=λa=>Eg a.1 a.2
 out:=λb=>((),())
 res:=λb=>(b.1,b.2)
def S_42L10 (n:Nat):LoopSpec where
 sh:= [(1,.v .int),(2,.bx (.v y5)),(6,.v .int),(7,.v .int),(8,.v .int)]
 ex:= [(.exit 4,[(1,.v .int),(2,.bx (.v y5)),(6,.v .int),(7,.v .int)]),(.ret,[(4,.v .bool),(5,.v .bool)])]
 run:=Bm n
def S_42L7 (n:Nat):LoopSpec where
 sh:= [(1,.v .int),(2,.bx (.v y5)),(6,.v .int),(7,.v .int)]
 ex:= [(.exit 2,[(1,.v .int),(2,.bx (.v y5)),(6,.v .int)]),(.ret,[(4,.v .bool),(5,.v .bool)])]
 run:=BC n
def S_42L4 (n:Nat):LoopSpec where
 sh:= [(1,.v .int),(2,.bx (.v y5)),(6,.v .int)]
 ex:= [(.exit 0,[]),(.ret,[(4,.v .bool),(5,.v .bool)])]
 run:=BB n
def C_42:Cx:=cx0 tt [(107,E_39),(108,E_40)] [(10,S_42L10 Aa),(7,S_42L7 Aa),(4,S_42L4 Aa)] 2
def B_42L10:Code:=(Tryz.f55.body.bind (Yaa 10)).getD .skip
def B_42L7:Code:=(Tryz.f55.body.bind (Yaa 7)).getD .skip
def B_42L4:Code:=(Tryz.f55.body.bind (Yaa 4)).getD .skip
def D_42:Code:=Tryz.f55.body.getD .skip
def N_42 (_:X0 E_42.params) (r:YE E_42.results):E_42.B:=(r.1,r.2)
def E_43:Entry where
 params:= [.v .int,.v y13]
 results:= [.v y12,.v .bool]
 B:=(Int×(List Int))×Bool
 run:=λa=>BI a.1 a.2
 out:=λb=>((),())
 res:=λb=>(b.1,b.2)
def S_43L5 (n:Nat):LoopSpec where
 sh:= [(0,.v .int),(4,.bx (.pr (.v .int) (.mv .int 0))),(6,.v y10),(7,.v .int)]
 ex:= [(.exit 0,[(4,.bx (.pr (.v .int) (.mv .int 0)))]),(.ret,[(4,.bx (.v y12)),(5,.v .bool)])]
 run:=Aq n
def C_43:Cx:=cx0 tt [(51,E_29),(52,E_36),(53,E_31),(54,E_41),(55,E_42)] [(5,S_43L5 Aa)] 2
def B_43L5:Code:=(Tryz.f13.body.bind (Yaa 5)).getD .skip
def D_43:Code:=Tryz.f13.body.getD .skip
def N_43 (_:X0 E_43.params) (r:YE E_43.results):E_43.B:=(r.1,r.2)
def E_44:Entry where
 params:= [.v y16]
 results:= [.v y2,.v y12]
 B:=(Int×Int×(List ((List Int)×Int×(List (List Int)))))×(Int×(List Int))
 run:=λa=>C6 a
 out:=λb=>()
 res:=λb=>(b.1,b.2)
def S_44L5 (n:Nat):LoopSpec where
 sh:= [(2,.bx (.pr (.v .int) (.pr (.v .int) (.mv y0 0)))),(3,.bx (.pr (.v .int) (.mv .int 0))),(4,.bx (.v y4)),(5,.bx (.v y2)),(6,.mv y3 0),(7,.v .int)]
 ex:= [(.exit 0,[(2,.bx (.pr (.v .int) (.pr (.v .int) (.mv y0 0)))),(3,.bx (.pr (.v .int) (.mv .int 0))),(4,.bx (.v y4)),(5,.bx (.v y2)),(6,.mv y3 0)])]
 run:=Az n
def S_44L14 (n:Nat):LoopSpec where
 sh:= [(2,.bx (.pr (.v .int) (.pr (.v .int) (.mv y0 0)))),(3,.bx (.pr (.v .int) (.mv .int 0))),(4,.bx (.v y4)),(5,.bx (.v y2)),(10,.bx (.pr (.v .int) (.mv .int 0))),(11,.v .int)]
 ex:= [(.exit 2,[(2,.bx (.pr (.v .int) (.pr (.v .int) (.mv y0 0)))),(3,.bx (.pr (.v .int) (.mv .int 0))),(4,.bx (.v y4)),(5,.bx (.v y2)),(10,.bx (.pr (.v .int) (.mv .int 0)))])]
 run:=An n
def C_44:Cx:=cx0 tt [(13,E_43),(31,E_23),(32,E_24),(33,E_28),(34,E_4),(35,E_3),(36,E_7)] [(5,S_44L5 Aa),(14,S_44L14 Aa)] 1
def B_44L5:Code:=(Tryz.f6.body.bind (Yaa 5)).getD .skip
def B_44L14:Code:=(Tryz.f6.body.bind (Yaa 14)).getD .skip
def D_44:Code:=Tryz.f6.body.getD .skip
def N_44 (_:X0 E_44.params) (r:YE E_44.results):E_44.B:=(r.1,r.2)
def E_45:Entry where
 params:= [.v .int]
 results:= [.v .bool]
 B:=Bool
 run:=λa=>CU a
 out:=λb=>()
 res:=λb=>b
def C_45:Cx:=cx0 tt [] [] 1
def D_45:Code:=Tryz.f44.body.getD .skip
def N_45 (_:X0 E_45.params) (r:YE E_45.results):E_45.B:=r
def E_46:Entry where
 params:= [.v y1,.v .int]
 results:= [.v .bool]
 B:=Bool
 run:=λa=>Ej a.1 a.2
 out:=λb=>((),())
 res:=λb=>b
def S_46L2 (n:Nat):LoopSpec where
 sh:= [(1,.v .int),(7,.v y1),(8,.v .int),(9,.v .int)]
 ex:= [(.exit 0,[]),(.ret,[(4,.v .bool)])]
 run:=DD n
def C_46:Cx:=cx0 tt [] [(2,S_46L2 Aa)] 2
def B_46L2:Code:=(Tryz.f89.body.bind (Yaa 2)).getD .skip
def D_46:Code:=Tryz.f89.body.getD .skip
def N_46 (_:X0 E_46.params) (r:YE E_46.results):E_46.B:=r
def E_47:Entry where
 params:= [.v y1,.v y1]
 results:= [.v .int]
 B:=Int
 run:=λa=>Fv a.1 a.2
 out:=λb=>((),())
 res:=λb=>b
def S_47L2 (n:Nat):LoopSpec where
 sh:= [(0,.v y1),(1,.v y1),(5,.v .int)]
 ex:= [(.exit 0,[(0,.v y1),(1,.v y1)]),(.ret,[(4,.v .int)])]
 run:=BN n
def C_47:Cx:=cx0 tt [] [(2,S_47L2 Aa)] 2
def B_47L2:Code:=(Tryz.f135.body.bind (Yaa 2)).getD .skip
def D_47:Code:=Tryz.f135.body.getD .skip
def N_47 (_:X0 E_47.params) (r:YE E_47.results):E_47.B:=r
def E_48:Entry where
 params:= [.v .int,.v y3]
 results:= [.v .bool]
 B:=Bool
 run:=λa=>D2 a.1 a.2
 out:=λb=>((),())
 res:=λb=>b
def S_48L4 (n:Nat):LoopSpec where
 sh:= [(0,.v .int),(3,.bx (.v y3)),(16,.v y10),(17,.v .int),(18,.v .int)]
 ex:= [(.exit 0,[]),(.ret,[(4,.v .bool)])]
 run:=B2 n
def C_48:Cx:=cx0 tt [(89,E_46),(135,E_47)] [(4,S_48L4 Aa)] 2
def B_48L4:Code:=(Tryz.f97.body.bind (Yaa 4)).getD .skip
def D_48:Code:=Tryz.f97.body.getD .skip
def N_48 (_:X0 E_48.params) (r:YE E_48.results):E_48.B:=r
def E_49:Entry where
 params:= [.v .int,.v .int,.v y0]
 results:= [.v .bool]
 B:=Bool
 run:=λa=>Es a.1 a.2.1 a.2.2
 out:=λb=>((),(),())
 res:=λb=>b
def C_49:Cx:=cx0 tt [(89,E_46),(97,E_48)] [] 3
def D_49:Code:=Tryz.f45.body.getD .skip
def N_49 (_:X0 E_49.params) (r:YE E_49.results):E_49.B:=r
def E_50:Entry where
 params:= [.v y2]
 results:= [.v .bool]
 B:=Bool
 run:=λa=>BT a
 out:=λb=>()
 res:=λb=>b
def S_50L4 (n:Nat):LoopSpec where
 sh:= [(1,.bx (.v y2)),(26,.v y9),(27,.v .int),(28,.v .int)]
 ex:= [(.exit 0,[]),(.ret,[(2,.v .bool)])]
 run:=CM n
def C_50:Cx:=cx0 tt [(44,E_45),(45,E_49)] [(4,S_50L4 Aa)] 1
def B_50L4:Code:=(Tryz.f11.body.bind (Yaa 4)).getD .skip
def D_50:Code:=Tryz.f11.body.getD .skip
def N_50 (_:X0 E_50.params) (r:YE E_50.results):E_50.B:=r
def E_51:Entry where
 params:= [.v .int,.v .int]
 results:= [.v .int]
 B:=Int
 run:=λa=>Dd a.1 a.2
 out:=λb=>((),())
 res:=λb=>b
def S_51L2 (n:Nat):LoopSpec where
 sh:= [(0,.v .int),(1,.v .int),(5,.v .int)]
 ex:= [(.exit 0,[(5,.v .int)])]
 run:=CS n
def C_51:Cx:=cx0 tt [] [(2,S_51L2 Aa)] 2
def B_51L2:Code:=(Tryz.f76.body.bind (Yaa 2)).getD .skip
def D_51:Code:=Tryz.f76.body.getD .skip
def N_51 (_:X0 E_51.params) (r:YE E_51.results):E_51.B:=r
def E_52:Entry where
 params:= [.v y12,.v .int]
 results:= [.v .bool]
 B:=Bool
 run:=λa=>GR a.1 a.2
 out:=λb=>((),())
 res:=λb=>b
def C_52:Cx:=cx0 tt [(76,E_51),(89,E_46)] [] 2
def D_52:Code:=Tryz.f37.body.getD .skip
def N_52 (_:X0 E_52.params) (r:YE E_52.results):E_52.B:=r
def E_53:Entry where
 params:= [.v y2]
 results:= [.mv y11 1]
 B:=(List (List Bool))
 run:=λa=>Ew a
 out:=λb=>()
 res:=λb=>b
def S_53L7 (n:Nat):LoopSpec where
 sh:= [(1,.bx (.v y2)),(3,.mv y11 1),(4,.v .int),(10,.v .int),(11,.v .int),(24,.v .int),(25,.v .int)]
 ex:= [(.exit 2,[(1,.bx (.v y2)),(3,.mv y11 1),(10,.v .int),(11,.v .int)])]
 run:=BQ n
def S_53L3 (n:Nat):LoopSpec where
 sh:= [(1,.bx (.v y2)),(3,.mv y11 1),(10,.v .int),(11,.v .int)]
 ex:= [(.exit 0,[(3,.mv y11 1)])]
 run:=B7 n
def C_53:Cx where
 tt:=YaO tt
 T:=YfC []
 L:=YfB [(7,S_53L7 Aa),(3,S_53L3 Aa)]
 dep:=λi=>match i with
  |8=>1
  |_=>0
 n:=1
def B_53L7:Code:=(Tryz.f90.body.bind (Yaa 7)).getD .skip
def B_53L3:Code:=(Tryz.f90.body.bind (Yaa 3)).getD .skip
def D_53:Code:=Tryz.f90.body.getD .skip
def N_53 (_:X0 E_53.params) (r:YE E_53.results):E_53.B:=r
def E_54:Entry where
 params:= [.v y1,.v y1]
 results:= [.v .bool]
 B:=Bool
 run:=λa=>Gm a.1 a.2
 out:=λb=>((),())
 res:=λb=>b
def S_54L5 (n:Nat):LoopSpec where
 sh:= [(0,.v y1),(1,.v y1),(5,.v .int),(6,.v .int),(9,.v y1),(10,.v .int),(11,.v .int),(18,.v y1),(19,.v .int),(20,.v .int)]
 ex:= [(.exit 2,[(0,.v y1),(1,.v y1),(9,.v y1),(10,.v .int),(11,.v .int)]),(.ret,[(4,.v .bool)])]
 run:=C0 n
def S_54L2 (n:Nat):LoopSpec where
 sh:= [(0,.v y1),(1,.v y1),(9,.v y1),(10,.v .int),(11,.v .int)]
 ex:= [(.exit 0,[]),(.ret,[(4,.v .bool)])]
 run:=DA n
def C_54:Cx:=cx0 tt [] [(5,S_54L5 Aa),(2,S_54L2 Aa)] 2
def B_54L5:Code:=(Tryz.f152.body.bind (Yaa 5)).getD .skip
def B_54L2:Code:=(Tryz.f152.body.bind (Yaa 2)).getD .skip
def D_54:Code:=Tryz.f152.body.getD .skip
def N_54 (_:X0 E_54.params) (r:YE E_54.results):E_54.B:=r
def E_55:Entry where
 params:= [.v y17,.v y0,.v .int,.v .int]
 results:= [.v .bool]
 B:=Bool
 run:=λa=>Dv a.1 a.2.1 a.2.2.1 a.2.2.2
 out:=λb=>((),(),(),())
 res:=λb=>b
def S_55L7 (n:Nat):LoopSpec where
 sh:= [(0,.v y17),(2,.v .int),(3,.v .int),(5,.bx (.v y0)),(11,.v .bool),(16,.v y10),(17,.v .int),(18,.v .int),(35,.v y1),(36,.v .int),(37,.v .int)]
 ex:= [(.exit 2,[(0,.v y17),(2,.v .int),(3,.v .int),(5,.bx (.v y0)),(11,.v .bool),(16,.v y10),(17,.v .int),(18,.v .int)])]
 run:=AH n
def S_55L2 (n:Nat):LoopSpec where
 sh:= [(0,.v y17),(2,.v .int),(3,.v .int),(5,.bx (.v y0)),(16,.v y10),(17,.v .int),(18,.v .int)]
 ex:= [(.exit 0,[]),(.ret,[(8,.v .bool)])]
 run:=AG n
def C_55:Cx:=cx0 tt [(152,E_54)] [(7,S_55L7 Aa),(2,S_55L2 Aa)] 4
def B_55L7:Code:=(Tryz.f132.body.bind (Yaa 7)).getD .skip
def B_55L2:Code:=(Tryz.f132.body.bind (Yaa 2)).getD .skip
def D_55:Code:=Tryz.f132.body.getD .skip
def N_55 (_:X0 E_55.params) (r:YE E_55.results):E_55.B:=r
def E_56:Entry where
 params:= [.io y11 1,.v y2]
 results:= [.mv y8 0]
 B:=(List (List Bool))×(List (Int×Int×Int))
 run:=λa=>DP a.1 a.2
 out:=λb=>(b.1,())
 res:=λb=>b.2
def S_56L12 (n:Nat):LoopSpec where
 sh:= [(0,.io y11 1),(3,.bx (.v y2)),(5,.mv y8 0),(6,.v .bool),(7,.v .int),(8,.bx (.v y0)),(9,.v .int),(10,.v .int),(15,.v y9),(16,.v .int),(17,.v .int),(23,.v y1),(24,.v .int),(25,.v .int),(34,.v .int),(35,.v .int)]
 ex:= [(.exit 6,[(0,.io y11 1),(3,.bx (.v y2)),(5,.mv y8 0),(6,.v .bool),(7,.v .int),(8,.bx (.v y0)),(15,.v y9),(16,.v .int),(17,.v .int),(23,.v y1),(24,.v .int),(25,.v .int)])]
 run:=AB n
def S_56L9 (n:Nat):LoopSpec where
 sh:= [(0,.io y11 1),(3,.bx (.v y2)),(5,.mv y8 0),(6,.v .bool),(7,.v .int),(8,.bx (.v y0)),(15,.v y9),(16,.v .int),(17,.v .int),(23,.v y1),(24,.v .int),(25,.v .int)]
 ex:= [(.exit 4,[(0,.io y11 1),(3,.bx (.v y2)),(5,.mv y8 0),(6,.v .bool),(15,.v y9),(16,.v .int),(17,.v .int)])]
 run:=Bj n
def S_56L6 (n:Nat):LoopSpec where
 sh:= [(0,.io y11 1),(3,.bx (.v y2)),(5,.mv y8 0),(6,.v .bool),(15,.v y9),(16,.v .int),(17,.v .int)]
 ex:= [(.exit 2,[(0,.io y11 1),(3,.bx (.v y2)),(5,.mv y8 0),(6,.v .bool)])]
 run:=Bi n
def S_56L3 (n:Nat):LoopSpec where
 sh:= [(0,.io y11 1),(3,.bx (.v y2)),(5,.mv y8 0),(6,.v .bool)]
 ex:= [(.exit 0,[(0,.io y11 1),(5,.mv y8 0)])]
 run:=BU n
def C_56:Cx:=cx0 tt [(132,E_55)] [(12,S_56L12 Aa),(9,S_56L9 Aa),(6,S_56L6 Aa),(3,S_56L3 Aa)] 2
def B_56L12:Code:=(Tryz.f91.body.bind (Yaa 12)).getD .skip
def B_56L9:Code:=(Tryz.f91.body.bind (Yaa 9)).getD .skip
def B_56L6:Code:=(Tryz.f91.body.bind (Yaa 6)).getD .skip
def B_56L3:Code:=(Tryz.f91.body.bind (Yaa 3)).getD .skip
def D_56:Code:=Tryz.f91.body.getD .skip
def N_56 (o:X0 E_56.params) (r:YE E_56.results):E_56.B:=(o.1,r)
def E_57:Entry where
 params:= [.v y2]
 results:= [.mv y11 1]
 B:=(List (List Bool))
 run:=λa=>D1 a
 out:=λb=>()
 res:=λb=>b
def C_57:Cx:=cx0 tt [(90,E_53),(91,E_56)] [] 1
def D_57:Code:=Tryz.f38.body.getD .skip
def N_57 (_:X0 E_57.params) (r:YE E_57.results):E_57.B:=r
def E_58:Entry where
 params:= [.v y11]
 results:= [.mv .int 0]
 B:=(List Int)
 run:=λa=>Fy a
 out:=λb=>()
 res:=λb=>b
def S_58L3 (n:Nat):LoopSpec where
 sh:= [(3,.mv .int 0),(7,.v y11),(8,.v .int),(9,.v .int)]
 ex:= [(.exit 0,[(3,.mv .int 0)])]
 run:=C2 n
def C_58:Cx:=cx0 tt [] [(3,S_58L3 Aa)] 1
def B_58L3:Code:=(Tryz.f92.body.bind (Yaa 3)).getD .skip
def D_58:Code:=Tryz.f92.body.getD .skip
def N_58 (_:X0 E_58.params) (r:YE E_58.results):E_58.B:=r
def E_59:Entry where
 params:= [.v y17]
 results:= [.mv y1 1]
 B:=(List (List Int))
 run:=λa=>Ec a
 out:=λb=>()
 res:=λb=>b
def S_59L3 (n:Nat):LoopSpec where
 sh:= [(3,.mv y1 1),(7,.v y17),(8,.v .int),(9,.v .int)]
 ex:= [(.exit 0,[(3,.mv y1 1)])]
 run:=B1 n
def C_59:Cx where
 tt:=YaO tt
 T:=YfC [(92,E_58)]
 L:=YfB [(3,S_59L3 Aa)]
 dep:=λi=>match i with
  |6=>1
  |16=>1
  |17=>1
  |_=>0
 n:=1
def B_59L3:Code:=(Tryz.f39.body.bind (Yaa 3)).getD .skip
def D_59:Code:=Tryz.f39.body.getD .skip
def N_59 (_:X0 E_59.params) (r:YE E_59.results):E_59.B:=r
def E_60:Entry where
 params:= [.v y2,.v y12]
 results:= [.mv .int 0,.v .bool]
 B:=(List Int)×Bool
 run:=λa=>BV a.1 a.2
 out:=λb=>((),())
 res:=λb=>(b.1,b.2)
def S_60L11 (n:Nat):LoopSpec where
 sh:= [(2,.bx (.v y2)),(3,.bx (.v y12)),(6,.mv .int 0),(9,.v .int),(31,.v y10),(32,.v .int),(33,.v .int),(45,.v y1),(46,.v .int),(47,.v .int)]
 ex:= [(.exit 2,[(2,.bx (.v y2)),(3,.bx (.v y12)),(6,.mv .int 0),(9,.v .int),(31,.v y10),(32,.v .int),(33,.v .int)])]
 run:=AX n
def S_60L5 (n:Nat):LoopSpec where
 sh:= [(2,.bx (.v y2)),(3,.bx (.v y12)),(6,.mv .int 0),(31,.v y10),(32,.v .int),(33,.v .int)]
 ex:= [(.exit 0,[(6,.mv .int 0)]),(.ret,[(4,.mv .int 0),(5,.v .bool)])]
 run:=AN n
def C_60:Cx:=cx0 tt [(11,E_50),(37,E_52),(38,E_57),(39,E_59)] [(11,S_60L11 Aa),(5,S_60L5 Aa)] 2
def B_60L11:Code:=(Tryz.f7.body.bind (Yaa 11)).getD .skip
def B_60L5:Code:=(Tryz.f7.body.bind (Yaa 5)).getD .skip
def D_60:Code:=Tryz.f7.body.getD .skip
def N_60 (_:X0 E_60.params) (r:YE E_60.results):E_60.B:=(r.1,r.2)
def E_61:Entry where
 params:= [.v .int,.v .int,.v y0]
 results:= [.v .bool]
 B:=Bool
 run:=λa=>Ha a.1 a.2.1 a.2.2
 out:=λb=>((),(),())
 res:=λb=>b
def C_61:Cx:=cx0 tt [(87,E_27),(133,E_25)] [] 3
def D_61:Code:=Tryz.f93.body.getD .skip
def N_61 (_:X0 E_61.params) (r:YE E_61.results):E_61.B:=r
def E_62:Entry where
 params:= [.v y2]
 results:= [.v .bool]
 B:=Bool
 run:=λa=>CP a
 out:=λb=>()
 res:=λb=>b
def S_62L4 (n:Nat):LoopSpec where
 sh:= [(1,.bx (.v y2)),(3,.v .int)]
 ex:= [(.exit 0,[]),(.ret,[(2,.v .bool)])]
 run:=Dk n
def C_62:Cx:=cx0 tt [(86,E_8),(93,E_61)] [(4,S_62L4 Aa)] 1
def B_62L4:Code:=(Tryz.f40.body.bind (Yaa 4)).getD .skip
def D_62:Code:=Tryz.f40.body.getD .skip
def N_62 (_:X0 E_62.params) (r:YE E_62.results):E_62.B:=r
def E_63:Entry where
 params:= [.v .int]
 results:= [.mv .int 0]
 B:=(List Int)
 run:=λa=>D7 a
 out:=λb=>()
 res:=λb=>b
def S_63L3 (n:Nat):LoopSpec where
 sh:= [(0,.v .int),(3,.mv .int 0),(4,.v .int)]
 ex:= [(.exit 0,[(3,.mv .int 0)])]
 run:=CA n
def C_63:Cx:=cx0 tt [] [(3,S_63L3 Aa)] 1
def B_63L3:Code:=(Tryz.f96.body.bind (Yaa 3)).getD .skip
def D_63:Code:=Tryz.f96.body.getD .skip
def N_63 (_:X0 E_63.params) (r:YE E_63.results):E_63.B:=r
def E_64:Entry where
 params:= [.v y2]
 results:= [.mv y1 0]
 B:=(List (List Int))
 run:=λa=>Fb a
 out:=λb=>()
 res:=λb=>b
def S_64L3 (n:Nat):LoopSpec where
 sh:= [(1,.bx (.v y2)),(3,.mv y1 0),(4,.v .int)]
 ex:= [(.exit 0,[(3,.mv y1 0)])]
 run:=Dn n
def C_64:Cx:=cx0 tt [(96,E_63)] [(3,S_64L3 Aa)] 1
def B_64L3:Code:=(Tryz.f43.body.bind (Yaa 3)).getD .skip
def D_64:Code:=Tryz.f43.body.getD .skip
def N_64 (_:X0 E_64.params) (r:YE E_64.results):E_64.B:=r
def E_65:Entry where
 params:= [.v y1,.v .int]
 results:= [.v .bool]
 B:=Bool
 run:=λa=>F5 a.1 a.2
 out:=λb=>((),())
 res:=λb=>b
def S_65L2 (n:Nat):LoopSpec where
 sh:= [(0,.v y1),(1,.v .int),(5,.v .int)]
 ex:= [(.exit 0,[]),(.ret,[(4,.v .bool)])]
 run:=DY n
def C_65:Cx:=cx0 tt [] [(2,S_65L2 Aa)] 2
def B_65L2:Code:=(Tryz.f153.body.bind (Yaa 2)).getD .skip
def D_65:Code:=Tryz.f153.body.getD .skip
def N_65 (_:X0 E_65.params) (r:YE E_65.results):E_65.B:=r
def E_66:Entry where
 params:= [.v y0,.v y1,.v y10]
 results:= [.v .bool]
 B:=Bool
 run:=λa=>F6 a.1 a.2.1 a.2.2
 out:=λb=>((),(),())
 res:=λb=>b
def S_66L7 (n:Nat):LoopSpec where
 sh:= [(1,.v y1),(2,.v y10),(3,.bx (.v y0)),(7,.v .int),(8,.v .int)]
 ex:= [(.exit 2,[(1,.v y1),(2,.v y10),(3,.bx (.v y0)),(7,.v .int)]),(.ret,[(6,.v .bool)])]
 run:=Ck n
def S_66L2 (n:Nat):LoopSpec where
 sh:= [(1,.v y1),(2,.v y10),(3,.bx (.v y0)),(7,.v .int)]
 ex:= [(.exit 0,[]),(.ret,[(6,.v .bool)])]
 run:=Dm n
def C_66:Cx:=cx0 tt [(153,E_65)] [(7,S_66L7 Aa),(2,S_66L2 Aa)] 3
def B_66L7:Code:=(Tryz.f134.body.bind (Yaa 7)).getD .skip
def B_66L2:Code:=(Tryz.f134.body.bind (Yaa 2)).getD .skip
def D_66:Code:=Tryz.f134.body.getD .skip
def N_66 (_:X0 E_66.params) (r:YE E_66.results):E_66.B:=r
def E_67:Entry where
 params:= [.v y0,.v .int,.v .int,.v y10]
 results:= [.v .bool]
 B:=Bool
 run:=λa=>E0 a.1 a.2.1 a.2.2.1 a.2.2.2
 out:=λb=>((),(),(),())
 res:=λb=>b
def S_67L2 (n:Nat):LoopSpec where
 sh:= [(1,.v .int),(2,.v .int),(3,.v y10),(4,.bx (.v y0)),(9,.v .int)]
 ex:= [(.exit 0,[]),(.ret,[(8,.v .bool)])]
 run:=B5 n
def C_67:Cx:=cx0 tt [(134,E_66)] [(2,S_67L2 Aa)] 4
def B_67L2:Code:=(Tryz.f94.body.bind (Yaa 2)).getD .skip
def D_67:Code:=Tryz.f94.body.getD .skip
def N_67 (_:X0 E_67.params) (r:YE E_67.results):E_67.B:=r
def E_68:Entry where
 params:= [.v y1,.v .int]
 results:= [.mv .int 0]
 B:=(List Int)
 run:=λa=>E1 a.1 a.2
 out:=λb=>((),())
 res:=λb=>b
def S_68L3 (n:Nat):LoopSpec where
 sh:= [(0,.v y1),(1,.v .int),(5,.mv .int 0),(6,.v .int)]
 ex:= [(.exit 0,[(5,.mv .int 0)])]
 run:=B6 n
def C_68:Cx:=cx0 tt [] [(3,S_68L3 Aa)] 2
def B_68L3:Code:=(Tryz.f95.body.bind (Yaa 3)).getD .skip
def D_68:Code:=Tryz.f95.body.getD .skip
def N_68 (_:X0 E_68.params) (r:YE E_68.results):E_68.B:=r
def E_69:Entry where
 params:= [.v y2,.v y10]
 results:= [.mv y1 0,.mv y8 0]
 B:=(List (List Int))×(List (Int×Int×Int))
 run:=λa=>FD a.1 a.2
 out:=λb=>((),())
 res:=λb=>(b.1,b.2)
def S_69L15 (n:Nat):LoopSpec where
 sh:= [(2,.bx (.v y2)),(6,.mv y8 0),(7,.mv y1 0),(8,.v .int),(9,.v .int),(10,.bx (.v y0)),(11,.v .int),(12,.v y1),(13,.v .int)]
 ex:= [(.exit 6,[(2,.bx (.v y2)),(6,.mv y8 0),(7,.mv y1 0),(8,.v .int),(9,.v .int),(10,.bx (.v y0)),(11,.v .int)])]
 run:=Cj n
def S_69L11 (n:Nat):LoopSpec where
 sh:= [(2,.bx (.v y2)),(6,.mv y8 0),(7,.mv y1 0),(8,.v .int),(9,.v .int),(10,.bx (.v y0)),(11,.v .int)]
 ex:= [(.exit 4,[(2,.bx (.v y2)),(6,.mv y8 0),(7,.mv y1 0),(8,.v .int),(9,.v .int)])]
 run:=CL n
def S_69L7 (n:Nat):LoopSpec where
 sh:= [(2,.bx (.v y2)),(6,.mv y8 0),(7,.mv y1 0),(8,.v .int),(9,.v .int)]
 ex:= [(.exit 2,[(2,.bx (.v y2)),(6,.mv y8 0),(7,.mv y1 0),(8,.v .int)])]
 run:=C8 n
def S_69L4 (n:Nat):LoopSpec where
 sh:= [(2,.bx (.v y2)),(6,.mv y8 0),(7,.mv y1 0),(8,.v .int)]
 ex:= [(.exit 0,[(6,.mv y8 0),(7,.mv y1 0)]),(.ret,[(4,.mv y1 0),(5,.mv y8 0)])]
 run:=EA n
def C_69:Cx:=cx0 tt [(94,E_67),(95,E_68)] [(15,S_69L15 Aa),(11,S_69L11 Aa),(7,S_69L7 Aa),(4,S_69L4 Aa)] 2
def B_69L15:Code:=(Tryz.f42.body.bind (Yaa 15)).getD .skip
def B_69L11:Code:=(Tryz.f42.body.bind (Yaa 11)).getD .skip
def B_69L7:Code:=(Tryz.f42.body.bind (Yaa 7)).getD .skip
def B_69L4:Code:=(Tryz.f42.body.bind (Yaa 4)).getD .skip
def D_69:Code:=Tryz.f42.body.getD .skip
def N_69 (_:X0 E_69.params) (r:YE E_69.results):E_69.B:=(r.1,r.2)
def E_70:Entry where
 params:= [.v y2,.v y12]
 results:= [.mv .int 0,.v .bool]
 B:=(List Int)×Bool
 run:=λa=>CV a.1 a.2
 out:=λb=>((),())
 res:=λb=>(b.1,b.2)
def S_70L12 (n:Nat):LoopSpec where
 sh:= [(2,.bx (.v y2)),(3,.bx (.v y12)),(6,.mv y1 0),(8,.mv .int 0),(9,.v .int),(10,.v .int),(11,.v .int)]
 ex:= [(.exit 2,[(2,.bx (.v y2)),(3,.bx (.v y12)),(6,.mv y1 0),(8,.mv .int 0),(9,.v .int),(10,.v .int)])]
 run:=A7 n
def S_70L6 (n:Nat):LoopSpec where
 sh:= [(2,.bx (.v y2)),(3,.bx (.v y12)),(6,.mv y1 0),(8,.mv .int 0),(9,.v .int)]
 ex:= [(.exit 0,[(8,.mv .int 0)]),(.ret,[(4,.mv .int 0),(5,.v .bool)])]
 run:=AP n
def C_70:Cx:=cx0 tt [(40,E_62),(41,E_37),(42,E_69),(43,E_64)] [(12,S_70L12 Aa),(6,S_70L6 Aa)] 2
def B_70L12:Code:=(Tryz.f8.body.bind (Yaa 12)).getD .skip
def B_70L6:Code:=(Tryz.f8.body.bind (Yaa 6)).getD .skip
def D_70:Code:=Tryz.f8.body.getD .skip
def N_70 (_:X0 E_70.params) (r:YE E_70.results):E_70.B:=(r.1,r.2)
def E_71:Entry where
 params:= [.v y1,.v y1]
 results:= [.v .bool]
 B:=Bool
 run:=λa=>Fo a.1 a.2
 out:=λb=>((),())
 res:=λb=>b
def S_71L4 (n:Nat):LoopSpec where
 sh:= [(0,.v y1),(1,.v y1),(5,.v .int)]
 ex:= [(.exit 0,[]),(.ret,[(4,.v .bool)])]
 run:=Dq n
def C_71:Cx:=cx0 tt [] [(4,S_71L4 Aa)] 2
def B_71L4:Code:=(Tryz.f9.body.bind (Yaa 4)).getD .skip
def D_71:Code:=Tryz.f9.body.getD .skip
def N_71 (_:X0 E_71.params) (r:YE E_71.results):E_71.B:=r
def E_72:Entry where
 params:= [.v y10,.v y10]
 results:= [.v .bool]
 B:=Bool
 run:=λa=>Gz a.1 a.2
 out:=λb=>((),())
 res:=λb=>b
def S_72L4 (n:Nat):LoopSpec where
 sh:= [(0,.v y10),(1,.v y10),(5,.v .int)]
 ex:= [(.exit 0,[]),(.ret,[(4,.v .bool)])]
 run:=C5 n
def C_72:Cx:=cx0 tt [(9,E_71)] [(4,S_72L4 Aa)] 2
def B_72L4:Code:=(Tryz.f10.body.bind (Yaa 4)).getD .skip
def D_72:Code:=Tryz.f10.body.getD .skip
def N_72 (_:X0 E_72.params) (r:YE E_72.results):E_72.B:=r
def E_73:Entry where
 params:= [.v .int,.v y13]
 results:= [.v .bool]
 B:=Bool
 run:=λa=>Gc a.1 a.2
 out:=λb=>((),())
 res:=λb=>b
def S_73L4 (n:Nat):LoopSpec where
 sh:= [(0,.v .int),(10,.v y13),(11,.v .int),(12,.v .int)]
 ex:= [(.exit 0,[]),(.ret,[(4,.v .bool)])]
 run:=Cw n
def C_73:Cx:=cx0 tt [(97,E_48)] [(4,S_73L4 Aa)] 2
def B_73L4:Code:=(Tryz.f98.body.bind (Yaa 4)).getD .skip
def D_73:Code:=Tryz.f98.body.getD .skip
def N_73 (_:X0 E_73.params) (r:YE E_73.results):E_73.B:=r
def E_74:Entry where
 params:= [.v .int,.v y13,.v .int]
 results:= [.v .bool]
 B:=Bool
 run:=λa=>Gr a.1 a.2.1 a.2.2
 out:=λb=>((),(),())
 res:=λb=>b
def S_74L4 (n:Nat):LoopSpec where
 sh:= [(2,.v .int),(18,.v y13),(19,.v .int),(20,.v .int)]
 ex:= [(.exit 0,[]),(.ret,[(6,.v .bool)])]
 run:=C1 n
def C_74:Cx:=cx0 tt [(44,E_45),(98,E_73)] [(4,S_74L4 Aa)] 3
def B_74L4:Code:=(Tryz.f46.body.bind (Yaa 4)).getD .skip
def D_74:Code:=Tryz.f46.body.getD .skip
def N_74 (_:X0 E_74.params) (r:YE E_74.results):E_74.B:=r
def E_75:Entry where
 params:= [.v .int]
 results:= [.mv .int 0]
 B:=(List Int)
 run:=λa=>Fk a
 out:=λb=>()
 res:=λb=>b
def S_75L3 (n:Nat):LoopSpec where
 sh:= [(3,.mv .int 0),(8,.v .int),(9,.v .int)]
 ex:= [(.exit 0,[(3,.mv .int 0)])]
 run:=Cd n
def C_75:Cx:=cx0 tt [] [(3,S_75L3 Aa)] 1
def B_75L3:Code:=(Tryz.f75.body.bind (Yaa 3)).getD .skip
def D_75:Code:=Tryz.f75.body.getD .skip
def N_75 (_:X0 E_75.params) (r:YE E_75.results):E_75.B:=r
def E_76:Entry where
 params:= [.v .int,.v .int]
 results:= [.mv .int 0]
 B:=(List Int)
 run:=λa=>CN a.1 a.2
 out:=λb=>((),())
 res:=λb=>b
def S_76L7 (n:Nat):LoopSpec where
 sh:= [(0,.v .int),(1,.v .int),(5,.mv .int 0),(6,.v .int),(7,.v .int),(8,.v .int)]
 ex:= [(.exit 2,[(0,.v .int),(1,.v .int),(5,.mv .int 0),(6,.v .int),(7,.v .int)])]
 run:=AZ n
def S_76L3 (n:Nat):LoopSpec where
 sh:= [(0,.v .int),(1,.v .int),(5,.mv .int 0),(6,.v .int)]
 ex:= [(.exit 0,[(5,.mv .int 0)])]
 run:=AY n
def C_76:Cx:=cx0 tt [(75,E_75),(76,E_51)] [(7,S_76L7 Aa),(3,S_76L3 Aa)] 2
def B_76L7:Code:=(Tryz.f48.body.bind (Yaa 7)).getD .skip
def B_76L3:Code:=(Tryz.f48.body.bind (Yaa 3)).getD .skip
def D_76:Code:=Tryz.f48.body.getD .skip
def N_76 (_:X0 E_76.params) (r:YE E_76.results):E_76.B:=r
def E_77:Entry where
 params:= [.v y1]
 results:= [.v .str]
 B:=ByteArray
 run:=λa=>DE a
 out:=λb=>()
 res:=λb=>b
def S_77L3 (n:Nat):LoopSpec where
 sh:= [(3,.mv (.num .u8) 0),(10,.v y1),(11,.v .int),(12,.v .int)]
 ex:= [(.exit 0,[(3,.mv (.num .u8) 0)])]
 run:=Dp n
def C_77:Cx:=cx0 tt [] [(3,S_77L3 Aa)] 1
def B_77L3:Code:=(Tryz.f138.body.bind (Yaa 3)).getD .skip
def D_77:Code:=Tryz.f138.body.getD .skip
def N_77 (_:X0 E_77.params) (r:YE E_77.results):E_77.B:=r
def E_78:Entry where
 params:= [.v y3]
 results:= [.v .smap]
 B:=(List ByteArray)
 run:=λa=>DW a
 out:=λb=>()
 res:=λb=>b
def S_78L3 (n:Nat):LoopSpec where
 sh:= [(3,.mp),(8,.v y10),(9,.v .int),(10,.v .int)]
 ex:= [(.exit 0,[(3,.mp)])]
 run:=C4 n
def C_78:Cx:=cx0 tt [(138,E_77)] [(3,S_78L3 Aa)] 1
def B_78L3:Code:=(Tryz.f136.body.bind (Yaa 3)).getD .skip
def D_78:Code:=Tryz.f136.body.getD .skip
def N_78 (_:X0 E_78.params) (r:YE E_78.results):E_78.B:=r
def E_79:Entry where
 params:= [.v .int,.v .int,.v .int]
 results:= [.mv .int 0]
 B:=(List Int)
 run:=λa=>Gn a.1 a.2.1 a.2.2
 out:=λb=>((),(),())
 res:=λb=>b
def S_79L3 (n:Nat):LoopSpec where
 sh:= [(0,.v .int),(2,.v .int),(7,.mv .int 0),(8,.v .int)]
 ex:= [(.exit 0,[(7,.mv .int 0)])]
 run:=DB n
def C_79:Cx:=cx0 tt [] [(3,S_79L3 Aa)] 3
def B_79L3:Code:=(Tryz.f137.body.bind (Yaa 3)).getD .skip
def D_79:Code:=Tryz.f137.body.getD .skip
def N_79 (_:X0 E_79.params) (r:YE E_79.results):E_79.B:=r
def E_80:Entry where
 params:= [.v .int,.v y13,.v .int]
 results:= [.v (.ptr y7)]
 B:=(Bool×Int×Int×(List (List ((List Int)×(List ByteArray)))))
 run:=λa=>Ee a.1 a.2.1 a.2.2
 out:=λb=>((),(),())
 res:=λb=>b
def S_80L17 (n:Nat):LoopSpec where
 sh:= [(917564,.jk 1),(0,.v .int),(2,.v .int),(7,.bx (.pr (.v .int) (.pr (.v .int) (.mv y14 1)))),(9,.bx (.v y3)),(10,.v .smap),(11,.mp),(12,.v .int),(13,.mv .int 0),(14,.mv .int 0),(15,.v .int),(16,.v .int),(28,.v y13),(29,.v .int),(30,.v .int),(56,.v .int),(57,.v .int),(61,.v .int),(62,.v .int)]
 ex:= [(.exit 6,[(0,.v .int),(2,.v .int),(7,.bx (.pr (.v .int) (.pr (.v .int) (.mv y14 1)))),(9,.bx (.v y3)),(10,.v .smap),(11,.mp),(12,.v .int),(13,.mv .int 0),(14,.mv .int 0),(15,.v .int),(16,.v .int),(28,.v y13),(29,.v .int),(30,.v .int),(56,.v .int),(57,.v .int)])]
 run:=Bl n
def S_80L14 (n:Nat):LoopSpec where
 sh:= [(0,.v .int),(2,.v .int),(7,.bx (.pr (.v .int) (.pr (.v .int) (.mv y14 1)))),(9,.bx (.v y3)),(10,.v .smap),(11,.mp),(12,.v .int),(13,.mv .int 0),(14,.mv .int 0),(15,.v .int),(28,.v y13),(29,.v .int),(30,.v .int),(56,.v .int),(57,.v .int)]
 ex:= [(.exit 4,[(0,.v .int),(2,.v .int),(7,.bx (.pr (.v .int) (.pr (.v .int) (.mv y14 1)))),(9,.bx (.v y3)),(10,.v .smap),(11,.mp),(12,.v .int),(14,.mv .int 0),(15,.v .int),(28,.v y13),(29,.v .int),(30,.v .int)])]
 run:=Bk n
def S_80L8 (n:Nat):LoopSpec where
 sh:= [(0,.v .int),(2,.v .int),(7,.bx (.pr (.v .int) (.pr (.v .int) (.mv y14 1)))),(9,.bx (.v y3)),(10,.v .smap),(11,.mp),(12,.v .int),(28,.v y13),(29,.v .int),(30,.v .int)]
 ex:= [(.exit 2,[(0,.v .int),(2,.v .int),(7,.bx (.pr (.v .int) (.pr (.v .int) (.mv y14 1)))),(28,.v y13),(29,.v .int),(30,.v .int)])]
 run:=AU n
def S_80L3 (n:Nat):LoopSpec where
 sh:= [(0,.v .int),(2,.v .int),(7,.bx (.pr (.v .int) (.pr (.v .int) (.mv y14 1)))),(28,.v y13),(29,.v .int),(30,.v .int)]
 ex:= [(.exit 0,[(7,.bx (.pr (.v .int) (.pr (.v .int) (.mv y14 1))))])]
 run:=BA n
def C_80:Cx where
 tt:=YaO tt
 T:=YfC [(76,E_51),(136,E_78),(137,E_79),(138,E_77)]
 L:=YfB [(17,S_80L17 Aa),(14,S_80L14 Aa),(8,S_80L8 Aa),(3,S_80L3 Aa)]
 dep:=λi=>match i with
  |25=>1
  |_=>0
 n:=3
 fine:=true
def B_80L17:Code:=(Tryz.f99.body.bind (Yaa 17)).getD .skip
def B_80L14:Code:=(Tryz.f99.body.bind (Yaa 14)).getD .skip
def B_80L8:Code:=(Tryz.f99.body.bind (Yaa 8)).getD .skip
def B_80L3:Code:=(Tryz.f99.body.bind (Yaa 3)).getD .skip
def D_80:Code:=Tryz.f99.body.getD .skip
def N_80 (_:X0 E_80.params) (r:YE E_80.results):E_80.B:=r
def E_81:Entry where
 params:= [.v y5]
 results:= [.v .bool]
 B:=Bool
 run:=λa=>Gl a
 out:=λb=>()
 res:=λb=>b
def S_81L4 (n:Nat):LoopSpec where
 sh:= [(1,.bx (.v y5)),(20,.v (.slice y12)),(21,.v .int),(22,.v .int)]
 ex:= [(.exit 0,[]),(.ret,[(2,.v .bool)])]
 run:=Dw n
def C_81:Cx:=cx0 tt [(37,E_52)] [(4,S_81L4 Aa)] 1
def B_81L4:Code:=(Tryz.f154.body.bind (Yaa 4)).getD .skip
def D_81:Code:=Tryz.f154.body.getD .skip
def N_81 (_:X0 E_81.params) (r:YE E_81.results):E_81.B:=r
def E_82:Entry where
 params:= [.v y5,.v .int]
 results:= [.v .bool]
 B:=Bool
 run:=λa=>FV a.1 a.2
 out:=λb=>((),())
 res:=λb=>b
def C_82:Cx:=cx0 tt [(154,E_81)] [] 2
def D_82:Code:=Tryz.f141.body.getD .skip
def N_82 (_:X0 E_82.params) (r:YE E_82.results):E_82.B:=r
def E_83:Entry where
 params:= [.v y5,.v .int]
 results:= [.v .bool,.v .bool]
 B:=Bool×Bool
 run:=λa=>Eo a.1 a.2
 out:=λb=>((),())
 res:=λb=>(b.1,b.2)
def S_83L11 (n:Nat):LoopSpec where
 sh:= [(2,.bx (.v y5)),(6,.bx (.v y12)),(7,.v .int),(8,.v .int),(9,.v .int)]
 ex:= [(.exit 2,[(2,.bx (.v y5)),(6,.bx (.v y12)),(7,.v .int),(8,.v .int)])]
 run:=CB n
def S_83L7 (n:Nat):LoopSpec where
 sh:= [(2,.bx (.v y5)),(6,.bx (.v y12)),(7,.v .int)]
 ex:= [(.exit 0,[]),(.ret,[(4,.v .bool),(5,.v .bool)])]
 run:=BM n
def C_83:Cx:=cx0 tt [(141,E_82)] [(11,S_83L11 Aa),(7,S_83L7 Aa)] 2
def B_83L11:Code:=(Tryz.f102.body.bind (Yaa 11)).getD .skip
def B_83L7:Code:=(Tryz.f102.body.bind (Yaa 7)).getD .skip
def D_83:Code:=Tryz.f102.body.getD .skip
def N_83 (_:X0 E_83.params) (r:YE E_83.results):E_83.B:=(r.1,r.2)
def E_84:Entry where
 params:= [.v y5,.v .int]
 results:= [.v .bool]
 B:=Bool
 run:=λa=>EL a.1 a.2
 out:=λb=>((),())
 res:=λb=>b
def C_84:Cx:=cx0 tt [(141,E_82)] [] 2
def D_84:Code:=Tryz.f142.body.getD .skip
def N_84 (_:X0 E_84.params) (r:YE E_84.results):E_84.B:=r
def E_85:Entry where
 params:= [.v y5,.v .int]
 results:= [.v .bool,.v .bool]
 B:=Bool×Bool
 run:=λa=>Ea a.1 a.2
 out:=λb=>((),())
 res:=λb=>(b.1,b.2)
def S_85L8 (n:Nat):LoopSpec where
 sh:= [(6,.v .int),(7,.v y1),(8,.v .int),(9,.v .int)]
 ex:= [(.exit 2,[(6,.v .int),(7,.v y1),(8,.v .int)]),(.ret,[(4,.v .bool),(5,.v .bool)])]
 run:=Bz n
def S_85L5 (n:Nat):LoopSpec where
 sh:= [(6,.v .int),(7,.v y1),(8,.v .int)]
 ex:= [(.exit 0,[]),(.ret,[(4,.v .bool),(5,.v .bool)])]
 run:=By n
def C_85:Cx:=cx0 tt [(142,E_84)] [(8,S_85L8 Aa),(5,S_85L5 Aa)] 2
def B_85L8:Code:=(Tryz.f103.body.bind (Yaa 8)).getD .skip
def B_85L5:Code:=(Tryz.f103.body.bind (Yaa 5)).getD .skip
def D_85:Code:=Tryz.f103.body.getD .skip
def N_85 (_:X0 E_85.params) (r:YE E_85.results):E_85.B:=(r.1,r.2)
def E_86:Entry where
 params:= [.v y5,.v .int]
 results:= [.v .bool,.v .bool]
 B:=Bool×Bool
 run:=λa=>D9 a.1 a.2
 out:=λb=>((),())
 res:=λb=>(b.1,b.2)
def S_86L11 (n:Nat):LoopSpec where
 sh:= [(6,.v .int),(7,.v y1),(8,.v .int),(9,.v .int),(10,.v .int)]
 ex:= [(.exit 4,[(6,.v .int),(7,.v y1),(8,.v .int),(9,.v .int)]),(.ret,[(4,.v .bool),(5,.v .bool)])]
 run:=Bh n
def S_86L8 (n:Nat):LoopSpec where
 sh:= [(6,.v .int),(7,.v y1),(8,.v .int),(9,.v .int)]
 ex:= [(.exit 2,[(6,.v .int),(7,.v y1),(8,.v .int)]),(.ret,[(4,.v .bool),(5,.v .bool)])]
 run:=Bx n
def S_86L5 (n:Nat):LoopSpec where
 sh:= [(6,.v .int),(7,.v y1),(8,.v .int)]
 ex:= [(.exit 0,[]),(.ret,[(4,.v .bool),(5,.v .bool)])]
 run:=Bw n
def C_86:Cx:=cx0 tt [(142,E_84)] [(11,S_86L11 Aa),(8,S_86L8 Aa),(5,S_86L5 Aa)] 2
def B_86L11:Code:=(Tryz.f104.body.bind (Yaa 11)).getD .skip
def B_86L8:Code:=(Tryz.f104.body.bind (Yaa 8)).getD .skip
def B_86L5:Code:=(Tryz.f104.body.bind (Yaa 5)).getD .skip
def D_86:Code:=Tryz.f104.body.getD .skip
def N_86 (_:X0 E_86.params) (r:YE E_86.results):E_86.B:=(r.1,r.2)
def E_87:Entry where
 params:= [.v .int,.v y1]
 results:= [.v .bool]
 B:=Bool
 run:=λa=>Fm a.1 a.2
 out:=λb=>((),())
 res:=λb=>b
def C_87:Cx:=cx0 tt [(102,E_83),(103,E_85),(104,E_86)] [] 2
def D_87:Code:=Tryz.f50.body.getD .skip
def N_87 (_:X0 E_87.params) (r:YE E_87.results):E_87.B:=r
def E_88:Entry where
 params:= [.v y1,.v (.ptr .int)]
 results:= [.v .bool]
 B:=Bool
 run:=λa=>Al a.1 a.2
 out:=λb=>((),())
 res:=λb=>b
def C_88:Cx:=cx0 tt [(50,E_87)] [] 2
def D_88:Code:=Tryz.f49.body.getD .skip
def N_88 (_:X0 E_88.params) (r:YE E_88.results):E_88.B:=r
def E_89:Entry where
 params:= [.v y1]
 results:= [.mv .int 0]
 B:=(List Int)
 run:=λa=>Cv a
 out:=λb=>()
 res:=λb=>b
def C_89:Cx:=cx0 tt [] [] 1
def D_89:Code:=Tryz.f70.body.getD .skip
def N_89 (_:X0 E_89.params) (r:YE E_89.results):E_89.B:=r
def E_90:Entry where
 params:= [.v y1,.pz (.fc 49 (.ptr .int)),.bx (.v .int),.bx (.pr (.v .int) (.mv .int 0)),.bx (.v .bool)]
 results:= [.v .bool]
 B:=Int×(Int×(List Int))×Bool×Bool
 run:=λa=>Bf a.1 a.2.1 a.2.2.1 a.2.2.2.1 a.2.2.2.2
 out:=λb=>((),(),b.1,b.2.1,b.2.2.1)
 res:=λb=>b.2.2.2
def C_90:Cx:=cx0 tt [(49,E_88),(70,E_89)] [] 5
def D_90:Code:=Tryz.f101.body.getD .skip
def N_90 (o:X0 E_90.params) (r:YE E_90.results):E_90.B:=(o.2.2.1,o.2.2.2.1,o.2.2.2.2,r)
def E_91:Entry where
 params:= [.v y1,.v y1]
 results:= [.mv .int 0]
 B:=(List Int)
 run:=λa=>Dc a.1 a.2
 out:=λb=>((),())
 res:=λb=>b
def S_91L3 (n:Nat):LoopSpec where
 sh:= [(1,.v y1),(5,.mv .int 0),(11,.v y1),(12,.v .int),(13,.v .int)]
 ex:= [(.exit 0,[(5,.mv .int 0)])]
 run:=Di n
def C_91:Cx:=cx0 tt [] [(3,S_91L3 Aa)] 2
def B_91L3:Code:=(Tryz.f110.body.bind (Yaa 3)).getD .skip
def D_91:Code:=Tryz.f110.body.getD .skip
def N_91 (_:X0 E_91.params) (r:YE E_91.results):E_91.B:=r
def E_92:Entry where
 params:= [.v (.ptr y7),.v y1,.v .int]
 results:= [.v .bool]
 B:=Bool
 run:=λa=>Au a.1 a.2.1 a.2.2
 out:=λb=>((),(),())
 res:=λb=>b
def S_92L2 (n:Nat):LoopSpec where
 sh:= [(1,.v y1),(15,.v y14),(16,.v .int),(17,.v .int)]
 ex:= [(.exit 0,[]),(.ret,[(6,.v .bool)])]
 run:=AL n
def C_92:Cx:=cx0 tt [(110,E_91),(138,E_77)] [(2,S_92L2 Aa)] 3
def B_92L2:Code:=(Tryz.f140.body.bind (Yaa 2)).getD .skip
def D_92:Code:=Tryz.f140.body.getD .skip
def N_92 (_:X0 E_92.params) (r:YE E_92.results):E_92.B:=r
def E_93_of (rec:(Int×(List Int)×((Bool×Int)×(Int×((Int×(List Int))×Bool)))×(Bool×Int×Int×(List (List ((List Int)×(List ByteArray)))))×(List Int)×Unit)->Option ((List Int)×(Unit×(Int×((Int×(List Int))×Bool)))×(Bool×Int×Int×(List (List ((List Int)×(List ByteArray)))))×(List Int)×Bool)):Entry where
 params:= [.v .int,.bx (.mv .int 0),.pr (.pz (.fc 49 (.ptr .int))) (.pr (.bx (.v .int)) (.pr (.bx (.pr (.v .int) (.mv .int 0))) (.bx (.v .bool)))),.bx (.v (.ptr y7)),.bx (.v y1),.jk 1]
 results:= [.v .bool]
 cod:= [(2,.kb 101),(5,.kn 139 1 5)]
 B:=(List Int)×(Unit×(Int×((Int×(List Int))×Bool)))×(Bool×Int×Int×(List (List ((List Int)×(List ByteArray)))))×(List Int)×Bool
 run:=rec
 out:=λb=>((),b.1,b.2.1,b.2.2.1,b.2.2.2.1,())
 res:=λb=>b.2.2.2.2
def E_93 (d:Nat):Entry:=E_93_of (Aj d)
def S_93L4 (rec:(Int×(List Int)×((Bool×Int)×(Int×((Int×(List Int))×Bool)))×(Bool×Int×Int×(List (List ((List Int)×(List ByteArray)))))×(List Int)×Unit)->Option ((List Int)×(Unit×(Int×((Int×(List Int))×Bool)))×(Bool×Int×Int×(List (List ((List Int)×(List ByteArray)))))×(List Int)×Bool)) (n:Nat):LoopSpec where
 sh:= [(0,.v .int),(1,.bx (.mv .int 0)),(2,.pr (.pz (.fc 49 (.ptr .int))) (.pr (.bx (.v .int)) (.pr (.bx (.pr (.v .int) (.mv .int 0))) (.bx (.v .bool))))),(3,.bx (.v (.ptr y7))),(4,.bx (.v y1)),(5,.jk 1),(8,.v .int)]
 ex:= [(.exit 0,[(1,.bx (.mv .int 0)),(2,.pr (.pz (.fc 49 (.ptr .int))) (.pr (.bx (.v .int)) (.pr (.bx (.pr (.v .int) (.mv .int 0))) (.bx (.v .bool))))),(3,.bx (.v (.ptr y7))),(4,.bx (.v y1)),(5,.jk 1)]),(.ret,[(1,.bx (.mv .int 0)),(2,.pr (.pz (.fc 49 (.ptr .int))) (.pr (.bx (.v .int)) (.pr (.bx (.pr (.v .int) (.mv .int 0))) (.bx (.v .bool))))),(3,.bx (.v (.ptr y7))),(4,.bx (.v y1)),(5,.jk 1),(7,.v .bool)])]
 run:=Ab rec n
def C_93 (rec:(Int×(List Int)×((Bool×Int)×(Int×((Int×(List Int))×Bool)))×(Bool×Int×Int×(List (List ((List Int)×(List ByteArray)))))×(List Int)×Unit)->Option ((List Int)×(Unit×(Int×((Int×(List Int))×Bool)))×(Bool×Int×Int×(List (List ((List Int)×(List ByteArray)))))×(List Int)×Bool)):Cx where
 tt:=YaO tt
 T:=YfC [(101,E_90),(140,E_92),(6684811,E_93_of rec)]
 L:=YfB [(4,S_93L4 rec Aa)]
 dep:=λi=>0
 n:=6
 cod:= [(2,.kb 101),(5,.kn 139 1 5)]
def B_93L4:Code:=(Tryz.f139.body.bind (Yaa 4)).getD .skip
def D_93:Code:=Tryz.f139.body.getD .skip
def N_93 (o:X0 [.v .int,.bx (.mv .int 0),.pr (.pz (.fc 49 (.ptr .int))) (.pr (.bx (.v .int)) (.pr (.bx (.pr (.v .int) (.mv .int 0))) (.bx (.v .bool)))),.bx (.v (.ptr y7)),.bx (.v y1),.jk 1]) (r:YE [.v .bool]):(List Int)×(Unit×(Int×((Int×(List Int))×Bool)))×(Bool×Int×Int×(List (List ((List Int)×(List ByteArray)))))×(List Int)×Bool:=(o.2.1,o.2.2.1,o.2.2.2.1,o.2.2.2.2.1,r)
def E_94:Entry where
 params:= [.v (.ptr y7),.v y1,.pr (.pz (.fc 49 (.ptr .int))) (.pr (.bx (.v .int)) (.pr (.bx (.pr (.v .int) (.mv .int 0))) (.bx (.v .bool))))]
 results:= []
 cod:= [(2,.cl 101)]
 B:=(Unit×(Int×((Int×(List Int))×Bool)))
 run:=λa=>Ax a.1 a.2.1 a.2.2
 out:=λb=>((),(),b)
 res:=λb=>()
def C_94:Cx where
 tt:=YaO tt
 T:=YfC [(6684811,E_93 Aa)]
 L:=YfB []
 dep:=λi=>0
 n:=3
 cod:= [(2,.cl 101)]
def D_94:Code:=Tryz.f100.body.getD .skip
def N_94 (o:X0 E_94.params) (_:YE E_94.results):E_94.B:=o.2.2
def E_95:Entry where
 params:= [.v .int,.v y13,.v .int,.v y1,.v (.fc 49 (.ptr .int))]
 results:= [.pr (.v .int) (.mv .int 0),.v .bool]
 B:=(Int×(List Int))×Bool
 run:=λa=>As a.1 a.2.1 a.2.2.1 a.2.2.2.1 a.2.2.2.2
 out:=λb=>((),(),(),(),())
 res:=λb=>(b.1,b.2)
def C_95:Cx:=cx0 tt [(99,E_80),(6684772,E_94)] [] 5
def D_95:Code:=Tryz.f47.body.getD .skip
def N_95 (_:X0 E_95.params) (r:YE E_95.results):E_95.B:=(r.1,r.2)
def E_96:Entry where
 params:= [.v .int,.v y13]
 results:= [.pr (.v .int) (.mv .int 0),.v .bool]
 B:=(Int×(List Int))×Bool
 run:=λa=>Ci a.1 a.2
 out:=λb=>((),())
 res:=λb=>(b.1,b.2)
def C_96:Cx where
 tt:=YaO tt
 T:=YfC [(46,E_74),(48,E_76),(3276847,E_95)]
 L:=YfB []
 dep:=λi=>0
 n:=2
 pre:=λi=>match i with
  |3=> [2]
  |_=> []
 fcl:= [(49,(.ptr .int))]
def D_96:Code:=Tryz.f12.body.getD .skip
def N_96 (_:X0 E_96.params) (r:YE E_96.results):E_96.B:=(r.1,r.2)
def E_97:Entry where
 params:= [.v y12,.v y12]
 results:= [.v .bool]
 B:=Bool
 run:=λa=>Hm a.1 a.2
 out:=λb=>((),())
 res:=λb=>b
def C_97:Cx:=cx0 tt [(9,E_71)] [] 2
def D_97:Code:=Tryz.f14.body.getD .skip
def N_97 (_:X0 E_97.params) (r:YE E_97.results):E_97.B:=r
def E_98:Entry where
 params:= [.v y17]
 results:= [.v .bool]
 B:=Bool
 run:=λa=>Du a
 out:=λb=>()
 res:=λb=>b
def S_98L2 (n:Nat):LoopSpec where
 sh:= [(5,.v y17),(6,.v .int),(7,.v .int)]
 ex:= [(.exit 0,[]),(.ret,[(2,.v .bool)])]
 run:=BH n
def C_98:Cx:=cx0 tt [(92,E_58)] [(2,S_98L2 Aa)] 1
def B_98L2:Code:=(Tryz.f56.body.bind (Yaa 2)).getD .skip
def D_98:Code:=Tryz.f56.body.getD .skip
def N_98 (_:X0 E_98.params) (r:YE E_98.results):E_98.B:=r
def E_99:Entry where
 params:= [.v y2]
 results:= [.v .bool,.v .bool]
 B:=Bool×Bool
 run:=λa=>D0 a
 out:=λb=>()
 res:=λb=>(b.1,b.2)
def C_99:Cx:=cx0 tt [(11,E_50),(38,E_57),(56,E_98)] [] 1
def D_99:Code:=Tryz.f15.body.getD .skip
def N_99 (_:X0 E_99.params) (r:YE E_99.results):E_99.B:=(r.1,r.2)
def E_100:Entry where
 params:= [.v y10]
 results:= [.v .bool]
 B:=Bool
 run:=λa=>FJ a
 out:=λb=>()
 res:=λb=>b
def S_100L2 (n:Nat):LoopSpec where
 sh:= [(0,.v y10),(3,.v .int)]
 ex:= [(.exit 0,[]),(.ret,[(2,.v .bool)])]
 run:=C9 n
def C_100:Cx:=cx0 tt [] [(2,S_100L2 Aa)] 1
def B_100L2:Code:=(Tryz.f57.body.bind (Yaa 2)).getD .skip
def D_100:Code:=Tryz.f57.body.getD .skip
def N_100 (_:X0 E_100.params) (r:YE E_100.results):E_100.B:=r
def E_101:Entry where
 params:= [.v y2]
 results:= [.v .bool,.v .bool]
 B:=Bool×Bool
 run:=λa=>D4 a
 out:=λb=>()
 res:=λb=>(b.1,b.2)
def C_101:Cx:=cx0 tt [(40,E_62),(42,E_69),(43,E_64),(57,E_100)] [] 1
def D_101:Code:=Tryz.f16.body.getD .skip
def N_101 (_:X0 E_101.params) (r:YE E_101.results):E_101.B:=(r.1,r.2)
def E_102:Entry where
 params:= [.v y2,.v y1]
 results:= [.v .bool]
 B:=Bool
 run:=λa=>CO a.1 a.2
 out:=λb=>((),())
 res:=λb=>b
def C_102:Cx:=cx0 tt [(89,E_46)] [] 2
def D_102:Code:=Tryz.f58.body.getD .skip
def N_102 (_:X0 E_102.params) (r:YE E_102.results):E_102.B:=r
def E_103:Entry where
 params:= [.v y1,.v y1]
 results:= [.v .bool]
 B:=Bool
 run:=λa=>FF a.1 a.2
 out:=λb=>((),())
 res:=λb=>b
def S_103L4 (n:Nat):LoopSpec where
 sh:= [(1,.v y1),(12,.v y1),(13,.v .int),(14,.v .int)]
 ex:= [(.exit 0,[]),(.ret,[(4,.v .bool)])]
 run:=C3 n
def C_103:Cx:=cx0 tt [] [(4,S_103L4 Aa)] 2
def B_103L4:Code:=(Tryz.f146.body.bind (Yaa 4)).getD .skip
def D_103:Code:=Tryz.f146.body.getD .skip
def N_103 (_:X0 E_103.params) (r:YE E_103.results):E_103.B:=r
def E_104:Entry where
 params:= [.v y3,.v y1]
 results:= [.v .bool]
 B:=Bool
 run:=λa=>Fw a.1 a.2
 out:=λb=>((),())
 res:=λb=>b
def S_104L2 (n:Nat):LoopSpec where
 sh:= [(1,.v y1),(8,.v y10),(9,.v .int),(10,.v .int)]
 ex:= [(.exit 0,[]),(.ret,[(4,.v .bool)])]
 run:=DC n
def C_104:Cx:=cx0 tt [(146,E_103)] [(2,S_104L2 Aa)] 2
def B_104L2:Code:=(Tryz.f109.body.bind (Yaa 2)).getD .skip
def D_104:Code:=Tryz.f109.body.getD .skip
def N_104 (_:X0 E_104.params) (r:YE E_104.results):E_104.B:=r
def E_105:Entry where
 params:= [.v y2,.v y1]
 results:= [.v .int]
 B:=Int
 run:=λa=>DM a.1 a.2
 out:=λb=>((),())
 res:=λb=>b
def S_105L2 (n:Nat):LoopSpec where
 sh:= [(1,.v y1),(8,.v y9),(9,.v .int),(10,.v .int)]
 ex:= [(.exit 0,[]),(.ret,[(4,.v .int)])]
 run:=BW n
def C_105:Cx:=cx0 tt [(109,E_104),(110,E_91)] [(2,S_105L2 Aa)] 2
def B_105L2:Code:=(Tryz.f59.body.bind (Yaa 2)).getD .skip
def D_105:Code:=Tryz.f59.body.getD .skip
def N_105 (_:X0 E_105.params) (r:YE E_105.results):E_105.B:=r
def E_106:Entry where
 params:= [.v y2,.v y1]
 results:= [.v .bool,.v .bool]
 B:=Bool×Bool
 run:=λa=>Bd a.1 a.2
 out:=λb=>((),())
 res:=λb=>(b.1,b.2)
def C_106:Cx:=cx0 tt [(11,E_50),(58,E_102),(59,E_105)] [] 2
def D_106:Code:=Tryz.f17.body.getD .skip
def N_106 (_:X0 E_106.params) (r:YE E_106.results):E_106.B:=(r.1,r.2)
def E_107:Entry where
 params:= [.v y16]
 results:= [.v y2]
 B:=(Int×Int×(List ((List Int)×Int×(List (List Int)))))
 run:=λa=>Fs a
 out:=λb=>()
 res:=λb=>b
def C_107:Cx:=cx0 tt [(31,E_23)] [] 1
def D_107:Code:=Tryz.f60.body.getD .skip
def N_107 (_:X0 E_107.params) (r:YE E_107.results):E_107.B:=r
def E_108:Entry where
 params:= [.v y16]
 results:= [.v y2]
 B:=(Int×Int×(List ((List Int)×Int×(List (List Int)))))
 run:=λa=>AK a
 out:=λb=>()
 res:=λb=>b
def C_108:Cx:=cx0 tt [(60,E_107)] [] 1
def D_108:Code:=Tryz.f18.body.getD .skip
def N_108 (_:X0 E_108.params) (r:YE E_108.results):E_108.B:=r
def E_109:Entry where
 params:= [.v y10]
 results:= [.mv y1 1]
 B:=(List (List Int))
 run:=λa=>Ep a
 out:=λb=>()
 res:=λb=>b
def S_109L3 (n:Nat):LoopSpec where
 sh:= [(3,.mv y1 1),(7,.v y10),(8,.v .int),(9,.v .int)]
 ex:= [(.exit 0,[(3,.mv y1 1)])]
 run:=Cc n
def C_109:Cx where
 tt:=YaO tt
 T:=YfC [(70,E_89)]
 L:=YfB [(3,S_109L3 Aa)]
 dep:=λi=>match i with
  |6=>1
  |16=>1
  |17=>1
  |_=>0
 n:=1
def B_109L3:Code:=(Tryz.f147.body.bind (Yaa 3)).getD .skip
def D_109:Code:=Tryz.f147.body.getD .skip
def N_109 (_:X0 E_109.params) (r:YE E_109.results):E_109.B:=r
def E_110:Entry where
 params:= [.v y3]
 results:= [.pr (.v .int) (.mv y1 1)]
 B:=(Int×(List (List Int)))
 run:=λa=>Eb a
 out:=λb=>()
 res:=λb=>b
def C_110:Cx:=cx0 tt [(147,E_109)] [] 1
def D_110:Code:=Tryz.f111.body.getD .skip
def N_110 (_:X0 E_110.params) (r:YE E_110.results):E_110.B:=r
def E_111:Entry where
 params:= [.v y9]
 results:= [.mv y0 2]
 B:=(List ((List Int)×Int×(List (List Int))))
 run:=λa=>CC a
 out:=λb=>()
 res:=λb=>b
def S_111L3 (n:Nat):LoopSpec where
 sh:= [(3,.mv y0 2),(7,.v y9),(8,.v .int),(9,.v .int)]
 ex:= [(.exit 0,[(3,.mv y0 2)])]
 run:=CR n
def C_111:Cx where
 tt:=YaO tt
 T:=YfC [(70,E_89),(111,E_110)]
 L:=YfB [(3,S_111L3 Aa)]
 dep:=λi=>match i with
  |6=>2
  |21=>2
  |22=>2
  |_=>0
 n:=1
def B_111L3:Code:=(Tryz.f61.body.bind (Yaa 3)).getD .skip
def D_111:Code:=Tryz.f61.body.getD .skip
def N_111 (_:X0 E_111.params) (r:YE E_111.results):E_111.B:=r
def E_112:Entry where
 params:= [.io y1 1,.v (.fn 135)]
 results:= []
 B:=List (List Int)
 run:=λa=>B0 a.1 a.2
 out:=λb=>(b,())
 res:=λb=>()
def D_112:Code:=Tryz.f148.body.getD .skip
def E_113:Entry where
 params:= [.v y10]
 results:= [.mv y1 1]
 B:=(List (List Int))
 run:=λa=>Ev a
 out:=λb=>()
 res:=λb=>b
def C_113:Cx:=cx0 tt [(147,E_109),(8913044,E_112)] [] 1
def D_113:Code:=Tryz.f113.body.getD .skip
def N_113 (_:X0 E_113.params) (r:YE E_113.results):E_113.B:=r
def E_114:Entry where
 params:= [.mv y1 1]
 results:= [.mv y1 1]
 B:=List (List Int)
 run:=λa=>Fj a
 out:=λb=>()
 res:=λb=>b
def D_114:Code:=Tryz.f112.body.getD .skip
def E_115:Entry where
 params:= [.v .int,.v y10]
 results:= [.pr (.v .int) (.mv y1 1)]
 B:=(Int×(List (List Int)))
 run:=λa=>Et a.1 a.2
 out:=λb=>((),())
 res:=λb=>b
def C_115:Cx:=cx0 tt [(112,E_114),(113,E_113)] [] 2
def D_115:Code:=Tryz.f62.body.getD .skip
def N_115 (_:X0 E_115.params) (r:YE E_115.results):E_115.B:=r
def E_116:Entry where
 params:= [.v y2,.mv y0 2]
 results:= [.pr (.v .int) (.pr (.v .int) (.mv y0 2)),.v .bool]
 B:=(Int×(Int×(List ((List Int)×Int×(List (List Int))))))×Bool
 run:=λa=>EU a.1 a.2
 out:=λb=>((),())
 res:=λb=>(b.1,b.2)
def C_116:Cx:=cx0 tt [] [] 2
def D_116:Code:=Tryz.f63.body.getD .skip
def N_116 (_:X0 E_116.params) (r:YE E_116.results):E_116.B:=(r.1,r.2)
def E_117:Entry where
 params:= [.v y2]
 results:= [.pr (.v .int) (.pr (.v .int) (.mv y0 2)),.v .bool]
 B:=(Int×(Int×(List ((List Int)×Int×(List (List Int))))))×Bool
 run:=λa=>Bc a
 out:=λb=>()
 res:=λb=>(b.1,b.2)
def S_117L17 (n:Nat):LoopSpec where
 sh:= [(1,.bx (.v y2)),(2,.bx (.pr (.v .int) (.pr (.v .int) (.mv y0 2)))),(4,.mv y0 2),(6,.bx (.v y0)),(7,.v .int),(8,.v .int),(9,.mv y1 1),(18,.v y9),(19,.v .int),(20,.v .int),(35,.v .int),(36,.v .int),(51,.v y10),(52,.v .int),(53,.v .int)]
 ex:= [(.exit 6,[(1,.bx (.v y2)),(2,.bx (.pr (.v .int) (.pr (.v .int) (.mv y0 2)))),(4,.mv y0 2),(6,.bx (.v y0)),(7,.v .int),(8,.v .int),(9,.mv y1 1),(18,.v y9),(19,.v .int),(20,.v .int),(35,.v .int),(36,.v .int)])]
 run:=Bu n
def S_117L13 (n:Nat):LoopSpec where
 sh:= [(1,.bx (.v y2)),(2,.bx (.pr (.v .int) (.pr (.v .int) (.mv y0 2)))),(4,.mv y0 2),(6,.bx (.v y0)),(7,.v .int),(8,.v .int),(18,.v y9),(19,.v .int),(20,.v .int),(35,.v .int),(36,.v .int)]
 ex:= [(.exit 4,[(1,.bx (.v y2)),(2,.bx (.pr (.v .int) (.pr (.v .int) (.mv y0 2)))),(4,.mv y0 2),(6,.bx (.v y0)),(18,.v y9),(19,.v .int),(20,.v .int),(35,.v .int),(36,.v .int)])]
 run:=Cl n
def S_117L10 (n:Nat):LoopSpec where
 sh:= [(1,.bx (.v y2)),(2,.bx (.pr (.v .int) (.pr (.v .int) (.mv y0 2)))),(4,.mv y0 2),(6,.bx (.v y0)),(18,.v y9),(19,.v .int),(20,.v .int),(35,.v .int),(36,.v .int)]
 ex:= [(.exit 2,[(1,.bx (.v y2)),(2,.bx (.pr (.v .int) (.pr (.v .int) (.mv y0 2)))),(4,.mv y0 2),(18,.v y9),(19,.v .int),(20,.v .int)])]
 run:=AI n
def S_117L5 (n:Nat):LoopSpec where
 sh:= [(1,.bx (.v y2)),(2,.bx (.pr (.v .int) (.pr (.v .int) (.mv y0 2)))),(4,.mv y0 2),(18,.v y9),(19,.v .int),(20,.v .int)]
 ex:= [(.exit 0,[(1,.bx (.v y2)),(2,.bx (.pr (.v .int) (.pr (.v .int) (.mv y0 2)))),(4,.mv y0 2)])]
 run:=Ba n
def C_117:Cx where
 tt:=YaO tt
 T:=YfC [(11,E_50),(61,E_111),(62,E_115),(63,E_116)]
 L:=YfB [(17,S_117L17 Aa),(13,S_117L13 Aa),(10,S_117L10 Aa),(5,S_117L5 Aa)]
 dep:=λi=>match i with
  |16=>2
  |32=>2
  |48=>1
  |67=>1
  |68=>1
  |85=>2
  |86=>2
  |_=>0
 n:=1
def B_117L17:Code:=(Tryz.f19.body.bind (Yaa 17)).getD .skip
def B_117L13:Code:=(Tryz.f19.body.bind (Yaa 13)).getD .skip
def B_117L10:Code:=(Tryz.f19.body.bind (Yaa 10)).getD .skip
def B_117L5:Code:=(Tryz.f19.body.bind (Yaa 5)).getD .skip
def D_117:Code:=Tryz.f19.body.getD .skip
def N_117 (_:X0 E_117.params) (r:YE E_117.results):E_117.B:=(r.1,r.2)
def E_118:Entry where
 params:= [.v y9]
 results:= [.mv y0 0]
 B:=(List ((List Int)×Int×(List (List Int))))
 run:=λa=>F4 a
 out:=λb=>()
 res:=λb=>b
def S_118L7 (n:Nat):LoopSpec where
 sh:= [(0,.v y9),(3,.mv y0 0),(4,.v .int),(5,.bx (.pr (.mv .int 0) (.pr (.v .int) (.mv y1 0)))),(6,.v .int)]
 ex:= [(.exit 2,[(0,.v y9),(3,.mv y0 0),(4,.v .int),(5,.bx (.pr (.mv .int 0) (.pr (.v .int) (.mv y1 0))))])]
 run:=CJ n
def S_118L3 (n:Nat):LoopSpec where
 sh:= [(0,.v y9),(3,.mv y0 0),(4,.v .int)]
 ex:= [(.exit 0,[(3,.mv y0 0)])]
 run:=CI n
def C_118:Cx:=cx0 tt [(114,E_6)] [(7,S_118L7 Aa),(3,S_118L3 Aa)] 1
def B_118L7:Code:=(Tryz.f64.body.bind (Yaa 7)).getD .skip
def B_118L3:Code:=(Tryz.f64.body.bind (Yaa 3)).getD .skip
def D_118:Code:=Tryz.f64.body.getD .skip
def N_118 (_:X0 E_118.params) (r:YE E_118.results):E_118.B:=r
def E_119:Entry where
 params:= [.v y1,.v y1]
 results:= [.mv .int 0]
 B:=(List Int)
 run:=λa=>HN a.1 a.2
 out:=λb=>((),())
 res:=λb=>b
def S_119L3 (n:Nat):LoopSpec where
 sh:= [(0,.v y1),(1,.v y1),(5,.mv .int 0),(6,.v .int)]
 ex:= [(.exit 0,[(5,.mv .int 0)])]
 run:=F7 n
def C_119:Cx:=cx0 tt [] [(3,S_119L3 Aa)] 2
def B_119L3:Code:=(Tryz.f116.body.bind (Yaa 3)).getD .skip
def D_119:Code:=Tryz.f116.body.getD .skip
def N_119 (_:X0 E_119.params) (r:YE E_119.results):E_119.B:=r
def E_120:Entry where
 params:= [.v y3,.v y1]
 results:= [.v y3]
 B:=(Int×(List (List Int)))
 run:=λa=>D5 a.1 a.2
 out:=λb=>((),())
 res:=λb=>b
def S_120L3 (n:Nat):LoopSpec where
 sh:= [(1,.v y1),(2,.bx (.v y3)),(4,.bx (.pr (.v .int) (.mv y1 0))),(5,.bx (.v y3)),(6,.v .int)]
 ex:= [(.exit 0,[(4,.bx (.pr (.v .int) (.mv y1 0))),(5,.bx (.v y3))])]
 run:=B3 n
def C_120:Cx:=cx0 tt [(115,E_13),(116,E_119)] [(3,S_120L3 Aa)] 2
def B_120L3:Code:=(Tryz.f65.body.bind (Yaa 3)).getD .skip
def D_120:Code:=Tryz.f65.body.getD .skip
def N_120 (_:X0 E_120.params) (r:YE E_120.results):E_120.B:=r
def E_121:Entry where
 params:= [.v y2]
 results:= [.v y2,.v .bool]
 B:=(Int×Int×(List ((List Int)×Int×(List (List Int)))))×Bool
 run:=λa=>Hq a
 out:=λb=>()
 res:=λb=>(b.1,b.2)
def C_121:Cx:=cx0 tt [(40,E_62)] [] 1
def D_121:Code:=Tryz.f66.body.getD .skip
def N_121 (_:X0 E_121.params) (r:YE E_121.results):E_121.B:=(r.1,r.2)
def E_122:Entry where
 params:= [.v y2]
 results:= [.v y2,.v .bool]
 B:=(Int×Int×(List ((List Int)×Int×(List (List Int)))))×Bool
 run:=λa=>Be a
 out:=λb=>()
 res:=λb=>(b.1,b.2)
def S_122L14 (n:Nat):LoopSpec where
 sh:= [(1,.bx (.v y2)),(2,.bx (.pr (.v .int) (.pr (.v .int) (.mv y0 0)))),(4,.bx (.pr (.v .int) (.pr (.v .int) (.mv y0 0)))),(5,.v .int),(6,.bx (.v y0)),(7,.v .int),(8,.v .int)]
 ex:= [(.exit 4,[(1,.bx (.v y2)),(2,.bx (.pr (.v .int) (.pr (.v .int) (.mv y0 0)))),(4,.bx (.pr (.v .int) (.pr (.v .int) (.mv y0 0)))),(5,.v .int),(6,.bx (.v y0)),(7,.v .int)])]
 run:=Cm n
def S_122L11 (n:Nat):LoopSpec where
 sh:= [(1,.bx (.v y2)),(2,.bx (.pr (.v .int) (.pr (.v .int) (.mv y0 0)))),(4,.bx (.pr (.v .int) (.pr (.v .int) (.mv y0 0)))),(5,.v .int),(6,.bx (.v y0)),(7,.v .int)]
 ex:= [(.exit 2,[(1,.bx (.v y2)),(2,.bx (.pr (.v .int) (.pr (.v .int) (.mv y0 0)))),(4,.bx (.pr (.v .int) (.pr (.v .int) (.mv y0 0)))),(5,.v .int)])]
 run:=AJ n
def S_122L5 (n:Nat):LoopSpec where
 sh:= [(1,.bx (.v y2)),(2,.bx (.pr (.v .int) (.pr (.v .int) (.mv y0 0)))),(4,.bx (.pr (.v .int) (.pr (.v .int) (.mv y0 0)))),(5,.v .int)]
 ex:= [(.exit 0,[(2,.bx (.pr (.v .int) (.pr (.v .int) (.mv y0 0)))),(4,.bx (.pr (.v .int) (.pr (.v .int) (.mv y0 0))))])]
 run:=BL n
def C_122:Cx:=cx0 tt [(40,E_62),(64,E_118),(65,E_120),(66,E_121)] [(14,S_122L14 Aa),(11,S_122L11 Aa),(5,S_122L5 Aa)] 1
def B_122L14:Code:=(Tryz.f20.body.bind (Yaa 14)).getD .skip
def B_122L11:Code:=(Tryz.f20.body.bind (Yaa 11)).getD .skip
def B_122L5:Code:=(Tryz.f20.body.bind (Yaa 5)).getD .skip
def D_122:Code:=Tryz.f20.body.getD .skip
def N_122 (_:X0 E_122.params) (r:YE E_122.results):E_122.B:=(r.1,r.2)
def E_123:Entry where
 params:= [.v y2]
 results:= [.v (.ptr y6)]
 B:=(Bool×Int×(List (List (List Int)))×(List (List (List ByteArray))))
 run:=λa=>Eu a
 out:=λb=>()
 res:=λb=>b
def S_123L7 (n:Nat):LoopSpec where
 sh:= [(3,.bx (.pr (.v .int) (.pr (.mv y10 1) (.mv y18 1)))),(5,.bx (.v y0)),(6,.v .int),(20,.v y9),(21,.v .int),(22,.v .int),(27,.v y1),(28,.v .int),(29,.v .int)]
 ex:= [(.exit 2,[(3,.bx (.pr (.v .int) (.pr (.mv y10 1) (.mv y18 1)))),(5,.bx (.v y0)),(6,.v .int),(20,.v y9),(21,.v .int),(22,.v .int)])]
 run:=BP n
def S_123L3 (n:Nat):LoopSpec where
 sh:= [(3,.bx (.pr (.v .int) (.pr (.mv y10 1) (.mv y18 1)))),(20,.v y9),(21,.v .int),(22,.v .int)]
 ex:= [(.exit 0,[(3,.bx (.pr (.v .int) (.pr (.mv y10 1) (.mv y18 1))))])]
 run:=BO n
def C_123:Cx where
 tt:=YaO tt
 T:=YfC [(136,E_78)]
 L:=YfB [(7,S_123L7 Aa),(3,S_123L3 Aa)]
 dep:=λi=>match i with
  |13=>1
  |16=>1
  |_=>0
 n:=1
 fine:=true
def B_123L7:Code:=(Tryz.f117.body.bind (Yaa 7)).getD .skip
def B_123L3:Code:=(Tryz.f117.body.bind (Yaa 3)).getD .skip
def D_123:Code:=Tryz.f117.body.getD .skip
def N_123 (_:X0 E_123.params) (r:YE E_123.results):E_123.B:=r
def E_124:Entry where
 params:= [.v y1]
 results:= [.nv .int 0]
 B:=(Bool×(List Int))
 run:=λa=>Hk a
 out:=λb=>()
 res:=λb=>b
def C_124:Cx:=cx0 tt [] [] 1
def D_124:Code:=Tryz.f70.body.getD .skip
def N_124 (_:X0 E_124.params) (r:YE E_124.results):E_124.B:=r
def E_125:Entry where
 params:= [.v y1,.bx (.nv .int 0)]
 results:= [.v .bool]
 B:=(Bool×(List Int))×Bool
 run:=λa=>CD a.1 a.2
 out:=λb=>((),b.1)
 res:=λb=>b.2
def C_125:Cx:=cx0 tt [(70,E_124)] [] 2
def D_125:Code:=Tryz.f119.body.getD .skip
def N_125 (o:X0 E_125.params) (r:YE E_125.results):E_125.B:=(o.2,r)
def E_126_of (rec:(Int×(List Int)×(Bool×(List Int))×(Bool×Int×(List (List (List Int)))×(List (List (List ByteArray))))×(List Int)×Unit)->Option ((List Int)×(Bool×(List Int))×(Bool×Int×(List (List (List Int)))×(List (List (List ByteArray))))×(List Int)×Bool)):Entry where
 params:= [.v .int,.bx (.mv .int 0),.bx (.nv .int 0),.bx (.v (.ptr y6)),.bx (.v y1),.jk 1]
 results:= [.v .bool]
 cod:= [(2,.kb 119),(5,.kn 150 1 5)]
 B:=(List Int)×(Bool×(List Int))×(Bool×Int×(List (List (List Int)))×(List (List (List ByteArray))))×(List Int)×Bool
 run:=rec
 out:=λb=>((),b.1,b.2.1,b.2.2.1,b.2.2.2.1,())
 res:=λb=>b.2.2.2.2
def E_126 (d:Nat):Entry:=E_126_of (Am d)
def S_126L10 (rec:(Int×(List Int)×(Bool×(List Int))×(Bool×Int×(List (List (List Int)))×(List (List (List ByteArray))))×(List Int)×Unit)->Option ((List Int)×(Bool×(List Int))×(Bool×Int×(List (List (List Int)))×(List (List (List ByteArray))))×(List Int)×Bool)) (n:Nat):LoopSpec where
 sh:= [(0,.v .int),(1,.bx (.mv .int 0)),(2,.bx (.nv .int 0)),(3,.bx (.v (.ptr y6))),(4,.bx (.v y1)),(5,.jk 1),(8,.v .int),(9,.v .bool),(50,.v y10),(51,.v .int),(52,.v .int)]
 ex:= [(.exit 2,[(0,.v .int),(1,.bx (.mv .int 0)),(2,.bx (.nv .int 0)),(3,.bx (.v (.ptr y6))),(4,.bx (.v y1)),(5,.jk 1),(8,.v .int),(9,.v .bool)])]
 run:=Ak rec n
def S_126L4 (rec:(Int×(List Int)×(Bool×(List Int))×(Bool×Int×(List (List (List Int)))×(List (List (List ByteArray))))×(List Int)×Unit)->Option ((List Int)×(Bool×(List Int))×(Bool×Int×(List (List (List Int)))×(List (List (List ByteArray))))×(List Int)×Bool)) (n:Nat):LoopSpec where
 sh:= [(0,.v .int),(1,.bx (.mv .int 0)),(2,.bx (.nv .int 0)),(3,.bx (.v (.ptr y6))),(4,.bx (.v y1)),(5,.jk 1),(8,.v .int)]
 ex:= [(.exit 0,[(1,.bx (.mv .int 0)),(2,.bx (.nv .int 0)),(3,.bx (.v (.ptr y6))),(4,.bx (.v y1)),(5,.jk 1)]),(.ret,[(1,.bx (.mv .int 0)),(2,.bx (.nv .int 0)),(3,.bx (.v (.ptr y6))),(4,.bx (.v y1)),(5,.jk 1),(7,.v .bool)])]
 run:=Ai rec n
def C_126 (rec:(Int×(List Int)×(Bool×(List Int))×(Bool×Int×(List (List (List Int)))×(List (List (List ByteArray))))×(List Int)×Unit)->Option ((List Int)×(Bool×(List Int))×(Bool×Int×(List (List (List Int)))×(List (List (List ByteArray))))×(List Int)×Bool)):Cx where
 tt:=YaO tt
 T:=YfC [(110,E_91),(119,E_125),(138,E_77),(7864470,E_126_of rec)]
 L:=YfB [(10,S_126L10 rec Aa),(4,S_126L4 rec Aa)]
 dep:=λi=>0
 n:=6
 cod:= [(2,.kb 119),(5,.kn 150 1 5)]
def B_126L10:Code:=(Tryz.f150.body.bind (Yaa 10)).getD .skip
def B_126L4:Code:=(Tryz.f150.body.bind (Yaa 4)).getD .skip
def D_126:Code:=Tryz.f150.body.getD .skip
def N_126 (o:X0 [.v .int,.bx (.mv .int 0),.bx (.nv .int 0),.bx (.v (.ptr y6)),.bx (.v y1),.jk 1]) (r:YE [.v .bool]):(List Int)×(Bool×(List Int))×(Bool×Int×(List (List (List Int)))×(List (List (List ByteArray))))×(List Int)×Bool:=(o.2.1,o.2.2.1,o.2.2.2.1,o.2.2.2.2.1,r)
def E_127:Entry where
 params:= [.v (.ptr y6),.v y1,.bx (.nv .int 0)]
 results:= []
 cod:= [(2,.cl 119)]
 B:=(Bool×(List Int))
 run:=λa=>BY a.1 a.2.1 a.2.2
 out:=λb=>((),(),b)
 res:=λb=>()
def C_127:Cx where
 tt:=YaO tt
 T:=YfC [(7864470,E_126 Aa)]
 L:=YfB []
 dep:=λi=>0
 n:=3
 cod:= [(2,.cl 119)]
def D_127:Code:=Tryz.f118.body.getD .skip
def N_127 (o:X0 E_127.params) (_:YE E_127.results):E_127.B:=o.2.2
def E_128:Entry where
 params:= [.v y2,.v y1]
 results:= [.nv .int 0]
 B:=(Bool×(List Int))
 run:=λa=>Ed a.1 a.2
 out:=λb=>((),())
 res:=λb=>b
def C_128:Cx:=cx0 tt [(117,E_123),(7864438,E_127)] [] 2
def D_128:Code:=Tryz.f67.body.getD .skip
def N_128 (_:X0 E_128.params) (r:YE E_128.results):E_128.B:=r
def E_129:Entry where
 params:= [.v y2,.v y1]
 results:= [.mv .int 0,.v .bool]
 B:=(List Int)×Bool
 run:=λa=>AM a.1 a.2
 out:=λb=>((),())
 res:=λb=>(b.1,b.2)
def S_129L4 (n:Nat):LoopSpec where
 sh:= [(1,.v y1),(2,.bx (.v y2)),(20,.v y1),(21,.v .int),(22,.v .int)]
 ex:= [(.exit 0,[(1,.v y1),(2,.bx (.v y2))]),(.ret,[(4,.mv .int 0),(5,.v .bool)])]
 run:=Bv n
def C_129:Cx:=cx0 tt [(11,E_50),(67,E_128)] [(4,S_129L4 Aa)] 2
def B_129L4:Code:=(Tryz.f21.body.bind (Yaa 4)).getD .skip
def D_129:Code:=Tryz.f21.body.getD .skip
def N_129 (_:X0 E_129.params) (r:YE E_129.results):E_129.B:=(r.1,r.2)
def E_130:Entry where
 params:= [.v y16]
 results:= [.v .bool]
 B:=Bool
 run:=λa=>Gy a
 out:=λb=>()
 res:=λb=>b
def S_130L14 (n:Nat):LoopSpec where
 sh:= [(0,.v y16),(3,.bx (.v y2)),(9,.mv y3 0),(10,.v .int),(11,.v .bool),(12,.v .int)]
 ex:= [(.exit 2,[(0,.v y16),(3,.bx (.v y2)),(9,.mv y3 0),(10,.v .int),(11,.v .bool)])]
 run:=AO n
def S_130L10 (n:Nat):LoopSpec where
 sh:= [(0,.v y16),(3,.bx (.v y2)),(9,.mv y3 0),(10,.v .int)]
 ex:= [(.exit 0,[(0,.v y16),(3,.bx (.v y2)),(9,.mv y3 0)])]
 run:=Bb n
def S_130L41 (n:Nat):LoopSpec where
 sh:= [(25,.bx (.v y2)),(26,.bx (.pr (.v .int) (.pr (.v .int) (.mv y0 2)))),(30,.mv .int 0),(31,.v .int)]
 ex:= [(.exit 4,[(25,.bx (.v y2)),(26,.bx (.pr (.v .int) (.pr (.v .int) (.mv y0 2)))),(30,.mv .int 0)])]
 run:=Aw n
def C_130:Cx:=cx0 tt [(5,E_1),(6,E_44),(7,E_60),(8,E_70),(9,E_71),(10,E_72),(11,E_50),(12,E_96),(13,E_43),(14,E_97),(15,E_99),(16,E_101),(17,E_106),(18,E_108),(19,E_117),(20,E_122),(21,E_129)] [(14,S_130L14 Aa),(10,S_130L10 Aa),(41,S_130L41 Aa)] 1
def B_130L14:Code:=(Tryz.f3.body.bind (Yaa 14)).getD .skip
def B_130L10:Code:=(Tryz.f3.body.bind (Yaa 10)).getD .skip
def B_130L41:Code:=(Tryz.f3.body.bind (Yaa 41)).getD .skip
def D_130:Code:=Tryz.f3.body.getD .skip
def N_130 (_:X0 E_130.params) (r:YE E_130.results):E_130.B:=r
end
end T
