/- Contexts of the typed functions; no conditions. -/
import Derived.Test.YtdbnhgpajhaleaaGreatV5
import Derived.Test.YtdbnhgpajhaleaaGreatProg
import Derived.Test.YtdbnhgpajhaleaaGreatPFnPairs
import Derived.KernelRfl
set_option linter.all false
set_option linter.unusedVariables false
set_option maxRecDepth 10000
open Go Go.Va Go.Proofs
namespace T
noncomputable section
abbrev y0:Ty:= .pair (.slice .int) (.pair .int (.slice (.slice .int)))
abbrev y1:Ty:= .pair .int (.pair .int (.slice y0))
abbrev y2:Ty:= .slice .int
abbrev y3:Ty:= .pair .int (.slice y2)
abbrev y4:Ty:= .slice (.slice .bool)
abbrev y5:Ty:= .pair (.slice (.num .u8)) (.pair .int (.num .u64))
abbrev y6:Ty:= .pair .int .int
abbrev y7:Ty:= .pair .int (.pair (.slice (.slice y2)) (.slice (.slice .smap)))
abbrev y8:Ty:= .pair .int (.pair .int (.slice (.slice (.pair y2 .smap))))
abbrev y9:Ty:= .pair .int (.pair .int .bool)
abbrev y10:Ty:= .slice y0
abbrev y11:Ty:= .slice y4
abbrev y12:Ty:= .slice y3
abbrev y13:Ty:= .slice y6
abbrev y14:Ty:= .slice (.pair y2 .smap)
abbrev y15:Ty:= .slice y2
abbrev y16:Ty:= .slice y10
abbrev y17:Ty:= .slice .bool
abbrev y18:Ty:= .slice y11
abbrev y19:Ty:= .slice (.num .u8)
abbrev y20:Ty:= .slice .smap
abbrev y21:Ty:= .pair .int y2
abbrev y22:Ty:= .pair .int (.pair .int (.pair .bool (.num .u8)))
def tt:List (Nat×TI):= [
 (2,{ ty:= .int }),
 (3,{ ty:= .int }),
 (4,{ ty:= .bool }),
 (5,{ ty:=(.num .u8) }),
 (6,{ ty:=(.num .u8) }),
 (7,{ ty:=y22,fields:= [2,3,4,6] }),
 (8,{ ty:=y22,fields:= [2,3,4,6] }),
 (9,{ ty:= .str }),
 (22,{ ty:=y19,elem:=5 }),
 (24,{ ty:=y10,elem:=45 }),
 (26,{ ty:=y1,fields:= [3,3,24] }),
 (28,{ ty:=(.slice y13),elem:=31 }),
 (31,{ ty:=y13,elem:=32 }),
 (32,{ ty:=y6,fields:= [3,3],arr:=true }),
 (33,{ ty:=y2,elem:=3 }),
 (40,{ ty:=y12,elem:=43 }),
 (41,{ ty:=y15,elem:=33 }),
 (43,{ ty:=y3,fields:= [3,41] }),
 (45,{ ty:=y0,fields:= [33,43] }),
 (48,{ ty:=y21,fields:= [3,33] }),
 (55,{ ty:=y11,elem:=59 }),
 (58,{ ty:=y17,elem:=4 }),
 (59,{ ty:=y4,elem:=58 }),
 (61,{ ty:=y18,elem:=55 }),
 (68,{ ty:=(.pair y15 y9),fields:= [41,3,3,4] }),
 (74,{ ty:=(.op false) }),
 (78,{ ty:=(.num .u64) }),
 (80,{ ty:=y5,fields:= [22,3,78] }),
 (82,{ ty:=(.op false) }),
 (90,{ ty:=(.op true) }),
 (95,{ ty:=y16,elem:=24 }),
 (98,{ ty:=(.op true) }),
 (101,{ ty:=(.pair y15 y6),fields:= [41,3,3] }),
 (115,{ ty:=(.slice y15),elem:=41 }),
 (116,{ ty:=(.slice y20),elem:=119 }),
 (118,{ ty:=y7,fields:= [3,115,116] }),
 (119,{ ty:=y20,elem:=120 }),
 (120,{ ty:= .smap }),
 (123,{ ty:=(.slice y14),elem:=126 }),
 (125,{ ty:=y8,fields:= [3,3,123] }),
 (126,{ ty:=y14,elem:=128 }),
 (128,{ ty:=(.pair y2 .smap),fields:= [33,120] }),
 (130,{ ty:=y16,elem:=140 }),
 (138,{ ty:=(.num .u64) }),
 (140,{ ty:=y10,elem:=142 }),
 (142,{ ty:=y0,fields:= [33,43] })]
theorem tabT:Yhd Tryz.prog tt=true:=by kernel_rfl
theorem mixT:Tryz.prog.follows .mixedOrders=true:=by kernel_rfl
def E_1:Entry where
 params:= [.v y19]
 results:= [.v .bool]
 B:=Bool
 run:=λa=>HW a
 out:=λb=>()
 res:=λb=>b
def C_1:Cx:=cx0 tt [] [] 1
def D_1:Code:=Tryz.f4.body.getD .skip
def N_1 (_:X0 E_1.params) (r:YE E_1.results):E_1.B:=r
def E_2:Entry where
 params:= [.bx (.v y5)]
 results:= [.v .int]
 B:=((List Int)×Int×Int)×Int
 run:=λa=>CE a
 out:=λb=>b.1
 res:=λb=>b.2
def C_2:Cx:=cx0 tt [] [] 1
def D_2:Code:=Tryz.f97.body.getD .skip
def N_2 (o:X0 E_2.params) (r:YE E_2.results):E_2.B:=(o,r)
def E_3:Entry where
 params:= [.bx (.v y5),.v .int]
 results:= [.v .int]
 B:=((List Int)×Int×Int)×Int
 run:=λa=>Af a.1 a.2
 out:=λb=>(b.1,())
 res:=λb=>b.2
def C_3:Cx:=cx0 tt [(97,E_2)] [] 2
def D_3:Code:=Tryz.f73.body.getD .skip
def N_3 (o:X0 E_3.params) (r:YE E_3.results):E_3.B:=(o.1,r)
def E_4:Entry where
 params:= [.bx (.v y5),.v .int]
 results:= [.v .bool]
 B:=((List Int)×Int×Int)×Bool
 run:=λa=>AP a.1 a.2
 out:=λb=>(b.1,())
 res:=λb=>b.2
def C_4:Cx:=cx0 tt [(73,E_3)] [] 2
def D_4:Code:=Tryz.f72.body.getD .skip
def N_4 (o:X0 E_4.params) (r:YE E_4.results):E_4.B:=(o.1,r)
def E_5:Entry where
 params:= [.v .int]
 results:= [.v .int,.mv y3 0]
 B:=Int×(List (Int×(List (List Int))))
 run:=λa=>Ej a
 out:=λb=>()
 res:=λb=>(b.1,b.2)
def C_5:Cx:=cx0 tt [] [] 1
def D_5:Code:=Tryz.f91.body.getD .skip
def N_5 (_:X0 E_5.params) (r:YE E_5.results):E_5.B:=(r.1,r.2)
def E_6:Entry where
 params:= [.v y2]
 results:= [.mv .int 0]
 B:=(List Int)
 run:=λa=>B1 a
 out:=λb=>()
 res:=λb=>b
def C_6:Cx:=cx0 tt [] [] 1
def D_6:Code:=Tryz.f84.body.getD .skip
def N_6 (_:X0 E_6.params) (r:YE E_6.results):E_6.B:=r
def E_7:Entry where
 params:= [.bx (.v y5),.v y2]
 results:= [.v .int]
 B:=((List Int)×Int×Int)×Int
 run:=λa=>Ad a.1 a.2
 out:=λb=>(b.1,())
 res:=λb=>b.2
def C_7:Cx:=cx0 tt [(73,E_3)] [] 2
def D_7:Code:=Tryz.f69.body.getD .skip
def N_7 (o:X0 E_7.params) (r:YE E_7.results):E_7.B:=(o.1,r)
def E_8:Entry where
 params:= [.v .int,.v .int,.v .int]
 results:= [.v .bool]
 B:=Bool
 run:=λa=>C3 a.1 a.2.1 a.2.2
 out:=λb=>((),(),())
 res:=λb=>b
def C_8:Cx:=cx0 tt [] [] 3
def D_8:Code:=Tryz.f44.body.getD .skip
def N_8 (_:X0 E_8.params) (r:YE E_8.results):E_8.B:=r
def E_9:Entry where
 params:= [.v .int]
 results:= [.v .bool]
 B:=Bool
 run:=λa=>FY a
 out:=λb=>()
 res:=λb=>b
def C_9:Cx:=cx0 tt [(44,E_8)] [] 1
def D_9:Code:=Tryz.f92.body.getD .skip
def N_9 (_:X0 E_9.params) (r:YE E_9.results):E_9.B:=r
def E_10:Entry where
 params:= [.v y2,.v y2]
 results:= [.v .bool]
 B:=Bool
 run:=λa=>FW a.1 a.2
 out:=λb=>((),())
 res:=λb=>b
def S_10L2 (n:Nat):LoopSpec where
 sh:= [(0,.v y2),(1,.v y2),(5,.v .int)]
 ex:= [(.exit 0,[]),(.ret,[(4,.v .bool)])]
 run:=Dx n
def C_10:Cx:=cx0 tt [] [(2,S_10L2 Aa)] 2
def B_10L2:Code:=(Tryz.f101.body.bind (Yaa 2)).getD .skip
def D_10:Code:=Tryz.f101.body.getD .skip
def N_10 (_:X0 E_10.params) (r:YE E_10.results):E_10.B:=r
def E_11:Entry where
 params:= [.v y2,.v y2]
 results:= [.v .bool]
 B:=Bool
 run:=λa=>FU a.1 a.2
 out:=λb=>((),())
 res:=λb=>b
def S_11L4 (n:Nat):LoopSpec where
 sh:= [(0,.v y2),(1,.v y2),(5,.v .int)]
 ex:= [(.exit 0,[]),(.ret,[(4,.v .bool)])]
 run:=Du n
def C_11:Cx:=cx0 tt [] [(4,S_11L4 Aa)] 2
def B_11L4:Code:=(Tryz.f107.body.bind (Yaa 4)).getD .skip
def D_11:Code:=Tryz.f107.body.getD .skip
def N_11 (_:X0 E_11.params) (r:YE E_11.results):E_11.B:=r
def E_12:Entry where
 params:= [.v y15,.v y2]
 results:= [.v .int,.v .bool]
 B:=Int×Bool
 run:=λa=>Es a.1 a.2
 out:=λb=>((),())
 res:=λb=>(b.1,b.2)
def S_12L2 (n:Nat):LoopSpec where
 sh:= [(0,.v y15),(1,.v y2),(6,.v .int),(7,.v .int)]
 ex:= [(.exit 0,[(0,.v y15),(1,.v y2),(6,.v .int)])]
 run:=C4 n
def C_12:Cx:=cx0 tt [(101,E_10),(107,E_11)] [(2,S_12L2 Aa)] 2
def B_12L2:Code:=(Tryz.f106.body.bind (Yaa 2)).getD .skip
def D_12:Code:=Tryz.f106.body.getD .skip
def N_12 (_:X0 E_12.params) (r:YE E_12.results):E_12.B:=(r.1,r.2)
def E_13:Entry where
 params:= [.v y15,.v y2]
 results:= [.v y15]
 B:=(List (List Int))
 run:=λa=>Gr a.1 a.2
 out:=λb=>((),())
 res:=λb=>b
def C_13:Cx:=cx0 tt [(106,E_12)] [] 2
def D_13:Code:=Tryz.f93.body.getD .skip
def N_13 (_:X0 E_13.params) (r:YE E_13.results):E_13.B:=r
def E_14:Entry where
 params:= [.bx (.v y5),.v .int]
 results:= [.mv .int 0]
 B:=((List Int)×Int×Int)×(List Int)
 run:=λa=>Ci a.1 a.2
 out:=λb=>(b.1,())
 res:=λb=>b.2
def S_14L3 (n:Nat):LoopSpec where
 sh:= [(0,.bx (.v y5)),(1,.v .int),(5,.mv .int 0),(6,.v .int)]
 ex:= [(.exit 0,[(0,.bx (.v y5)),(5,.mv .int 0)])]
 run:=AF n
def C_14:Cx:=cx0 tt [(73,E_3)] [(3,S_14L3 Aa)] 2
def B_14L3:Code:=(Tryz.f95.body.bind (Yaa 3)).getD .skip
def D_14:Code:=Tryz.f95.body.getD .skip
def N_14 (o:X0 E_14.params) (r:YE E_14.results):E_14.B:=(o.1,r)
def E_15:Entry where
 params:= [.v y2]
 results:= [.pr (.v .int) (.mv y2 0)]
 B:=(Int×(List (List Int)))
 run:=λa=>DB a
 out:=λb=>()
 res:=λb=>b
def S_15L6 (n:Nat):LoopSpec where
 sh:= [(0,.v y2),(2,.bx (.pr (.v .int) (.mv y2 0))),(3,.bx (.pr (.v .int) (.mv y2 0))),(4,.v .int),(5,.v .int)]
 ex:= [(.exit 2,[(0,.v y2),(2,.bx (.pr (.v .int) (.mv y2 0))),(3,.bx (.pr (.v .int) (.mv y2 0))),(4,.v .int)])]
 run:=AX n
def S_15L3 (n:Nat):LoopSpec where
 sh:= [(0,.v y2),(2,.bx (.pr (.v .int) (.mv y2 0))),(3,.bx (.pr (.v .int) (.mv y2 0))),(4,.v .int)]
 ex:= [(.exit 0,[(2,.bx (.pr (.v .int) (.mv y2 0))),(3,.bx (.pr (.v .int) (.mv y2 0)))])]
 run:=Bi n
def C_15:Cx:=cx0 tt [] [(6,S_15L6 Aa),(3,S_15L3 Aa)] 1
def B_15L6:Code:=(Tryz.f94.body.bind (Yaa 6)).getD .skip
def B_15L3:Code:=(Tryz.f94.body.bind (Yaa 3)).getD .skip
def D_15:Code:=Tryz.f94.body.getD .skip
def N_15 (_:X0 E_15.params) (r:YE E_15.results):E_15.B:=r
def E_16:Entry where
 params:= [.v .int,.v .int]
 results:= [.v .int]
 B:=Int
 run:=λa=>Dw a.1 a.2
 out:=λb=>((),())
 res:=λb=>b
def S_16L2 (n:Nat):LoopSpec where
 sh:= [(0,.v .int),(1,.v .int),(5,.v .int)]
 ex:= [(.exit 0,[(5,.v .int)])]
 run:=CP n
def C_16:Cx:=cx0 tt [] [(2,S_16L2 Aa)] 2
def B_16L2:Code:=(Tryz.f99.body.bind (Yaa 2)).getD .skip
def D_16:Code:=Tryz.f99.body.getD .skip
def N_16 (_:X0 E_16.params) (r:YE E_16.results):E_16.B:=r
def E_17:Entry where
 params:= [.v .int,.v .int,.v .int]
 results:= [.mv .int 0]
 B:=(List Int)
 run:=λa=>ET a.1 a.2.1 a.2.2
 out:=λb=>((),(),())
 res:=λb=>b
def S_17L3 (n:Nat):LoopSpec where
 sh:= [(0,.v .int),(2,.v .int),(7,.mv .int 0),(8,.v .int)]
 ex:= [(.exit 0,[(7,.mv .int 0)])]
 run:=Dv n
def C_17:Cx:=cx0 tt [] [(3,S_17L3 Aa)] 3
def B_17L3:Code:=(Tryz.f105.body.bind (Yaa 3)).getD .skip
def D_17:Code:=Tryz.f105.body.getD .skip
def N_17 (_:X0 E_17.params) (r:YE E_17.results):E_17.B:=r
def E_18:Entry where
 params:= [.v .int,.v .int]
 results:= [.pr (.v .int) (.mv y2 0)]
 B:=(Int×(List (List Int)))
 run:=λa=>DA a.1 a.2
 out:=λb=>((),())
 res:=λb=>b
def S_18L3 (n:Nat):LoopSpec where
 sh:= [(0,.v .int),(1,.v .int),(4,.bx (.pr (.v .int) (.mv y2 0))),(5,.bx (.pr (.v .int) (.mv y2 0))),(6,.v .int)]
 ex:= [(.exit 0,[(4,.bx (.pr (.v .int) (.mv y2 0))),(5,.bx (.pr (.v .int) (.mv y2 0)))])]
 run:=Cz n
def C_18:Cx:=cx0 tt [(99,E_16),(105,E_17)] [(3,S_18L3 Aa)] 2
def B_18L3:Code:=(Tryz.f96.body.bind (Yaa 3)).getD .skip
def D_18:Code:=Tryz.f96.body.getD .skip
def N_18 (_:X0 E_18.params) (r:YE E_18.results):E_18.B:=r
def E_19:Entry where
 params:= [.mv y2 0,.v y2]
 results:= [.mv y2 0]
 B:=(List (List Int))
 run:=λa=>GC a.1 a.2
 out:=λb=>((),())
 res:=λb=>b
def C_19:Cx where
 tt:=YaO tt
 T:=YfC [(106,E_12)]
 L:=YfB []
 dep:=λi=>0
 n:=2
 pre:=λi=>match i with
  |4=> [0]
  |_=> []
def D_19:Code:=Tryz.f93.body.getD .skip
def N_19 (_:X0 E_19.params) (r:YE E_19.results):E_19.B:=r
def E_20:Entry where
 params:= [.bx (.v y5),.v .int,.v .int]
 results:= [.v y3]
 B:=((List Int)×Int×Int)×(Int×(List (List Int)))
 run:=λa=>BO a.1 a.2.1 a.2.2
 out:=λb=>(b.1,(),())
 res:=λb=>b.2
def S_20L9 (n:Nat):LoopSpec where
 sh:= [(0,.bx (.v y5)),(1,.v .int),(2,.v .int),(6,.bx (.pr (.v .int) (.mv y2 0))),(7,.bx (.pr (.v .int) (.mv y2 0))),(8,.v .int),(9,.mv .int 0),(10,.v .int)]
 ex:= [(.exit 2,[(0,.bx (.v y5)),(1,.v .int),(2,.v .int),(6,.bx (.pr (.v .int) (.mv y2 0))),(7,.bx (.pr (.v .int) (.mv y2 0))),(8,.v .int),(9,.mv .int 0)])]
 run:=Bl n
def S_20L5 (n:Nat):LoopSpec where
 sh:= [(0,.bx (.v y5)),(1,.v .int),(2,.v .int),(6,.bx (.pr (.v .int) (.mv y2 0))),(7,.bx (.pr (.v .int) (.mv y2 0))),(8,.v .int)]
 ex:= [(.exit 0,[(0,.bx (.v y5)),(1,.v .int),(2,.v .int),(6,.bx (.pr (.v .int) (.mv y2 0))),(7,.bx (.pr (.v .int) (.mv y2 0)))])]
 run:=Bk n
def C_20:Cx:=cx0 tt [(44,E_8),(69,E_7),(72,E_4),(73,E_3),(92,E_9),(93,E_19),(94,E_15),(95,E_14),(96,E_18)] [(9,S_20L9 Aa),(5,S_20L5 Aa)] 3
def B_20L9:Code:=(Tryz.f70.body.bind (Yaa 9)).getD .skip
def B_20L5:Code:=(Tryz.f70.body.bind (Yaa 5)).getD .skip
def D_20:Code:=Tryz.f70.body.getD .skip
def N_20 (o:X0 E_20.params) (r:YE E_20.results):E_20.B:=(o.1,r)
def E_21:Entry where
 params:= [.bx (.v y5)]
 results:= [.v .int,.mv y3 0]
 B:=((List Int)×Int×Int)×Int×(List (Int×(List (List Int))))
 run:=λa=>CR a
 out:=λb=>b.1
 res:=λb=>(b.2.1,b.2.2)
def S_21L9 (n:Nat):LoopSpec where
 sh:= [(0,.bx (.v y5)),(4,.v .int),(5,.mv y3 0),(6,.mv y3 0),(7,.v .int),(8,.bx (.pr (.v .int) (.mv y2 0))),(9,.v .int)]
 ex:= [(.exit 2,[(0,.bx (.v y5)),(4,.v .int),(5,.mv y3 0),(6,.mv y3 0),(7,.v .int),(8,.bx (.pr (.v .int) (.mv y2 0)))])]
 run:=AZ n
def S_21L5 (n:Nat):LoopSpec where
 sh:= [(0,.bx (.v y5)),(4,.v .int),(5,.mv y3 0),(6,.mv y3 0),(7,.v .int)]
 ex:= [(.exit 0,[(0,.bx (.v y5)),(4,.v .int),(6,.mv y3 0)])]
 run:=AY n
def S_21L17 (n:Nat):LoopSpec where
 sh:= [(0,.bx (.v y5)),(10,.v .int),(11,.mv y3 0),(12,.v .int)]
 ex:= [(.exit 4,[(0,.bx (.v y5)),(10,.v .int),(11,.mv y3 0)])]
 run:=Bc n
def C_21:Cx:=cx0 tt [(69,E_7),(70,E_20),(72,E_4),(73,E_3),(84,E_6),(91,E_5)] [(9,S_21L9 Aa),(5,S_21L5 Aa),(17,S_21L17 Aa)] 1
def B_21L9:Code:=(Tryz.f68.body.bind (Yaa 9)).getD .skip
def B_21L5:Code:=(Tryz.f68.body.bind (Yaa 5)).getD .skip
def B_21L17:Code:=(Tryz.f68.body.bind (Yaa 17)).getD .skip
def D_21:Code:=Tryz.f68.body.getD .skip
def N_21 (o:X0 E_21.params) (r:YE E_21.results):E_21.B:=(o,r.1,r.2)
def E_22:Entry where
 params:= [.v .int,.v .int]
 results:= [.v .int]
 B:=Int
 run:=λa=>CM a.1 a.2
 out:=λb=>((),())
 res:=λb=>b
def C_22:Cx:=cx0 tt [] [] 2
def D_22:Code:=Tryz.f71.body.getD .skip
def N_22 (_:X0 E_22.params) (r:YE E_22.results):E_22.B:=r
def E_23:Entry where
 params:= [.bx (.v y5)]
 results:= [.v y1]
 B:=((List Int)×Int×Int)×(Int×Int×(List ((List Int)×Int×(List (List Int)))))
 run:=λa=>DQ a
 out:=λb=>b.1
 res:=λb=>b.2
def S_23L11 (n:Nat):LoopSpec where
 sh:= [(0,.bx (.v y5)),(2,.bx (.pr (.v .int) (.pr (.v .int) (.mv y0 2001)))),(3,.v .int),(4,.mv y3 0),(5,.bx (.pr (.v .int) (.pr (.v .int) (.mv y0 2001)))),(6,.v .int),(7,.bx (.v y3)),(8,.bx (.pr (.mv .int 0) (.v y3))),(9,.v .int)]
 ex:= [(.exit 2,[(0,.bx (.v y5)),(2,.bx (.pr (.v .int) (.pr (.v .int) (.mv y0 2001)))),(3,.v .int),(4,.mv y3 0),(5,.bx (.pr (.v .int) (.pr (.v .int) (.mv y0 2001)))),(6,.v .int),(8,.bx (.pr (.mv .int 0) (.v y3)))])]
 run:=Ay n
def S_23L4 (n:Nat):LoopSpec where
 sh:= [(0,.bx (.v y5)),(2,.bx (.pr (.v .int) (.pr (.v .int) (.mv y0 2001)))),(3,.v .int),(4,.mv y3 0),(5,.bx (.pr (.v .int) (.pr (.v .int) (.mv y0 2001)))),(6,.v .int)]
 ex:= [(.exit 0,[(0,.bx (.v y5)),(2,.bx (.pr (.v .int) (.pr (.v .int) (.mv y0 2001)))),(5,.bx (.pr (.v .int) (.pr (.v .int) (.mv y0 2001))))])]
 run:=AB n
def S_23L23 (n:Nat):LoopSpec where
 sh:= [(0,.bx (.v y5)),(2,.bx (.pr (.v .int) (.pr (.v .int) (.mv y0 2001)))),(5,.bx (.pr (.v .int) (.pr (.v .int) (.mv y0 0)))),(10,.v .int)]
 ex:= [(.exit 5,[(0,.bx (.v y5)),(2,.bx (.pr (.v .int) (.pr (.v .int) (.mv y0 2001)))),(5,.bx (.pr (.v .int) (.pr (.v .int) (.mv y0 0))))])]
 run:=Bj n
def C_23:Cx where
 tt:=YaO tt
 T:=YfC [(68,E_21),(69,E_7),(70,E_20),(71,E_22),(72,E_4),(73,E_3)]
 L:=YfB [(11,S_23L11 Aa),(4,S_23L4 Aa),(23,S_23L23 Aa)]
 dep:=λi=>match i with
  |76=>2001
  |77=>2001
  |_=>0
 n:=1
 fine:=true
def B_23L11:Code:=(Tryz.f41.body.bind (Yaa 11)).getD .skip
def B_23L4:Code:=(Tryz.f41.body.bind (Yaa 4)).getD .skip
def B_23L23:Code:=(Tryz.f41.body.bind (Yaa 23)).getD .skip
def D_23:Code:=Tryz.f41.body.getD .skip
def N_23 (o:X0 E_23.params) (r:YE E_23.results):E_23.B:=(o,r)
def E_24:Entry where
 params:= [.v y19]
 results:= [.v y1]
 B:=(Int×Int×(List ((List Int)×Int×(List (List Int)))))
 run:=λa=>EG a
 out:=λb=>()
 res:=λb=>b
def C_24:Cx:=cx0 tt [(41,E_23)] [] 1
def D_24:Code:=Tryz.f19.body.getD .skip
def N_24 (_:X0 E_24.params) (r:YE E_24.results):E_24.B:=r
def E_25:Entry where
 params:= [.v y19]
 results:= [.v y1]
 B:=(Int×Int×(List ((List Int)×Int×(List (List Int)))))
 run:=λa=>Dh a
 out:=λb=>()
 res:=λb=>b
def C_25:Cx:=cx0 tt [(19,E_24)] [] 1
def D_25:Code:=Tryz.f5.body.getD .skip
def N_25 (_:X0 E_25.params) (r:YE E_25.results):E_25.B:=r
def E_26:Entry where
 params:= [.v .int]
 results:= [.v .bool]
 B:=Bool
 run:=λa=>CQ a
 out:=λb=>()
 res:=λb=>b
def C_26:Cx:=cx0 tt [] [] 1
def D_26:Code:=Tryz.f42.body.getD .skip
def N_26 (_:X0 E_26.params) (r:YE E_26.results):E_26.B:=r
def E_27:Entry where
 params:= [.v y2,.v .int]
 results:= [.v .bool]
 B:=Bool
 run:=λa=>Eo a.1 a.2
 out:=λb=>((),())
 res:=λb=>b
def S_27L2 (n:Nat):LoopSpec where
 sh:= [(1,.v .int),(7,.v y2),(8,.v .int),(9,.v .int)]
 ex:= [(.exit 0,[]),(.ret,[(4,.v .bool)])]
 run:=Do n
def C_27:Cx:=cx0 tt [] [(2,S_27L2 Aa)] 2
def B_27L2:Code:=(Tryz.f65.body.bind (Yaa 2)).getD .skip
def D_27:Code:=Tryz.f65.body.getD .skip
def N_27 (_:X0 E_27.params) (r:YE E_27.results):E_27.B:=r
def E_28:Entry where
 params:= [.v y2,.v y2]
 results:= [.v .int]
 B:=Int
 run:=λa=>EM a.1 a.2
 out:=λb=>((),())
 res:=λb=>b
def S_28L2 (n:Nat):LoopSpec where
 sh:= [(0,.v y2),(1,.v y2),(5,.v .int)]
 ex:= [(.exit 0,[(0,.v y2),(1,.v y2)]),(.ret,[(4,.v .int)])]
 run:=Bx n
def C_28:Cx:=cx0 tt [] [(2,S_28L2 Aa)] 2
def B_28L2:Code:=(Tryz.f98.body.bind (Yaa 2)).getD .skip
def D_28:Code:=Tryz.f98.body.getD .skip
def N_28 (_:X0 E_28.params) (r:YE E_28.results):E_28.B:=r
def E_29:Entry where
 params:= [.v .int,.v y3]
 results:= [.v .bool]
 B:=Bool
 run:=λa=>DJ a.1 a.2
 out:=λb=>((),())
 res:=λb=>b
def S_29L4 (n:Nat):LoopSpec where
 sh:= [(0,.v .int),(3,.bx (.v y3)),(16,.v y15),(17,.v .int),(18,.v .int)]
 ex:= [(.exit 0,[]),(.ret,[(4,.v .bool)])]
 run:=BT n
def C_29:Cx:=cx0 tt [(65,E_27),(98,E_28)] [(4,S_29L4 Aa)] 2
def B_29L4:Code:=(Tryz.f74.body.bind (Yaa 4)).getD .skip
def D_29:Code:=Tryz.f74.body.getD .skip
def N_29 (_:X0 E_29.params) (r:YE E_29.results):E_29.B:=r
def E_30:Entry where
 params:= [.v .int,.v .int,.v y0]
 results:= [.v .bool]
 B:=Bool
 run:=λa=>D3 a.1 a.2.1 a.2.2
 out:=λb=>((),(),())
 res:=λb=>b
def C_30:Cx:=cx0 tt [(65,E_27),(74,E_29)] [] 3
def D_30:Code:=Tryz.f43.body.getD .skip
def N_30 (_:X0 E_30.params) (r:YE E_30.results):E_30.B:=r
def E_31:Entry where
 params:= [.v y1]
 results:= [.v .bool]
 B:=Bool
 run:=λa=>B2 a
 out:=λb=>()
 res:=λb=>b
def S_31L4 (n:Nat):LoopSpec where
 sh:= [(1,.bx (.v y1)),(26,.v y10),(27,.v .int),(28,.v .int)]
 ex:= [(.exit 0,[]),(.ret,[(2,.v .bool)])]
 run:=CG n
def C_31:Cx:=cx0 tt [(42,E_26),(43,E_30)] [(4,S_31L4 Aa)] 1
def B_31L4:Code:=(Tryz.f20.body.bind (Yaa 4)).getD .skip
def D_31:Code:=Tryz.f20.body.getD .skip
def N_31 (_:X0 E_31.params) (r:YE E_31.results):E_31.B:=r
def E_32:Entry where
 params:= [.v y2,.v .int]
 results:= [.v .bool]
 B:=Bool
 run:=λa=>FG a.1 a.2
 out:=λb=>((),())
 res:=λb=>b
def S_32L2 (n:Nat):LoopSpec where
 sh:= [(1,.v .int),(7,.v y2),(8,.v .int),(9,.v .int)]
 ex:= [(.exit 0,[]),(.ret,[(4,.v .bool)])]
 run:=Dm n
def C_32:Cx:=cx0 tt [] [(2,S_32L2 Aa)] 2
def B_32L2:Code:=(Tryz.f103.body.bind (Yaa 2)).getD .skip
def D_32:Code:=Tryz.f103.body.getD .skip
def N_32 (_:X0 E_32.params) (r:YE E_32.results):E_32.B:=r
def E_33:Entry where
 params:= [.v y2,.v y2]
 results:= [.v .bool]
 B:=Bool
 run:=λa=>FK a.1 a.2
 out:=λb=>((),())
 res:=λb=>b
def S_33L2 (n:Nat):LoopSpec where
 sh:= [(1,.v y2),(7,.v y2),(8,.v .int),(9,.v .int)]
 ex:= [(.exit 0,[]),(.ret,[(4,.v .bool)])]
 run:=Dp n
def C_33:Cx:=cx0 tt [(103,E_32)] [(2,S_33L2 Aa)] 2
def B_33L2:Code:=(Tryz.f80.body.bind (Yaa 2)).getD .skip
def D_33:Code:=Tryz.f80.body.getD .skip
def N_33 (_:X0 E_33.params) (r:YE E_33.results):E_33.B:=r
def E_34:Entry where
 params:= [.v y1,.v y2]
 results:= [.mv y0 0]
 B:=(List ((List Int)×Int×(List (List Int))))
 run:=λa=>EP a.1 a.2
 out:=λb=>((),())
 res:=λb=>b
def S_34L3 (n:Nat):LoopSpec where
 sh:= [(1,.v y2),(5,.mv y0 0),(10,.v y10),(11,.v .int),(12,.v .int)]
 ex:= [(.exit 0,[(5,.mv y0 0)])]
 run:=CY n
def C_34:Cx:=cx0 tt [(80,E_33)] [(3,S_34L3 Aa)] 2
def B_34L3:Code:=(Tryz.f50.body.bind (Yaa 3)).getD .skip
def D_34:Code:=Tryz.f50.body.getD .skip
def N_34 (_:X0 E_34.params) (r:YE E_34.results):E_34.B:=r
def E_35:Entry where
 params:= [.v y2,.v y2]
 results:= [.mv .int 0]
 B:=(List Int)
 run:=λa=>CH a.1 a.2
 out:=λb=>((),())
 res:=λb=>b
def S_35L3 (n:Nat):LoopSpec where
 sh:= [(1,.v y2),(5,.mv .int 0),(11,.v y2),(12,.v .int),(13,.v .int)]
 ex:= [(.exit 0,[(5,.mv .int 0)])]
 run:=C7 n
def C_35:Cx:=cx0 tt [] [(3,S_35L3 Aa)] 2
def B_35L3:Code:=(Tryz.f67.body.bind (Yaa 3)).getD .skip
def D_35:Code:=Tryz.f67.body.getD .skip
def N_35 (_:X0 E_35.params) (r:YE E_35.results):E_35.B:=r
def E_36:Entry where
 params:= [.v y2,.v y2]
 results:= [.v .bool]
 B:=Bool
 run:=λa=>EV a.1 a.2
 out:=λb=>((),())
 res:=λb=>b
def S_36L4 (n:Nat):LoopSpec where
 sh:= [(1,.v y2),(12,.v y2),(13,.v .int),(14,.v .int)]
 ex:= [(.exit 0,[]),(.ret,[(4,.v .bool)])]
 run:=CV n
def C_36:Cx:=cx0 tt [] [(4,S_36L4 Aa)] 2
def B_36L4:Code:=(Tryz.f90.body.bind (Yaa 4)).getD .skip
def D_36:Code:=Tryz.f90.body.getD .skip
def N_36 (_:X0 E_36.params) (r:YE E_36.results):E_36.B:=r
def E_37:Entry where
 params:= [.v y3,.v y2]
 results:= [.v .bool]
 B:=Bool
 run:=λa=>En a.1 a.2
 out:=λb=>((),())
 res:=λb=>b
def S_37L2 (n:Nat):LoopSpec where
 sh:= [(1,.v y2),(8,.v y15),(9,.v .int),(10,.v .int)]
 ex:= [(.exit 0,[]),(.ret,[(4,.v .bool)])]
 run:=Dn n
def C_37:Cx:=cx0 tt [(90,E_36)] [(2,S_37L2 Aa)] 2
def B_37L2:Code:=(Tryz.f66.body.bind (Yaa 2)).getD .skip
def D_37:Code:=Tryz.f66.body.getD .skip
def N_37 (_:X0 E_37.params) (r:YE E_37.results):E_37.B:=r
def E_38:Entry where
 params:= [.v y10,.v y2]
 results:= [.v .bool]
 B:=Bool
 run:=λa=>D6 a.1 a.2
 out:=λb=>((),())
 res:=λb=>b
def S_38L2 (n:Nat):LoopSpec where
 sh:= [(1,.v y2),(7,.v y10),(8,.v .int),(9,.v .int)]
 ex:= [(.exit 0,[]),(.ret,[(4,.v .bool)])]
 run:=CK n
def C_38:Cx:=cx0 tt [(66,E_37),(67,E_35)] [(2,S_38L2 Aa)] 2
def B_38L2:Code:=(Tryz.f79.body.bind (Yaa 2)).getD .skip
def D_38:Code:=Tryz.f79.body.getD .skip
def N_38 (_:X0 E_38.params) (r:YE E_38.results):E_38.B:=r
def E_39:Entry where
 params:= [.v y1]
 results:= [.mv y11 3]
 B:=(List (List (List (List Bool))))
 run:=λa=>Eu a
 out:=λb=>()
 res:=λb=>b
def S_39L11 (n:Nat):LoopSpec where
 sh:= [(1,.bx (.v y1)),(3,.mv y11 3),(4,.v .int),(5,.v .int),(18,.v .int),(19,.v .int),(32,.v .int),(33,.v .int),(52,.v .int),(53,.v .int)]
 ex:= [(.exit 4,[(1,.bx (.v y1)),(3,.mv y11 3),(4,.v .int),(18,.v .int),(19,.v .int),(32,.v .int),(33,.v .int)])]
 run:=BI n
def S_39L7 (n:Nat):LoopSpec where
 sh:= [(1,.bx (.v y1)),(3,.mv y11 3),(4,.v .int),(18,.v .int),(19,.v .int),(32,.v .int),(33,.v .int)]
 ex:= [(.exit 2,[(1,.bx (.v y1)),(3,.mv y11 3),(18,.v .int),(19,.v .int)])]
 run:=BS n
def S_39L3 (n:Nat):LoopSpec where
 sh:= [(1,.bx (.v y1)),(3,.mv y11 3),(18,.v .int),(19,.v .int)]
 ex:= [(.exit 0,[(1,.bx (.v y1)),(3,.mv y11 3)])]
 run:=BR n
def S_39L29 (n:Nat):LoopSpec where
 sh:= [(1,.bx (.v y1)),(3,.mv y11 3),(7,.mv .int 0),(8,.v .int),(9,.v .int),(10,.mv y0 0),(11,.v .int),(12,.v .int),(75,.v .int),(76,.v .int)]
 ex:= [(.exit 12,[(1,.bx (.v y1)),(3,.mv y11 3),(7,.mv .int 0),(8,.v .int),(9,.v .int),(10,.mv y0 0),(11,.v .int),(75,.v .int),(76,.v .int)])]
 run:=BM n
def S_39L26 (n:Nat):LoopSpec where
 sh:= [(1,.bx (.v y1)),(3,.mv y11 3),(7,.mv .int 0),(8,.v .int),(9,.v .int),(10,.mv y0 0),(11,.v .int),(75,.v .int),(76,.v .int)]
 ex:= [(.exit 10,[(1,.bx (.v y1)),(3,.mv y11 3),(7,.mv .int 0),(8,.v .int),(9,.v .int),(75,.v .int),(76,.v .int)])]
 run:=BL n
def S_39L22 (n:Nat):LoopSpec where
 sh:= [(1,.bx (.v y1)),(3,.mv y11 3),(7,.mv .int 0),(8,.v .int),(9,.v .int),(75,.v .int),(76,.v .int)]
 ex:= [(.exit 8,[(1,.bx (.v y1)),(3,.mv y11 3),(7,.mv .int 0),(75,.v .int),(76,.v .int)])]
 run:=BK n
def S_39L19 (n:Nat):LoopSpec where
 sh:= [(1,.bx (.v y1)),(3,.mv y11 3),(7,.mv .int 0),(75,.v .int),(76,.v .int)]
 ex:= [(.exit 6,[(3,.mv y11 3)])]
 run:=BJ n
def C_39:Cx where
 tt:=YaO tt
 T:=YfC [(50,E_34),(79,E_38)]
 L:=YfB [(11,S_39L11 Aa),(7,S_39L7 Aa),(3,S_39L3 Aa),(29,S_39L29 Aa),(26,S_39L26 Aa),(22,S_39L22 Aa),(19,S_39L19 Aa)]
 dep:=λi=>match i with
  |16=>3
  |26=>2
  |43=>1
  |_=>0
 n:=1
def B_39L11:Code:=(Tryz.f49.body.bind (Yaa 11)).getD .skip
def B_39L7:Code:=(Tryz.f49.body.bind (Yaa 7)).getD .skip
def B_39L3:Code:=(Tryz.f49.body.bind (Yaa 3)).getD .skip
def B_39L29:Code:=(Tryz.f49.body.bind (Yaa 29)).getD .skip
def B_39L26:Code:=(Tryz.f49.body.bind (Yaa 26)).getD .skip
def B_39L22:Code:=(Tryz.f49.body.bind (Yaa 22)).getD .skip
def B_39L19:Code:=(Tryz.f49.body.bind (Yaa 19)).getD .skip
def D_39:Code:=Tryz.f49.body.getD .skip
def N_39 (_:X0 E_39.params) (r:YE E_39.results):E_39.B:=r
def E_40:Entry where
 params:= [.v y18,.v y1,.v y10,.io .int 0,.v .int,.v .int,.v .int]
 results:= [.v .bool]
 B:=(List Int)×Bool
 run:=λa=>Dr a.1 a.2.1 a.2.2.1 a.2.2.2.1 a.2.2.2.2.1 a.2.2.2.2.2.1 a.2.2.2.2.2.2
 out:=λb=>((),(),(),b.1,(),(),())
 res:=λb=>b.2
def S_40L2 (n:Nat):LoopSpec where
 sh:= [(0,.v y18),(2,.v y10),(3,.io .int 0),(4,.v .int),(5,.v .int),(6,.v .int),(8,.bx (.v y1)),(15,.v .int)]
 ex:= [(.exit 0,[(3,.io .int 0)]),(.ret,[(3,.io .int 0),(14,.v .bool)])]
 run:=Ar n
def C_40:Cx:=cx0 tt [(79,E_38)] [(2,S_40L2 Aa)] 7
def B_40L2:Code:=(Tryz.f51.body.bind (Yaa 2)).getD .skip
def D_40:Code:=Tryz.f51.body.getD .skip
def N_40 (o:X0 E_40.params) (r:YE E_40.results):E_40.B:=(o.2.2.2.1,r)
def E_41:Entry where
 params:= [.v y1]
 results:= [.mv y11 3]
 B:=(List (List (List (List Bool))))
 run:=λa=>BF a
 out:=λb=>()
 res:=λb=>b
def S_41L18 (n:Nat):LoopSpec where
 sh:= [(1,.bx (.v y1)),(3,.mv y11 3),(4,.mv .int 0),(5,.v .bool),(6,.v .int),(7,.v .int),(8,.v .int),(9,.mv y0 0),(10,.v .int),(18,.v .int),(19,.v .int),(31,.v .int),(32,.v .int)]
 ex:= [(.exit 8,[(1,.bx (.v y1)),(3,.mv y11 3),(4,.mv .int 0),(5,.v .bool),(6,.v .int),(7,.v .int),(18,.v .int),(19,.v .int),(31,.v .int),(32,.v .int)])]
 run:=Au n
def S_41L13 (n:Nat):LoopSpec where
 sh:= [(1,.bx (.v y1)),(3,.mv y11 3),(4,.mv .int 0),(5,.v .bool),(6,.v .int),(7,.v .int),(18,.v .int),(19,.v .int),(31,.v .int),(32,.v .int)]
 ex:= [(.exit 6,[(1,.bx (.v y1)),(3,.mv y11 3),(4,.mv .int 0),(5,.v .bool),(6,.v .int),(7,.v .int),(18,.v .int),(19,.v .int)])]
 run:=As n
def S_41L10 (n:Nat):LoopSpec where
 sh:= [(1,.bx (.v y1)),(3,.mv y11 3),(4,.mv .int 0),(5,.v .bool),(6,.v .int),(7,.v .int),(18,.v .int),(19,.v .int)]
 ex:= [(.exit 4,[(1,.bx (.v y1)),(3,.mv y11 3),(4,.mv .int 0),(5,.v .bool),(18,.v .int),(19,.v .int)])]
 run:=Bq n
def S_41L7 (n:Nat):LoopSpec where
 sh:= [(1,.bx (.v y1)),(3,.mv y11 3),(4,.mv .int 0),(5,.v .bool),(18,.v .int),(19,.v .int)]
 ex:= [(.exit 2,[(1,.bx (.v y1)),(3,.mv y11 3),(4,.mv .int 0),(5,.v .bool)])]
 run:=By n
def S_41L4 (n:Nat):LoopSpec where
 sh:= [(1,.bx (.v y1)),(3,.mv y11 3),(4,.mv .int 0),(5,.v .bool)]
 ex:= [(.exit 0,[(3,.mv y11 3)])]
 run:=B3 n
def C_41:Cx:=cx0 tt [(49,E_39),(50,E_34),(51,E_40)] [(18,S_41L18 Aa),(13,S_41L13 Aa),(10,S_41L10 Aa),(7,S_41L7 Aa),(4,S_41L4 Aa)] 1
def B_41L18:Code:=(Tryz.f25.body.bind (Yaa 18)).getD .skip
def B_41L13:Code:=(Tryz.f25.body.bind (Yaa 13)).getD .skip
def B_41L10:Code:=(Tryz.f25.body.bind (Yaa 10)).getD .skip
def B_41L7:Code:=(Tryz.f25.body.bind (Yaa 7)).getD .skip
def B_41L4:Code:=(Tryz.f25.body.bind (Yaa 4)).getD .skip
def D_41:Code:=Tryz.f25.body.getD .skip
def N_41 (_:X0 E_41.params) (r:YE E_41.results):E_41.B:=r
def E_42:Entry where
 params:= [.v y1]
 results:= [.mv y13 1]
 B:=(List (List (Int×Int)))
 run:=λa=>D5 a
 out:=λb=>()
 res:=λb=>b
def S_42L14 (n:Nat):LoopSpec where
 sh:= [(1,.bx (.v y1)),(3,.v y18),(4,.mv y13 1),(5,.v .int),(6,.v .int),(7,.mv y6 0),(8,.v .int),(16,.v .int),(17,.v .int),(35,.v y4),(36,.v .int),(37,.v .int),(42,.v y17),(43,.v .int),(44,.v .int)]
 ex:= [(.exit 6,[(1,.bx (.v y1)),(3,.v y18),(4,.mv y13 1),(5,.v .int),(6,.v .int),(7,.mv y6 0),(16,.v .int),(17,.v .int),(35,.v y4),(36,.v .int),(37,.v .int)])]
 run:=Bw n
def S_42L11 (n:Nat):LoopSpec where
 sh:= [(1,.bx (.v y1)),(3,.v y18),(4,.mv y13 1),(5,.v .int),(6,.v .int),(7,.mv y6 0),(16,.v .int),(17,.v .int),(35,.v y4),(36,.v .int),(37,.v .int)]
 ex:= [(.exit 4,[(1,.bx (.v y1)),(3,.v y18),(4,.mv y13 1),(5,.v .int),(6,.v .int),(7,.mv y6 0),(16,.v .int),(17,.v .int)])]
 run:=BU n
def S_42L7 (n:Nat):LoopSpec where
 sh:= [(1,.bx (.v y1)),(3,.v y18),(4,.mv y13 1),(5,.v .int),(6,.v .int),(16,.v .int),(17,.v .int)]
 ex:= [(.exit 2,[(1,.bx (.v y1)),(3,.v y18),(4,.mv y13 1),(16,.v .int),(17,.v .int)])]
 run:=B6 n
def S_42L4 (n:Nat):LoopSpec where
 sh:= [(1,.bx (.v y1)),(3,.v y18),(4,.mv y13 1),(16,.v .int),(17,.v .int)]
 ex:= [(.exit 0,[(4,.mv y13 1)])]
 run:=CJ n
def C_42:Cx where
 tt:=YaO tt
 T:=YfC [(25,E_41)]
 L:=YfB [(14,S_42L14 Aa),(11,S_42L11 Aa),(7,S_42L7 Aa),(4,S_42L4 Aa)]
 dep:=λi=>match i with
  |14=>1
  |60=>1
  |61=>1
  |_=>0
 n:=1
def B_42L14:Code:=(Tryz.f21.body.bind (Yaa 14)).getD .skip
def B_42L11:Code:=(Tryz.f21.body.bind (Yaa 11)).getD .skip
def B_42L7:Code:=(Tryz.f21.body.bind (Yaa 7)).getD .skip
def B_42L4:Code:=(Tryz.f21.body.bind (Yaa 4)).getD .skip
def D_42:Code:=Tryz.f21.body.getD .skip
def N_42 (_:X0 E_42.params) (r:YE E_42.results):E_42.B:=r
def E_43:Entry where
 params:= [.v y1]
 results:= [.mv y13 1,.v .bool]
 B:=(List (List (Int×Int)))×Bool
 run:=λa=>Bn a
 out:=λb=>()
 res:=λb=>(b.1,b.2)
def C_43:Cx where
 tt:=YaO tt
 T:=YfC [(20,E_31),(21,E_42)]
 L:=YfB []
 dep:=λi=>match i with
  |12=>1
  |_=>0
 n:=1
def D_43:Code:=Tryz.f6.body.getD .skip
def N_43 (_:X0 E_43.params) (r:YE E_43.results):E_43.B:=(r.1,r.2)
def E_44:Entry where
 params:= [.v .int,.v y2]
 results:= [.v .bool]
 B:=Bool
 run:=λa=>Dc a.1 a.2
 out:=λb=>((),())
 res:=λb=>b
def S_44L2 (n:Nat):LoopSpec where
 sh:= [(0,.v .int),(1,.v y2),(5,.v .int)]
 ex:= [(.exit 0,[]),(.ret,[(4,.v .bool)])]
 run:=Cw n
def C_44:Cx:=cx0 tt [(44,E_8)] [(2,S_44L2 Aa)] 2
def B_44L2:Code:=(Tryz.f76.body.bind (Yaa 2)).getD .skip
def D_44:Code:=Tryz.f76.body.getD .skip
def N_44 (_:X0 E_44.params) (r:YE E_44.results):E_44.B:=r
def E_45:Entry where
 params:= [.v .int,.v .int,.v y2]
 results:= [.v .bool]
 B:=Bool
 run:=λa=>Fl a.1 a.2.1 a.2.2
 out:=λb=>((),(),())
 res:=λb=>b
def C_45:Cx:=cx0 tt [(76,E_44)] [] 3
def D_45:Code:=Tryz.f100.body.getD .skip
def N_45 (_:X0 E_45.params) (r:YE E_45.results):E_45.B:=r
def E_46:Entry where
 params:= [.v .int,.v y3]
 results:= [.v .bool]
 B:=Bool
 run:=λa=>Ez a.1 a.2
 out:=λb=>((),())
 res:=λb=>b
def S_46L4 (n:Nat):LoopSpec where
 sh:= [(0,.v .int),(3,.bx (.v y3)),(5,.v .int)]
 ex:= [(.exit 0,[]),(.ret,[(4,.v .bool)])]
 run:=CA n
def C_46:Cx:=cx0 tt [(44,E_8),(99,E_16),(100,E_45),(101,E_10)] [(4,S_46L4 Aa)] 2
def B_46L4:Code:=(Tryz.f75.body.bind (Yaa 4)).getD .skip
def D_46:Code:=Tryz.f75.body.getD .skip
def N_46 (_:X0 E_46.params) (r:YE E_46.results):E_46.B:=r
def E_47:Entry where
 params:= [.v .int,.v .int,.v y0]
 results:= [.v .bool]
 B:=Bool
 run:=λa=>Gm a.1 a.2.1 a.2.2
 out:=λb=>((),(),())
 res:=λb=>b
def C_47:Cx:=cx0 tt [(75,E_46),(76,E_44)] [] 3
def D_47:Code:=Tryz.f45.body.getD .skip
def N_47 (_:X0 E_47.params) (r:YE E_47.results):E_47.B:=r
def E_48:Entry where
 params:= [.v y1]
 results:= [.v .bool]
 B:=Bool
 run:=λa=>C6 a
 out:=λb=>()
 res:=λb=>b
def S_48L4 (n:Nat):LoopSpec where
 sh:= [(1,.bx (.v y1)),(3,.v .int)]
 ex:= [(.exit 0,[]),(.ret,[(2,.v .bool)])]
 run:=Da n
def C_48:Cx:=cx0 tt [(44,E_8),(45,E_47)] [(4,S_48L4 Aa)] 1
def B_48L4:Code:=(Tryz.f22.body.bind (Yaa 4)).getD .skip
def D_48:Code:=Tryz.f22.body.getD .skip
def N_48 (_:X0 E_48.params) (r:YE E_48.results):E_48.B:=r
def E_49:Entry where
 params:= [.v y2,.v .int]
 results:= [.v .bool]
 B:=Bool
 run:=λa=>Gq a.1 a.2
 out:=λb=>((),())
 res:=λb=>b
def S_49L2 (n:Nat):LoopSpec where
 sh:= [(0,.v y2),(1,.v .int),(5,.v .int)]
 ex:= [(.exit 0,[]),(.ret,[(4,.v .bool)])]
 run:=DG n
def C_49:Cx:=cx0 tt [] [(2,S_49L2 Aa)] 2
def B_49L2:Code:=(Tryz.f77.body.bind (Yaa 2)).getD .skip
def D_49:Code:=Tryz.f77.body.getD .skip
def N_49 (_:X0 E_49.params) (r:YE E_49.results):E_49.B:=r
def E_50:Entry where
 params:= [.v y1,.v y2]
 results:= [.mv y0 0]
 B:=(List ((List Int)×Int×(List (List Int))))
 run:=λa=>D9 a.1 a.2
 out:=λb=>((),())
 res:=λb=>b
def S_50L7 (n:Nat):LoopSpec where
 sh:= [(1,.v y2),(2,.bx (.v y1)),(5,.mv y0 0),(6,.v .int),(7,.v .bool),(8,.v .int)]
 ex:= [(.exit 2,[(1,.v y2),(2,.bx (.v y1)),(5,.mv y0 0),(6,.v .int),(7,.v .bool)])]
 run:=BG n
def S_50L3 (n:Nat):LoopSpec where
 sh:= [(1,.v y2),(2,.bx (.v y1)),(5,.mv y0 0),(6,.v .int)]
 ex:= [(.exit 0,[(5,.mv y0 0)])]
 run:=Cb n
def C_50:Cx:=cx0 tt [(77,E_49)] [(7,S_50L7 Aa),(3,S_50L3 Aa)] 2
def B_50L7:Code:=(Tryz.f46.body.bind (Yaa 7)).getD .skip
def B_50L3:Code:=(Tryz.f46.body.bind (Yaa 3)).getD .skip
def D_50:Code:=Tryz.f46.body.getD .skip
def N_50 (_:X0 E_50.params) (r:YE E_50.results):E_50.B:=r
def E_51:Entry where
 params:= [.v y3,.v y2]
 results:= [.v .bool]
 B:=Bool
 run:=λa=>DZ a.1 a.2
 out:=λb=>((),())
 res:=λb=>b
def C_51:Cx:=cx0 tt [(106,E_12)] [] 2
def D_51:Code:=Tryz.f102.body.getD .skip
def N_51 (_:X0 E_51.params) (r:YE E_51.results):E_51.B:=r
def E_52:Entry where
 params:= [.v y0,.v y2]
 results:= [.v .bool]
 B:=Bool
 run:=λa=>CL a.1 a.2
 out:=λb=>((),())
 res:=λb=>b
def S_52L3 (n:Nat):LoopSpec where
 sh:= [(1,.v y2),(2,.bx (.v y0)),(5,.mv .int 0),(6,.v .int)]
 ex:= [(.exit 0,[(2,.bx (.v y0)),(5,.mv .int 0)])]
 run:=B4 n
def C_52:Cx:=cx0 tt [(102,E_51)] [(3,S_52L3 Aa)] 2
def B_52L3:Code:=(Tryz.f78.body.bind (Yaa 3)).getD .skip
def D_52:Code:=Tryz.f78.body.getD .skip
def N_52 (_:X0 E_52.params) (r:YE E_52.results):E_52.B:=r
def E_53:Entry where
 params:= [.v y10,.v y2]
 results:= [.v .bool]
 B:=Bool
 run:=λa=>EB a.1 a.2
 out:=λb=>((),())
 res:=λb=>b
def S_53L2 (n:Nat):LoopSpec where
 sh:= [(0,.v y10),(1,.v y2),(5,.v .int)]
 ex:= [(.exit 0,[]),(.ret,[(4,.v .bool)])]
 run:=Db n
def C_53:Cx:=cx0 tt [(78,E_52)] [(2,S_53L2 Aa)] 2
def B_53L2:Code:=(Tryz.f47.body.bind (Yaa 2)).getD .skip
def D_53:Code:=Tryz.f47.body.getD .skip
def N_53 (_:X0 E_53.params) (r:YE E_53.results):E_53.B:=r
def E_54:Entry where
 params:= [.v y11,.v .int,.v .int,.v .int,.v .int,.v .int]
 results:= [.v .bool]
 B:=Bool
 run:=λa=>EH a.1 a.2.1 a.2.2.1 a.2.2.2.1 a.2.2.2.2.1 a.2.2.2.2.2
 out:=λb=>((),(),(),(),(),())
 res:=λb=>b
def C_54:Cx:=cx0 tt [] [] 6
def D_54:Code:=Tryz.f27.body.getD .skip
def N_54 (_:X0 E_54.params) (r:YE E_54.results):E_54.B:=r
def E_55:Entry where
 params:= [.v y1,.io y4 2,.v .int,.v .int,.v .int]
 results:= [.v .bool]
 B:=(List (List (List Bool)))×Bool
 run:=λa=>EI a.1 a.2.1 a.2.2.1 a.2.2.2.1 a.2.2.2.2
 out:=λb=>((),b.1,(),(),())
 res:=λb=>b.2
def S_55L10 (n:Nat):LoopSpec where
 sh:= [(1,.io y4 2),(2,.v .int),(3,.v .int),(4,.v .int),(5,.bx (.v y1)),(11,.v .int),(12,.mv y0 0),(13,.v .bool),(14,.v .int),(15,.v .bool),(16,.v .int)]
 ex:= [(.exit 2,[(1,.io y4 2),(2,.v .int),(3,.v .int),(4,.v .int),(5,.bx (.v y1)),(11,.v .int),(12,.mv y0 0),(13,.v .bool),(14,.v .int),(15,.v .bool)])]
 run:=AM n
def S_55L5 (n:Nat):LoopSpec where
 sh:= [(1,.io y4 2),(2,.v .int),(3,.v .int),(4,.v .int),(5,.bx (.v y1)),(11,.v .int),(12,.mv y0 0),(13,.v .bool),(14,.v .int)]
 ex:= [(.exit 0,[(1,.io y4 2),(13,.v .bool)])]
 run:=AQ n
def C_55:Cx:=cx0 tt [(27,E_54),(46,E_50),(47,E_53)] [(10,S_55L10 Aa),(5,S_55L5 Aa)] 5
def B_55L10:Code:=(Tryz.f48.body.bind (Yaa 10)).getD .skip
def B_55L5:Code:=(Tryz.f48.body.bind (Yaa 5)).getD .skip
def D_55:Code:=Tryz.f48.body.getD .skip
def N_55 (o:X0 E_55.params) (r:YE E_55.results):E_55.B:=(o.2.1,r)
def E_56:Entry where
 params:= [.v y1]
 results:= [.mv y4 2]
 B:=(List (List (List Bool)))
 run:=λa=>Df a
 out:=λb=>()
 res:=λb=>b
def S_56L13 (n:Nat):LoopSpec where
 sh:= [(1,.bx (.v y1)),(3,.v .int),(4,.v .int),(5,.mv y4 2),(6,.v .int),(7,.mv y17 1),(8,.v .int),(9,.mv .bool 0),(10,.mv y0 0),(11,.v .int)]
 ex:= [(.exit 4,[(1,.bx (.v y1)),(3,.v .int),(4,.v .int),(5,.mv y4 2),(6,.v .int),(7,.mv y17 1),(8,.v .int),(9,.mv .bool 0)])]
 run:=BH n
def S_56L8 (n:Nat):LoopSpec where
 sh:= [(1,.bx (.v y1)),(3,.v .int),(4,.v .int),(5,.mv y4 2),(6,.v .int),(7,.mv y17 1),(8,.v .int)]
 ex:= [(.exit 2,[(1,.bx (.v y1)),(3,.v .int),(4,.v .int),(5,.mv y4 2),(6,.v .int),(7,.mv y17 1)])]
 run:=Ct n
def S_56L4 (n:Nat):LoopSpec where
 sh:= [(1,.bx (.v y1)),(3,.v .int),(4,.v .int),(5,.mv y4 2),(6,.v .int)]
 ex:= [(.exit 0,[(1,.bx (.v y1)),(3,.v .int),(5,.mv y4 2)])]
 run:=Cs n
def S_56L31 (n:Nat):LoopSpec where
 sh:= [(1,.bx (.v y1)),(3,.v .int),(5,.mv y4 2),(13,.v .bool),(14,.v .int),(15,.v .int),(16,.v .int)]
 ex:= [(.exit 12,[(1,.bx (.v y1)),(3,.v .int),(5,.mv y4 2),(13,.v .bool),(14,.v .int),(15,.v .int)])]
 run:=AK n
def S_56L28 (n:Nat):LoopSpec where
 sh:= [(1,.bx (.v y1)),(3,.v .int),(5,.mv y4 2),(13,.v .bool),(14,.v .int),(15,.v .int)]
 ex:= [(.exit 10,[(1,.bx (.v y1)),(3,.v .int),(5,.mv y4 2),(13,.v .bool),(14,.v .int)])]
 run:=Cd n
def S_56L25 (n:Nat):LoopSpec where
 sh:= [(1,.bx (.v y1)),(3,.v .int),(5,.mv y4 2),(13,.v .bool),(14,.v .int)]
 ex:= [(.exit 8,[(1,.bx (.v y1)),(3,.v .int),(5,.mv y4 2),(13,.v .bool)])]
 run:=Cc n
def S_56L22 (n:Nat):LoopSpec where
 sh:= [(1,.bx (.v y1)),(3,.v .int),(5,.mv y4 2),(13,.v .bool)]
 ex:= [(.exit 6,[(5,.mv y4 2)])]
 run:=CN n
def C_56:Cx where
 tt:=YaO tt
 T:=YfC [(46,E_50),(47,E_53),(48,E_55)]
 L:=YfB [(13,S_56L13 Aa),(8,S_56L8 Aa),(4,S_56L4 Aa),(31,S_56L31 Aa),(28,S_56L28 Aa),(25,S_56L25 Aa),(22,S_56L22 Aa)]
 dep:=λi=>match i with
  |21=>2
  |27=>1
  |76=>1
  |77=>1
  |80=>2
  |81=>2
  |_=>0
 n:=1
def B_56L13:Code:=(Tryz.f23.body.bind (Yaa 13)).getD .skip
def B_56L8:Code:=(Tryz.f23.body.bind (Yaa 8)).getD .skip
def B_56L4:Code:=(Tryz.f23.body.bind (Yaa 4)).getD .skip
def B_56L31:Code:=(Tryz.f23.body.bind (Yaa 31)).getD .skip
def B_56L28:Code:=(Tryz.f23.body.bind (Yaa 28)).getD .skip
def B_56L25:Code:=(Tryz.f23.body.bind (Yaa 25)).getD .skip
def B_56L22:Code:=(Tryz.f23.body.bind (Yaa 22)).getD .skip
def D_56:Code:=Tryz.f23.body.getD .skip
def N_56 (_:X0 E_56.params) (r:YE E_56.results):E_56.B:=r
def E_57:Entry where
 params:= [.v y17,.v .int]
 results:= [.mv y6 0]
 B:=(List (Int×Int))
 run:=λa=>Fk a.1 a.2
 out:=λb=>((),())
 res:=λb=>b
def S_57L3 (n:Nat):LoopSpec where
 sh:= [(0,.v y17),(1,.v .int),(5,.mv y6 0),(6,.v .int)]
 ex:= [(.exit 0,[(5,.mv y6 0)])]
 run:=CF n
def C_57:Cx:=cx0 tt [] [(3,S_57L3 Aa)] 2
def B_57L3:Code:=(Tryz.f24.body.bind (Yaa 3)).getD .skip
def D_57:Code:=Tryz.f24.body.getD .skip
def N_57 (_:X0 E_57.params) (r:YE E_57.results):E_57.B:=r
def E_58:Entry where
 params:= [.v y1]
 results:= [.mv y13 0,.v .bool]
 B:=(List (List (Int×Int)))×Bool
 run:=λa=>Dj a
 out:=λb=>()
 res:=λb=>(b.1,b.2)
def S_58L9 (n:Nat):LoopSpec where
 sh:= [(1,.bx (.v y1)),(4,.mv y13 0),(5,.mv y4 2),(6,.v .int),(7,.v .int)]
 ex:= [(.exit 2,[(1,.bx (.v y1)),(4,.mv y13 0),(5,.mv y4 2),(6,.v .int)])]
 run:=BC n
def S_58L6 (n:Nat):LoopSpec where
 sh:= [(1,.bx (.v y1)),(4,.mv y13 0),(5,.mv y4 2),(6,.v .int)]
 ex:= [(.exit 0,[(4,.mv y13 0)])]
 run:=BB n
def C_58:Cx:=cx0 tt [(22,E_48),(23,E_56),(24,E_57)] [(9,S_58L9 Aa),(6,S_58L6 Aa)] 1
def B_58L9:Code:=(Tryz.f7.body.bind (Yaa 9)).getD .skip
def B_58L6:Code:=(Tryz.f7.body.bind (Yaa 6)).getD .skip
def D_58:Code:=Tryz.f7.body.getD .skip
def N_58 (_:X0 E_58.params) (r:YE E_58.results):E_58.B:=(r.1,r.2)
def E_59:Entry where
 params:= [.v y17]
 results:= [.mv .int 0]
 B:=(List Int)
 run:=λa=>FL a
 out:=λb=>()
 res:=λb=>b
def S_59L3 (n:Nat):LoopSpec where
 sh:= [(3,.mv .int 0),(7,.v y17),(8,.v .int),(9,.v .int)]
 ex:= [(.exit 0,[(3,.mv .int 0)])]
 run:=CU n
def C_59:Cx:=cx0 tt [] [(3,S_59L3 Aa)] 1
def B_59L3:Code:=(Tryz.f26.body.bind (Yaa 3)).getD .skip
def D_59:Code:=Tryz.f26.body.getD .skip
def N_59 (_:X0 E_59.params) (r:YE E_59.results):E_59.B:=r
def E_60:Entry where
 params:= [.v y1]
 results:= [.mv .int 0,.v .bool]
 B:=(List Int)×Bool
 run:=λa=>BQ a
 out:=λb=>()
 res:=λb=>(b.1,b.2)
def S_60L6 (n:Nat):LoopSpec where
 sh:= [(1,.bx (.v y1)),(4,.mv y11 3),(5,.mv .int 0),(6,.v .int)]
 ex:= [(.exit 0,[(1,.bx (.v y1)),(4,.mv y11 3),(5,.mv .int 0)])]
 run:=AA n
def S_60L18 (n:Nat):LoopSpec where
 sh:= [(393290,.jk 1),(1,.bx (.v y1)),(4,.mv y11 3),(5,.mv .int 0),(7,.v .int),(8,.v .int),(9,.v .bool),(75,.v .int),(76,.v .int)]
 ex:= [(.exit 6,[(1,.bx (.v y1)),(4,.mv y11 3),(5,.mv .int 0),(7,.v .int),(8,.v .int),(9,.v .bool)])]
 run:=AS n
def S_60L14 (n:Nat):LoopSpec where
 sh:= [(1,.bx (.v y1)),(4,.mv y11 3),(5,.mv .int 0),(7,.v .int),(8,.v .int)]
 ex:= [(.exit 4,[(1,.bx (.v y1)),(4,.mv y11 3),(5,.mv .int 0),(7,.v .int)])]
 run:=AI n
def S_60L11 (n:Nat):LoopSpec where
 sh:= [(1,.bx (.v y1)),(4,.mv y11 3),(5,.mv .int 0),(7,.v .int)]
 ex:= [(.exit 2,[(1,.bx (.v y1)),(5,.mv .int 0)])]
 run:=An n
def C_60:Cx:=cx0 tt [(20,E_31),(25,E_41),(26,E_59)] [(6,S_60L6 Aa),(18,S_60L18 Aa),(14,S_60L14 Aa),(11,S_60L11 Aa)] 1
def B_60L6:Code:=(Tryz.f8.body.bind (Yaa 6)).getD .skip
def B_60L18:Code:=(Tryz.f8.body.bind (Yaa 18)).getD .skip
def B_60L14:Code:=(Tryz.f8.body.bind (Yaa 14)).getD .skip
def B_60L11:Code:=(Tryz.f8.body.bind (Yaa 11)).getD .skip
def D_60:Code:=Tryz.f8.body.getD .skip
def N_60 (_:X0 E_60.params) (r:YE E_60.results):E_60.B:=(r.1,r.2)
def E_61:Entry where
 params:= [.v y1]
 results:= [.mv .int 0,.v .bool]
 B:=(List Int)×Bool
 run:=λa=>C5 a
 out:=λb=>()
 res:=λb=>(b.1,b.2)
def S_61L14 (n:Nat):LoopSpec where
 sh:= [(1,.bx (.v y1)),(4,.mv y4 2),(5,.mv .int 0),(6,.v .int),(7,.v .int),(8,.v .int),(9,.v .bool),(10,.v .int)]
 ex:= [(.exit 4,[(1,.bx (.v y1)),(4,.mv y4 2),(5,.mv .int 0),(6,.v .int),(7,.v .int),(8,.v .int),(9,.v .bool)])]
 run:=AU n
def S_61L20 (n:Nat):LoopSpec where
 sh:= [(1,.bx (.v y1)),(4,.mv y4 2),(5,.mv .int 0),(6,.v .int),(7,.v .int),(8,.v .int),(9,.v .bool),(11,.v .int)]
 ex:= [(.exit 6,[(1,.bx (.v y1)),(4,.mv y4 2),(5,.mv .int 0),(6,.v .int),(7,.v .int),(8,.v .int),(9,.v .bool)])]
 run:=AW n
def S_61L10 (n:Nat):LoopSpec where
 sh:= [(1,.bx (.v y1)),(4,.mv y4 2),(5,.mv .int 0),(6,.v .int),(7,.v .int),(8,.v .int)]
 ex:= [(.exit 2,[(1,.bx (.v y1)),(4,.mv y4 2),(5,.mv .int 0),(6,.v .int),(7,.v .int)])]
 run:=AJ n
def S_61L6 (n:Nat):LoopSpec where
 sh:= [(1,.bx (.v y1)),(4,.mv y4 2),(5,.mv .int 0),(6,.v .int)]
 ex:= [(.exit 0,[(5,.mv .int 0)]),(.ret,[(2,.mv .int 0),(3,.v .bool)])]
 run:=Bt n
def C_61:Cx:=cx0 tt [(22,E_48),(23,E_56),(27,E_54)] [(14,S_61L14 Aa),(20,S_61L20 Aa),(10,S_61L10 Aa),(6,S_61L6 Aa)] 1
def B_61L14:Code:=(Tryz.f9.body.bind (Yaa 14)).getD .skip
def B_61L20:Code:=(Tryz.f9.body.bind (Yaa 20)).getD .skip
def B_61L10:Code:=(Tryz.f9.body.bind (Yaa 10)).getD .skip
def B_61L6:Code:=(Tryz.f9.body.bind (Yaa 6)).getD .skip
def D_61:Code:=Tryz.f9.body.getD .skip
def N_61 (_:X0 E_61.params) (r:YE E_61.results):E_61.B:=(r.1,r.2)
def E_62:Entry where
 params:= [.v y2,.v y2]
 results:= [.v .bool]
 B:=Bool
 run:=λa=>Ef a.1 a.2
 out:=λb=>((),())
 res:=λb=>b
def S_62L4 (n:Nat):LoopSpec where
 sh:= [(0,.v y2),(1,.v y2),(5,.v .int)]
 ex:= [(.exit 0,[]),(.ret,[(4,.v .bool)])]
 run:=De n
def C_62:Cx:=cx0 tt [] [(4,S_62L4 Aa)] 2
def B_62L4:Code:=(Tryz.f10.body.bind (Yaa 4)).getD .skip
def D_62:Code:=Tryz.f10.body.getD .skip
def N_62 (_:X0 E_62.params) (r:YE E_62.results):E_62.B:=r
def E_63:Entry where
 params:= [.v y1]
 results:= [.v .bool,.v .bool]
 B:=Bool×Bool
 run:=λa=>Ee a
 out:=λb=>()
 res:=λb=>(b.1,b.2)
def S_63L4 (n:Nat):LoopSpec where
 sh:= [(15,.mv y13 1),(16,.v .int),(17,.v .int)]
 ex:= [(.exit 0,[]),(.ret,[(2,.v .bool),(3,.v .bool)])]
 run:=Ch n
def C_63:Cx:=cx0 tt [(20,E_31),(21,E_42)] [(4,S_63L4 Aa)] 1
def B_63L4:Code:=(Tryz.f11.body.bind (Yaa 4)).getD .skip
def D_63:Code:=Tryz.f11.body.getD .skip
def N_63 (_:X0 E_63.params) (r:YE E_63.results):E_63.B:=(r.1,r.2)
def E_64:Entry where
 params:= [.v y2]
 results:= [.v .str]
 B:=ByteArray
 run:=λa=>Dq a
 out:=λb=>()
 res:=λb=>b
def S_64L3 (n:Nat):LoopSpec where
 sh:= [(3,.mv (.num .u8) 0),(10,.v y2),(11,.v .int),(12,.v .int)]
 ex:= [(.exit 0,[(3,.mv (.num .u8) 0)])]
 run:=Dd n
def C_64:Cx:=cx0 tt [] [(3,S_64L3 Aa)] 1
def B_64L3:Code:=(Tryz.f83.body.bind (Yaa 3)).getD .skip
def D_64:Code:=Tryz.f83.body.getD .skip
def N_64 (_:X0 E_64.params) (r:YE E_64.results):E_64.B:=r
def E_65:Entry where
 params:= [.v y3]
 results:= [.v .smap]
 B:=(List ByteArray)
 run:=λa=>DD a
 out:=λb=>()
 res:=λb=>b
def S_65L3 (n:Nat):LoopSpec where
 sh:= [(3,.mp),(8,.v y15),(9,.v .int),(10,.v .int)]
 ex:= [(.exit 0,[(3,.mp)])]
 run:=CX n
def C_65:Cx:=cx0 tt [(83,E_64)] [(3,S_65L3 Aa)] 1
def B_65L3:Code:=(Tryz.f81.body.bind (Yaa 3)).getD .skip
def D_65:Code:=Tryz.f81.body.getD .skip
def N_65 (_:X0 E_65.params) (r:YE E_65.results):E_65.B:=r
def E_66:Entry where
 params:= [.v y1]
 results:= [.v (.ptr y7)]
 B:=(Bool×Int×(List (List (List Int)))×(List (List (List ByteArray))))
 run:=λa=>D4 a
 out:=λb=>()
 res:=λb=>b
def S_66L7 (n:Nat):LoopSpec where
 sh:= [(3,.bx (.pr (.v .int) (.pr (.mv y15 1) (.mv y20 1)))),(5,.bx (.v y0)),(6,.v .int),(20,.v y10),(21,.v .int),(22,.v .int),(27,.v y2),(28,.v .int),(29,.v .int)]
 ex:= [(.exit 2,[(3,.bx (.pr (.v .int) (.pr (.mv y15 1) (.mv y20 1)))),(5,.bx (.v y0)),(6,.v .int),(20,.v y10),(21,.v .int),(22,.v .int)])]
 run:=BA n
def S_66L3 (n:Nat):LoopSpec where
 sh:= [(3,.bx (.pr (.v .int) (.pr (.mv y15 1) (.mv y20 1)))),(20,.v y10),(21,.v .int),(22,.v .int)]
 ex:= [(.exit 0,[(3,.bx (.pr (.v .int) (.pr (.mv y15 1) (.mv y20 1))))])]
 run:=Bz n
def C_66:Cx where
 tt:=YaO tt
 T:=YfC [(81,E_65)]
 L:=YfB [(7,S_66L7 Aa),(3,S_66L3 Aa)]
 dep:=λi=>match i with
  |13=>1
  |16=>1
  |_=>0
 n:=1
 fine:=true
def B_66L7:Code:=(Tryz.f52.body.bind (Yaa 7)).getD .skip
def B_66L3:Code:=(Tryz.f52.body.bind (Yaa 3)).getD .skip
def D_66:Code:=Tryz.f52.body.getD .skip
def N_66 (_:X0 E_66.params) (r:YE E_66.results):E_66.B:=r
def E_67:Entry where
 params:= [.v y2]
 results:= [.nv .int 0]
 B:=(Bool×(List Int))
 run:=λa=>Gt a
 out:=λb=>()
 res:=λb=>b
def C_67:Cx:=cx0 tt [] [] 1
def D_67:Code:=Tryz.f55.body.getD .skip
def N_67 (_:X0 E_67.params) (r:YE E_67.results):E_67.B:=r
def E_68:Entry where
 params:= [.v y2,.bx (.nv .int 0)]
 results:= [.v .bool]
 B:=(Bool×(List Int))×Bool
 run:=λa=>Cy a.1 a.2
 out:=λb=>((),b.1)
 res:=λb=>b.2
def C_68:Cx:=cx0 tt [(55,E_67)] [] 2
def D_68:Code:=Tryz.f54.body.getD .skip
def N_68 (o:X0 E_68.params) (r:YE E_68.results):E_68.B:=(o.2,r)
def E_69_of (rec:(Int×(List Int)×(Bool×(List Int))×(Bool×Int×(List (List (List Int)))×(List (List (List ByteArray))))×(List Int)×Unit)->Option ((List Int)×(Bool×(List Int))×(Bool×Int×(List (List (List Int)))×(List (List (List ByteArray))))×(List Int)×Bool)):Entry where
 params:= [.v .int,.bx (.mv .int 0),.bx (.nv .int 0),.bx (.v (.ptr y7)),.bx (.v y2),.jk 1]
 results:= [.v .bool]
 cod:= [(2,.kb 54),(5,.kn 82 1 5)]
 B:=(List Int)×(Bool×(List Int))×(Bool×Int×(List (List (List Int)))×(List (List (List ByteArray))))×(List Int)×Bool
 run:=rec
 out:=λb=>((),b.1,b.2.1,b.2.2.1,b.2.2.2.1,())
 res:=λb=>b.2.2.2.2
def E_69 (d:Nat):Entry:=E_69_of (Al d)
def S_69L10 (rec:(Int×(List Int)×(Bool×(List Int))×(Bool×Int×(List (List (List Int)))×(List (List (List ByteArray))))×(List Int)×Unit)->Option ((List Int)×(Bool×(List Int))×(Bool×Int×(List (List (List Int)))×(List (List (List ByteArray))))×(List Int)×Bool)) (n:Nat):LoopSpec where
 sh:= [(0,.v .int),(1,.bx (.mv .int 0)),(2,.bx (.nv .int 0)),(3,.bx (.v (.ptr y7))),(4,.bx (.v y2)),(5,.jk 1),(8,.v .int),(9,.v .bool),(50,.v y15),(51,.v .int),(52,.v .int)]
 ex:= [(.exit 2,[(0,.v .int),(1,.bx (.mv .int 0)),(2,.bx (.nv .int 0)),(3,.bx (.v (.ptr y7))),(4,.bx (.v y2)),(5,.jk 1),(8,.v .int),(9,.v .bool)])]
 run:=Aj rec n
def S_69L4 (rec:(Int×(List Int)×(Bool×(List Int))×(Bool×Int×(List (List (List Int)))×(List (List (List ByteArray))))×(List Int)×Unit)->Option ((List Int)×(Bool×(List Int))×(Bool×Int×(List (List (List Int)))×(List (List (List ByteArray))))×(List Int)×Bool)) (n:Nat):LoopSpec where
 sh:= [(0,.v .int),(1,.bx (.mv .int 0)),(2,.bx (.nv .int 0)),(3,.bx (.v (.ptr y7))),(4,.bx (.v y2)),(5,.jk 1),(8,.v .int)]
 ex:= [(.exit 0,[(1,.bx (.mv .int 0)),(2,.bx (.nv .int 0)),(3,.bx (.v (.ptr y7))),(4,.bx (.v y2)),(5,.jk 1)]),(.ret,[(1,.bx (.mv .int 0)),(2,.bx (.nv .int 0)),(3,.bx (.v (.ptr y7))),(4,.bx (.v y2)),(5,.jk 1),(7,.v .bool)])]
 run:=Ag rec n
def C_69 (rec:(Int×(List Int)×(Bool×(List Int))×(Bool×Int×(List (List (List Int)))×(List (List (List ByteArray))))×(List Int)×Unit)->Option ((List Int)×(Bool×(List Int))×(Bool×Int×(List (List (List Int)))×(List (List (List ByteArray))))×(List Int)×Bool)):Cx where
 tt:=YaO tt
 T:=YfC [(54,E_68),(67,E_35),(83,E_64),(3604562,E_69_of rec)]
 L:=YfB [(10,S_69L10 rec Aa),(4,S_69L4 rec Aa)]
 dep:=λi=>0
 n:=6
 cod:= [(2,.kb 54),(5,.kn 82 1 5)]
def B_69L10:Code:=(Tryz.f82.body.bind (Yaa 10)).getD .skip
def B_69L4:Code:=(Tryz.f82.body.bind (Yaa 4)).getD .skip
def D_69:Code:=Tryz.f82.body.getD .skip
def N_69 (o:X0 [.v .int,.bx (.mv .int 0),.bx (.nv .int 0),.bx (.v (.ptr y7)),.bx (.v y2),.jk 1]) (r:YE [.v .bool]):(List Int)×(Bool×(List Int))×(Bool×Int×(List (List (List Int)))×(List (List (List ByteArray))))×(List Int)×Bool:=(o.2.1,o.2.2.1,o.2.2.2.1,o.2.2.2.2.1,r)
def E_70:Entry where
 params:= [.v (.ptr y7),.v y2,.bx (.nv .int 0)]
 results:= []
 cod:= [(2,.cl 54)]
 B:=(Bool×(List Int))
 run:=λa=>BP a.1 a.2.1 a.2.2
 out:=λb=>((),(),b)
 res:=λb=>()
def C_70:Cx where
 tt:=YaO tt
 T:=YfC [(3604562,E_69 Aa)]
 L:=YfB []
 dep:=λi=>0
 n:=3
 cod:= [(2,.cl 54)]
def D_70:Code:=Tryz.f53.body.getD .skip
def N_70 (o:X0 E_70.params) (_:YE E_70.results):E_70.B:=o.2.2
def E_71:Entry where
 params:= [.v y1,.v y2]
 results:= [.nv .int 0]
 B:=(Bool×(List Int))
 run:=λa=>DN a.1 a.2
 out:=λb=>((),())
 res:=λb=>b
def C_71:Cx:=cx0 tt [(52,E_66),(3604533,E_70)] [] 2
def D_71:Code:=Tryz.f28.body.getD .skip
def N_71 (_:X0 E_71.params) (r:YE E_71.results):E_71.B:=r
def E_72:Entry where
 params:= [.v y1,.v y2]
 results:= [.mv .int 0,.v .bool]
 B:=(List Int)×Bool
 run:=λa=>DM a.1 a.2
 out:=λb=>((),())
 res:=λb=>(b.1,b.2)
def S_72L4 (n:Nat):LoopSpec where
 sh:= [(1,.v y2),(2,.bx (.v y1)),(20,.v y2),(21,.v .int),(22,.v .int)]
 ex:= [(.exit 0,[(1,.v y2),(2,.bx (.v y1))]),(.ret,[(4,.mv .int 0),(5,.v .bool)])]
 run:=Bp n
def C_72:Cx:=cx0 tt [(20,E_31),(28,E_71)] [(4,S_72L4 Aa)] 2
def B_72L4:Code:=(Tryz.f12.body.bind (Yaa 4)).getD .skip
def D_72:Code:=Tryz.f12.body.getD .skip
def N_72 (_:X0 E_72.params) (r:YE E_72.results):E_72.B:=(r.1,r.2)
def E_73:Entry where
 params:= [.v y1,.v y2]
 results:= [.v .bool]
 B:=Bool
 run:=λa=>DL a.1 a.2
 out:=λb=>((),())
 res:=λb=>b
def S_73L2 (n:Nat):LoopSpec where
 sh:= [(1,.v y2),(2,.bx (.v y1)),(5,.v .int)]
 ex:= [(.exit 0,[(1,.v y2),(2,.bx (.v y1))]),(.ret,[(4,.v .bool)])]
 run:=B0 n
def C_73:Cx:=cx0 tt [(44,E_8)] [(2,S_73L2 Aa)] 2
def B_73L2:Code:=(Tryz.f29.body.bind (Yaa 2)).getD .skip
def D_73:Code:=Tryz.f29.body.getD .skip
def N_73 (_:X0 E_73.params) (r:YE E_73.results):E_73.B:=r
def E_74:Entry where
 params:= [.v .int,.v y10]
 results:= [.mv y10 1]
 B:=(List (List ((List Int)×Int×(List (List Int)))))
 run:=λa=>Fj a.1 a.2
 out:=λb=>((),())
 res:=λb=>b
def S_74L7 (n:Nat):LoopSpec where
 sh:= [(1,.v y10),(5,.mv y10 1),(6,.v .int),(7,.v .int),(8,.v .int)]
 ex:= [(.exit 2,[(1,.v y10),(5,.mv y10 1),(6,.v .int),(7,.v .int)])]
 run:=CD n
def S_74L3 (n:Nat):LoopSpec where
 sh:= [(1,.v y10),(5,.mv y10 1),(6,.v .int)]
 ex:= [(.exit 0,[(5,.mv y10 1)])]
 run:=CC n
def C_74:Cx where
 tt:=YaO tt
 T:=YfC [(71,E_22)]
 L:=YfB [(7,S_74L7 Aa),(3,S_74L3 Aa)]
 dep:=λi=>match i with
  |10=>1
  |_=>0
 n:=2
 fine:=true
def B_74L7:Code:=(Tryz.f57.body.bind (Yaa 7)).getD .skip
def B_74L3:Code:=(Tryz.f57.body.bind (Yaa 3)).getD .skip
def D_74:Code:=Tryz.f57.body.getD .skip
def N_74 (_:X0 E_74.params) (r:YE E_74.results):E_74.B:=r
def E_75_of (rec:(Int×(List (List ((List Int)×Int×(List (List Int)))))×(List Int)×(List Int)×((List (List Int))×(Int×Int×Bool)))->Option (((List (List Int))×(Int×Int×Bool)))):Entry where
 params:= [.v .int,.v y16,.v y2,.v y2,.pr (.mv y2 1) (.v y9)]
 results:= [.pr (.mv y2 1) (.v y9)]
 B:=((List (List Int))×(Int×Int×Bool))
 run:=rec
 out:=λb=>((),(),(),(),((),()))
 res:=λb=>b
def E_75 (d:Nat):Entry:=E_75_of (Ax d)
def S_75L14 (rec:(Int×(List (List ((List Int)×Int×(List (List Int)))))×(List Int)×(List Int)×((List (List Int))×(Int×Int×Bool)))->Option (((List (List Int))×(Int×Int×Bool)))) (n:Nat):LoopSpec where
 sh:= [(0,.v .int),(1,.v y16),(2,.v y2),(3,.v y2),(9,.bx (.pr (.mv y2 1) (.v y9))),(10,.bx (.pr (.mv y2 1) (.v y9))),(11,.v .int),(12,.v .int),(13,.mv .int 0),(14,.v .bool),(15,.v .int)]
 ex:= [(.exit 2,[(0,.v .int),(1,.v y16),(2,.v y2),(3,.v y2),(9,.bx (.pr (.mv y2 1) (.v y9))),(10,.bx (.pr (.mv y2 1) (.v y9))),(11,.v .int),(12,.v .int),(13,.mv .int 0),(14,.v .bool)])]
 run:=AO rec n
def S_75L8 (rec:(Int×(List (List ((List Int)×Int×(List (List Int)))))×(List Int)×(List Int)×((List (List Int))×(Int×Int×Bool)))->Option (((List (List Int))×(Int×Int×Bool)))) (n:Nat):LoopSpec where
 sh:= [(0,.v .int),(1,.v y16),(2,.v y2),(3,.v y2),(9,.bx (.pr (.mv y2 1) (.v y9))),(10,.bx (.pr (.mv y2 1) (.v y9))),(11,.v .int),(12,.v .int)]
 ex:= [(.exit 0,[(9,.bx (.pr (.mv y2 1) (.v y9))),(10,.bx (.pr (.mv y2 1) (.v y9)))])]
 run:=Am rec n
def C_75 (rec:(Int×(List (List ((List Int)×Int×(List (List Int)))))×(List Int)×(List Int)×((List (List Int))×(Int×Int×Bool)))->Option (((List (List Int))×(Int×Int×Bool)))):Cx where
 tt:=YaO tt
 T:=YfC [(56,E_75_of rec),(78,E_52),(84,E_6)]
 L:=YfB [(14,S_75L14 rec Aa),(8,S_75L8 rec Aa)]
 dep:=λi=>match i with
  |36=>1
  |37=>1
  |_=>0
 n:=5
def B_75L14:Code:=(Tryz.f56.body.bind (Yaa 14)).getD .skip
def B_75L8:Code:=(Tryz.f56.body.bind (Yaa 8)).getD .skip
def D_75:Code:=Tryz.f56.body.getD .skip
def N_75 (_:X0 [.v .int,.v y16,.v y2,.v y2,.pr (.mv y2 1) (.v y9)]) (r:YE [.pr (.mv y2 1) (.v y9)]):((List (List Int))×(Int×Int×Bool)):=r
def E_76:Entry where
 params:= [.v y1,.v y10,.v y2,.v .int,.v .bool]
 results:= [.pr (.mv y2 1) (.v y9)]
 B:=((List (List Int))×(Int×Int×Bool))
 run:=λa=>EA a.1 a.2.1 a.2.2.1 a.2.2.2.1 a.2.2.2.2
 out:=λb=>((),(),(),(),())
 res:=λb=>b
def C_76:Cx:=cx0 tt [(56,E_75 Aa),(57,E_74)] [] 5
def D_76:Code:=Tryz.f30.body.getD .skip
def N_76 (_:X0 E_76.params) (r:YE E_76.results):E_76.B:=r
def E_77:Entry where
 params:= [.v y1,.v y2]
 results:= [.v y2,.v .bool]
 B:=(List Int)×Bool
 run:=λa=>DP a.1 a.2
 out:=λb=>((),())
 res:=λb=>(b.1,b.2)
def C_77:Cx:=cx0 tt [(22,E_48),(29,E_73),(30,E_76)] [] 2
def D_77:Code:=Tryz.f13.body.getD .skip
def N_77 (_:X0 E_77.params) (r:YE E_77.results):E_77.B:=(r.1,r.2)
def E_78:Entry where
 params:= [.v y15,.v y15]
 results:= [.v .bool]
 B:=Bool
 run:=λa=>FO a.1 a.2
 out:=λb=>((),())
 res:=λb=>b
def S_78L4 (n:Nat):LoopSpec where
 sh:= [(0,.v y15),(1,.v y15),(5,.v .int)]
 ex:= [(.exit 0,[]),(.ret,[(4,.v .bool)])]
 run:=C0 n
def C_78:Cx:=cx0 tt [(10,E_62)] [(4,S_78L4 Aa)] 2
def B_78L4:Code:=(Tryz.f14.body.bind (Yaa 4)).getD .skip
def D_78:Code:=Tryz.f14.body.getD .skip
def N_78 (_:X0 E_78.params) (r:YE E_78.results):E_78.B:=r
def E_79:Entry where
 params:= [.v .int,.v y12]
 results:= [.v .bool]
 B:=Bool
 run:=λa=>Fo a.1 a.2
 out:=λb=>((),())
 res:=λb=>b
def S_79L4 (n:Nat):LoopSpec where
 sh:= [(0,.v .int),(10,.v y12),(11,.v .int),(12,.v .int)]
 ex:= [(.exit 0,[]),(.ret,[(4,.v .bool)])]
 run:=Cu n
def C_79:Cx:=cx0 tt [(74,E_29)] [(4,S_79L4 Aa)] 2
def B_79L4:Code:=(Tryz.f58.body.bind (Yaa 4)).getD .skip
def D_79:Code:=Tryz.f58.body.getD .skip
def N_79 (_:X0 E_79.params) (r:YE E_79.results):E_79.B:=r
def E_80:Entry where
 params:= [.v .int,.v y12,.v .int]
 results:= [.v .bool]
 B:=Bool
 run:=λa=>FE a.1 a.2.1 a.2.2
 out:=λb=>((),(),())
 res:=λb=>b
def S_80L4 (n:Nat):LoopSpec where
 sh:= [(2,.v .int),(18,.v y12),(19,.v .int),(20,.v .int)]
 ex:= [(.exit 0,[]),(.ret,[(6,.v .bool)])]
 run:=CT n
def C_80:Cx:=cx0 tt [(42,E_26),(58,E_79)] [(4,S_80L4 Aa)] 3
def B_80L4:Code:=(Tryz.f31.body.bind (Yaa 4)).getD .skip
def D_80:Code:=Tryz.f31.body.getD .skip
def N_80 (_:X0 E_80.params) (r:YE E_80.results):E_80.B:=r
def E_81:Entry where
 params:= [.v .int]
 results:= [.mv .int 0]
 B:=(List Int)
 run:=λa=>ED a
 out:=λb=>()
 res:=λb=>b
def S_81L3 (n:Nat):LoopSpec where
 sh:= [(3,.mv .int 0),(8,.v .int),(9,.v .int)]
 ex:= [(.exit 0,[(3,.mv .int 0)])]
 run:=B5 n
def C_81:Cx:=cx0 tt [] [(3,S_81L3 Aa)] 1
def B_81L3:Code:=(Tryz.f32.body.bind (Yaa 3)).getD .skip
def D_81:Code:=Tryz.f32.body.getD .skip
def N_81 (_:X0 E_81.params) (r:YE E_81.results):E_81.B:=r
def E_82:Entry where
 params:= [.v .int,.v .int,.v .int]
 results:= [.mv .int 0]
 B:=(List Int)
 run:=λa=>Em a.1 a.2.1 a.2.2
 out:=λb=>((),(),())
 res:=λb=>b
def S_82L3 (n:Nat):LoopSpec where
 sh:= [(0,.v .int),(2,.v .int),(7,.mv .int 0),(8,.v .int)]
 ex:= [(.exit 0,[(7,.mv .int 0)])]
 run:=Dl n
def C_82:Cx:=cx0 tt [] [(3,S_82L3 Aa)] 3
def B_82L3:Code:=(Tryz.f33.body.bind (Yaa 3)).getD .skip
def D_82:Code:=Tryz.f33.body.getD .skip
def N_82 (_:X0 E_82.params) (r:YE E_82.results):E_82.B:=r
def E_83:Entry where
 params:= [.v .int,.v .int]
 results:= [.v .int]
 B:=Int
 run:=λa=>Fe a.1 a.2
 out:=λb=>((),())
 res:=λb=>b
def S_83L2 (n:Nat):LoopSpec where
 sh:= [(0,.v .int),(1,.v .int),(5,.v .int)]
 ex:= [(.exit 0,[(5,.v .int)])]
 run:=DC n
def C_83:Cx:=cx0 tt [] [(2,S_83L2 Aa)] 2
def B_83L2:Code:=(Tryz.f85.body.bind (Yaa 2)).getD .skip
def D_83:Code:=Tryz.f85.body.getD .skip
def N_83 (_:X0 E_83.params) (r:YE E_83.results):E_83.B:=r
def E_84:Entry where
 params:= [.v .int,.v y12,.v .int]
 results:= [.v (.ptr y8)]
 B:=(Bool×Int×Int×(List (List ((List Int)×(List ByteArray)))))
 run:=λa=>DO a.1 a.2.1 a.2.2
 out:=λb=>((),(),())
 res:=λb=>b
def S_84L17 (n:Nat):LoopSpec where
 sh:= [(917564,.jk 1),(0,.v .int),(2,.v .int),(7,.bx (.pr (.v .int) (.pr (.v .int) (.mv y14 1)))),(9,.bx (.v y3)),(10,.v .smap),(11,.mp),(12,.v .int),(13,.mv .int 0),(14,.mv .int 0),(15,.v .int),(16,.v .int),(28,.v y12),(29,.v .int),(30,.v .int),(56,.v .int),(57,.v .int),(61,.v .int),(62,.v .int)]
 ex:= [(.exit 6,[(0,.v .int),(2,.v .int),(7,.bx (.pr (.v .int) (.pr (.v .int) (.mv y14 1)))),(9,.bx (.v y3)),(10,.v .smap),(11,.mp),(12,.v .int),(13,.mv .int 0),(14,.mv .int 0),(15,.v .int),(16,.v .int),(28,.v y12),(29,.v .int),(30,.v .int),(56,.v .int),(57,.v .int)])]
 run:=Bg n
def S_84L14 (n:Nat):LoopSpec where
 sh:= [(0,.v .int),(2,.v .int),(7,.bx (.pr (.v .int) (.pr (.v .int) (.mv y14 1)))),(9,.bx (.v y3)),(10,.v .smap),(11,.mp),(12,.v .int),(13,.mv .int 0),(14,.mv .int 0),(15,.v .int),(28,.v y12),(29,.v .int),(30,.v .int),(56,.v .int),(57,.v .int)]
 ex:= [(.exit 4,[(0,.v .int),(2,.v .int),(7,.bx (.pr (.v .int) (.pr (.v .int) (.mv y14 1)))),(9,.bx (.v y3)),(10,.v .smap),(11,.mp),(12,.v .int),(14,.mv .int 0),(15,.v .int),(28,.v y12),(29,.v .int),(30,.v .int)])]
 run:=Bf n
def S_84L8 (n:Nat):LoopSpec where
 sh:= [(0,.v .int),(2,.v .int),(7,.bx (.pr (.v .int) (.pr (.v .int) (.mv y14 1)))),(9,.bx (.v y3)),(10,.v .smap),(11,.mp),(12,.v .int),(28,.v y12),(29,.v .int),(30,.v .int)]
 ex:= [(.exit 2,[(0,.v .int),(2,.v .int),(7,.bx (.pr (.v .int) (.pr (.v .int) (.mv y14 1)))),(28,.v y12),(29,.v .int),(30,.v .int)])]
 run:=A8 n
def S_84L3 (n:Nat):LoopSpec where
 sh:= [(0,.v .int),(2,.v .int),(7,.bx (.pr (.v .int) (.pr (.v .int) (.mv y14 1)))),(28,.v y12),(29,.v .int),(30,.v .int)]
 ex:= [(.exit 0,[(7,.bx (.pr (.v .int) (.pr (.v .int) (.mv y14 1))))])]
 run:=Bs n
def C_84:Cx where
 tt:=YaO tt
 T:=YfC [(33,E_82),(81,E_65),(83,E_64),(85,E_83)]
 L:=YfB [(17,S_84L17 Aa),(14,S_84L14 Aa),(8,S_84L8 Aa),(3,S_84L3 Aa)]
 dep:=λi=>match i with
  |25=>1
  |_=>0
 n:=3
 fine:=true
def B_84L17:Code:=(Tryz.f59.body.bind (Yaa 17)).getD .skip
def B_84L14:Code:=(Tryz.f59.body.bind (Yaa 14)).getD .skip
def B_84L8:Code:=(Tryz.f59.body.bind (Yaa 8)).getD .skip
def B_84L3:Code:=(Tryz.f59.body.bind (Yaa 3)).getD .skip
def D_84:Code:=Tryz.f59.body.getD .skip
def N_84 (_:X0 E_84.params) (r:YE E_84.results):E_84.B:=r
def E_85:Entry where
 params:= [.v y2]
 results:= [.v .bool]
 B:=Bool
 run:=λa=>GU a
 out:=λb=>()
 res:=λb=>b
def C_85:Cx:=cx0 tt [] [] 1
def D_85:Code:=Tryz.f35.body.getD .skip
def N_85 (_:X0 E_85.params) (r:YE E_85.results):E_85.B:=r
def E_86:Entry where
 params:= [.v y2]
 results:= [.mv .int 0]
 B:=(List Int)
 run:=λa=>Gj a
 out:=λb=>()
 res:=λb=>b
def C_86:Cx:=cx0 tt [] [] 1
def D_86:Code:=Tryz.f55.body.getD .skip
def N_86 (_:X0 E_86.params) (r:YE E_86.results):E_86.B:=r
def E_87:Entry where
 params:= [.v y2,.bx (.v (.fn 35)),.bx (.v .int),.bx (.pr (.v .int) (.mv .int 0)),.bx (.v .bool)]
 results:= [.v .bool]
 B:=Int×(Int×(List Int))×Bool×Bool
 run:=λa=>Di a.1 a.2.1 a.2.2.1 a.2.2.2.1 a.2.2.2.2
 out:=λb=>((),(),b.1,b.2.1,b.2.2.1)
 res:=λb=>b.2.2.2
def C_87:Cx:=cx0 tt [(35,E_85),(55,E_86)] [] 5
def D_87:Code:=Tryz.f61.body.getD .skip
def N_87 (o:X0 E_87.params) (r:YE E_87.results):E_87.B:=(o.2.2.1,o.2.2.2.1,o.2.2.2.2,r)
def E_88:Entry where
 params:= [.v (.ptr y8),.v y2,.v .int]
 results:= [.v .bool]
 B:=Bool
 run:=λa=>AT a.1 a.2.1 a.2.2
 out:=λb=>((),(),())
 res:=λb=>b
def S_88L2 (n:Nat):LoopSpec where
 sh:= [(1,.v y2),(15,.v y14),(16,.v .int),(17,.v .int)]
 ex:= [(.exit 0,[]),(.ret,[(6,.v .bool)])]
 run:=AR n
def C_88:Cx:=cx0 tt [(67,E_35),(83,E_64)] [(2,S_88L2 Aa)] 3
def B_88L2:Code:=(Tryz.f87.body.bind (Yaa 2)).getD .skip
def D_88:Code:=Tryz.f87.body.getD .skip
def N_88 (_:X0 E_88.params) (r:YE E_88.results):E_88.B:=r
def E_89_of (rec:(Int×(List Int)×(Unit×(Int×((Int×(List Int))×Bool)))×(Bool×Int×Int×(List (List ((List Int)×(List ByteArray)))))×(List Int)×Unit)->Option ((List Int)×(Unit×(Int×((Int×(List Int))×Bool)))×(Bool×Int×Int×(List (List ((List Int)×(List ByteArray)))))×(List Int)×Bool)):Entry where
 params:= [.v .int,.bx (.mv .int 0),.pr (.bx (.v (.fn 35))) (.pr (.bx (.v .int)) (.pr (.bx (.pr (.v .int) (.mv .int 0))) (.bx (.v .bool)))),.bx (.v (.ptr y8)),.bx (.v y2),.jk 1]
 results:= [.v .bool]
 cod:= [(2,.kb 61),(5,.kn 86 1 5)]
 B:=(List Int)×(Unit×(Int×((Int×(List Int))×Bool)))×(Bool×Int×Int×(List (List ((List Int)×(List ByteArray)))))×(List Int)×Bool
 run:=rec
 out:=λb=>((),b.1,b.2.1,b.2.2.1,b.2.2.2.1,())
 res:=λb=>b.2.2.2.2
def E_89 (d:Nat):Entry:=E_89_of (Ak d)
def S_89L4 (rec:(Int×(List Int)×(Unit×(Int×((Int×(List Int))×Bool)))×(Bool×Int×Int×(List (List ((List Int)×(List ByteArray)))))×(List Int)×Unit)->Option ((List Int)×(Unit×(Int×((Int×(List Int))×Bool)))×(Bool×Int×Int×(List (List ((List Int)×(List ByteArray)))))×(List Int)×Bool)) (n:Nat):LoopSpec where
 sh:= [(0,.v .int),(1,.bx (.mv .int 0)),(2,.pr (.bx (.v (.fn 35))) (.pr (.bx (.v .int)) (.pr (.bx (.pr (.v .int) (.mv .int 0))) (.bx (.v .bool))))),(3,.bx (.v (.ptr y8))),(4,.bx (.v y2)),(5,.jk 1),(8,.v .int)]
 ex:= [(.exit 0,[(1,.bx (.mv .int 0)),(2,.pr (.bx (.v (.fn 35))) (.pr (.bx (.v .int)) (.pr (.bx (.pr (.v .int) (.mv .int 0))) (.bx (.v .bool))))),(3,.bx (.v (.ptr y8))),(4,.bx (.v y2)),(5,.jk 1)]),(.ret,[(1,.bx (.mv .int 0)),(2,.pr (.bx (.v (.fn 35))) (.pr (.bx (.v .int)) (.pr (.bx (.pr (.v .int) (.mv .int 0))) (.bx (.v .bool))))),(3,.bx (.v (.ptr y8))),(4,.bx (.v y2)),(5,.jk 1),(7,.v .bool)])]
 run:=Ae rec n
def C_89 (rec:(Int×(List Int)×(Unit×(Int×((Int×(List Int))×Bool)))×(Bool×Int×Int×(List (List ((List Int)×(List ByteArray)))))×(List Int)×Unit)->Option ((List Int)×(Unit×(Int×((Int×(List Int))×Bool)))×(Bool×Int×Int×(List (List ((List Int)×(List ByteArray)))))×(List Int)×Bool)):Cx where
 tt:=YaO tt
 T:=YfC [(61,E_87),(87,E_88),(4063318,E_89_of rec)]
 L:=YfB [(4,S_89L4 rec Aa)]
 dep:=λi=>0
 n:=6
 cod:= [(2,.kb 61),(5,.kn 86 1 5)]
def B_89L4:Code:=(Tryz.f86.body.bind (Yaa 4)).getD .skip
def D_89:Code:=Tryz.f86.body.getD .skip
def N_89 (o:X0 [.v .int,.bx (.mv .int 0),.pr (.bx (.v (.fn 35))) (.pr (.bx (.v .int)) (.pr (.bx (.pr (.v .int) (.mv .int 0))) (.bx (.v .bool)))),.bx (.v (.ptr y8)),.bx (.v y2),.jk 1]) (r:YE [.v .bool]):(List Int)×(Unit×(Int×((Int×(List Int))×Bool)))×(Bool×Int×Int×(List (List ((List Int)×(List ByteArray)))))×(List Int)×Bool:=(o.2.1,o.2.2.1,o.2.2.2.1,o.2.2.2.2.1,r)
def E_90:Entry where
 params:= [.v (.ptr y8),.v y2,.pr (.bx (.v (.fn 35))) (.pr (.bx (.v .int)) (.pr (.bx (.pr (.v .int) (.mv .int 0))) (.bx (.v .bool))))]
 results:= []
 cod:= [(2,.cl 61)]
 B:=(Unit×(Int×((Int×(List Int))×Bool)))
 run:=λa=>Bd a.1 a.2.1 a.2.2
 out:=λb=>((),(),b)
 res:=λb=>()
def C_90:Cx where
 tt:=YaO tt
 T:=YfC [(4063318,E_89 Aa)]
 L:=YfB []
 dep:=λi=>0
 n:=3
 cod:= [(2,.cl 61)]
def D_90:Code:=Tryz.f60.body.getD .skip
def N_90 (o:X0 E_90.params) (_:YE E_90.results):E_90.B:=o.2.2
def E_91:Entry where
 params:= [.v .int,.v y12,.v .int,.v y2,.v (.fn 35)]
 results:= [.pr (.v .int) (.mv .int 0),.v .bool]
 B:=(Int×(List Int))×Bool
 run:=λa=>BE a.1 a.2.1 a.2.2.1 a.2.2.2.1 a.2.2.2.2
 out:=λb=>((),(),(),(),())
 res:=λb=>(b.1,b.2)
def C_91:Cx:=cx0 tt [(59,E_84),(4063292,E_90)] [] 5
def D_91:Code:=Tryz.f34.body.getD .skip
def N_91 (_:X0 E_91.params) (r:YE E_91.results):E_91.B:=(r.1,r.2)
def E_92:Entry where
 params:= [.v .int,.v y12]
 results:= [.pr (.v .int) (.mv .int 0),.v .bool]
 B:=(Int×(List Int))×Bool
 run:=λa=>AC a.1 a.2
 out:=λb=>((),())
 res:=λb=>(b.1,b.2)
def S_92L5 (n:Nat):LoopSpec where
 sh:= [(0,.v .int),(1,.v y12),(4,.bx (.pr (.v .int) (.mv .int 0))),(6,.mv .int 0),(25,.v .int),(26,.v .int)]
 ex:= [(.exit 0,[(0,.v .int),(1,.v y12),(4,.bx (.pr (.v .int) (.mv .int 0))),(6,.mv .int 0)])]
 run:=Ao n
def C_92:Cx:=cx0 tt [(31,E_80),(32,E_81),(33,E_82),(2359330,E_91)] [(5,S_92L5 Aa)] 2
def B_92L5:Code:=(Tryz.f15.body.bind (Yaa 5)).getD .skip
def D_92:Code:=Tryz.f15.body.getD .skip
def N_92 (_:X0 E_92.params) (r:YE E_92.results):E_92.B:=(r.1,r.2)
def E_93:Entry where
 params:= [.v .int]
 results:= [.v .bool]
 B:=Bool
 run:=λa=>Gz a
 out:=λb=>()
 res:=λb=>b
def C_93:Cx:=cx0 tt [(44,E_8)] [] 1
def D_93:Code:=Tryz.f62.body.getD .skip
def N_93 (_:X0 E_93.params) (r:YE E_93.results):E_93.B:=r
def E_94:Entry where
 params:= [.v .int,.v y12]
 results:= [.v .bool]
 B:=Bool
 run:=λa=>Gy a.1 a.2
 out:=λb=>((),())
 res:=λb=>b
def S_94L4 (n:Nat):LoopSpec where
 sh:= [(0,.v .int),(1,.v y12),(5,.v .int)]
 ex:= [(.exit 0,[]),(.ret,[(4,.v .bool)])]
 run:=C9 n
def C_94:Cx:=cx0 tt [(75,E_46)] [(4,S_94L4 Aa)] 2
def B_94L4:Code:=(Tryz.f63.body.bind (Yaa 4)).getD .skip
def D_94:Code:=Tryz.f63.body.getD .skip
def N_94 (_:X0 E_94.params) (r:YE E_94.results):E_94.B:=r
def E_95:Entry where
 params:= [.v .int,.v y12,.v .int]
 results:= [.v .bool]
 B:=Bool
 run:=λa=>EY a.1 a.2.1 a.2.2
 out:=λb=>((),(),())
 res:=λb=>b
def S_95L4 (n:Nat):LoopSpec where
 sh:= [(1,.v y12),(2,.v .int),(7,.v .int)]
 ex:= [(.exit 0,[]),(.ret,[(6,.v .bool)])]
 run:=Cq n
def C_95:Cx:=cx0 tt [(44,E_8),(62,E_93),(63,E_94)] [(4,S_95L4 Aa)] 3
def B_95L4:Code:=(Tryz.f36.body.bind (Yaa 4)).getD .skip
def D_95:Code:=Tryz.f36.body.getD .skip
def N_95 (_:X0 E_95.params) (r:YE E_95.results):E_95.B:=r
def E_96:Entry where
 params:= [.v .int]
 results:= [.mv .int 0]
 B:=(List Int)
 run:=λa=>Fi a
 out:=λb=>()
 res:=λb=>b
def S_96L3 (n:Nat):LoopSpec where
 sh:= [(0,.v .int),(3,.mv .int 0),(4,.v .int)]
 ex:= [(.exit 0,[(3,.mv .int 0)])]
 run:=CB n
def C_96:Cx:=cx0 tt [] [(3,S_96L3 Aa)] 1
def B_96L3:Code:=(Tryz.f37.body.bind (Yaa 3)).getD .skip
def D_96:Code:=Tryz.f37.body.getD .skip
def N_96 (_:X0 E_96.params) (r:YE E_96.results):E_96.B:=r
def E_97:Entry where
 params:= [.v .int,.v y12,.v .int]
 results:= [.mv y10 1]
 B:=(List (List ((List Int)×Int×(List (List Int)))))
 run:=λa=>EX a.1 a.2.1 a.2.2
 out:=λb=>((),(),())
 res:=λb=>b
def S_97L3 (n:Nat):LoopSpec where
 sh:= [(0,.v .int),(1,.v y12),(2,.v .int),(7,.mv y10 1),(8,.v .int)]
 ex:= [(.exit 0,[(0,.v .int),(1,.v y12),(2,.v .int),(7,.mv y10 1)])]
 run:=Co n
def S_97L21 (n:Nat):LoopSpec where
 sh:= [(0,.v .int),(1,.v y12),(2,.v .int),(7,.mv y10 1),(9,.v .int),(10,.v .int),(11,.v .int),(12,.mv .int 0),(13,.bx (.pr (.mv .int 0) (.v y3))),(14,.v .int),(15,.v .int),(16,.v .int),(17,.v .int)]
 ex:= [(.exit 8,[(0,.v .int),(1,.v y12),(2,.v .int),(7,.mv y10 1),(9,.v .int),(10,.v .int),(11,.v .int),(12,.mv .int 0),(13,.bx (.pr (.mv .int 0) (.v y3))),(14,.v .int),(15,.v .int),(16,.v .int)])]
 run:=Ca n
def S_97L17 (n:Nat):LoopSpec where
 sh:= [(0,.v .int),(1,.v y12),(2,.v .int),(7,.mv y10 1),(9,.v .int),(10,.v .int),(11,.v .int),(12,.mv .int 0),(13,.bx (.pr (.mv .int 0) (.v y3))),(14,.v .int),(15,.v .int)]
 ex:= [(.exit 6,[(0,.v .int),(1,.v y12),(2,.v .int),(7,.mv y10 1),(9,.v .int),(10,.v .int),(11,.v .int),(13,.bx (.pr (.mv .int 0) (.v y3))),(14,.v .int)])]
 run:=B9 n
def S_97L11 (n:Nat):LoopSpec where
 sh:= [(0,.v .int),(1,.v y12),(2,.v .int),(7,.mv y10 1),(9,.v .int),(10,.v .int),(11,.v .int)]
 ex:= [(.exit 4,[(0,.v .int),(1,.v y12),(2,.v .int),(7,.mv y10 1),(9,.v .int)])]
 run:=B8 n
def S_97L7 (n:Nat):LoopSpec where
 sh:= [(0,.v .int),(1,.v y12),(2,.v .int),(7,.mv y10 1),(9,.v .int)]
 ex:= [(.exit 2,[(7,.mv y10 1)])]
 run:=Cp n
def C_97:Cx where
 tt:=YaO tt
 T:=YfC [(71,E_22),(99,E_16),(105,E_17)]
 L:=YfB [(3,S_97L3 Aa),(21,S_97L21 Aa),(17,S_97L17 Aa),(11,S_97L11 Aa),(7,S_97L7 Aa)]
 dep:=λi=>match i with
  |18=>1
  |28=>1
  |29=>1
  |_=>0
 n:=3
 fine:=true
def B_97L3:Code:=(Tryz.f89.body.bind (Yaa 3)).getD .skip
def B_97L21:Code:=(Tryz.f89.body.bind (Yaa 21)).getD .skip
def B_97L17:Code:=(Tryz.f89.body.bind (Yaa 17)).getD .skip
def B_97L11:Code:=(Tryz.f89.body.bind (Yaa 11)).getD .skip
def B_97L7:Code:=(Tryz.f89.body.bind (Yaa 7)).getD .skip
def D_97:Code:=Tryz.f89.body.getD .skip
def N_97 (_:X0 E_97.params) (r:YE E_97.results):E_97.B:=r
def E_98:Entry where
 params:= [.v y10,.v y2]
 results:= [.v .bool]
 B:=Bool
 run:=λa=>DE a.1 a.2
 out:=λb=>((),())
 res:=λb=>b
def S_98L6 (n:Nat):LoopSpec where
 sh:= [(0,.v y10),(1,.v y2),(5,.v .int),(6,.mv .int 0),(7,.v .int)]
 ex:= [(.exit 2,[(0,.v y10),(1,.v y2),(5,.v .int),(6,.mv .int 0)])]
 run:=Cn n
def S_98L2 (n:Nat):LoopSpec where
 sh:= [(0,.v y10),(1,.v y2),(5,.v .int)]
 ex:= [(.exit 0,[]),(.ret,[(4,.v .bool)])]
 run:=Cm n
def C_98:Cx:=cx0 tt [(102,E_51)] [(6,S_98L6 Aa),(2,S_98L2 Aa)] 2
def B_98L6:Code:=(Tryz.f104.body.bind (Yaa 6)).getD .skip
def B_98L2:Code:=(Tryz.f104.body.bind (Yaa 2)).getD .skip
def D_98:Code:=Tryz.f104.body.getD .skip
def N_98 (_:X0 E_98.params) (r:YE E_98.results):E_98.B:=r
def E_99_of (rec:(Int×(List (List ((List Int)×Int×(List (List Int)))))×(List Int)×(List Int)×((List (List Int))×(Int×Int)))->Option (((List (List Int))×(Int×Int)))):Entry where
 params:= [.v .int,.v y16,.v y2,.v y2,.pr (.mv y2 1) (.v y6)]
 results:= [.pr (.mv y2 1) (.v y6)]
 B:=((List (List Int))×(Int×Int))
 run:=rec
 out:=λb=>((),(),(),(),((),()))
 res:=λb=>b
def E_99 (d:Nat):Entry:=E_99_of (BZ d)
def S_99L8 (rec:(Int×(List (List ((List Int)×Int×(List (List Int)))))×(List Int)×(List Int)×((List (List Int))×(Int×Int)))->Option (((List (List Int))×(Int×Int)))) (n:Nat):LoopSpec where
 sh:= [(0,.v .int),(1,.v y16),(2,.v y2),(3,.v y2),(9,.bx (.pr (.mv y2 1) (.v y6))),(10,.bx (.pr (.mv y2 1) (.v y6))),(11,.v .int),(12,.v .int)]
 ex:= [(.exit 0,[(9,.bx (.pr (.mv y2 1) (.v y6))),(10,.bx (.pr (.mv y2 1) (.v y6)))]),(.ret,[(10,.bx (.pr (.mv y2 1) (.v y6)))])]
 run:=Av rec n
def C_99 (rec:(Int×(List (List ((List Int)×Int×(List (List Int)))))×(List Int)×(List Int)×((List (List Int))×(Int×Int)))->Option (((List (List Int))×(Int×Int)))):Cx where
 tt:=YaO tt
 T:=YfC [(84,E_6),(88,E_99_of rec),(104,E_98)]
 L:=YfB [(8,S_99L8 rec Aa)]
 dep:=λi=>match i with
  |34=>1
  |35=>1
  |_=>0
 n:=5
def B_99L8:Code:=(Tryz.f88.body.bind (Yaa 8)).getD .skip
def D_99:Code:=Tryz.f88.body.getD .skip
def N_99 (_:X0 [.v .int,.v y16,.v y2,.v y2,.pr (.mv y2 1) (.v y6)]) (r:YE [.pr (.mv y2 1) (.v y6)]):((List (List Int))×(Int×Int)):=r
def E_100:Entry where
 params:= [.v .int,.v y12,.v .int,.v y2,.v .int]
 results:= [.pr (.mv y2 1) (.v y6)]
 B:=((List (List Int))×(Int×Int))
 run:=λa=>Er a.1 a.2.1 a.2.2.1 a.2.2.2.1 a.2.2.2.2
 out:=λb=>((),(),(),(),())
 res:=λb=>b
def C_100:Cx:=cx0 tt [(88,E_99 Aa),(89,E_97)] [] 5
def D_100:Code:=Tryz.f64.body.getD .skip
def N_100 (_:X0 E_100.params) (r:YE E_100.results):E_100.B:=r
def E_101:Entry where
 params:= [.v .int,.v y12,.v y2]
 results:= [.v y21,.v .bool]
 B:=(Int×(List Int))×Bool
 run:=λa=>Gc a.1 a.2.1 a.2.2
 out:=λb=>((),(),())
 res:=λb=>(b.1,b.2)
def C_101:Cx:=cx0 tt [(64,E_100)] [] 3
def D_101:Code:=Tryz.f38.body.getD .skip
def N_101 (_:X0 E_101.params) (r:YE E_101.results):E_101.B:=(r.1,r.2)
def E_102:Entry where
 params:= [.v .int,.v y12]
 results:= [.v y21,.v .bool]
 B:=(Int×(List Int))×Bool
 run:=λa=>AE a.1 a.2
 out:=λb=>((),())
 res:=λb=>(b.1,b.2)
def S_102L8 (n:Nat):LoopSpec where
 sh:= [(0,.v .int),(1,.v y12),(4,.bx (.pr (.v .int) (.mv .int 0))),(6,.mv .int 0),(7,.v .int),(8,.v .int)]
 ex:= [(.exit 2,[(0,.v .int),(1,.v y12),(4,.bx (.pr (.v .int) (.mv .int 0))),(6,.mv .int 0),(7,.v .int)])]
 run:=AH n
def S_102L5 (n:Nat):LoopSpec where
 sh:= [(0,.v .int),(1,.v y12),(4,.bx (.pr (.v .int) (.mv .int 0))),(6,.mv .int 0),(7,.v .int)]
 ex:= [(.exit 0,[(0,.v .int),(1,.v y12),(4,.bx (.pr (.v .int) (.mv .int 0))),(6,.mv .int 0)])]
 run:=AG n
def C_102:Cx:=cx0 tt [(36,E_95),(37,E_96),(38,E_101)] [(8,S_102L8 Aa),(5,S_102L5 Aa)] 2
def B_102L8:Code:=(Tryz.f16.body.bind (Yaa 8)).getD .skip
def B_102L5:Code:=(Tryz.f16.body.bind (Yaa 5)).getD .skip
def D_102:Code:=Tryz.f16.body.getD .skip
def N_102 (_:X0 E_102.params) (r:YE E_102.results):E_102.B:=(r.1,r.2)
def E_103:Entry where
 params:= [.v y21,.v y21]
 results:= [.v .bool]
 B:=Bool
 run:=λa=>Ep a.1 a.2
 out:=λb=>((),())
 res:=λb=>b
def C_103:Cx:=cx0 tt [(10,E_62)] [] 2
def D_103:Code:=Tryz.f17.body.getD .skip
def N_103 (_:X0 E_103.params) (r:YE E_103.results):E_103.B:=r
def E_104:Entry where
 params:= [.v y1,.v y2]
 results:= [.v .bool]
 B:=Bool
 run:=λa=>CI a.1 a.2
 out:=λb=>((),())
 res:=λb=>b
def C_104:Cx:=cx0 tt [(65,E_27)] [] 2
def D_104:Code:=Tryz.f39.body.getD .skip
def N_104 (_:X0 E_104.params) (r:YE E_104.results):E_104.B:=r
def E_105:Entry where
 params:= [.v y1,.v y2]
 results:= [.v .int]
 B:=Int
 run:=λa=>Dy a.1 a.2
 out:=λb=>((),())
 res:=λb=>b
def S_105L2 (n:Nat):LoopSpec where
 sh:= [(1,.v y2),(8,.v y10),(9,.v .int),(10,.v .int)]
 ex:= [(.exit 0,[]),(.ret,[(4,.v .int)])]
 run:=BN n
def C_105:Cx:=cx0 tt [(66,E_37),(67,E_35)] [(2,S_105L2 Aa)] 2
def B_105L2:Code:=(Tryz.f40.body.bind (Yaa 2)).getD .skip
def D_105:Code:=Tryz.f40.body.getD .skip
def N_105 (_:X0 E_105.params) (r:YE E_105.results):E_105.B:=r
def E_106:Entry where
 params:= [.v y1,.v y2]
 results:= [.v .bool,.v .bool]
 B:=Bool×Bool
 run:=λa=>Cf a.1 a.2
 out:=λb=>((),())
 res:=λb=>(b.1,b.2)
def C_106:Cx:=cx0 tt [(20,E_31),(39,E_104),(40,E_105)] [] 2
def D_106:Code:=Tryz.f18.body.getD .skip
def N_106 (_:X0 E_106.params) (r:YE E_106.results):E_106.B:=(r.1,r.2)
def E_107:Entry where
 params:= [.v y19]
 results:= [.v .bool]
 B:=Bool
 run:=λa=>Gw a
 out:=λb=>()
 res:=λb=>b
def S_107L14 (n:Nat):LoopSpec where
 sh:= [(3,.bx (.v y1)),(4,.mv y13 1),(5,.v .bool),(6,.mv y13 0),(8,.v .int),(9,.v .int)]
 ex:= [(.exit 2,[(3,.bx (.v y1)),(4,.mv y13 1),(5,.v .bool),(6,.mv y13 0),(8,.v .int)]),(.ret,[(2,.v .bool)])]
 run:=BV n
def S_107L9 (n:Nat):LoopSpec where
 sh:= [(3,.bx (.v y1)),(4,.mv y13 1),(5,.v .bool),(6,.mv y13 0),(8,.v .int)]
 ex:= [(.exit 0,[(3,.bx (.v y1)),(4,.mv y13 1),(5,.v .bool)]),(.ret,[(2,.v .bool)])]
 run:=Cg n
def S_107L27 (n:Nat):LoopSpec where
 sh:= [(3,.bx (.v y1)),(4,.mv y13 1),(10,.mv .int 0),(11,.v .bool),(14,.v .bool),(15,.v .bool),(16,.v .bool),(17,.v .int)]
 ex:= [(.exit 4,[(3,.bx (.v y1)),(4,.mv y13 1),(10,.mv .int 0),(11,.v .bool),(14,.v .bool),(15,.v .bool),(16,.v .bool)])]
 run:=BW n
def S_107L34 (n:Nat):LoopSpec where
 sh:= [(3,.bx (.v y1)),(4,.mv y13 1),(10,.mv .int 0),(11,.v .bool),(14,.v .bool),(18,.mv .int 0),(19,.v .int)]
 ex:= [(.exit 6,[(3,.bx (.v y1)),(4,.mv y13 1),(10,.mv .int 0),(11,.v .bool),(14,.v .bool),(18,.mv .int 0)])]
 run:=Cl n
def S_107L51 (n:Nat):LoopSpec where
 sh:= [(3,.bx (.v y1)),(4,.mv y13 1),(10,.mv .int 0),(11,.v .bool),(14,.v .bool),(20,.mv .int 0),(24,.v .int),(25,.v .int),(26,.v .int),(27,.v .bool),(28,.v .int)]
 ex:= [(.exit 12,[(3,.bx (.v y1)),(4,.mv y13 1),(10,.mv .int 0),(11,.v .bool),(14,.v .bool),(20,.mv .int 0),(24,.v .int),(25,.v .int),(26,.v .int),(27,.v .bool)])]
 run:=BY n
def S_107L47 (n:Nat):LoopSpec where
 sh:= [(3,.bx (.v y1)),(4,.mv y13 1),(10,.mv .int 0),(11,.v .bool),(14,.v .bool),(20,.mv .int 0),(24,.v .int),(25,.v .int),(26,.v .int)]
 ex:= [(.exit 10,[(3,.bx (.v y1)),(4,.mv y13 1),(10,.mv .int 0),(11,.v .bool),(14,.v .bool),(20,.mv .int 0),(24,.v .int),(25,.v .int)]),(.ret,[(2,.v .bool)])]
 run:=CZ n
def S_107L44 (n:Nat):LoopSpec where
 sh:= [(3,.bx (.v y1)),(4,.mv y13 1),(10,.mv .int 0),(11,.v .bool),(14,.v .bool),(20,.mv .int 0),(24,.v .int),(25,.v .int)]
 ex:= [(.exit 8,[(3,.bx (.v y1)),(10,.mv .int 0),(11,.v .bool),(14,.v .bool)]),(.ret,[(2,.v .bool)])]
 run:=BX n
def S_107L63 (n:Nat):LoopSpec where
 sh:= [(3,.bx (.v y1)),(10,.mv .int 0),(11,.v .bool),(14,.v .bool),(29,.mv y3 0),(30,.v .int),(31,.v .bool),(32,.v .int)]
 ex:= [(.exit 16,[(3,.bx (.v y1)),(10,.mv .int 0),(11,.v .bool),(14,.v .bool),(29,.mv y3 0),(30,.v .int),(31,.v .bool)])]
 run:=Bh n
def S_107L59 (n:Nat):LoopSpec where
 sh:= [(3,.bx (.v y1)),(10,.mv .int 0),(11,.v .bool),(14,.v .bool),(29,.mv y3 0),(30,.v .int)]
 ex:= [(.exit 14,[(3,.bx (.v y1)),(10,.mv .int 0),(11,.v .bool),(14,.v .bool),(29,.mv y3 0)])]
 run:=A7 n
def C_107:Cx:=cx0 tt [(4,E_1),(5,E_25),(6,E_43),(7,E_58),(8,E_60),(9,E_61),(10,E_62),(11,E_63),(12,E_72),(13,E_77),(14,E_78),(15,E_92),(16,E_102),(17,E_103),(18,E_106)] [(14,S_107L14 Aa),(9,S_107L9 Aa),(27,S_107L27 Aa),(34,S_107L34 Aa),(51,S_107L51 Aa),(47,S_107L47 Aa),(44,S_107L44 Aa),(63,S_107L63 Aa),(59,S_107L59 Aa)] 1
def B_107L14:Code:=(Tryz.f3.body.bind (Yaa 14)).getD .skip
def B_107L9:Code:=(Tryz.f3.body.bind (Yaa 9)).getD .skip
def B_107L27:Code:=(Tryz.f3.body.bind (Yaa 27)).getD .skip
def B_107L34:Code:=(Tryz.f3.body.bind (Yaa 34)).getD .skip
def B_107L51:Code:=(Tryz.f3.body.bind (Yaa 51)).getD .skip
def B_107L47:Code:=(Tryz.f3.body.bind (Yaa 47)).getD .skip
def B_107L44:Code:=(Tryz.f3.body.bind (Yaa 44)).getD .skip
def B_107L63:Code:=(Tryz.f3.body.bind (Yaa 63)).getD .skip
def B_107L59:Code:=(Tryz.f3.body.bind (Yaa 59)).getD .skip
def D_107:Code:=Tryz.f3.body.getD .skip
def N_107 (_:X0 E_107.params) (r:YE E_107.results):E_107.B:=r
end
end T
