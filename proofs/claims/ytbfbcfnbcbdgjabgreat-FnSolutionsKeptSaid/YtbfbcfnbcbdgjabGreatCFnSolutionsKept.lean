/- Contexts of the typed functions; no conditions. -/
import Derived.Test.YtbfbcfnbcbdgjabGreatV5
import Derived.Test.YtbfbcfnbcbdgjabGreatProg
import Derived.Test.YtbfbcfnbcbdgjabGreatPFnSolutionsKept
import Derived.KernelRfl
set_option linter.all false
set_option linter.unusedVariables false
set_option maxRecDepth 10000
open Go Go.Va Go.Proofs
namespace T
noncomputable section
abbrev y0:Ty:= .pair (.slice .int) (.pair .int (.slice (.slice .int)))
abbrev y1:Ty:= .slice .int
abbrev y2:Ty:= .pair .int (.slice y1)
abbrev y3:Ty:= .pair .int (.pair (.slice (.slice y1)) (.slice (.slice (.smap .sb))))
abbrev y4:Ty:= .pair (.slice (.num .u8)) (.pair .int (.num .u64))
abbrev y5:Ty:= .pair .int (.pair .int (.slice y0))
abbrev y6:Ty:= .pair .int (.pair .int (.slice (.slice (.pair y1 (.smap .sb)))))
abbrev y7:Ty:= .pair .int y1
abbrev y8:Ty:= .pair .int (.pair .int .bool)
abbrev y9:Ty:= .slice y0
abbrev y10:Ty:= .slice y1
abbrev y11:Ty:= .slice (.pair y1 (.smap .sb))
abbrev y12:Ty:= .slice y2
abbrev y13:Ty:= .slice (.num .u8)
abbrev y14:Ty:= .pair .int .int
abbrev y15:Ty:= .slice y9
abbrev y16:Ty:= .slice (.smap .sb)
abbrev y17:Ty:= .pair .int (.pair .int (.pair .bool (.num .u8)))
def tt:List (Nat×TI):= [
 (2,{ ty:= .int }),
 (3,{ ty:= .int }),
 (4,{ ty:= .bool }),
 (5,{ ty:=(.num .u8) }),
 (6,{ ty:=(.num .u8) }),
 (7,{ ty:=y17,fields:= [2,3,4,6] }),
 (8,{ ty:=y17,fields:= [2,3,4,6] }),
 (9,{ ty:= .str }),
 (22,{ ty:=y13,elem:=5 }),
 (24,{ ty:=y9,elem:=40 }),
 (26,{ ty:=y5,fields:= [3,3,24] }),
 (27,{ ty:=y1,elem:=3 }),
 (29,{ ty:=y7,fields:= [3,27] }),
 (35,{ ty:=y12,elem:=38 }),
 (36,{ ty:=y10,elem:=27 }),
 (38,{ ty:=y2,fields:= [3,36] }),
 (40,{ ty:=y0,fields:= [27,38] }),
 (55,{ ty:=(.slice y7),elem:=29 }),
 (61,{ ty:=(.num .u64) }),
 (63,{ ty:=y4,fields:= [22,3,61] }),
 (65,{ ty:=(.op false) }),
 (84,{ ty:=(.op false) }),
 (86,{ ty:=(.pair y10 y14),fields:= [36,3,3] }),
 (103,{ ty:=(.pair y10 y8),fields:= [36,3,3,4] }),
 (125,{ ty:=(.op true) }),
 (129,{ ty:=y15,elem:=160 }),
 (137,{ ty:=(.op true) }),
 (140,{ ty:=y15,elem:=24 }),
 (145,{ ty:=(.num .u64) }),
 (148,{ ty:=(.op false) }),
 (149,{ ty:=(.slice y11),elem:=156 }),
 (151,{ ty:=y6,fields:= [3,3,149] }),
 (152,{ ty:=(.smap .sb) }),
 (156,{ ty:=y11,elem:=158 }),
 (158,{ ty:=(.pair y1 (.smap .sb)),fields:= [27,152] }),
 (160,{ ty:=y9,elem:=162 }),
 (162,{ ty:=y0,fields:= [27,38] }),
 (167,{ ty:=(.slice y10),elem:=36 }),
 (168,{ ty:=(.slice y16),elem:=171 }),
 (170,{ ty:=y3,fields:= [3,167,168] }),
 (171,{ ty:=y16,elem:=152 })]
theorem tabT:Yif Tryz.prog tt=true:=by kernel_rfl
theorem mixT:Tryz.prog.follows .mixedOrders=true:=by kernel_rfl
def E_1:Entry where
 params:= [.v y13]
 results:= [.v .bool]
 B:=Bool
 run:=λa=>G3 a
 out:=λb=>()
 res:=λb=>b
def C_1:Cx:=cx0 tt [] [] 1
def D_1:Code:=Tryz.f5.body.getD .skip
def N_1 (_:XK E_1.params) (r:YH E_1.results):E_1.B:=r
def E_2:Entry where
 params:= [.bx (.v y4)]
 results:= [.v .int]
 B:=((List Int)×Int×Int)×Int
 run:=λa=>Cf a
 out:=λb=>b.1
 res:=λb=>b.2
def C_2:Cx:=cx0 tt [] [] 1
def D_2:Code:=Tryz.f88.body.getD .skip
def N_2 (o:XK E_2.params) (r:YH E_2.results):E_2.B:=(o,r)
def E_3:Entry where
 params:= [.bx (.v y4),.v .int]
 results:= [.v .int]
 B:=((List Int)×Int×Int)×Int
 run:=λa=>Ad a.1 a.2
 out:=λb=>(b.1,())
 res:=λb=>b.2
def C_3:Cx:=cx0 tt [(88,E_2)] [] 2
def D_3:Code:=Tryz.f35.body.getD .skip
def N_3 (o:XK E_3.params) (r:YH E_3.results):E_3.B:=(o.1,r)
def E_4:Entry where
 params:= [.bx (.v y4),.v .int]
 results:= [.v .bool]
 B:=((List Int)×Int×Int)×Bool
 run:=λa=>Az a.1 a.2
 out:=λb=>(b.1,())
 res:=λb=>b.2
def C_4:Cx:=cx0 tt [(35,E_3)] [] 2
def D_4:Code:=Tryz.f34.body.getD .skip
def N_4 (o:XK E_4.params) (r:YH E_4.results):E_4.B:=(o.1,r)
def E_5:Entry where
 params:= [.v .int]
 results:= [.v .int,.mv y2 0]
 B:=Int×(List (Int×(List (List Int))))
 run:=λa=>DH a
 out:=λb=>()
 res:=λb=>(b.1,b.2)
def C_5:Cx:=cx0 tt [] [] 1
def D_5:Code:=Tryz.f125.body.getD .skip
def N_5 (_:XK E_5.params) (r:YH E_5.results):E_5.B:=(r.1,r.2)
def E_6:Entry where
 params:= [.v y1]
 results:= [.mv .int 0]
 B:=(List Int)
 run:=λa=>Bh a
 out:=λb=>()
 res:=λb=>b
def C_6:Cx:=cx0 tt [] [] 1
def D_6:Code:=Tryz.f114.body.getD .skip
def N_6 (_:XK E_6.params) (r:YH E_6.results):E_6.B:=r
def E_7:Entry where
 params:= [.bx (.v y4),.v y1]
 results:= [.v .int]
 B:=((List Int)×Int×Int)×Int
 run:=λa=>Ab a.1 a.2
 out:=λb=>(b.1,())
 res:=λb=>b.2
def C_7:Cx:=cx0 tt [(35,E_3)] [] 2
def D_7:Code:=Tryz.f36.body.getD .skip
def N_7 (o:XK E_7.params) (r:YH E_7.results):E_7.B:=(o.1,r)
def E_8:Entry where
 params:= [.v .int,.v .int,.v .int]
 results:= [.v .bool]
 B:=Bool
 run:=λa=>Cg a.1 a.2.1 a.2.2
 out:=λb=>((),(),())
 res:=λb=>b
def C_8:Cx:=cx0 tt [] [] 3
def D_8:Code:=Tryz.f86.body.getD .skip
def N_8 (_:XK E_8.params) (r:YH E_8.results):E_8.B:=r
def E_9:Entry where
 params:= [.v .int]
 results:= [.v .bool]
 B:=Bool
 run:=λa=>E1 a
 out:=λb=>()
 res:=λb=>b
def C_9:Cx:=cx0 tt [(86,E_8)] [] 1
def D_9:Code:=Tryz.f126.body.getD .skip
def N_9 (_:XK E_9.params) (r:YH E_9.results):E_9.B:=r
def E_10:Entry where
 params:= [.v y1,.v y1]
 results:= [.v .bool]
 B:=Bool
 run:=λa=>EZ a.1 a.2
 out:=λb=>((),())
 res:=λb=>b
def S_10L2 (n:Nat):LoopSpec where
 sh:= [(0,.v y1),(1,.v y1),(5,.v .int)]
 ex:= [(.exit 0,[]),(.ret,[(4,.v .bool)])]
 run:=C0 n
def C_10:Cx:=cx0 tt [] [(2,S_10L2 Aa)] 2
def B_10L2:Code:=(Tryz.f131.body.bind (Yag 2)).getD .skip
def D_10:Code:=Tryz.f131.body.getD .skip
def N_10 (_:XK E_10.params) (r:YH E_10.results):E_10.B:=r
def E_11:Entry where
 params:= [.v y1,.v y1]
 results:= [.v .bool]
 B:=Bool
 run:=λa=>Ee a.1 a.2
 out:=λb=>((),())
 res:=λb=>b
def S_11L4 (n:Nat):LoopSpec where
 sh:= [(0,.v y1),(1,.v y1),(5,.v .int)]
 ex:= [(.exit 0,[]),(.ret,[(4,.v .bool)])]
 run:=CY n
def C_11:Cx:=cx0 tt [] [(4,S_11L4 Aa)] 2
def B_11L4:Code:=(Tryz.f123.body.bind (Yag 4)).getD .skip
def D_11:Code:=Tryz.f123.body.getD .skip
def N_11 (_:XK E_11.params) (r:YH E_11.results):E_11.B:=r
def E_12:Entry where
 params:= [.v y10,.v y1]
 results:= [.v .int,.v .bool]
 B:=Int×Bool
 run:=λa=>DO a.1 a.2
 out:=λb=>((),())
 res:=λb=>(b.1,b.2)
def S_12L2 (n:Nat):LoopSpec where
 sh:= [(0,.v y10),(1,.v y1),(6,.v .int),(7,.v .int)]
 ex:= [(.exit 0,[(0,.v y10),(1,.v y1),(6,.v .int)])]
 run:=Cz n
def C_12:Cx:=cx0 tt [(123,E_11),(131,E_10)] [(2,S_12L2 Aa)] 2
def B_12L2:Code:=(Tryz.f149.body.bind (Yag 2)).getD .skip
def D_12:Code:=Tryz.f149.body.getD .skip
def N_12 (_:XK E_12.params) (r:YH E_12.results):E_12.B:=(r.1,r.2)
def E_13:Entry where
 params:= [.v y10,.v y1]
 results:= [.v y10]
 B:=(List (List Int))
 run:=λa=>Fk a.1 a.2
 out:=λb=>((),())
 res:=λb=>b
def C_13:Cx:=cx0 tt [(149,E_12)] [] 2
def D_13:Code:=Tryz.f115.body.getD .skip
def N_13 (_:XK E_13.params) (r:YH E_13.results):E_13.B:=r
def E_14:Entry where
 params:= [.bx (.v y4),.v .int]
 results:= [.mv .int 0]
 B:=((List Int)×Int×Int)×(List Int)
 run:=λa=>BT a.1 a.2
 out:=λb=>(b.1,())
 res:=λb=>b.2
def S_14L3 (n:Nat):LoopSpec where
 sh:= [(0,.bx (.v y4)),(1,.v .int),(5,.mv .int 0),(6,.v .int)]
 ex:= [(.exit 0,[(0,.bx (.v y4)),(5,.mv .int 0)])]
 run:=AB n
def C_14:Cx:=cx0 tt [(35,E_3)] [(3,S_14L3 Aa)] 2
def B_14L3:Code:=(Tryz.f128.body.bind (Yag 3)).getD .skip
def D_14:Code:=Tryz.f128.body.getD .skip
def N_14 (o:XK E_14.params) (r:YH E_14.results):E_14.B:=(o.1,r)
def E_15:Entry where
 params:= [.v y1]
 results:= [.pr (.v .int) (.mv y1 0)]
 B:=(Int×(List (List Int)))
 run:=λa=>C7 a
 out:=λb=>()
 res:=λb=>b
def S_15L6 (n:Nat):LoopSpec where
 sh:= [(0,.v y1),(2,.bx (.pr (.v .int) (.mv y1 0))),(3,.bx (.pr (.v .int) (.mv y1 0))),(4,.v .int),(5,.v .int)]
 ex:= [(.exit 2,[(0,.v y1),(2,.bx (.pr (.v .int) (.mv y1 0))),(3,.bx (.pr (.v .int) (.mv y1 0))),(4,.v .int)])]
 run:=AN n
def S_15L3 (n:Nat):LoopSpec where
 sh:= [(0,.v y1),(2,.bx (.pr (.v .int) (.mv y1 0))),(3,.bx (.pr (.v .int) (.mv y1 0))),(4,.v .int)]
 ex:= [(.exit 0,[(2,.bx (.pr (.v .int) (.mv y1 0))),(3,.bx (.pr (.v .int) (.mv y1 0)))])]
 run:=Bc n
def C_15:Cx:=cx0 tt [] [(6,S_15L6 Aa),(3,S_15L3 Aa)] 1
def B_15L6:Code:=(Tryz.f127.body.bind (Yag 6)).getD .skip
def B_15L3:Code:=(Tryz.f127.body.bind (Yag 3)).getD .skip
def D_15:Code:=Tryz.f127.body.getD .skip
def N_15 (_:XK E_15.params) (r:YH E_15.results):E_15.B:=r
def E_16:Entry where
 params:= [.v .int,.v .int]
 results:= [.v .int]
 B:=Int
 run:=λa=>BD a.1 a.2
 out:=λb=>((),())
 res:=λb=>b
def S_16L2 (n:Nat):LoopSpec where
 sh:= [(0,.v .int),(1,.v .int),(5,.v .int)]
 ex:= [(.exit 0,[(5,.v .int)])]
 run:=Cn n
def C_16:Cx:=cx0 tt [] [(2,S_16L2 Aa)] 2
def B_16L2:Code:=(Tryz.f78.body.bind (Yag 2)).getD .skip
def D_16:Code:=Tryz.f78.body.getD .skip
def N_16 (_:XK E_16.params) (r:YH E_16.results):E_16.B:=r
def E_17:Entry where
 params:= [.v .int,.v .int,.v .int]
 results:= [.mv .int 0]
 B:=(List Int)
 run:=λa=>Ef a.1 a.2.1 a.2.2
 out:=λb=>((),(),())
 res:=λb=>b
def S_17L3 (n:Nat):LoopSpec where
 sh:= [(0,.v .int),(2,.v .int),(7,.mv .int 0),(8,.v .int)]
 ex:= [(.exit 0,[(7,.mv .int 0)])]
 run:=CZ n
def C_17:Cx:=cx0 tt [] [(3,S_17L3 Aa)] 3
def B_17L3:Code:=(Tryz.f144.body.bind (Yag 3)).getD .skip
def D_17:Code:=Tryz.f144.body.getD .skip
def N_17 (_:XK E_17.params) (r:YH E_17.results):E_17.B:=r
def E_18:Entry where
 params:= [.v .int,.v .int]
 results:= [.pr (.v .int) (.mv y1 0)]
 B:=(Int×(List (List Int)))
 run:=λa=>C5 a.1 a.2
 out:=λb=>((),())
 res:=λb=>b
def S_18L3 (n:Nat):LoopSpec where
 sh:= [(0,.v .int),(1,.v .int),(4,.bx (.pr (.v .int) (.mv y1 0))),(5,.bx (.pr (.v .int) (.mv y1 0))),(6,.v .int)]
 ex:= [(.exit 0,[(4,.bx (.pr (.v .int) (.mv y1 0))),(5,.bx (.pr (.v .int) (.mv y1 0)))])]
 run:=B8 n
def C_18:Cx:=cx0 tt [(78,E_16),(144,E_17)] [(3,S_18L3 Aa)] 2
def B_18L3:Code:=(Tryz.f129.body.bind (Yag 3)).getD .skip
def D_18:Code:=Tryz.f129.body.getD .skip
def N_18 (_:XK E_18.params) (r:YH E_18.results):E_18.B:=r
def E_19:Entry where
 params:= [.mv y1 0,.v y1]
 results:= [.mv y1 0]
 B:=(List (List Int))
 run:=λa=>Fu a.1 a.2
 out:=λb=>((),())
 res:=λb=>b
def C_19:Cx where
 tt:=YaU tt
 T:=Ygp [(149,E_12)]
 L:=Ygo []
 dep:=λi=>0
 n:=2
 pre:=λi=>match i with
  |4=> [0]
  |_=> []
def D_19:Code:=Tryz.f115.body.getD .skip
def N_19 (_:XK E_19.params) (r:YH E_19.results):E_19.B:=r
def E_20:Entry where
 params:= [.bx (.v y4),.v .int,.v .int]
 results:= [.v y2]
 B:=((List Int)×Int×Int)×(Int×(List (List Int)))
 run:=λa=>Bw a.1 a.2.1 a.2.2
 out:=λb=>(b.1,(),())
 res:=λb=>b.2
def S_20L9 (n:Nat):LoopSpec where
 sh:= [(0,.bx (.v y4)),(1,.v .int),(2,.v .int),(6,.bx (.pr (.v .int) (.mv y1 0))),(7,.bx (.pr (.v .int) (.mv y1 0))),(8,.v .int),(9,.mv .int 0),(10,.v .int)]
 ex:= [(.exit 2,[(0,.bx (.v y4)),(1,.v .int),(2,.v .int),(6,.bx (.pr (.v .int) (.mv y1 0))),(7,.bx (.pr (.v .int) (.mv y1 0))),(8,.v .int),(9,.mv .int 0)])]
 run:=Bf n
def S_20L5 (n:Nat):LoopSpec where
 sh:= [(0,.bx (.v y4)),(1,.v .int),(2,.v .int),(6,.bx (.pr (.v .int) (.mv y1 0))),(7,.bx (.pr (.v .int) (.mv y1 0))),(8,.v .int)]
 ex:= [(.exit 0,[(0,.bx (.v y4)),(1,.v .int),(2,.v .int),(6,.bx (.pr (.v .int) (.mv y1 0))),(7,.bx (.pr (.v .int) (.mv y1 0)))])]
 run:=Be n
def C_20:Cx:=cx0 tt [(34,E_4),(35,E_3),(36,E_7),(86,E_8),(115,E_19),(126,E_9),(127,E_15),(128,E_14),(129,E_18)] [(9,S_20L9 Aa),(5,S_20L5 Aa)] 3
def B_20L9:Code:=(Tryz.f84.body.bind (Yag 9)).getD .skip
def B_20L5:Code:=(Tryz.f84.body.bind (Yag 5)).getD .skip
def D_20:Code:=Tryz.f84.body.getD .skip
def N_20 (o:XK E_20.params) (r:YH E_20.results):E_20.B:=(o.1,r)
def E_21:Entry where
 params:= [.bx (.v y4)]
 results:= [.v .int,.mv y2 0]
 B:=((List Int)×Int×Int)×Int×(List (Int×(List (List Int))))
 run:=λa=>Cp a
 out:=λb=>b.1
 res:=λb=>(b.2.1,b.2.2)
def S_21L9 (n:Nat):LoopSpec where
 sh:= [(0,.bx (.v y4)),(4,.v .int),(5,.mv y2 0),(6,.mv y2 0),(7,.v .int),(8,.bx (.pr (.v .int) (.mv y1 0))),(9,.v .int)]
 ex:= [(.exit 2,[(0,.bx (.v y4)),(4,.v .int),(5,.mv y2 0),(6,.mv y2 0),(7,.v .int),(8,.bx (.pr (.v .int) (.mv y1 0)))])]
 run:=AP n
def S_21L5 (n:Nat):LoopSpec where
 sh:= [(0,.bx (.v y4)),(4,.v .int),(5,.mv y2 0),(6,.mv y2 0),(7,.v .int)]
 ex:= [(.exit 0,[(0,.bx (.v y4)),(4,.v .int),(6,.mv y2 0)])]
 run:=AO n
def S_21L17 (n:Nat):LoopSpec where
 sh:= [(0,.bx (.v y4)),(10,.v .int),(11,.mv y2 0),(12,.v .int)]
 ex:= [(.exit 4,[(0,.bx (.v y4)),(10,.v .int),(11,.mv y2 0)])]
 run:=AZ n
def C_21:Cx:=cx0 tt [(34,E_4),(35,E_3),(36,E_7),(84,E_20),(114,E_6),(125,E_5)] [(9,S_21L9 Aa),(5,S_21L5 Aa),(17,S_21L17 Aa)] 1
def B_21L9:Code:=(Tryz.f83.body.bind (Yag 9)).getD .skip
def B_21L5:Code:=(Tryz.f83.body.bind (Yag 5)).getD .skip
def B_21L17:Code:=(Tryz.f83.body.bind (Yag 17)).getD .skip
def D_21:Code:=Tryz.f83.body.getD .skip
def N_21 (o:XK E_21.params) (r:YH E_21.results):E_21.B:=(o,r.1,r.2)
def E_22:Entry where
 params:= [.v .int,.v .int]
 results:= [.v .int]
 B:=Int
 run:=λa=>Cl a.1 a.2
 out:=λb=>((),())
 res:=λb=>b
def C_22:Cx:=cx0 tt [] [] 2
def D_22:Code:=Tryz.f85.body.getD .skip
def N_22 (_:XK E_22.params) (r:YH E_22.results):E_22.B:=r
def E_23:Entry where
 params:= [.bx (.v y4)]
 results:= [.v y5]
 B:=((List Int)×Int×Int)×(Int×Int×(List ((List Int)×Int×(List (List Int)))))
 run:=λa=>CC a
 out:=λb=>b.1
 res:=λb=>b.2
def S_23L11 (n:Nat):LoopSpec where
 sh:= [(0,.bx (.v y4)),(2,.bx (.pr (.v .int) (.pr (.v .int) (.mv y0 2001)))),(3,.v .int),(4,.mv y2 0),(5,.bx (.pr (.v .int) (.pr (.v .int) (.mv y0 2001)))),(6,.v .int),(7,.bx (.v y2)),(8,.bx (.pr (.mv .int 0) (.v y2))),(9,.v .int)]
 ex:= [(.exit 2,[(0,.bx (.v y4)),(2,.bx (.pr (.v .int) (.pr (.v .int) (.mv y0 2001)))),(3,.v .int),(4,.mv y2 0),(5,.bx (.pr (.v .int) (.pr (.v .int) (.mv y0 2001)))),(6,.v .int),(8,.bx (.pr (.mv .int 0) (.v y2)))])]
 run:=Aw n
def S_23L4 (n:Nat):LoopSpec where
 sh:= [(0,.bx (.v y4)),(2,.bx (.pr (.v .int) (.pr (.v .int) (.mv y0 2001)))),(3,.v .int),(4,.mv y2 0),(5,.bx (.pr (.v .int) (.pr (.v .int) (.mv y0 2001)))),(6,.v .int)]
 ex:= [(.exit 0,[(0,.bx (.v y4)),(2,.bx (.pr (.v .int) (.pr (.v .int) (.mv y0 2001)))),(5,.bx (.pr (.v .int) (.pr (.v .int) (.mv y0 2001))))])]
 run:=AA n
def S_23L23 (n:Nat):LoopSpec where
 sh:= [(0,.bx (.v y4)),(2,.bx (.pr (.v .int) (.pr (.v .int) (.mv y0 2001)))),(5,.bx (.pr (.v .int) (.pr (.v .int) (.mv y0 0)))),(10,.v .int)]
 ex:= [(.exit 5,[(0,.bx (.v y4)),(2,.bx (.pr (.v .int) (.pr (.v .int) (.mv y0 2001)))),(5,.bx (.pr (.v .int) (.pr (.v .int) (.mv y0 0))))])]
 run:=Bd n
def C_23:Cx where
 tt:=YaU tt
 T:=Ygp [(34,E_4),(35,E_3),(36,E_7),(83,E_21),(84,E_20),(85,E_22)]
 L:=Ygo [(11,S_23L11 Aa),(4,S_23L4 Aa),(23,S_23L23 Aa)]
 dep:=λi=>match i with
  |76=>2001
  |77=>2001
  |_=>0
 n:=1
 fine:=true
def B_23L11:Code:=(Tryz.f31.body.bind (Yag 11)).getD .skip
def B_23L4:Code:=(Tryz.f31.body.bind (Yag 4)).getD .skip
def B_23L23:Code:=(Tryz.f31.body.bind (Yag 23)).getD .skip
def D_23:Code:=Tryz.f31.body.getD .skip
def N_23 (o:XK E_23.params) (r:YH E_23.results):E_23.B:=(o,r)
def E_24:Entry where
 params:= [.v y13]
 results:= [.v y5]
 B:=(Int×Int×(List ((List Int)×Int×(List (List Int)))))
 run:=λa=>D5 a
 out:=λb=>()
 res:=λb=>b
def C_24:Cx:=cx0 tt [(31,E_23)] [] 1
def D_24:Code:=Tryz.f60.body.getD .skip
def N_24 (_:XK E_24.params) (r:YH E_24.results):E_24.B:=r
def E_25:Entry where
 params:= [.v y13]
 results:= [.v y5]
 B:=(Int×Int×(List ((List Int)×Int×(List (List Int)))))
 run:=λa=>CM a
 out:=λb=>()
 res:=λb=>b
def C_25:Cx:=cx0 tt [(60,E_24)] [] 1
def D_25:Code:=Tryz.f22.body.getD .skip
def N_25 (_:XK E_25.params) (r:YH E_25.results):E_25.B:=r
def E_26:Entry where
 params:= [.v .int]
 results:= [.v .bool]
 B:=Bool
 run:=λa=>Co a
 out:=λb=>()
 res:=λb=>b
def C_26:Cx:=cx0 tt [] [] 1
def D_26:Code:=Tryz.f44.body.getD .skip
def N_26 (_:XK E_26.params) (r:YH E_26.results):E_26.B:=r
def E_27:Entry where
 params:= [.v y1,.v .int]
 results:= [.v .bool]
 B:=Bool
 run:=λa=>Dk a.1 a.2
 out:=λb=>((),())
 res:=λb=>b
def S_27L2 (n:Nat):LoopSpec where
 sh:= [(1,.v .int),(7,.v y1),(8,.v .int),(9,.v .int)]
 ex:= [(.exit 0,[]),(.ret,[(4,.v .bool)])]
 run:=CV n
def C_27:Cx:=cx0 tt [] [(2,S_27L2 Aa)] 2
def B_27L2:Code:=(Tryz.f89.body.bind (Yag 2)).getD .skip
def D_27:Code:=Tryz.f89.body.getD .skip
def N_27 (_:XK E_27.params) (r:YH E_27.results):E_27.B:=r
def E_28:Entry where
 params:= [.v y1,.v y1]
 results:= [.v .int]
 B:=Int
 run:=λa=>D8 a.1 a.2
 out:=λb=>((),())
 res:=λb=>b
def S_28L2 (n:Nat):LoopSpec where
 sh:= [(0,.v y1),(1,.v y1),(5,.v .int)]
 ex:= [(.exit 0,[(0,.v y1),(1,.v y1)]),(.ret,[(4,.v .int)])]
 run:=Bs n
def C_28:Cx:=cx0 tt [] [(2,S_28L2 Aa)] 2
def B_28L2:Code:=(Tryz.f135.body.bind (Yag 2)).getD .skip
def D_28:Code:=Tryz.f135.body.getD .skip
def N_28 (_:XK E_28.params) (r:YH E_28.results):E_28.B:=r
def E_29:Entry where
 params:= [.v .int,.v y2]
 results:= [.v .bool]
 B:=Bool
 run:=λa=>Dc a.1 a.2
 out:=λb=>((),())
 res:=λb=>b
def S_29L4 (n:Nat):LoopSpec where
 sh:= [(0,.v .int),(3,.bx (.v y2)),(16,.v y10),(17,.v .int),(18,.v .int)]
 ex:= [(.exit 0,[]),(.ret,[(4,.v .bool)])]
 run:=BB n
def C_29:Cx:=cx0 tt [(89,E_27),(135,E_28)] [(4,S_29L4 Aa)] 2
def B_29L4:Code:=(Tryz.f97.body.bind (Yag 4)).getD .skip
def D_29:Code:=Tryz.f97.body.getD .skip
def N_29 (_:XK E_29.params) (r:YH E_29.results):E_29.B:=r
def E_30:Entry where
 params:= [.v .int,.v .int,.v y0]
 results:= [.v .bool]
 B:=Bool
 run:=λa=>Dr a.1 a.2.1 a.2.2
 out:=λb=>((),(),())
 res:=λb=>b
def C_30:Cx:=cx0 tt [(89,E_27),(97,E_29)] [] 3
def D_30:Code:=Tryz.f45.body.getD .skip
def N_30 (_:XK E_30.params) (r:YH E_30.results):E_30.B:=r
def E_31:Entry where
 params:= [.v y5]
 results:= [.v .bool]
 B:=Bool
 run:=λa=>B2 a
 out:=λb=>()
 res:=λb=>b
def S_31L4 (n:Nat):LoopSpec where
 sh:= [(1,.bx (.v y5)),(26,.v y9),(27,.v .int),(28,.v .int)]
 ex:= [(.exit 0,[]),(.ret,[(2,.v .bool)])]
 run:=Ci n
def C_31:Cx:=cx0 tt [(44,E_26),(45,E_30)] [(4,S_31L4 Aa)] 1
def B_31L4:Code:=(Tryz.f11.body.bind (Yag 4)).getD .skip
def D_31:Code:=Tryz.f11.body.getD .skip
def N_31 (_:XK E_31.params) (r:YH E_31.results):E_31.B:=r
def E_32:Entry where
 params:= [.v y1]
 results:= [.v .str]
 B:=ByteArray
 run:=λa=>CB a
 out:=λb=>()
 res:=λb=>b
def S_32L3 (n:Nat):LoopSpec where
 sh:= [(3,.mv (.num .u8) 0),(10,.v y1),(11,.v .int),(12,.v .int)]
 ex:= [(.exit 0,[(3,.mv (.num .u8) 0)])]
 run:=CJ n
def C_32:Cx:=cx0 tt [] [(3,S_32L3 Aa)] 1
def B_32L3:Code:=(Tryz.f138.body.bind (Yag 3)).getD .skip
def D_32:Code:=Tryz.f138.body.getD .skip
def N_32 (_:XK E_32.params) (r:YH E_32.results):E_32.B:=r
def E_33:Entry where
 params:= [.v y2]
 results:= [.v (.smap .sb)]
 B:=(List ByteArray)
 run:=λa=>C9 a
 out:=λb=>()
 res:=λb=>b
def S_33L3 (n:Nat):LoopSpec where
 sh:= [(3,(.mp .sb)),(8,.v y10),(9,.v .int),(10,.v .int)]
 ex:= [(.exit 0,[(3,(.mp .sb))])]
 run:=Ct n
def C_33:Cx:=cx0 tt [(138,E_32)] [(3,S_33L3 Aa)] 1
def B_33L3:Code:=(Tryz.f136.body.bind (Yag 3)).getD .skip
def D_33:Code:=Tryz.f136.body.getD .skip
def N_33 (_:XK E_33.params) (r:YH E_33.results):E_33.B:=r
def E_34:Entry where
 params:= [.v y5]
 results:= [.v (.ptr y3)]
 B:=(Bool×Int×(List (List (List Int)))×(List (List (List ByteArray))))
 run:=λa=>CO a
 out:=λb=>()
 res:=λb=>b
def S_34L7 (n:Nat):LoopSpec where
 sh:= [(3,.bx (.pr (.v .int) (.pr (.mv y10 1) (.mv y16 1)))),(5,.bx (.v y0)),(6,.v .int),(20,.v y9),(21,.v .int),(22,.v .int),(27,.v y1),(28,.v .int),(29,.v .int)]
 ex:= [(.exit 2,[(3,.bx (.pr (.v .int) (.pr (.mv y10 1) (.mv y16 1)))),(5,.bx (.v y0)),(6,.v .int),(20,.v y9),(21,.v .int),(22,.v .int)])]
 run:=Bu n
def S_34L3 (n:Nat):LoopSpec where
 sh:= [(3,.bx (.pr (.v .int) (.pr (.mv y10 1) (.mv y16 1)))),(20,.v y9),(21,.v .int),(22,.v .int)]
 ex:= [(.exit 0,[(3,.bx (.pr (.v .int) (.pr (.mv y10 1) (.mv y16 1))))])]
 run:=Bt n
def C_34:Cx where
 tt:=YaU tt
 T:=Ygp [(136,E_33)]
 L:=Ygo [(7,S_34L7 Aa),(3,S_34L3 Aa)]
 dep:=λi=>match i with
  |13=>1
  |16=>1
  |_=>0
 n:=1
 fine:=true
def B_34L7:Code:=(Tryz.f117.body.bind (Yag 7)).getD .skip
def B_34L3:Code:=(Tryz.f117.body.bind (Yag 3)).getD .skip
def D_34:Code:=Tryz.f117.body.getD .skip
def N_34 (_:XK E_34.params) (r:YH E_34.results):E_34.B:=r
def E_35:Entry where
 params:= [.v .int]
 results:= [.mv .int 0]
 B:=(List Int)
 run:=λa=>Dp a
 out:=λb=>()
 res:=λb=>b
def S_35L3 (n:Nat):LoopSpec where
 sh:= [(3,.mv .int 0),(8,.v .int),(9,.v .int)]
 ex:= [(.exit 0,[(3,.mv .int 0)])]
 run:=BL n
def C_35:Cx:=cx0 tt [] [(3,S_35L3 Aa)] 1
def B_35L3:Code:=(Tryz.f75.body.bind (Yag 3)).getD .skip
def D_35:Code:=Tryz.f75.body.getD .skip
def N_35 (_:XK E_35.params) (r:YH E_35.results):E_35.B:=r
def E_36:Entry where
 params:= [.v y1]
 results:= [.mv .int 0]
 B:=(List Int)
 run:=λa=>B3 a
 out:=λb=>()
 res:=λb=>b
def C_36:Cx:=cx0 tt [] [] 1
def D_36:Code:=Tryz.f70.body.getD .skip
def N_36 (_:XK E_36.params) (r:YH E_36.results):E_36.B:=r
def E_37:Entry where
 params:= [.v y1,.bx (.mv y1 1)]
 results:= [.v .bool]
 B:=(List (List Int))×Bool
 run:=λa=>Ch a.1 a.2
 out:=λb=>((),b.1)
 res:=λb=>b.2
def C_37:Cx where
 tt:=YaU tt
 T:=Ygp [(70,E_36)]
 L:=Ygo []
 dep:=λi=>match i with
  |7=>1
  |8=>1
  |_=>0
 n:=2
def D_37:Code:=Tryz.f69.body.getD .skip
def N_37 (o:XK E_37.params) (r:YH E_37.results):E_37.B:=(o.2,r)
def E_38:Entry where
 params:= [.v y1,.v y1]
 results:= [.mv .int 0]
 B:=(List Int)
 run:=λa=>BR a.1 a.2
 out:=λb=>((),())
 res:=λb=>b
def S_38L3 (n:Nat):LoopSpec where
 sh:= [(1,.v y1),(5,.mv .int 0),(11,.v y1),(12,.v .int),(13,.v .int)]
 ex:= [(.exit 0,[(5,.mv .int 0)])]
 run:=CE n
def C_38:Cx:=cx0 tt [] [(3,S_38L3 Aa)] 2
def B_38L3:Code:=(Tryz.f110.body.bind (Yag 3)).getD .skip
def D_38:Code:=Tryz.f110.body.getD .skip
def N_38 (_:XK E_38.params) (r:YH E_38.results):E_38.B:=r
def E_39_of (rec:(Int×(List Int)×(List (List Int))×(Bool×Int×(List (List (List Int)))×(List (List (List ByteArray))))×(List Int)×Unit)->Option ((List Int)×(List (List Int))×(Bool×Int×(List (List (List Int)))×(List (List (List ByteArray))))×(List Int)×Bool)):Entry where
 params:= [.v .int,.bx (.mv .int 0),.bx (.mv y1 1),.bx (.v (.ptr y3)),.bx (.v y1),.jk 1]
 results:= [.v .bool]
 cod:= [(2,.kb 69),(5,.kn 150 1 5)]
 B:=(List Int)×(List (List Int))×(Bool×Int×(List (List (List Int)))×(List (List (List ByteArray))))×(List Int)×Bool
 run:=rec
 out:=λb=>((),b.1,b.2.1,b.2.2.1,b.2.2.2.1,())
 res:=λb=>b.2.2.2.2
def E_39 (d:Nat):Entry:=E_39_of (An d)
def S_39L10 (rec:(Int×(List Int)×(List (List Int))×(Bool×Int×(List (List (List Int)))×(List (List (List ByteArray))))×(List Int)×Unit)->Option ((List Int)×(List (List Int))×(Bool×Int×(List (List (List Int)))×(List (List (List ByteArray))))×(List Int)×Bool)) (n:Nat):LoopSpec where
 sh:= [(0,.v .int),(1,.bx (.mv .int 0)),(2,.bx (.mv y1 1)),(3,.bx (.v (.ptr y3))),(4,.bx (.v y1)),(5,.jk 1),(8,.v .int),(9,.v .bool),(50,.v y10),(51,.v .int),(52,.v .int)]
 ex:= [(.exit 2,[(0,.v .int),(1,.bx (.mv .int 0)),(2,.bx (.mv y1 1)),(3,.bx (.v (.ptr y3))),(4,.bx (.v y1)),(5,.jk 1),(8,.v .int),(9,.v .bool)])]
 run:=Al rec n
def S_39L4 (rec:(Int×(List Int)×(List (List Int))×(Bool×Int×(List (List (List Int)))×(List (List (List ByteArray))))×(List Int)×Unit)->Option ((List Int)×(List (List Int))×(Bool×Int×(List (List (List Int)))×(List (List (List ByteArray))))×(List Int)×Bool)) (n:Nat):LoopSpec where
 sh:= [(0,.v .int),(1,.bx (.mv .int 0)),(2,.bx (.mv y1 1)),(3,.bx (.v (.ptr y3))),(4,.bx (.v y1)),(5,.jk 1),(8,.v .int)]
 ex:= [(.exit 0,[(1,.bx (.mv .int 0)),(2,.bx (.mv y1 1)),(3,.bx (.v (.ptr y3))),(4,.bx (.v y1)),(5,.jk 1)]),(.ret,[(1,.bx (.mv .int 0)),(2,.bx (.mv y1 1)),(3,.bx (.v (.ptr y3))),(4,.bx (.v y1)),(5,.jk 1),(7,.v .bool)])]
 run:=Ag rec n
def C_39 (rec:(Int×(List Int)×(List (List Int))×(Bool×Int×(List (List (List Int)))×(List (List (List ByteArray))))×(List Int)×Unit)->Option ((List Int)×(List (List Int))×(Bool×Int×(List (List (List Int)))×(List (List (List ByteArray))))×(List Int)×Bool)):Cx where
 tt:=YaU tt
 T:=Ygp [(69,E_37),(110,E_38),(138,E_32),(4587670,E_39_of rec)]
 L:=Ygo [(10,S_39L10 rec Aa),(4,S_39L4 rec Aa)]
 dep:=λi=>0
 n:=6
 cod:= [(2,.kb 69),(5,.kn 150 1 5)]
def B_39L10:Code:=(Tryz.f150.body.bind (Yag 10)).getD .skip
def B_39L4:Code:=(Tryz.f150.body.bind (Yag 4)).getD .skip
def D_39:Code:=Tryz.f150.body.getD .skip
def N_39 (o:XK [.v .int,.bx (.mv .int 0),.bx (.mv y1 1),.bx (.v (.ptr y3)),.bx (.v y1),.jk 1]) (r:YH [.v .bool]):(List Int)×(List (List Int))×(Bool×Int×(List (List (List Int)))×(List (List (List ByteArray))))×(List Int)×Bool:=(o.2.1,o.2.2.1,o.2.2.2.1,o.2.2.2.2.1,r)
def E_40:Entry where
 params:= [.v (.ptr y3),.v y1,.bx (.mv y1 1)]
 results:= []
 cod:= [(2,.cl 69)]
 B:=(List (List Int))
 run:=λa=>BA a.1 a.2.1 a.2.2
 out:=λb=>((),(),b)
 res:=λb=>()
def C_40:Cx where
 tt:=YaU tt
 T:=Ygp [(4587670,E_39 Aa)]
 L:=Ygo []
 dep:=λi=>0
 n:=3
 cod:= [(2,.cl 69)]
def D_40:Code:=Tryz.f118.body.getD .skip
def N_40 (o:XK E_40.params) (_:YH E_40.results):E_40.B:=o.2.2
def E_41:Entry where
 params:= [.v y5,.bx (.mv y1 1)]
 results:= []
 cod:= [(1,.cl 69)]
 B:=(List (List Int))
 run:=λa=>BF a.1 a.2
 out:=λb=>((),b)
 res:=λb=>()
def C_41:Cx where
 tt:=YaU tt
 T:=Ygp [(75,E_35),(117,E_34),(4587638,E_40)]
 L:=Ygo []
 dep:=λi=>0
 n:=2
 cod:= [(1,.cl 69)]
def D_41:Code:=Tryz.f68.body.getD .skip
def N_41 (o:XK E_41.params) (_:YH E_41.results):E_41.B:=o.2
def E_42:Entry where
 params:= [.v y5]
 results:= [.mv y1 1,.v .bool]
 B:=(List (List Int))×Bool
 run:=λa=>BJ a
 out:=λb=>()
 res:=λb=>(b.1,b.2)
def C_42:Cx where
 tt:=YaU tt
 T:=Ygp [(11,E_31),(4587588,E_41)]
 L:=Ygo []
 dep:=λi=>match i with
  |8=>1
  |9=>1
  |16=>1
  |_=>0
 n:=1
def D_42:Code:=Tryz.f23.body.getD .skip
def N_42 (_:XK E_42.params) (r:YH E_42.results):E_42.B:=(r.1,r.2)
def E_43:Entry where
 params:= [.v .int,.v y1]
 results:= [.v .bool]
 B:=Bool
 run:=λa=>CI a.1 a.2
 out:=λb=>((),())
 res:=λb=>b
def S_43L2 (n:Nat):LoopSpec where
 sh:= [(0,.v .int),(1,.v y1),(5,.v .int)]
 ex:= [(.exit 0,[]),(.ret,[(4,.v .bool)])]
 run:=B6 n
def C_43:Cx:=cx0 tt [(86,E_8)] [(2,S_43L2 Aa)] 2
def B_43L2:Code:=(Tryz.f133.body.bind (Yag 2)).getD .skip
def D_43:Code:=Tryz.f133.body.getD .skip
def N_43 (_:XK E_43.params) (r:YH E_43.results):E_43.B:=r
def E_44:Entry where
 params:= [.v .int,.v .int,.v y1]
 results:= [.v .bool]
 B:=Bool
 run:=λa=>EC a.1 a.2.1 a.2.2
 out:=λb=>((),(),())
 res:=λb=>b
def C_44:Cx:=cx0 tt [(133,E_43)] [] 3
def D_44:Code:=Tryz.f130.body.getD .skip
def N_44 (_:XK E_44.params) (r:YH E_44.results):E_44.B:=r
def E_45:Entry where
 params:= [.v .int,.v y2]
 results:= [.v .bool]
 B:=Bool
 run:=λa=>DY a.1 a.2
 out:=λb=>((),())
 res:=λb=>b
def S_45L4 (n:Nat):LoopSpec where
 sh:= [(0,.v .int),(3,.bx (.v y2)),(5,.v .int)]
 ex:= [(.exit 0,[]),(.ret,[(4,.v .bool)])]
 run:=B9 n
def C_45:Cx:=cx0 tt [(78,E_16),(86,E_8),(130,E_44),(131,E_10)] [(4,S_45L4 Aa)] 2
def B_45L4:Code:=(Tryz.f87.body.bind (Yag 4)).getD .skip
def D_45:Code:=Tryz.f87.body.getD .skip
def N_45 (_:XK E_45.params) (r:YH E_45.results):E_45.B:=r
def E_46:Entry where
 params:= [.v .int,.v .int,.v y0]
 results:= [.v .bool]
 B:=Bool
 run:=λa=>Fj a.1 a.2.1 a.2.2
 out:=λb=>((),(),())
 res:=λb=>b
def C_46:Cx:=cx0 tt [(87,E_45),(133,E_43)] [] 3
def D_46:Code:=Tryz.f93.body.getD .skip
def N_46 (_:XK E_46.params) (r:YH E_46.results):E_46.B:=r
def E_47:Entry where
 params:= [.v y5]
 results:= [.v .bool]
 B:=Bool
 run:=λa=>C6 a
 out:=λb=>()
 res:=λb=>b
def S_47L4 (n:Nat):LoopSpec where
 sh:= [(1,.bx (.v y5)),(3,.v .int)]
 ex:= [(.exit 0,[]),(.ret,[(2,.v .bool)])]
 run:=CH n
def C_47:Cx:=cx0 tt [(86,E_8),(93,E_46)] [(4,S_47L4 Aa)] 1
def B_47L4:Code:=(Tryz.f40.body.bind (Yag 4)).getD .skip
def D_47:Code:=Tryz.f40.body.getD .skip
def N_47 (_:XK E_47.params) (r:YH E_47.results):E_47.B:=r
def E_48:Entry where
 params:= [.v .int]
 results:= [.mv .int 0]
 B:=(List Int)
 run:=λa=>DZ a
 out:=λb=>()
 res:=λb=>b
def S_48L3 (n:Nat):LoopSpec where
 sh:= [(0,.v .int),(3,.mv .int 0),(4,.v .int)]
 ex:= [(.exit 0,[(3,.mv .int 0)])]
 run:=Ca n
def C_48:Cx:=cx0 tt [] [(3,S_48L3 Aa)] 1
def B_48L3:Code:=(Tryz.f72.body.bind (Yag 3)).getD .skip
def D_48:Code:=Tryz.f72.body.getD .skip
def N_48 (_:XK E_48.params) (r:YH E_48.results):E_48.B:=r
def E_49:Entry where
 params:= [.v .int,.v y9]
 results:= [.mv y9 1]
 B:=(List (List ((List Int)×Int×(List (List Int)))))
 run:=λa=>EB a.1 a.2
 out:=λb=>((),())
 res:=λb=>b
def S_49L7 (n:Nat):LoopSpec where
 sh:= [(1,.v y9),(5,.mv y9 1),(6,.v .int),(7,.v .int),(8,.v .int)]
 ex:= [(.exit 2,[(1,.v y9),(5,.mv y9 1),(6,.v .int),(7,.v .int)])]
 run:=Ce n
def S_49L3 (n:Nat):LoopSpec where
 sh:= [(1,.v y9),(5,.mv y9 1),(6,.v .int)]
 ex:= [(.exit 0,[(5,.mv y9 1)])]
 run:=Cd n
def C_49:Cx where
 tt:=YaU tt
 T:=Ygp [(85,E_22)]
 L:=Ygo [(7,S_49L7 Aa),(3,S_49L3 Aa)]
 dep:=λi=>match i with
  |10=>1
  |_=>0
 n:=2
 fine:=true
def B_49L7:Code:=(Tryz.f121.body.bind (Yag 7)).getD .skip
def B_49L3:Code:=(Tryz.f121.body.bind (Yag 3)).getD .skip
def D_49:Code:=Tryz.f121.body.getD .skip
def N_49 (_:XK E_49.params) (r:YH E_49.results):E_49.B:=r
def E_50:Entry where
 params:= [.v y2,.v y1]
 results:= [.v .bool]
 B:=Bool
 run:=λa=>Dl a.1 a.2
 out:=λb=>((),())
 res:=λb=>b
def C_50:Cx:=cx0 tt [(149,E_12)] [] 2
def D_50:Code:=Tryz.f155.body.getD .skip
def N_50 (_:XK E_50.params) (r:YH E_50.results):E_50.B:=r
def E_51:Entry where
 params:= [.v y0,.v y1]
 results:= [.v .bool]
 B:=Bool
 run:=λa=>CP a.1 a.2
 out:=λb=>((),())
 res:=λb=>b
def S_51L3 (n:Nat):LoopSpec where
 sh:= [(1,.v y1),(2,.bx (.v y0)),(5,.mv .int 0),(6,.v .int)]
 ex:= [(.exit 0,[(2,.bx (.v y0)),(5,.mv .int 0)])]
 run:=BI n
def C_51:Cx:=cx0 tt [(155,E_50)] [(3,S_51L3 Aa)] 2
def B_51L3:Code:=(Tryz.f151.body.bind (Yag 3)).getD .skip
def D_51:Code:=Tryz.f151.body.getD .skip
def N_51 (_:XK E_51.params) (r:YH E_51.results):E_51.B:=r
def E_52_of (rec:(Int×(List (List ((List Int)×Int×(List (List Int)))))×(List Int)×(List Int)×((List (List Int))×(Int×Int×Bool)))->Option (((List (List Int))×(Int×Int×Bool)))):Entry where
 params:= [.v .int,.v y15,.v y1,.v y1,.pr (.mv y1 1) (.v y8)]
 results:= [.pr (.mv y1 1) (.v y8)]
 B:=((List (List Int))×(Int×Int×Bool))
 run:=rec
 out:=λb=>((),(),(),(),((),()))
 res:=λb=>b
def E_52 (d:Nat):Entry:=E_52_of (Av d)
def S_52L14 (rec:(Int×(List (List ((List Int)×Int×(List (List Int)))))×(List Int)×(List Int)×((List (List Int))×(Int×Int×Bool)))->Option (((List (List Int))×(Int×Int×Bool)))) (n:Nat):LoopSpec where
 sh:= [(0,.v .int),(1,.v y15),(2,.v y1),(3,.v y1),(9,.bx (.pr (.mv y1 1) (.v y8))),(10,.bx (.pr (.mv y1 1) (.v y8))),(11,.v .int),(12,.v .int),(13,.mv .int 0),(14,.v .bool),(15,.v .int)]
 ex:= [(.exit 2,[(0,.v .int),(1,.v y15),(2,.v y1),(3,.v y1),(9,.bx (.pr (.mv y1 1) (.v y8))),(10,.bx (.pr (.mv y1 1) (.v y8))),(11,.v .int),(12,.v .int),(13,.mv .int 0),(14,.v .bool)])]
 run:=AI rec n
def S_52L8 (rec:(Int×(List (List ((List Int)×Int×(List (List Int)))))×(List Int)×(List Int)×((List (List Int))×(Int×Int×Bool)))->Option (((List (List Int))×(Int×Int×Bool)))) (n:Nat):LoopSpec where
 sh:= [(0,.v .int),(1,.v y15),(2,.v y1),(3,.v y1),(9,.bx (.pr (.mv y1 1) (.v y8))),(10,.bx (.pr (.mv y1 1) (.v y8))),(11,.v .int),(12,.v .int)]
 ex:= [(.exit 0,[(9,.bx (.pr (.mv y1 1) (.v y8))),(10,.bx (.pr (.mv y1 1) (.v y8)))])]
 run:=Ao rec n
def C_52 (rec:(Int×(List (List ((List Int)×Int×(List (List Int)))))×(List Int)×(List Int)×((List (List Int))×(Int×Int×Bool)))->Option (((List (List Int))×(Int×Int×Bool)))):Cx where
 tt:=YaU tt
 T:=Ygp [(114,E_6),(120,E_52_of rec),(151,E_51)]
 L:=Ygo [(14,S_52L14 rec Aa),(8,S_52L8 rec Aa)]
 dep:=λi=>match i with
  |36=>1
  |37=>1
  |_=>0
 n:=5
def B_52L14:Code:=(Tryz.f120.body.bind (Yag 14)).getD .skip
def B_52L8:Code:=(Tryz.f120.body.bind (Yag 8)).getD .skip
def D_52:Code:=Tryz.f120.body.getD .skip
def N_52 (_:XK [.v .int,.v y15,.v y1,.v y1,.pr (.mv y1 1) (.v y8)]) (r:YH [.pr (.mv y1 1) (.v y8)]):((List (List Int))×(Int×Int×Bool)):=r
def E_53:Entry where
 params:= [.v y5,.v y9,.v y1,.v .int,.v .bool]
 results:= [.pr (.mv y1 1) (.v y8)]
 B:=((List (List Int))×(Int×Int×Bool))
 run:=λa=>EA a.1 a.2.1 a.2.2.1 a.2.2.2.1 a.2.2.2.2
 out:=λb=>((),(),(),(),())
 res:=λb=>b
def C_53:Cx:=cx0 tt [(120,E_52 Aa),(121,E_49)] [] 5
def D_53:Code:=Tryz.f71.body.getD .skip
def N_53 (_:XK E_53.params) (r:YH E_53.results):E_53.B:=r
def E_54:Entry where
 params:= [.v y5]
 results:= [.mv y1 1,.v .bool]
 B:=(List (List Int))×Bool
 run:=λa=>BN a
 out:=λb=>()
 res:=λb=>(b.1,b.2)
def C_54:Cx where
 tt:=YaU tt
 T:=Ygp [(40,E_47),(71,E_53),(72,E_48)]
 L:=Ygo []
 dep:=λi=>match i with
  |8=>1
  |19=>1
  |20=>1
  |23=>1
  |_=>0
 n:=1
def D_54:Code:=Tryz.f24.body.getD .skip
def N_54 (_:XK E_54.params) (r:YH E_54.results):E_54.B:=(r.1,r.2)
def E_55:Entry where
 params:= [.v y1,.v y1]
 results:= [.v .bool]
 B:=Bool
 run:=λa=>Ev a.1 a.2
 out:=λb=>((),())
 res:=λb=>b
def S_55L4 (n:Nat):LoopSpec where
 sh:= [(0,.v y1),(1,.v y1),(5,.v .int)]
 ex:= [(.exit 0,[]),(.ret,[(4,.v .bool)])]
 run:=CK n
def C_55:Cx:=cx0 tt [] [(4,S_55L4 Aa)] 2
def B_55L4:Code:=(Tryz.f9.body.bind (Yag 4)).getD .skip
def D_55:Code:=Tryz.f9.body.getD .skip
def N_55 (_:XK E_55.params) (r:YH E_55.results):E_55.B:=r
def E_56:Entry where
 params:= [.v y10,.v y10]
 results:= [.v .bool]
 B:=Bool
 run:=λa=>Eb a.1 a.2
 out:=λb=>((),())
 res:=λb=>b
def S_56L4 (n:Nat):LoopSpec where
 sh:= [(0,.v y10),(1,.v y10),(5,.v .int)]
 ex:= [(.exit 0,[]),(.ret,[(4,.v .bool)])]
 run:=Cu n
def C_56:Cx:=cx0 tt [(9,E_55)] [(4,S_56L4 Aa)] 2
def B_56L4:Code:=(Tryz.f10.body.bind (Yag 4)).getD .skip
def D_56:Code:=Tryz.f10.body.getD .skip
def N_56 (_:XK E_56.params) (r:YH E_56.results):E_56.B:=r
def E_57:Entry where
 params:= [.v .int,.v y12]
 results:= [.v .bool]
 B:=Bool
 run:=λa=>ED a.1 a.2
 out:=λb=>((),())
 res:=λb=>b
def S_57L4 (n:Nat):LoopSpec where
 sh:= [(0,.v .int),(10,.v y12),(11,.v .int),(12,.v .int)]
 ex:= [(.exit 0,[]),(.ret,[(4,.v .bool)])]
 run:=B4 n
def C_57:Cx:=cx0 tt [(97,E_29)] [(4,S_57L4 Aa)] 2
def B_57L4:Code:=(Tryz.f98.body.bind (Yag 4)).getD .skip
def D_57:Code:=Tryz.f98.body.getD .skip
def N_57 (_:XK E_57.params) (r:YH E_57.results):E_57.B:=r
def E_58:Entry where
 params:= [.v .int,.v y12,.v .int]
 results:= [.v .bool]
 B:=Bool
 run:=λa=>EM a.1 a.2.1 a.2.2
 out:=λb=>((),(),())
 res:=λb=>b
def S_58L4 (n:Nat):LoopSpec where
 sh:= [(2,.v .int),(18,.v y12),(19,.v .int),(20,.v .int)]
 ex:= [(.exit 0,[]),(.ret,[(6,.v .bool)])]
 run:=Cr n
def C_58:Cx:=cx0 tt [(44,E_26),(98,E_57)] [(4,S_58L4 Aa)] 3
def B_58L4:Code:=(Tryz.f46.body.bind (Yag 4)).getD .skip
def D_58:Code:=Tryz.f46.body.getD .skip
def N_58 (_:XK E_58.params) (r:YH E_58.results):E_58.B:=r
def E_59:Entry where
 params:= [.v .int,.v .int]
 results:= [.v .int]
 B:=Int
 run:=λa=>B5 a.1 a.2
 out:=λb=>((),())
 res:=λb=>b
def S_59L2 (n:Nat):LoopSpec where
 sh:= [(0,.v .int),(1,.v .int),(5,.v .int)]
 ex:= [(.exit 0,[(5,.v .int)])]
 run:=Cm n
def C_59:Cx:=cx0 tt [] [(2,S_59L2 Aa)] 2
def B_59L2:Code:=(Tryz.f76.body.bind (Yag 2)).getD .skip
def D_59:Code:=Tryz.f76.body.getD .skip
def N_59 (_:XK E_59.params) (r:YH E_59.results):E_59.B:=r
def E_60:Entry where
 params:= [.v .int,.v .int]
 results:= [.v .bool]
 B:=Bool
 run:=λa=>DB a.1 a.2
 out:=λb=>((),())
 res:=λb=>b
def C_60:Cx:=cx0 tt [(76,E_59)] [] 2
def D_60:Code:=Tryz.f73.body.getD .skip
def N_60 (_:XK E_60.params) (r:YH E_60.results):E_60.B:=r
def E_61:Entry where
 params:= [.v .int,.v .int,.v .int]
 results:= [.mv .int 0]
 B:=(List Int)
 run:=λa=>EL a.1 a.2.1 a.2.2
 out:=λb=>((),(),())
 res:=λb=>b
def S_61L3 (n:Nat):LoopSpec where
 sh:= [(0,.v .int),(2,.v .int),(7,.mv .int 0),(8,.v .int)]
 ex:= [(.exit 0,[(7,.mv .int 0)])]
 run:=CT n
def C_61:Cx:=cx0 tt [] [(3,S_61L3 Aa)] 3
def B_61L3:Code:=(Tryz.f137.body.bind (Yag 3)).getD .skip
def D_61:Code:=Tryz.f137.body.getD .skip
def N_61 (_:XK E_61.params) (r:YH E_61.results):E_61.B:=r
def E_62:Entry where
 params:= [.v .int,.v y12,.v .int]
 results:= [.v (.ptr y6)]
 B:=(Bool×Int×Int×(List (List ((List Int)×(List ByteArray)))))
 run:=λa=>Di a.1 a.2.1 a.2.2
 out:=λb=>((),(),())
 res:=λb=>b
def S_62L17 (n:Nat):LoopSpec where
 sh:= [(917564,.jk 1),(0,.v .int),(2,.v .int),(7,.bx (.pr (.v .int) (.pr (.v .int) (.mv y11 1)))),(9,.bx (.v y2)),(10,.v (.smap .sb)),(11,(.mp .sb)),(12,.v .int),(13,.mv .int 0),(14,.mv .int 0),(15,.v .int),(16,.v .int),(28,.v y12),(29,.v .int),(30,.v .int),(56,.v .int),(57,.v .int),(61,.v .int),(62,.v .int)]
 ex:= [(.exit 6,[(0,.v .int),(2,.v .int),(7,.bx (.pr (.v .int) (.pr (.v .int) (.mv y11 1)))),(9,.bx (.v y2)),(10,.v (.smap .sb)),(11,(.mp .sb)),(12,.v .int),(13,.mv .int 0),(14,.mv .int 0),(15,.v .int),(16,.v .int),(28,.v y12),(29,.v .int),(30,.v .int),(56,.v .int),(57,.v .int)])]
 run:=Ba n
def S_62L14 (n:Nat):LoopSpec where
 sh:= [(0,.v .int),(2,.v .int),(7,.bx (.pr (.v .int) (.pr (.v .int) (.mv y11 1)))),(9,.bx (.v y2)),(10,.v (.smap .sb)),(11,(.mp .sb)),(12,.v .int),(13,.mv .int 0),(14,.mv .int 0),(15,.v .int),(28,.v y12),(29,.v .int),(30,.v .int),(56,.v .int),(57,.v .int)]
 ex:= [(.exit 4,[(0,.v .int),(2,.v .int),(7,.bx (.pr (.v .int) (.pr (.v .int) (.mv y11 1)))),(9,.bx (.v y2)),(10,.v (.smap .sb)),(11,(.mp .sb)),(12,.v .int),(14,.mv .int 0),(15,.v .int),(28,.v y12),(29,.v .int),(30,.v .int)])]
 run:=A9 n
def S_62L8 (n:Nat):LoopSpec where
 sh:= [(0,.v .int),(2,.v .int),(7,.bx (.pr (.v .int) (.pr (.v .int) (.mv y11 1)))),(9,.bx (.v y2)),(10,.v (.smap .sb)),(11,(.mp .sb)),(12,.v .int),(28,.v y12),(29,.v .int),(30,.v .int)]
 ex:= [(.exit 2,[(0,.v .int),(2,.v .int),(7,.bx (.pr (.v .int) (.pr (.v .int) (.mv y11 1)))),(28,.v y12),(29,.v .int),(30,.v .int)])]
 run:=AU n
def S_62L3 (n:Nat):LoopSpec where
 sh:= [(0,.v .int),(2,.v .int),(7,.bx (.pr (.v .int) (.pr (.v .int) (.mv y11 1)))),(28,.v y12),(29,.v .int),(30,.v .int)]
 ex:= [(.exit 0,[(7,.bx (.pr (.v .int) (.pr (.v .int) (.mv y11 1))))])]
 run:=Bk n
def C_62:Cx where
 tt:=YaU tt
 T:=Ygp [(76,E_59),(136,E_33),(137,E_61),(138,E_32)]
 L:=Ygo [(17,S_62L17 Aa),(14,S_62L14 Aa),(8,S_62L8 Aa),(3,S_62L3 Aa)]
 dep:=λi=>match i with
  |25=>1
  |_=>0
 n:=3
 fine:=true
def B_62L17:Code:=(Tryz.f99.body.bind (Yag 17)).getD .skip
def B_62L14:Code:=(Tryz.f99.body.bind (Yag 14)).getD .skip
def B_62L8:Code:=(Tryz.f99.body.bind (Yag 8)).getD .skip
def B_62L3:Code:=(Tryz.f99.body.bind (Yag 3)).getD .skip
def D_62:Code:=Tryz.f99.body.getD .skip
def N_62 (_:XK E_62.params) (r:YH E_62.results):E_62.B:=r
def E_63:Entry where
 params:= [.v y1,.bx (.mv y7 1),.bx (.v .int)]
 results:= [.v .bool]
 B:=(List (Int×(List Int)))×Int×Bool
 run:=λa=>CN a.1 a.2.1 a.2.2
 out:=λb=>((),b.1,b.2.1)
 res:=λb=>b.2.2
def C_63:Cx where
 tt:=YaU tt
 T:=Ygp [(70,E_36)]
 L:=Ygo []
 dep:=λi=>match i with
  |10=>1
  |11=>1
  |_=>0
 n:=3
def D_63:Code:=Tryz.f122.body.getD .skip
def N_63 (o:XK E_63.params) (r:YH E_63.results):E_63.B:=(o.2.1,o.2.2,r)
def E_64:Entry where
 params:= [.v (.ptr y6),.v y1,.v .int]
 results:= [.v .bool]
 B:=Bool
 run:=λa=>AL a.1 a.2.1 a.2.2
 out:=λb=>((),(),())
 res:=λb=>b
def S_64L2 (n:Nat):LoopSpec where
 sh:= [(1,.v y1),(15,.v y11),(16,.v .int),(17,.v .int)]
 ex:= [(.exit 0,[]),(.ret,[(6,.v .bool)])]
 run:=AJ n
def C_64:Cx:=cx0 tt [(110,E_38),(138,E_32)] [(2,S_64L2 Aa)] 3
def B_64L2:Code:=(Tryz.f140.body.bind (Yag 2)).getD .skip
def D_64:Code:=Tryz.f140.body.getD .skip
def N_64 (_:XK E_64.params) (r:YH E_64.results):E_64.B:=r
def E_65_of (rec:(Int×(List Int)×((List (Int×(List Int)))×Int)×(Bool×Int×Int×(List (List ((List Int)×(List ByteArray)))))×(List Int)×Unit)->Option ((List Int)×((List (Int×(List Int)))×Int)×(Bool×Int×Int×(List (List ((List Int)×(List ByteArray)))))×(List Int)×Bool)):Entry where
 params:= [.v .int,.bx (.mv .int 0),.pr (.bx (.mv y7 1)) (.bx (.v .int)),.bx (.v (.ptr y6)),.bx (.v y1),.jk 1]
 results:= [.v .bool]
 cod:= [(2,.kb 122),(5,.kn 139 1 5)]
 B:=(List Int)×((List (Int×(List Int)))×Int)×(Bool×Int×Int×(List (List ((List Int)×(List ByteArray)))))×(List Int)×Bool
 run:=rec
 out:=λb=>((),b.1,b.2.1,b.2.2.1,b.2.2.2.1,())
 res:=λb=>b.2.2.2.2
def E_65 (d:Nat):Entry:=E_65_of (Ar d)
def S_65L4 (rec:(Int×(List Int)×((List (Int×(List Int)))×Int)×(Bool×Int×Int×(List (List ((List Int)×(List ByteArray)))))×(List Int)×Unit)->Option ((List Int)×((List (Int×(List Int)))×Int)×(Bool×Int×Int×(List (List ((List Int)×(List ByteArray)))))×(List Int)×Bool)) (n:Nat):LoopSpec where
 sh:= [(0,.v .int),(1,.bx (.mv .int 0)),(2,.pr (.bx (.mv y7 1)) (.bx (.v .int))),(3,.bx (.v (.ptr y6))),(4,.bx (.v y1)),(5,.jk 1),(8,.v .int)]
 ex:= [(.exit 0,[(1,.bx (.mv .int 0)),(2,.pr (.bx (.mv y7 1)) (.bx (.v .int))),(3,.bx (.v (.ptr y6))),(4,.bx (.v y1)),(5,.jk 1)]),(.ret,[(1,.bx (.mv .int 0)),(2,.pr (.bx (.mv y7 1)) (.bx (.v .int))),(3,.bx (.v (.ptr y6))),(4,.bx (.v y1)),(5,.jk 1),(7,.v .bool)])]
 run:=Ah rec n
def C_65 (rec:(Int×(List Int)×((List (Int×(List Int)))×Int)×(Bool×Int×Int×(List (List ((List Int)×(List ByteArray)))))×(List Int)×Unit)->Option ((List Int)×((List (Int×(List Int)))×Int)×(Bool×Int×Int×(List (List ((List Int)×(List ByteArray)))))×(List Int)×Bool)):Cx where
 tt:=YaU tt
 T:=Ygp [(122,E_63),(140,E_64),(8061067,E_65_of rec)]
 L:=Ygo [(4,S_65L4 rec Aa)]
 dep:=λi=>0
 n:=6
 cod:= [(2,.kb 122),(5,.kn 139 1 5)]
def B_65L4:Code:=(Tryz.f139.body.bind (Yag 4)).getD .skip
def D_65:Code:=Tryz.f139.body.getD .skip
def N_65 (o:XK [.v .int,.bx (.mv .int 0),.pr (.bx (.mv y7 1)) (.bx (.v .int)),.bx (.v (.ptr y6)),.bx (.v y1),.jk 1]) (r:YH [.v .bool]):(List Int)×((List (Int×(List Int)))×Int)×(Bool×Int×Int×(List (List ((List Int)×(List ByteArray)))))×(List Int)×Bool:=(o.2.1,o.2.2.1,o.2.2.2.1,o.2.2.2.2.1,r)
def E_66:Entry where
 params:= [.v (.ptr y6),.v y1,.pr (.bx (.mv y7 1)) (.bx (.v .int))]
 results:= []
 cod:= [(2,.cl 122)]
 B:=((List (Int×(List Int)))×Int)
 run:=λa=>BG a.1 a.2.1 a.2.2
 out:=λb=>((),(),b)
 res:=λb=>()
def C_66:Cx where
 tt:=YaU tt
 T:=Ygp [(8061067,E_65 Aa)]
 L:=Ygo []
 dep:=λi=>0
 n:=3
 cod:= [(2,.cl 122)]
def D_66:Code:=Tryz.f100.body.getD .skip
def N_66 (o:XK E_66.params) (_:YH E_66.results):E_66.B:=o.2.2
def E_67:Entry where
 params:= [.v .int,.v y12,.v .int,.v y1]
 results:= [.mv y7 1,.v .bool]
 B:=(List (Int×(List Int)))×Bool
 run:=λa=>Ds a.1 a.2.1 a.2.2.1 a.2.2.2
 out:=λb=>((),(),(),())
 res:=λb=>(b.1,b.2)
def C_67:Cx where
 tt:=YaU tt
 T:=Ygp [(99,E_62),(8061028,E_66)]
 L:=Ygo []
 dep:=λi=>match i with
  |11=>1
  |22=>1
  |_=>0
 n:=4
def D_67:Code:=Tryz.f74.body.getD .skip
def N_67 (_:XK E_67.params) (r:YH E_67.results):E_67.B:=(r.1,r.2)
def E_68:Entry where
 params:= [.v .int,.v y12,.v .int]
 results:= [.mv y7 1,.v .bool]
 B:=(List (Int×(List Int)))×Bool
 run:=λa=>A7 a.1 a.2.1 a.2.2
 out:=λb=>((),(),())
 res:=λb=>(b.1,b.2)
def C_68:Cx where
 tt:=YaU tt
 T:=Ygp [(46,E_58),(73,E_60),(74,E_67),(75,E_35),(76,E_59)]
 L:=Ygo []
 dep:=λi=>match i with
  |19=>1
  |_=>0
 n:=3
def D_68:Code:=Tryz.f25.body.getD .skip
def N_68 (_:XK E_68.params) (r:YH E_68.results):E_68.B:=(r.1,r.2)
def E_69:Entry where
 params:= [.v .int]
 results:= [.v .bool]
 B:=Bool
 run:=λa=>Ft a
 out:=λb=>()
 res:=λb=>b
def C_69:Cx:=cx0 tt [(86,E_8)] [] 1
def D_69:Code:=Tryz.f32.body.getD .skip
def N_69 (_:XK E_69.params) (r:YH E_69.results):E_69.B:=r
def E_70:Entry where
 params:= [.v .int,.v y12]
 results:= [.v .bool]
 B:=Bool
 run:=λa=>Fs a.1 a.2
 out:=λb=>((),())
 res:=λb=>b
def S_70L4 (n:Nat):LoopSpec where
 sh:= [(0,.v .int),(1,.v y12),(5,.v .int)]
 ex:= [(.exit 0,[]),(.ret,[(4,.v .bool)])]
 run:=CG n
def C_70:Cx:=cx0 tt [(87,E_45)] [(4,S_70L4 Aa)] 2
def B_70L4:Code:=(Tryz.f33.body.bind (Yag 4)).getD .skip
def D_70:Code:=Tryz.f33.body.getD .skip
def N_70 (_:XK E_70.params) (r:YH E_70.results):E_70.B:=r
def E_71:Entry where
 params:= [.v .int,.v y12,.v .int]
 results:= [.v .bool]
 B:=Bool
 run:=λa=>Em a.1 a.2.1 a.2.2
 out:=λb=>((),(),())
 res:=λb=>b
def S_71L4 (n:Nat):LoopSpec where
 sh:= [(1,.v y12),(2,.v .int),(7,.v .int)]
 ex:= [(.exit 0,[]),(.ret,[(6,.v .bool)])]
 run:=B0 n
def C_71:Cx:=cx0 tt [(32,E_69),(33,E_70),(86,E_8)] [(4,S_71L4 Aa)] 3
def B_71L4:Code:=(Tryz.f51.body.bind (Yag 4)).getD .skip
def D_71:Code:=Tryz.f51.body.getD .skip
def N_71 (_:XK E_71.params) (r:YH E_71.results):E_71.B:=r
def E_72:Entry where
 params:= [.v .int,.v y12,.v .int]
 results:= [.v .bool]
 B:=Bool
 run:=λa=>El a.1 a.2.1 a.2.2
 out:=λb=>((),(),())
 res:=λb=>b
def C_72:Cx:=cx0 tt [(51,E_71),(78,E_16)] [] 3
def D_72:Code:=Tryz.f77.body.getD .skip
def N_72 (_:XK E_72.params) (r:YH E_72.results):E_72.B:=r
def E_73:Entry where
 params:= [.v .int,.v y12,.v .int]
 results:= [.mv y9 1]
 B:=(List (List ((List Int)×Int×(List (List Int)))))
 run:=λa=>Ek a.1 a.2.1 a.2.2
 out:=λb=>((),(),())
 res:=λb=>b
def S_73L3 (n:Nat):LoopSpec where
 sh:= [(0,.v .int),(1,.v y12),(2,.v .int),(7,.mv y9 1),(8,.v .int)]
 ex:= [(.exit 0,[(0,.v .int),(1,.v y12),(2,.v .int),(7,.mv y9 1)])]
 run:=BY n
def S_73L21 (n:Nat):LoopSpec where
 sh:= [(0,.v .int),(1,.v y12),(2,.v .int),(7,.mv y9 1),(9,.v .int),(10,.v .int),(11,.v .int),(12,.mv .int 0),(13,.bx (.pr (.mv .int 0) (.v y2))),(14,.v .int),(15,.v .int),(16,.v .int),(17,.v .int)]
 ex:= [(.exit 8,[(0,.v .int),(1,.v y12),(2,.v .int),(7,.mv y9 1),(9,.v .int),(10,.v .int),(11,.v .int),(12,.mv .int 0),(13,.bx (.pr (.mv .int 0) (.v y2))),(14,.v .int),(15,.v .int),(16,.v .int)])]
 run:=BQ n
def S_73L17 (n:Nat):LoopSpec where
 sh:= [(0,.v .int),(1,.v y12),(2,.v .int),(7,.mv y9 1),(9,.v .int),(10,.v .int),(11,.v .int),(12,.mv .int 0),(13,.bx (.pr (.mv .int 0) (.v y2))),(14,.v .int),(15,.v .int)]
 ex:= [(.exit 6,[(0,.v .int),(1,.v y12),(2,.v .int),(7,.mv y9 1),(9,.v .int),(10,.v .int),(11,.v .int),(13,.bx (.pr (.mv .int 0) (.v y2))),(14,.v .int)])]
 run:=BP n
def S_73L11 (n:Nat):LoopSpec where
 sh:= [(0,.v .int),(1,.v y12),(2,.v .int),(7,.mv y9 1),(9,.v .int),(10,.v .int),(11,.v .int)]
 ex:= [(.exit 4,[(0,.v .int),(1,.v y12),(2,.v .int),(7,.mv y9 1),(9,.v .int)])]
 run:=BO n
def S_73L7 (n:Nat):LoopSpec where
 sh:= [(0,.v .int),(1,.v y12),(2,.v .int),(7,.mv y9 1),(9,.v .int)]
 ex:= [(.exit 2,[(7,.mv y9 1)])]
 run:=BZ n
def C_73:Cx where
 tt:=YaU tt
 T:=Ygp [(78,E_16),(85,E_22),(144,E_17)]
 L:=Ygo [(3,S_73L3 Aa),(21,S_73L21 Aa),(17,S_73L17 Aa),(11,S_73L11 Aa),(7,S_73L7 Aa)]
 dep:=λi=>match i with
  |18=>1
  |28=>1
  |29=>1
  |_=>0
 n:=3
 fine:=true
def B_73L3:Code:=(Tryz.f106.body.bind (Yag 3)).getD .skip
def B_73L21:Code:=(Tryz.f106.body.bind (Yag 21)).getD .skip
def B_73L17:Code:=(Tryz.f106.body.bind (Yag 17)).getD .skip
def B_73L11:Code:=(Tryz.f106.body.bind (Yag 11)).getD .skip
def B_73L7:Code:=(Tryz.f106.body.bind (Yag 7)).getD .skip
def D_73:Code:=Tryz.f106.body.getD .skip
def N_73 (_:XK E_73.params) (r:YH E_73.results):E_73.B:=r
def E_74:Entry where
 params:= [.v y9,.v y1]
 results:= [.v .bool]
 B:=Bool
 run:=λa=>Da a.1 a.2
 out:=λb=>((),())
 res:=λb=>b
def S_74L6 (n:Nat):LoopSpec where
 sh:= [(0,.v y9),(1,.v y1),(5,.v .int),(6,.mv .int 0),(7,.v .int)]
 ex:= [(.exit 2,[(0,.v y9),(1,.v y1),(5,.v .int),(6,.mv .int 0)])]
 run:=BX n
def S_74L2 (n:Nat):LoopSpec where
 sh:= [(0,.v y9),(1,.v y1),(5,.v .int)]
 ex:= [(.exit 0,[]),(.ret,[(4,.v .bool)])]
 run:=BW n
def C_74:Cx:=cx0 tt [(155,E_50)] [(6,S_74L6 Aa),(2,S_74L2 Aa)] 2
def B_74L6:Code:=(Tryz.f143.body.bind (Yag 6)).getD .skip
def B_74L2:Code:=(Tryz.f143.body.bind (Yag 2)).getD .skip
def D_74:Code:=Tryz.f143.body.getD .skip
def N_74 (_:XK E_74.params) (r:YH E_74.results):E_74.B:=r
def E_75_of (rec:(Int×(List (List ((List Int)×Int×(List (List Int)))))×(List Int)×(List Int)×((List (List Int))×(Int×Int)))->Option (((List (List Int))×(Int×Int)))):Entry where
 params:= [.v .int,.v y15,.v y1,.v y1,.pr (.mv y1 1) (.v y14)]
 results:= [.pr (.mv y1 1) (.v y14)]
 B:=((List (List Int))×(Int×Int))
 run:=rec
 out:=λb=>((),(),(),(),((),()))
 res:=λb=>b
def E_75 (d:Nat):Entry:=E_75_of (BC d)
def S_75L8 (rec:(Int×(List (List ((List Int)×Int×(List (List Int)))))×(List Int)×(List Int)×((List (List Int))×(Int×Int)))->Option (((List (List Int))×(Int×Int)))) (n:Nat):LoopSpec where
 sh:= [(0,.v .int),(1,.v y15),(2,.v y1),(3,.v y1),(9,.bx (.pr (.mv y1 1) (.v y14))),(10,.bx (.pr (.mv y1 1) (.v y14))),(11,.v .int),(12,.v .int)]
 ex:= [(.exit 0,[(9,.bx (.pr (.mv y1 1) (.v y14))),(10,.bx (.pr (.mv y1 1) (.v y14)))]),(.ret,[(10,.bx (.pr (.mv y1 1) (.v y14)))])]
 run:=Au rec n
def C_75 (rec:(Int×(List (List ((List Int)×Int×(List (List Int)))))×(List Int)×(List Int)×((List (List Int))×(Int×Int)))->Option (((List (List Int))×(Int×Int)))):Cx where
 tt:=YaU tt
 T:=Ygp [(105,E_75_of rec),(114,E_6),(143,E_74)]
 L:=Ygo [(8,S_75L8 rec Aa)]
 dep:=λi=>match i with
  |34=>1
  |35=>1
  |_=>0
 n:=5
def B_75L8:Code:=(Tryz.f105.body.bind (Yag 8)).getD .skip
def D_75:Code:=Tryz.f105.body.getD .skip
def N_75 (_:XK [.v .int,.v y15,.v y1,.v y1,.pr (.mv y1 1) (.v y14)]) (r:YH [.pr (.mv y1 1) (.v y14)]):((List (List Int))×(Int×Int)):=r
def E_76:Entry where
 params:= [.v .int,.v y12,.v .int,.v y1,.v .int]
 results:= [.pr (.mv y1 1) (.v y14)]
 B:=((List (List Int))×(Int×Int))
 run:=λa=>DM a.1 a.2.1 a.2.2.1 a.2.2.2.1 a.2.2.2.2
 out:=λb=>((),(),(),(),())
 res:=λb=>b
def C_76:Cx:=cx0 tt [(105,E_75 Aa),(106,E_73)] [] 5
def D_76:Code:=Tryz.f52.body.getD .skip
def N_76 (_:XK E_76.params) (r:YH E_76.results):E_76.B:=r
def E_77:Entry where
 params:= [.v .int,.v y10]
 results:= [.mv y7 0]
 B:=(List (Int×(List Int)))
 run:=λa=>Ed a.1 a.2
 out:=λb=>((),())
 res:=λb=>b
def S_77L3 (n:Nat):LoopSpec where
 sh:= [(0,.v .int),(1,.v y10),(5,.mv y7 0),(6,.v .int)]
 ex:= [(.exit 0,[(5,.mv y7 0)])]
 run:=Cv n
def C_77:Cx:=cx0 tt [(114,E_6)] [(3,S_77L3 Aa)] 2
def B_77L3:Code:=(Tryz.f79.body.bind (Yag 3)).getD .skip
def D_77:Code:=Tryz.f79.body.getD .skip
def N_77 (_:XK E_77.params) (r:YH E_77.results):E_77.B:=r
def E_78:Entry where
 params:= [.v .int,.v y12,.v .int]
 results:= [.mv y7 0,.v .bool]
 B:=(List (Int×(List Int)))×Bool
 run:=λa=>CX a.1 a.2.1 a.2.2
 out:=λb=>((),(),())
 res:=λb=>(b.1,b.2)
def C_78:Cx:=cx0 tt [(52,E_76),(72,E_48),(77,E_72),(78,E_16),(79,E_77)] [] 3
def D_78:Code:=Tryz.f26.body.getD .skip
def N_78 (_:XK E_78.params) (r:YH E_78.results):E_78.B:=(r.1,r.2)
def E_79:Entry where
 params:= [.v y7,.v y7]
 results:= [.v .bool]
 B:=Bool
 run:=λa=>Gq a.1 a.2
 out:=λb=>((),())
 res:=λb=>b
def C_79:Cx:=cx0 tt [(9,E_55)] [] 2
def D_79:Code:=Tryz.f14.body.getD .skip
def N_79 (_:XK E_79.params) (r:YH E_79.results):E_79.B:=r
def E_80:Entry where
 params:= [.v (.slice y7),.v (.slice y7)]
 results:= [.v .bool]
 B:=Bool
 run:=λa=>FG a.1 a.2
 out:=λb=>((),())
 res:=λb=>b
def S_80L4 (n:Nat):LoopSpec where
 sh:= [(0,.v (.slice y7)),(1,.v (.slice y7)),(5,.v .int)]
 ex:= [(.exit 0,[]),(.ret,[(4,.v .bool)])]
 run:=C3 n
def C_80:Cx:=cx0 tt [(14,E_79)] [(4,S_80L4 Aa)] 2
def B_80L4:Code:=(Tryz.f27.body.bind (Yag 4)).getD .skip
def D_80:Code:=Tryz.f27.body.getD .skip
def N_80 (_:XK E_80.params) (r:YH E_80.results):E_80.B:=r
def E_81:Entry where
 params:= [.v y5,.v y1]
 results:= [.v .bool]
 B:=Bool
 run:=λa=>Ck a.1 a.2
 out:=λb=>((),())
 res:=λb=>b
def C_81:Cx:=cx0 tt [(89,E_27)] [] 2
def D_81:Code:=Tryz.f58.body.getD .skip
def N_81 (_:XK E_81.params) (r:YH E_81.results):E_81.B:=r
def E_82:Entry where
 params:= [.v y1,.v y1]
 results:= [.v .bool]
 B:=Bool
 run:=λa=>Ei a.1 a.2
 out:=λb=>((),())
 res:=λb=>b
def S_82L4 (n:Nat):LoopSpec where
 sh:= [(1,.v y1),(12,.v y1),(13,.v .int),(14,.v .int)]
 ex:= [(.exit 0,[]),(.ret,[(4,.v .bool)])]
 run:=Cs n
def C_82:Cx:=cx0 tt [] [(4,S_82L4 Aa)] 2
def B_82L4:Code:=(Tryz.f146.body.bind (Yag 4)).getD .skip
def D_82:Code:=Tryz.f146.body.getD .skip
def N_82 (_:XK E_82.params) (r:YH E_82.results):E_82.B:=r
def E_83:Entry where
 params:= [.v y2,.v y1]
 results:= [.v .bool]
 B:=Bool
 run:=λa=>D9 a.1 a.2
 out:=λb=>((),())
 res:=λb=>b
def S_83L2 (n:Nat):LoopSpec where
 sh:= [(1,.v y1),(8,.v y10),(9,.v .int),(10,.v .int)]
 ex:= [(.exit 0,[]),(.ret,[(4,.v .bool)])]
 run:=CU n
def C_83:Cx:=cx0 tt [(146,E_82)] [(2,S_83L2 Aa)] 2
def B_83L2:Code:=(Tryz.f109.body.bind (Yag 2)).getD .skip
def D_83:Code:=Tryz.f109.body.getD .skip
def N_83 (_:XK E_83.params) (r:YH E_83.results):E_83.B:=r
def E_84:Entry where
 params:= [.v y5,.v y1]
 results:= [.v .int]
 B:=Int
 run:=λa=>C2 a.1 a.2
 out:=λb=>((),())
 res:=λb=>b
def S_84L2 (n:Nat):LoopSpec where
 sh:= [(1,.v y1),(8,.v y9),(9,.v .int),(10,.v .int)]
 ex:= [(.exit 0,[]),(.ret,[(4,.v .int)])]
 run:=Bv n
def C_84:Cx:=cx0 tt [(109,E_83),(110,E_38)] [(2,S_84L2 Aa)] 2
def B_84L2:Code:=(Tryz.f59.body.bind (Yag 2)).getD .skip
def D_84:Code:=Tryz.f59.body.getD .skip
def N_84 (_:XK E_84.params) (r:YH E_84.results):E_84.B:=r
def E_85:Entry where
 params:= [.v y5,.v y1]
 results:= [.v .bool,.v .bool]
 B:=Bool×Bool
 run:=λa=>Bx a.1 a.2
 out:=λb=>((),())
 res:=λb=>(b.1,b.2)
def C_85:Cx:=cx0 tt [(11,E_31),(58,E_81),(59,E_84)] [] 2
def D_85:Code:=Tryz.f17.body.getD .skip
def N_85 (_:XK E_85.params) (r:YH E_85.results):E_85.B:=(r.1,r.2)
def E_86:Entry where
 params:= [.v y13]
 results:= [.v y5,.pr (.v .int) (.mv .int 0)]
 B:=(Int×Int×(List ((List Int)×Int×(List (List Int)))))×(Int×(List Int))
 run:=λa=>AG a
 out:=λb=>()
 res:=λb=>(b.1,b.2)
def S_86L5 (n:Nat):LoopSpec where
 sh:= [(2,.bx (.pr (.v .int) (.pr (.v .int) (.mv y0 0)))),(3,.bx (.pr (.v .int) (.mv .int 0))),(4,.bx (.v y4)),(5,.bx (.v y5)),(6,.bx (.pr (.v .int) (.mv .int 0))),(7,.v .int)]
 ex:= [(.exit 0,[(2,.bx (.pr (.v .int) (.pr (.v .int) (.mv y0 0)))),(3,.bx (.pr (.v .int) (.mv .int 0))),(4,.bx (.v y4)),(5,.bx (.v y5)),(6,.bx (.pr (.v .int) (.mv .int 0)))])]
 run:=AH n
def C_86:Cx:=cx0 tt [(31,E_23),(34,E_4),(35,E_3),(36,E_7)] [(5,S_86L5 Aa)] 1
def B_86L5:Code:=(Tryz.f28.body.bind (Yag 5)).getD .skip
def D_86:Code:=Tryz.f28.body.getD .skip
def N_86 (_:XK E_86.params) (r:YH E_86.results):E_86.B:=(r.1,r.2)
def E_87:Entry where
 params:= [.v y7,.v .int]
 results:= [.v .bool]
 B:=Bool
 run:=λa=>FD a.1 a.2
 out:=λb=>((),())
 res:=λb=>b
def C_87:Cx:=cx0 tt [(76,E_59),(89,E_27)] [] 2
def D_87:Code:=Tryz.f37.body.getD .skip
def N_87 (_:XK E_87.params) (r:YH E_87.results):E_87.B:=r
def E_88:Entry where
 params:= [.v y10]
 results:= [.mv y1 1]
 B:=(List (List Int))
 run:=λa=>D2 a
 out:=λb=>()
 res:=λb=>b
def S_88L3 (n:Nat):LoopSpec where
 sh:= [(3,.mv y1 1),(7,.v y10),(8,.v .int),(9,.v .int)]
 ex:= [(.exit 0,[(3,.mv y1 1)])]
 run:=BK n
def C_88:Cx where
 tt:=YaU tt
 T:=Ygp [(70,E_36)]
 L:=Ygo [(3,S_88L3 Aa)]
 dep:=λi=>match i with
  |6=>1
  |16=>1
  |17=>1
  |_=>0
 n:=1
def B_88L3:Code:=(Tryz.f147.body.bind (Yag 3)).getD .skip
def D_88:Code:=Tryz.f147.body.getD .skip
def N_88 (_:XK E_88.params) (r:YH E_88.results):E_88.B:=r
def E_89:Entry where
 params:= [.io y1 1,.v (.fn 135)]
 results:= []
 B:=List (List Int)
 run:=λa=>Bz a.1 a.2
 out:=λb=>(b,())
 res:=λb=>()
def D_89:Code:=Tryz.f148.body.getD .skip
def E_90:Entry where
 params:= [.v y10]
 results:= [.mv y1 1]
 B:=(List (List Int))
 run:=λa=>Dv a
 out:=λb=>()
 res:=λb=>b
def C_90:Cx:=cx0 tt [(147,E_88),(8913044,E_89)] [] 1
def D_90:Code:=Tryz.f113.body.getD .skip
def N_90 (_:XK E_90.params) (r:YH E_90.results):E_90.B:=r
def E_91:Entry where
 params:= [.mv y1 1]
 results:= [.mv y1 1]
 B:=List (List Int)
 run:=λa=>D3 a
 out:=λb=>()
 res:=λb=>b
def D_91:Code:=Tryz.f112.body.getD .skip
def E_92:Entry where
 params:= [.v .int,.v y10]
 results:= [.pr (.v .int) (.mv y1 1)]
 B:=(Int×(List (List Int)))
 run:=λa=>Dt a.1 a.2
 out:=λb=>((),())
 res:=λb=>b
def C_92:Cx:=cx0 tt [(112,E_91),(113,E_90)] [] 2
def D_92:Code:=Tryz.f62.body.getD .skip
def N_92 (_:XK E_92.params) (r:YH E_92.results):E_92.B:=r
def E_93:Entry where
 params:= [.v y2,.v y1]
 results:= [.pr (.v .int) (.mv y1 1)]
 B:=(Int×(List (List Int)))
 run:=λa=>CA a.1 a.2
 out:=λb=>((),())
 res:=λb=>b
def S_93L3 (n:Nat):LoopSpec where
 sh:= [(1,.v y1),(2,.bx (.v y2)),(4,.bx (.pr (.v .int) (.mv y1 1))),(5,.mv y1 1),(10,.v y10),(11,.v .int),(12,.v .int)]
 ex:= [(.exit 0,[(2,.bx (.v y2)),(4,.bx (.pr (.v .int) (.mv y1 1))),(5,.mv y1 1)])]
 run:=Bj n
def C_93:Cx where
 tt:=YaU tt
 T:=Ygp [(62,E_92),(110,E_38)]
 L:=Ygo [(3,S_93L3 Aa)]
 dep:=λi=>match i with
  |8=>1
  |20=>1
  |21=>1
  |_=>0
 n:=2
def B_93L3:Code:=(Tryz.f80.body.bind (Yag 3)).getD .skip
def D_93:Code:=Tryz.f80.body.getD .skip
def N_93 (_:XK E_93.params) (r:YH E_93.results):E_93.B:=r
def E_94:Entry where
 params:= [.v y5,.mv y0 2]
 results:= [.pr (.v .int) (.pr (.v .int) (.mv y0 2)),.v .bool]
 B:=(Int×(Int×(List ((List Int)×Int×(List (List Int))))))×Bool
 run:=λa=>DJ a.1 a.2
 out:=λb=>((),())
 res:=λb=>(b.1,b.2)
def C_94:Cx:=cx0 tt [] [] 2
def D_94:Code:=Tryz.f63.body.getD .skip
def N_94 (_:XK E_94.params) (r:YH E_94.results):E_94.B:=(r.1,r.2)
def E_95:Entry where
 params:= [.v y5,.v y7]
 results:= [.pr (.v .int) (.pr (.v .int) (.mv y0 2)),.v .bool]
 B:=(Int×(Int×(List ((List Int)×Int×(List (List Int))))))×Bool
 run:=λa=>AS a.1 a.2
 out:=λb=>((),())
 res:=λb=>(b.1,b.2)
def S_95L5 (n:Nat):LoopSpec where
 sh:= [(2,.bx (.v y5)),(3,.bx (.v y7)),(4,.bx (.pr (.v .int) (.pr (.v .int) (.mv y0 2)))),(6,.mv y0 2),(27,.v y9),(28,.v .int),(29,.v .int)]
 ex:= [(.exit 0,[(2,.bx (.v y5)),(4,.bx (.pr (.v .int) (.pr (.v .int) (.mv y0 2)))),(6,.mv y0 2)])]
 run:=AK n
def C_95:Cx where
 tt:=YaU tt
 T:=Ygp [(11,E_31),(37,E_87),(63,E_94),(70,E_36),(80,E_93)]
 L:=Ygo [(5,S_95L5 Aa)]
 dep:=λi=>match i with
  |25=>2
  |43=>2
  |44=>2
  |_=>0
 n:=2
def B_95L5:Code:=(Tryz.f29.body.bind (Yag 5)).getD .skip
def D_95:Code:=Tryz.f29.body.getD .skip
def N_95 (_:XK E_95.params) (r:YH E_95.results):E_95.B:=(r.1,r.2)
def E_96:Entry where
 params:= [.v .int,.v y7]
 results:= [.v .bool]
 B:=Bool
 run:=λa=>FT a.1 a.2
 out:=λb=>((),())
 res:=λb=>b
def S_96L4 (n:Nat):LoopSpec where
 sh:= [(0,.v .int),(3,.bx (.v y7)),(5,.v .int)]
 ex:= [(.exit 0,[]),(.ret,[(4,.v .bool)])]
 run:=Dx n
def C_96:Cx:=cx0 tt [(78,E_16),(86,E_8)] [(4,S_96L4 Aa)] 2
def B_96L4:Code:=(Tryz.f41.body.bind (Yag 4)).getD .skip
def D_96:Code:=Tryz.f41.body.getD .skip
def N_96 (_:XK E_96.params) (r:YH E_96.results):E_96.B:=r
def E_97:Entry where
 params:= [.v y9]
 results:= [.mv y0 0]
 B:=(List ((List Int)×Int×(List (List Int))))
 run:=λa=>Ez a
 out:=λb=>()
 res:=λb=>b
def S_97L7 (n:Nat):LoopSpec where
 sh:= [(0,.v y9),(3,.mv y0 0),(4,.v .int),(5,.bx (.pr (.mv .int 0) (.pr (.v .int) (.mv y1 0)))),(6,.v .int)]
 ex:= [(.exit 2,[(0,.v y9),(3,.mv y0 0),(4,.v .int),(5,.bx (.pr (.mv .int 0) (.pr (.v .int) (.mv y1 0))))])]
 run:=Cc n
def S_97L3 (n:Nat):LoopSpec where
 sh:= [(0,.v y9),(3,.mv y0 0),(4,.v .int)]
 ex:= [(.exit 0,[(3,.mv y0 0)])]
 run:=Cb n
def C_97:Cx:=cx0 tt [(114,E_6)] [(7,S_97L7 Aa),(3,S_97L3 Aa)] 1
def B_97L7:Code:=(Tryz.f64.body.bind (Yag 7)).getD .skip
def B_97L3:Code:=(Tryz.f64.body.bind (Yag 3)).getD .skip
def D_97:Code:=Tryz.f64.body.getD .skip
def N_97 (_:XK E_97.params) (r:YH E_97.results):E_97.B:=r
def E_98:Entry where
 params:= [.v y10,.v y1]
 results:= [.v .int]
 B:=Int
 run:=λa=>DG a.1 a.2
 out:=λb=>((),())
 res:=λb=>b
def S_98L2 (n:Nat):LoopSpec where
 sh:= [(0,.v y10),(1,.v y1),(5,.v .int)]
 ex:= [(.exit 0,[]),(.ret,[(4,.v .int)])]
 run:=BV n
def C_98:Cx:=cx0 tt [(123,E_11)] [(2,S_98L2 Aa)] 2
def B_98L2:Code:=(Tryz.f81.body.bind (Yag 2)).getD .skip
def D_98:Code:=Tryz.f81.body.getD .skip
def N_98 (_:XK E_98.params) (r:YH E_98.results):E_98.B:=r
def E_99:Entry where
 params:= [.v y1,.v y1]
 results:= [.v .bool]
 B:=Bool
 run:=λa=>FX a.1 a.2
 out:=λb=>((),())
 res:=λb=>b
def S_99L2 (n:Nat):LoopSpec where
 sh:= [(0,.v y1),(1,.v y1),(5,.v .int)]
 ex:= [(.exit 0,[]),(.ret,[(4,.v .bool)])]
 run:=C1 n
def C_99:Cx:=cx0 tt [] [(2,S_99L2 Aa)] 2
def B_99L2:Code:=(Tryz.f124.body.bind (Yag 2)).getD .skip
def D_99:Code:=Tryz.f124.body.getD .skip
def N_99 (_:XK E_99.params) (r:YH E_99.results):E_99.B:=r
def E_100:Entry where
 params:= [.v y10,.v y1]
 results:= [.mv y1 0]
 B:=(List (List Int))
 run:=λa=>Eg a.1 a.2
 out:=λb=>((),())
 res:=λb=>b
def S_100L2 (n:Nat):LoopSpec where
 sh:= [(0,.v y10),(1,.v y1),(5,.v .int)]
 ex:= [(.exit 0,[(0,.v y10),(1,.v y1),(5,.v .int)])]
 run:=Cy n
def C_100:Cx:=cx0 tt [(124,E_99)] [(2,S_100L2 Aa)] 2
def B_100L2:Code:=(Tryz.f82.body.bind (Yag 2)).getD .skip
def D_100:Code:=Tryz.f82.body.getD .skip
def N_100 (_:XK E_100.params) (r:YH E_100.results):E_100.B:=r
def E_101:Entry where
 params:= [.v y5,.v y7]
 results:= [.pr (.v .int) (.pr (.v .int) (.mv y0 0)),.v .bool]
 B:=(Int×(Int×(List ((List Int)×Int×(List (List Int))))))×Bool
 run:=λa=>AT a.1 a.2
 out:=λb=>((),())
 res:=λb=>(b.1,b.2)
def S_101L13 (n:Nat):LoopSpec where
 sh:= [(3,.bx (.v y7)),(4,.bx (.pr (.v .int) (.pr (.v .int) (.mv y0 0)))),(6,.bx (.pr (.v .int) (.pr (.v .int) (.mv y0 0)))),(7,.v .int),(8,.mv y1 0),(9,.v .int),(10,.mv .int 0),(11,.v .int)]
 ex:= [(.exit 4,[(3,.bx (.v y7)),(4,.bx (.pr (.v .int) (.pr (.v .int) (.mv y0 0)))),(6,.bx (.pr (.v .int) (.pr (.v .int) (.mv y0 0)))),(7,.v .int),(8,.mv y1 0),(9,.v .int),(10,.mv .int 0)])]
 run:=AY n
def S_101L9 (n:Nat):LoopSpec where
 sh:= [(3,.bx (.v y7)),(4,.bx (.pr (.v .int) (.pr (.v .int) (.mv y0 0)))),(6,.bx (.pr (.v .int) (.pr (.v .int) (.mv y0 0)))),(7,.v .int),(8,.mv y1 0),(9,.v .int)]
 ex:= [(.exit 2,[(3,.bx (.v y7)),(4,.bx (.pr (.v .int) (.pr (.v .int) (.mv y0 0)))),(6,.bx (.pr (.v .int) (.pr (.v .int) (.mv y0 0)))),(7,.v .int),(8,.mv y1 0)])]
 run:=AM n
def S_101L5 (n:Nat):LoopSpec where
 sh:= [(3,.bx (.v y7)),(4,.bx (.pr (.v .int) (.pr (.v .int) (.mv y0 0)))),(6,.bx (.pr (.v .int) (.pr (.v .int) (.mv y0 0)))),(7,.v .int)]
 ex:= [(.exit 0,[(4,.bx (.pr (.v .int) (.pr (.v .int) (.mv y0 0)))),(6,.bx (.pr (.v .int) (.pr (.v .int) (.mv y0 0))))])]
 run:=Bb n
def C_101:Cx:=cx0 tt [(40,E_47),(41,E_96),(64,E_97),(81,E_98),(82,E_100)] [(13,S_101L13 Aa),(9,S_101L9 Aa),(5,S_101L5 Aa)] 2
def B_101L13:Code:=(Tryz.f30.body.bind (Yag 13)).getD .skip
def B_101L9:Code:=(Tryz.f30.body.bind (Yag 9)).getD .skip
def B_101L5:Code:=(Tryz.f30.body.bind (Yag 5)).getD .skip
def D_101:Code:=Tryz.f30.body.getD .skip
def N_101 (_:XK E_101.params) (r:YH E_101.results):E_101.B:=(r.1,r.2)
def E_102:Entry where
 params:= [.v y1]
 results:= [.nv .int 0]
 B:=(Bool×(List Int))
 run:=λa=>Fm a
 out:=λb=>()
 res:=λb=>b
def C_102:Cx:=cx0 tt [] [] 1
def D_102:Code:=Tryz.f70.body.getD .skip
def N_102 (_:XK E_102.params) (r:YH E_102.results):E_102.B:=r
def E_103:Entry where
 params:= [.v y1,.bx (.nv .int 0)]
 results:= [.v .bool]
 B:=(Bool×(List Int))×Bool
 run:=λa=>B7 a.1 a.2
 out:=λb=>((),b.1)
 res:=λb=>b.2
def C_103:Cx:=cx0 tt [(70,E_102)] [] 2
def D_103:Code:=Tryz.f119.body.getD .skip
def N_103 (o:XK E_103.params) (r:YH E_103.results):E_103.B:=(o.2,r)
def E_104_of (rec:(Int×(List Int)×(Bool×(List Int))×(Bool×Int×(List (List (List Int)))×(List (List (List ByteArray))))×(List Int)×Unit)->Option ((List Int)×(Bool×(List Int))×(Bool×Int×(List (List (List Int)))×(List (List (List ByteArray))))×(List Int)×Bool)):Entry where
 params:= [.v .int,.bx (.mv .int 0),.bx (.nv .int 0),.bx (.v (.ptr y3)),.bx (.v y1),.jk 1]
 results:= [.v .bool]
 cod:= [(2,.kb 119),(5,.kn 150 1 5)]
 B:=(List Int)×(Bool×(List Int))×(Bool×Int×(List (List (List Int)))×(List (List (List ByteArray))))×(List Int)×Bool
 run:=rec
 out:=λb=>((),b.1,b.2.1,b.2.2.1,b.2.2.2.1,())
 res:=λb=>b.2.2.2.2
def E_104 (d:Nat):Entry:=E_104_of (Am d)
def S_104L10 (rec:(Int×(List Int)×(Bool×(List Int))×(Bool×Int×(List (List (List Int)))×(List (List (List ByteArray))))×(List Int)×Unit)->Option ((List Int)×(Bool×(List Int))×(Bool×Int×(List (List (List Int)))×(List (List (List ByteArray))))×(List Int)×Bool)) (n:Nat):LoopSpec where
 sh:= [(0,.v .int),(1,.bx (.mv .int 0)),(2,.bx (.nv .int 0)),(3,.bx (.v (.ptr y3))),(4,.bx (.v y1)),(5,.jk 1),(8,.v .int),(9,.v .bool),(50,.v y10),(51,.v .int),(52,.v .int)]
 ex:= [(.exit 2,[(0,.v .int),(1,.bx (.mv .int 0)),(2,.bx (.nv .int 0)),(3,.bx (.v (.ptr y3))),(4,.bx (.v y1)),(5,.jk 1),(8,.v .int),(9,.v .bool)])]
 run:=Ak rec n
def S_104L4 (rec:(Int×(List Int)×(Bool×(List Int))×(Bool×Int×(List (List (List Int)))×(List (List (List ByteArray))))×(List Int)×Unit)->Option ((List Int)×(Bool×(List Int))×(Bool×Int×(List (List (List Int)))×(List (List (List ByteArray))))×(List Int)×Bool)) (n:Nat):LoopSpec where
 sh:= [(0,.v .int),(1,.bx (.mv .int 0)),(2,.bx (.nv .int 0)),(3,.bx (.v (.ptr y3))),(4,.bx (.v y1)),(5,.jk 1),(8,.v .int)]
 ex:= [(.exit 0,[(1,.bx (.mv .int 0)),(2,.bx (.nv .int 0)),(3,.bx (.v (.ptr y3))),(4,.bx (.v y1)),(5,.jk 1)]),(.ret,[(1,.bx (.mv .int 0)),(2,.bx (.nv .int 0)),(3,.bx (.v (.ptr y3))),(4,.bx (.v y1)),(5,.jk 1),(7,.v .bool)])]
 run:=Af rec n
def C_104 (rec:(Int×(List Int)×(Bool×(List Int))×(Bool×Int×(List (List (List Int)))×(List (List (List ByteArray))))×(List Int)×Unit)->Option ((List Int)×(Bool×(List Int))×(Bool×Int×(List (List (List Int)))×(List (List (List ByteArray))))×(List Int)×Bool)):Cx where
 tt:=YaU tt
 T:=Ygp [(110,E_38),(119,E_103),(138,E_32),(7864470,E_104_of rec)]
 L:=Ygo [(10,S_104L10 rec Aa),(4,S_104L4 rec Aa)]
 dep:=λi=>0
 n:=6
 cod:= [(2,.kb 119),(5,.kn 150 1 5)]
def B_104L10:Code:=(Tryz.f150.body.bind (Yag 10)).getD .skip
def B_104L4:Code:=(Tryz.f150.body.bind (Yag 4)).getD .skip
def D_104:Code:=Tryz.f150.body.getD .skip
def N_104 (o:XK [.v .int,.bx (.mv .int 0),.bx (.nv .int 0),.bx (.v (.ptr y3)),.bx (.v y1),.jk 1]) (r:YH [.v .bool]):(List Int)×(Bool×(List Int))×(Bool×Int×(List (List (List Int)))×(List (List (List ByteArray))))×(List Int)×Bool:=(o.2.1,o.2.2.1,o.2.2.2.1,o.2.2.2.2.1,r)
def E_105:Entry where
 params:= [.v (.ptr y3),.v y1,.bx (.nv .int 0)]
 results:= []
 cod:= [(2,.cl 119)]
 B:=(Bool×(List Int))
 run:=λa=>By a.1 a.2.1 a.2.2
 out:=λb=>((),(),b)
 res:=λb=>()
def C_105:Cx where
 tt:=YaU tt
 T:=Ygp [(7864470,E_104 Aa)]
 L:=Ygo []
 dep:=λi=>0
 n:=3
 cod:= [(2,.cl 119)]
def D_105:Code:=Tryz.f118.body.getD .skip
def N_105 (o:XK E_105.params) (_:YH E_105.results):E_105.B:=o.2.2
def E_106:Entry where
 params:= [.v y5,.v y1]
 results:= [.nv .int 0]
 B:=(Bool×(List Int))
 run:=λa=>Dh a.1 a.2
 out:=λb=>((),())
 res:=λb=>b
def C_106:Cx:=cx0 tt [(117,E_34),(7864438,E_105)] [] 2
def D_106:Code:=Tryz.f67.body.getD .skip
def N_106 (_:XK E_106.params) (r:YH E_106.results):E_106.B:=r
def E_107:Entry where
 params:= [.v y5,.v y1]
 results:= [.mv .int 0,.v .bool]
 B:=(List Int)×Bool
 run:=λa=>Bp a.1 a.2
 out:=λb=>((),())
 res:=λb=>(b.1,b.2)
def S_107L4 (n:Nat):LoopSpec where
 sh:= [(1,.v y1),(2,.bx (.v y5)),(20,.v y1),(21,.v .int),(22,.v .int)]
 ex:= [(.exit 0,[(1,.v y1),(2,.bx (.v y5))]),(.ret,[(4,.mv .int 0),(5,.v .bool)])]
 run:=Bi n
def C_107:Cx:=cx0 tt [(11,E_31),(67,E_106)] [(4,S_107L4 Aa)] 2
def B_107L4:Code:=(Tryz.f21.body.bind (Yag 4)).getD .skip
def D_107:Code:=Tryz.f21.body.getD .skip
def N_107 (_:XK E_107.params) (r:YH E_107.results):E_107.B:=(r.1,r.2)
def E_108:Entry where
 params:= [.v y13]
 results:= [.v .bool]
 B:=Bool
 run:=λa=>DK a
 out:=λb=>()
 res:=λb=>b
def S_108L14 (n:Nat):LoopSpec where
 sh:= [(0,.v y13),(3,.bx (.v y5)),(4,.v y10),(5,.v .bool),(8,.mv y2 0),(9,.v .int),(10,.v .bool),(11,.v .int)]
 ex:= [(.exit 2,[(0,.v y13),(3,.bx (.v y5)),(4,.v y10),(5,.v .bool),(8,.mv y2 0),(9,.v .int),(10,.v .bool)])]
 run:=As n
def S_108L10 (n:Nat):LoopSpec where
 sh:= [(0,.v y13),(3,.bx (.v y5)),(4,.v y10),(5,.v .bool),(8,.mv y2 0),(9,.v .int)]
 ex:= [(.exit 0,[(0,.v y13),(3,.bx (.v y5)),(4,.v y10),(5,.v .bool),(8,.mv y2 0)])]
 run:=Ay n
def S_108L30 (n:Nat):LoopSpec where
 sh:= [(0,.v y13),(3,.bx (.v y5)),(4,.v y10),(12,.mv y7 1),(16,.v .int),(17,.v y1),(18,.v y1),(19,.mv .int 0),(20,.v .int)]
 ex:= [(.exit 6,[(0,.v y13),(3,.bx (.v y5)),(4,.v y10),(12,.mv y7 1),(16,.v .int),(19,.mv .int 0)])]
 run:=AQ n
def S_108L25 (n:Nat):LoopSpec where
 sh:= [(0,.v y13),(3,.bx (.v y5)),(4,.v y10),(12,.mv y7 1),(16,.v .int)]
 ex:= [(.exit 4,[(0,.v y13)]),(.ret,[(2,.v .bool)])]
 run:=AC n
def S_108L44 (n:Nat):LoopSpec where
 sh:= [(23,.bx (.v y5)),(24,.bx (.v y7)),(25,.bx (.pr (.v .int) (.pr (.v .int) (.mv y0 2)))),(29,.mv .int 0),(30,.v .int)]
 ex:= [(.exit 8,[(23,.bx (.v y5)),(24,.bx (.v y7)),(25,.bx (.pr (.v .int) (.pr (.v .int) (.mv y0 2)))),(29,.mv .int 0)])]
 run:=Ap n
def S_108L51 (n:Nat):LoopSpec where
 sh:= [(23,.bx (.v y5)),(24,.bx (.v y7)),(25,.bx (.pr (.v .int) (.pr (.v .int) (.mv y0 2)))),(31,.mv .int 0),(33,.mv .int 0),(34,.v .int)]
 ex:= [(.exit 10,[(25,.bx (.pr (.v .int) (.pr (.v .int) (.mv y0 2)))),(33,.mv .int 0)]),(.ret,[(2,.v .bool)])]
 run:=Aq n
def C_108:Cx:=cx0 tt [(5,E_1),(10,E_56),(17,E_85),(21,E_107),(22,E_25),(23,E_42),(24,E_54),(25,E_68),(26,E_78),(27,E_80),(28,E_86),(29,E_95),(30,E_101)] [(14,S_108L14 Aa),(10,S_108L10 Aa),(30,S_108L30 Aa),(25,S_108L25 Aa),(44,S_108L44 Aa),(51,S_108L51 Aa)] 1
def B_108L14:Code:=(Tryz.f4.body.bind (Yag 14)).getD .skip
def B_108L10:Code:=(Tryz.f4.body.bind (Yag 10)).getD .skip
def B_108L30:Code:=(Tryz.f4.body.bind (Yag 30)).getD .skip
def B_108L25:Code:=(Tryz.f4.body.bind (Yag 25)).getD .skip
def B_108L44:Code:=(Tryz.f4.body.bind (Yag 44)).getD .skip
def B_108L51:Code:=(Tryz.f4.body.bind (Yag 51)).getD .skip
def D_108:Code:=Tryz.f4.body.getD .skip
def N_108 (_:XK E_108.params) (r:YH E_108.results):E_108.B:=r
end
end T
