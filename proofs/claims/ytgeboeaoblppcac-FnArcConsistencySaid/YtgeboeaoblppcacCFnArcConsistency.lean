/- Contexts of the typed functions; no conditions. -/
import Derived.Test.YtgeboeaoblppcacV5
import Derived.Test.YtgeboeaoblppcacProg
import Derived.Test.YtgeboeaoblppcacPFnArcConsistency
import Derived.KernelRfl
set_option linter.all false
set_option linter.unusedVariables false
set_option maxRecDepth 10000
open Go Go.Va Go.Proofs
namespace T
noncomputable section
abbrev y0:Ty:= .pair (.slice .int) (.pair .int (.slice (.slice .int)))
abbrev y1:Ty:= .slice .int
abbrev y2:Ty:= .pair .int (.pair .int (.slice y0))
abbrev y3:Ty:= .pair .int (.pair (.slice (.slice y1)) (.slice (.slice (.smap .sb))))
abbrev y4:Ty:= .pair (.slice (.num .u8)) (.pair .int (.num .u64))
abbrev y5:Ty:= .pair .int (.pair .int .int)
abbrev y6:Ty:= .slice .bool
abbrev y7:Ty:= .pair .int (.slice y1)
abbrev y8:Ty:= .pair .int (.pair .int .bool)
abbrev y9:Ty:= .slice y1
abbrev y10:Ty:= .slice y0
abbrev y11:Ty:= .slice y6
abbrev y12:Ty:= .slice (.smap .sb)
abbrev y13:Ty:= .slice (.num .u8)
abbrev y14:Ty:= .slice y10
abbrev y15:Ty:= .pair .int (.pair .int (.pair .bool (.num .u8)))
def tt:List (Nat×TI):= [
 (2,{ ty:= .int }),
 (3,{ ty:= .int }),
 (4,{ ty:= .bool }),
 (5,{ ty:=(.num .u8) }),
 (6,{ ty:=(.num .u8) }),
 (7,{ ty:=y15,fields:= [2,3,4,6] }),
 (8,{ ty:=y15,fields:= [2,3,4,6] }),
 (9,{ ty:= .str }),
 (22,{ ty:=y13,elem:=5 }),
 (24,{ ty:=y10,elem:=40 }),
 (26,{ ty:=y2,fields:= [3,3,24] }),
 (28,{ ty:=y9,elem:=36 }),
 (32,{ ty:=(.slice y5),elem:=35 }),
 (35,{ ty:=y5,fields:= [3,3,3],arr:=true }),
 (36,{ ty:=y1,elem:=3 }),
 (38,{ ty:=y7,fields:= [3,28] }),
 (40,{ ty:=y0,fields:= [36,38] }),
 (50,{ ty:=(.slice y7),elem:=38 }),
 (70,{ ty:=y11,elem:=78 }),
 (78,{ ty:=y6,elem:=4 }),
 (82,{ ty:=(.op false) }),
 (86,{ ty:=(.pair y9 y8),fields:= [28,3,3,4] }),
 (92,{ ty:=(.num .u64) }),
 (94,{ ty:=y4,fields:= [22,3,92] }),
 (110,{ ty:=(.op false) }),
 (128,{ ty:=(.op true) }),
 (131,{ ty:=y14,elem:=24 }),
 (142,{ ty:=(.smap .sb) }),
 (154,{ ty:=(.slice y9),elem:=28 }),
 (155,{ ty:=(.slice y12),elem:=158 }),
 (157,{ ty:=y3,fields:= [3,154,155] }),
 (158,{ ty:=y12,elem:=142 }),
 (167,{ ty:=(.num .u64) })]
theorem tabT:Yif Try.prog tt=true:=by kernel_rfl
theorem mixT:Try.prog.follows .mixedOrders=true:=by kernel_rfl
def E_1:Entry where
 params:= [.v y13]
 results:= [.v .bool]
 B:=Bool
 run:=λa=>GT a
 out:=λb=>()
 res:=λb=>b
def C_1:Cx:=cx0 tt [] [] 1
def D_1:Code:=Try.f5.body.getD .skip
def N_1 (_:XK E_1.params) (r:YH E_1.results):E_1.B:=r
def E_2:Entry where
 params:= [.bx (.v y4)]
 results:= [.v .int]
 B:=((List Int)×Int×Int)×Int
 run:=λa=>B9 a
 out:=λb=>b.1
 res:=λb=>b.2
def C_2:Cx:=cx0 tt [] [] 1
def D_2:Code:=Try.f120.body.getD .skip
def N_2 (o:XK E_2.params) (r:YH E_2.results):E_2.B:=(o,r)
def E_3:Entry where
 params:= [.bx (.v y4),.v .int]
 results:= [.v .int]
 B:=((List Int)×Int×Int)×Int
 run:=λa=>Ag a.1 a.2
 out:=λb=>(b.1,())
 res:=λb=>b.2
def C_3:Cx:=cx0 tt [(120,E_2)] [] 2
def D_3:Code:=Try.f79.body.getD .skip
def N_3 (o:XK E_3.params) (r:YH E_3.results):E_3.B:=(o.1,r)
def E_4:Entry where
 params:= [.bx (.v y4),.v .int]
 results:= [.v .bool]
 B:=((List Int)×Int×Int)×Bool
 run:=λa=>AB a.1 a.2
 out:=λb=>(b.1,())
 res:=λb=>b.2
def C_4:Cx:=cx0 tt [(79,E_3)] [] 2
def D_4:Code:=Try.f77.body.getD .skip
def N_4 (o:XK E_4.params) (r:YH E_4.results):E_4.B:=(o.1,r)
def E_5:Entry where
 params:= [.v .int]
 results:= [.v .int,.mv y7 0]
 B:=Int×(List (Int×(List (List Int))))
 run:=λa=>DH a
 out:=λb=>()
 res:=λb=>(b.1,b.2)
def C_5:Cx:=cx0 tt [] [] 1
def D_5:Code:=Try.f105.body.getD .skip
def N_5 (_:XK E_5.params) (r:YH E_5.results):E_5.B:=(r.1,r.2)
def E_6:Entry where
 params:= [.v y1]
 results:= [.mv .int 0]
 B:=(List Int)
 run:=λa=>BT a
 out:=λb=>()
 res:=λb=>b
def C_6:Cx:=cx0 tt [] [] 1
def D_6:Code:=Try.f78.body.getD .skip
def N_6 (_:XK E_6.params) (r:YH E_6.results):E_6.B:=r
def E_7:Entry where
 params:= [.bx (.v y4),.v y1]
 results:= [.v .int]
 B:=((List Int)×Int×Int)×Int
 run:=λa=>Ac a.1 a.2
 out:=λb=>(b.1,())
 res:=λb=>b.2
def C_7:Cx:=cx0 tt [(79,E_3)] [] 2
def D_7:Code:=Try.f106.body.getD .skip
def N_7 (o:XK E_7.params) (r:YH E_7.results):E_7.B:=(o.1,r)
def E_8:Entry where
 params:= [.v .int,.v .int,.v .int]
 results:= [.v .bool]
 B:=Bool
 run:=λa=>CU a.1 a.2.1 a.2.2
 out:=λb=>((),(),())
 res:=λb=>b
def C_8:Cx:=cx0 tt [] [] 3
def D_8:Code:=Try.f90.body.getD .skip
def N_8 (_:XK E_8.params) (r:YH E_8.results):E_8.B:=r
def E_9:Entry where
 params:= [.v .int]
 results:= [.v .bool]
 B:=Bool
 run:=λa=>E8 a
 out:=λb=>()
 res:=λb=>b
def C_9:Cx:=cx0 tt [(90,E_8)] [] 1
def D_9:Code:=Try.f132.body.getD .skip
def N_9 (_:XK E_9.params) (r:YH E_9.results):E_9.B:=r
def E_10:Entry where
 params:= [.v y1,.v y1]
 results:= [.v .bool]
 B:=Bool
 run:=λa=>E6 a.1 a.2
 out:=λb=>((),())
 res:=λb=>b
def S_10L2 (n:Nat):LoopSpec where
 sh:= [(0,.v y1),(1,.v y1),(5,.v .int)]
 ex:= [(.exit 0,[]),(.ret,[(4,.v .bool)])]
 run:=CQ n
def C_10:Cx:=cx0 tt [] [(2,S_10L2 Aa)] 2
def B_10L2:Code:=(Try.f140.body.bind (Yag 2)).getD .skip
def D_10:Code:=Try.f140.body.getD .skip
def N_10 (_:XK E_10.params) (r:YH E_10.results):E_10.B:=r
def E_11:Entry where
 params:= [.v y1,.v y1]
 results:= [.v .bool]
 B:=Bool
 run:=λa=>E3 a.1 a.2
 out:=λb=>((),())
 res:=λb=>b
def S_11L4 (n:Nat):LoopSpec where
 sh:= [(0,.v y1),(1,.v y1),(5,.v .int)]
 ex:= [(.exit 0,[]),(.ret,[(4,.v .bool)])]
 run:=CN n
def C_11:Cx:=cx0 tt [] [(4,S_11L4 Aa)] 2
def B_11L4:Code:=(Try.f149.body.bind (Yag 4)).getD .skip
def D_11:Code:=Try.f149.body.getD .skip
def N_11 (_:XK E_11.params) (r:YH E_11.results):E_11.B:=r
def E_12:Entry where
 params:= [.v y9,.v y1]
 results:= [.v .int,.v .bool]
 B:=Int×Bool
 run:=λa=>DN a.1 a.2
 out:=λb=>((),())
 res:=λb=>(b.1,b.2)
def S_12L2 (n:Nat):LoopSpec where
 sh:= [(0,.v y9),(1,.v y1),(6,.v .int),(7,.v .int)]
 ex:= [(.exit 0,[(0,.v y9),(1,.v y1),(6,.v .int)])]
 run:=Cn n
def C_12:Cx:=cx0 tt [(140,E_10),(149,E_11)] [(2,S_12L2 Aa)] 2
def B_12L2:Code:=(Try.f147.body.bind (Yag 2)).getD .skip
def D_12:Code:=Try.f147.body.getD .skip
def N_12 (_:XK E_12.params) (r:YH E_12.results):E_12.B:=(r.1,r.2)
def E_13:Entry where
 params:= [.v y9,.v y1]
 results:= [.v y9]
 B:=(List (List Int))
 run:=λa=>FD a.1 a.2
 out:=λb=>((),())
 res:=λb=>b
def C_13:Cx:=cx0 tt [(147,E_12)] [] 2
def D_13:Code:=Try.f133.body.getD .skip
def N_13 (_:XK E_13.params) (r:YH E_13.results):E_13.B:=r
def E_14:Entry where
 params:= [.bx (.v y4),.v .int]
 results:= [.mv .int 0]
 B:=((List Int)×Int×Int)×(List Int)
 run:=λa=>BR a.1 a.2
 out:=λb=>(b.1,())
 res:=λb=>b.2
def S_14L3 (n:Nat):LoopSpec where
 sh:= [(0,.bx (.v y4)),(1,.v .int),(5,.mv .int 0),(6,.v .int)]
 ex:= [(.exit 0,[(0,.bx (.v y4)),(5,.mv .int 0)])]
 run:=Aw n
def C_14:Cx:=cx0 tt [(79,E_3)] [(3,S_14L3 Aa)] 2
def B_14L3:Code:=(Try.f135.body.bind (Yag 3)).getD .skip
def D_14:Code:=Try.f135.body.getD .skip
def N_14 (o:XK E_14.params) (r:YH E_14.results):E_14.B:=(o.1,r)
def E_15:Entry where
 params:= [.v y1]
 results:= [.pr (.v .int) (.mv y1 0)]
 B:=(Int×(List (List Int)))
 run:=λa=>CZ a
 out:=λb=>()
 res:=λb=>b
def S_15L6 (n:Nat):LoopSpec where
 sh:= [(0,.v y1),(2,.bx (.pr (.v .int) (.mv y1 0))),(3,.bx (.pr (.v .int) (.mv y1 0))),(4,.v .int),(5,.v .int)]
 ex:= [(.exit 2,[(0,.v y1),(2,.bx (.pr (.v .int) (.mv y1 0))),(3,.bx (.pr (.v .int) (.mv y1 0))),(4,.v .int)])]
 run:=AI n
def S_15L3 (n:Nat):LoopSpec where
 sh:= [(0,.v y1),(2,.bx (.pr (.v .int) (.mv y1 0))),(3,.bx (.pr (.v .int) (.mv y1 0))),(4,.v .int)]
 ex:= [(.exit 0,[(2,.bx (.pr (.v .int) (.mv y1 0))),(3,.bx (.pr (.v .int) (.mv y1 0)))])]
 run:=AX n
def C_15:Cx:=cx0 tt [] [(6,S_15L6 Aa),(3,S_15L3 Aa)] 1
def B_15L6:Code:=(Try.f134.body.bind (Yag 6)).getD .skip
def B_15L3:Code:=(Try.f134.body.bind (Yag 3)).getD .skip
def D_15:Code:=Try.f134.body.getD .skip
def N_15 (_:XK E_15.params) (r:YH E_15.results):E_15.B:=r
def E_16:Entry where
 params:= [.v .int,.v .int]
 results:= [.v .int]
 B:=Int
 run:=λa=>EC a.1 a.2
 out:=λb=>((),())
 res:=λb=>b
def S_16L2 (n:Nat):LoopSpec where
 sh:= [(0,.v .int),(1,.v .int),(5,.v .int)]
 ex:= [(.exit 0,[(5,.v .int)])]
 run:=DJ n
def C_16:Cx:=cx0 tt [] [(2,S_16L2 Aa)] 2
def B_16L2:Code:=(Try.f66.body.bind (Yag 2)).getD .skip
def D_16:Code:=Try.f66.body.getD .skip
def N_16 (_:XK E_16.params) (r:YH E_16.results):E_16.B:=r
def E_17:Entry where
 params:= [.v .int,.v .int,.v .int]
 results:= [.mv .int 0]
 B:=(List Int)
 run:=λa=>E5 a.1 a.2.1 a.2.2
 out:=λb=>((),(),())
 res:=λb=>b
def S_17L3 (n:Nat):LoopSpec where
 sh:= [(0,.v .int),(2,.v .int),(7,.mv .int 0),(8,.v .int)]
 ex:= [(.exit 0,[(7,.mv .int 0)])]
 run:=CP n
def C_17:Cx:=cx0 tt [] [(3,S_17L3 Aa)] 3
def B_17L3:Code:=(Try.f138.body.bind (Yag 3)).getD .skip
def D_17:Code:=Try.f138.body.getD .skip
def N_17 (_:XK E_17.params) (r:YH E_17.results):E_17.B:=r
def E_18:Entry where
 params:= [.v .int,.v .int]
 results:= [.pr (.v .int) (.mv y1 0)]
 B:=(Int×(List (List Int)))
 run:=λa=>CS a.1 a.2
 out:=λb=>((),())
 res:=λb=>b
def S_18L3 (n:Nat):LoopSpec where
 sh:= [(0,.v .int),(1,.v .int),(4,.bx (.pr (.v .int) (.mv y1 0))),(5,.bx (.pr (.v .int) (.mv y1 0))),(6,.v .int)]
 ex:= [(.exit 0,[(4,.bx (.pr (.v .int) (.mv y1 0))),(5,.bx (.pr (.v .int) (.mv y1 0)))])]
 run:=B4 n
def C_18:Cx:=cx0 tt [(66,E_16),(138,E_17)] [(3,S_18L3 Aa)] 2
def B_18L3:Code:=(Try.f136.body.bind (Yag 3)).getD .skip
def D_18:Code:=Try.f136.body.getD .skip
def N_18 (_:XK E_18.params) (r:YH E_18.results):E_18.B:=r
def E_19:Entry where
 params:= [.mv y1 0,.v y1]
 results:= [.mv y1 0]
 B:=(List (List Int))
 run:=λa=>FQ a.1 a.2
 out:=λb=>((),())
 res:=λb=>b
def C_19:Cx where
 tt:=YaU tt
 T:=Ygp [(147,E_12)]
 L:=Ygo []
 dep:=λi=>0
 n:=2
 pre:=λi=>match i with
  |4=> [0]
  |_=> []
def D_19:Code:=Try.f133.body.getD .skip
def N_19 (_:XK E_19.params) (r:YH E_19.results):E_19.B:=r
def E_20:Entry where
 params:= [.bx (.v y4),.v .int,.v .int]
 results:= [.v y7]
 B:=((List Int)×Int×Int)×(Int×(List (List Int)))
 run:=λa=>Bq a.1 a.2.1 a.2.2
 out:=λb=>(b.1,(),())
 res:=λb=>b.2
def S_20L9 (n:Nat):LoopSpec where
 sh:= [(0,.bx (.v y4)),(1,.v .int),(2,.v .int),(6,.bx (.pr (.v .int) (.mv y1 0))),(7,.bx (.pr (.v .int) (.mv y1 0))),(8,.v .int),(9,.mv .int 0),(10,.v .int)]
 ex:= [(.exit 2,[(0,.bx (.v y4)),(1,.v .int),(2,.v .int),(6,.bx (.pr (.v .int) (.mv y1 0))),(7,.bx (.pr (.v .int) (.mv y1 0))),(8,.v .int),(9,.mv .int 0)])]
 run:=A7 n
def S_20L5 (n:Nat):LoopSpec where
 sh:= [(0,.bx (.v y4)),(1,.v .int),(2,.v .int),(6,.bx (.pr (.v .int) (.mv y1 0))),(7,.bx (.pr (.v .int) (.mv y1 0))),(8,.v .int)]
 ex:= [(.exit 0,[(0,.bx (.v y4)),(1,.v .int),(2,.v .int),(6,.bx (.pr (.v .int) (.mv y1 0))),(7,.bx (.pr (.v .int) (.mv y1 0)))])]
 run:=AZ n
def C_20:Cx:=cx0 tt [(77,E_4),(79,E_3),(90,E_8),(106,E_7),(132,E_9),(133,E_19),(134,E_15),(135,E_14),(136,E_18)] [(9,S_20L9 Aa),(5,S_20L5 Aa)] 3
def B_20L9:Code:=(Try.f107.body.bind (Yag 9)).getD .skip
def B_20L5:Code:=(Try.f107.body.bind (Yag 5)).getD .skip
def D_20:Code:=Try.f107.body.getD .skip
def N_20 (o:XK E_20.params) (r:YH E_20.results):E_20.B:=(o.1,r)
def E_21:Entry where
 params:= [.bx (.v y4)]
 results:= [.v .int,.mv y7 0]
 B:=((List Int)×Int×Int)×Int×(List (Int×(List (List Int))))
 run:=λa=>Cg a
 out:=λb=>b.1
 res:=λb=>(b.2.1,b.2.2)
def S_21L9 (n:Nat):LoopSpec where
 sh:= [(0,.bx (.v y4)),(4,.v .int),(5,.mv y7 0),(6,.mv y7 0),(7,.v .int),(8,.bx (.pr (.v .int) (.mv y1 0))),(9,.v .int)]
 ex:= [(.exit 2,[(0,.bx (.v y4)),(4,.v .int),(5,.mv y7 0),(6,.mv y7 0),(7,.v .int),(8,.bx (.pr (.v .int) (.mv y1 0)))])]
 run:=AK n
def S_21L5 (n:Nat):LoopSpec where
 sh:= [(0,.bx (.v y4)),(4,.v .int),(5,.mv y7 0),(6,.mv y7 0),(7,.v .int)]
 ex:= [(.exit 0,[(0,.bx (.v y4)),(4,.v .int),(6,.mv y7 0)])]
 run:=AJ n
def S_21L17 (n:Nat):LoopSpec where
 sh:= [(0,.bx (.v y4)),(10,.v .int),(11,.mv y7 0),(12,.v .int)]
 ex:= [(.exit 4,[(0,.bx (.v y4)),(10,.v .int),(11,.mv y7 0)])]
 run:=AR n
def C_21:Cx:=cx0 tt [(77,E_4),(78,E_6),(79,E_3),(105,E_5),(106,E_7),(107,E_20)] [(9,S_21L9 Aa),(5,S_21L5 Aa),(17,S_21L17 Aa)] 1
def B_21L9:Code:=(Try.f57.body.bind (Yag 9)).getD .skip
def B_21L5:Code:=(Try.f57.body.bind (Yag 5)).getD .skip
def B_21L17:Code:=(Try.f57.body.bind (Yag 17)).getD .skip
def D_21:Code:=Try.f57.body.getD .skip
def N_21 (o:XK E_21.params) (r:YH E_21.results):E_21.B:=(o,r.1,r.2)
def E_22:Entry where
 params:= [.v .int,.v .int]
 results:= [.v .int]
 B:=Int
 run:=λa=>Cp a.1 a.2
 out:=λb=>((),())
 res:=λb=>b
def C_22:Cx:=cx0 tt [] [] 2
def D_22:Code:=Try.f122.body.getD .skip
def N_22 (_:XK E_22.params) (r:YH E_22.results):E_22.B:=r
def E_23:Entry where
 params:= [.bx (.v y4)]
 results:= [.v y2]
 B:=((List Int)×Int×Int)×(Int×Int×(List ((List Int)×Int×(List (List Int)))))
 run:=λa=>Di a
 out:=λb=>b.1
 res:=λb=>b.2
def S_23L11 (n:Nat):LoopSpec where
 sh:= [(0,.bx (.v y4)),(2,.bx (.pr (.v .int) (.pr (.v .int) (.mv y0 2001)))),(3,.v .int),(4,.mv y7 0),(5,.bx (.pr (.v .int) (.pr (.v .int) (.mv y0 2001)))),(6,.v .int),(7,.bx (.v y7)),(8,.bx (.pr (.mv .int 0) (.v y7))),(9,.v .int)]
 ex:= [(.exit 2,[(0,.bx (.v y4)),(2,.bx (.pr (.v .int) (.pr (.v .int) (.mv y0 2001)))),(3,.v .int),(4,.mv y7 0),(5,.bx (.pr (.v .int) (.pr (.v .int) (.mv y0 2001)))),(6,.v .int),(8,.bx (.pr (.mv .int 0) (.v y7)))])]
 run:=Aq n
def S_23L4 (n:Nat):LoopSpec where
 sh:= [(0,.bx (.v y4)),(2,.bx (.pr (.v .int) (.pr (.v .int) (.mv y0 2001)))),(3,.v .int),(4,.mv y7 0),(5,.bx (.pr (.v .int) (.pr (.v .int) (.mv y0 2001)))),(6,.v .int)]
 ex:= [(.exit 0,[(0,.bx (.v y4)),(2,.bx (.pr (.v .int) (.pr (.v .int) (.mv y0 2001)))),(5,.bx (.pr (.v .int) (.pr (.v .int) (.mv y0 2001))))])]
 run:=As n
def S_23L23 (n:Nat):LoopSpec where
 sh:= [(0,.bx (.v y4)),(2,.bx (.pr (.v .int) (.pr (.v .int) (.mv y0 2001)))),(5,.bx (.pr (.v .int) (.pr (.v .int) (.mv y0 0)))),(10,.v .int)]
 ex:= [(.exit 5,[(0,.bx (.v y4)),(2,.bx (.pr (.v .int) (.pr (.v .int) (.mv y0 2001)))),(5,.bx (.pr (.v .int) (.pr (.v .int) (.mv y0 0))))])]
 run:=AY n
def C_23:Cx where
 tt:=YaU tt
 T:=Ygp [(57,E_21),(77,E_4),(79,E_3),(106,E_7),(107,E_20),(122,E_22)]
 L:=Ygo [(11,S_23L11 Aa),(4,S_23L4 Aa),(23,S_23L23 Aa)]
 dep:=λi=>match i with
  |76=>2001
  |77=>2001
  |_=>0
 n:=1
 fine:=true
def B_23L11:Code:=(Try.f86.body.bind (Yag 11)).getD .skip
def B_23L4:Code:=(Try.f86.body.bind (Yag 4)).getD .skip
def B_23L23:Code:=(Try.f86.body.bind (Yag 23)).getD .skip
def D_23:Code:=Try.f86.body.getD .skip
def N_23 (o:XK E_23.params) (r:YH E_23.results):E_23.B:=(o,r)
def E_24:Entry where
 params:= [.v y13]
 results:= [.v y2]
 B:=(Int×Int×(List ((List Int)×Int×(List (List Int)))))
 run:=λa=>D5 a
 out:=λb=>()
 res:=λb=>b
def C_24:Cx:=cx0 tt [(86,E_23)] [] 1
def D_24:Code:=Try.f35.body.getD .skip
def N_24 (_:XK E_24.params) (r:YH E_24.results):E_24.B:=r
def E_25:Entry where
 params:= [.v y13]
 results:= [.v y2]
 B:=(Int×Int×(List ((List Int)×Int×(List (List Int)))))
 run:=λa=>CY a
 out:=λb=>()
 res:=λb=>b
def C_25:Cx:=cx0 tt [(35,E_24)] [] 1
def D_25:Code:=Try.f6.body.getD .skip
def N_25 (_:XK E_25.params) (r:YH E_25.results):E_25.B:=r
def E_26:Entry where
 params:= [.v .int]
 results:= [.v .bool]
 B:=Bool
 run:=λa=>DU a
 out:=λb=>()
 res:=λb=>b
def C_26:Cx:=cx0 tt [] [] 1
def D_26:Code:=Try.f87.body.getD .skip
def N_26 (_:XK E_26.params) (r:YH E_26.results):E_26.B:=r
def E_27:Entry where
 params:= [.v y1,.v .int]
 results:= [.v .bool]
 B:=Bool
 run:=λa=>Eb a.1 a.2
 out:=λb=>((),())
 res:=λb=>b
def S_27L2 (n:Nat):LoopSpec where
 sh:= [(1,.v .int),(7,.v y1),(8,.v .int),(9,.v .int)]
 ex:= [(.exit 0,[]),(.ret,[(4,.v .bool)])]
 run:=CJ n
def C_27:Cx:=cx0 tt [] [(2,S_27L2 Aa)] 2
def B_27L2:Code:=(Try.f117.body.bind (Yag 2)).getD .skip
def D_27:Code:=Try.f117.body.getD .skip
def N_27 (_:XK E_27.params) (r:YH E_27.results):E_27.B:=r
def E_28:Entry where
 params:= [.v y1,.v y1]
 results:= [.v .int]
 B:=Int
 run:=λa=>Ea a.1 a.2
 out:=λb=>((),())
 res:=λb=>b
def S_28L2 (n:Nat):LoopSpec where
 sh:= [(0,.v y1),(1,.v y1),(5,.v .int)]
 ex:= [(.exit 0,[(0,.v y1),(1,.v y1)]),(.ret,[(4,.v .int)])]
 run:=Bf n
def C_28:Cx:=cx0 tt [] [(2,S_28L2 Aa)] 2
def B_28L2:Code:=(Try.f145.body.bind (Yag 2)).getD .skip
def D_28:Code:=Try.f145.body.getD .skip
def N_28 (_:XK E_28.params) (r:YH E_28.results):E_28.B:=r
def E_29:Entry where
 params:= [.v .int,.v y7]
 results:= [.v .bool]
 B:=Bool
 run:=λa=>DQ a.1 a.2
 out:=λb=>((),())
 res:=λb=>b
def S_29L4 (n:Nat):LoopSpec where
 sh:= [(0,.v .int),(3,.bx (.v y7)),(16,.v y9),(17,.v .int),(18,.v .int)]
 ex:= [(.exit 0,[]),(.ret,[(4,.v .bool)])]
 run:=By n
def C_29:Cx:=cx0 tt [(117,E_27),(145,E_28)] [(4,S_29L4 Aa)] 2
def B_29L4:Code:=(Try.f126.body.bind (Yag 4)).getD .skip
def D_29:Code:=Try.f126.body.getD .skip
def N_29 (_:XK E_29.params) (r:YH E_29.results):E_29.B:=r
def E_30:Entry where
 params:= [.v .int,.v .int,.v y0]
 results:= [.v .bool]
 B:=Bool
 run:=λa=>Dp a.1 a.2.1 a.2.2
 out:=λb=>((),(),())
 res:=λb=>b
def C_30:Cx:=cx0 tt [(117,E_27),(126,E_29)] [] 3
def D_30:Code:=Try.f88.body.getD .skip
def N_30 (_:XK E_30.params) (r:YH E_30.results):E_30.B:=r
def E_31:Entry where
 params:= [.v y2]
 results:= [.v .bool]
 B:=Bool
 run:=λa=>Bk a
 out:=λb=>()
 res:=λb=>b
def S_31L4 (n:Nat):LoopSpec where
 sh:= [(1,.bx (.v y2)),(26,.v y10),(27,.v .int),(28,.v .int)]
 ex:= [(.exit 0,[]),(.ret,[(2,.v .bool)])]
 run:=Cd n
def C_31:Cx:=cx0 tt [(87,E_26),(88,E_30)] [(4,S_31L4 Aa)] 1
def B_31L4:Code:=(Try.f36.body.bind (Yag 4)).getD .skip
def D_31:Code:=Try.f36.body.getD .skip
def N_31 (_:XK E_31.params) (r:YH E_31.results):E_31.B:=r
def E_32:Entry where
 params:= [.v y2]
 results:= [.mv y6 1]
 B:=(List (List Bool))
 run:=λa=>Bp a
 out:=λb=>()
 res:=λb=>b
def S_32L7 (n:Nat):LoopSpec where
 sh:= [(1,.bx (.v y2)),(3,.mv y6 1),(4,.v .int),(10,.v .int),(11,.v .int),(24,.v .int),(25,.v .int)]
 ex:= [(.exit 2,[(1,.bx (.v y2)),(3,.mv y6 1),(10,.v .int),(11,.v .int)])]
 run:=Bi n
def S_32L3 (n:Nat):LoopSpec where
 sh:= [(1,.bx (.v y2)),(3,.mv y6 1),(10,.v .int),(11,.v .int)]
 ex:= [(.exit 0,[(3,.mv y6 1)])]
 run:=BE n
def C_32:Cx where
 tt:=YaU tt
 T:=Ygp []
 L:=Ygo [(7,S_32L7 Aa),(3,S_32L3 Aa)]
 dep:=λi=>match i with
  |8=>1
  |_=>0
 n:=1
def B_32L7:Code:=(Try.f43.body.bind (Yag 7)).getD .skip
def B_32L3:Code:=(Try.f43.body.bind (Yag 3)).getD .skip
def D_32:Code:=Try.f43.body.getD .skip
def N_32 (_:XK E_32.params) (r:YH E_32.results):E_32.B:=r
def E_33:Entry where
 params:= [.v y1,.v y1]
 results:= [.v .bool]
 B:=Bool
 run:=λa=>ET a.1 a.2
 out:=λb=>((),())
 res:=λb=>b
def S_33L5 (n:Nat):LoopSpec where
 sh:= [(0,.v y1),(1,.v y1),(5,.v .int),(6,.v .int),(9,.v y1),(10,.v .int),(11,.v .int),(18,.v y1),(19,.v .int),(20,.v .int)]
 ex:= [(.exit 2,[(0,.v y1),(1,.v y1),(9,.v y1),(10,.v .int),(11,.v .int)]),(.ret,[(4,.v .bool)])]
 run:=Ch n
def S_33L2 (n:Nat):LoopSpec where
 sh:= [(0,.v y1),(1,.v y1),(9,.v y1),(10,.v .int),(11,.v .int)]
 ex:= [(.exit 0,[]),(.ret,[(4,.v .bool)])]
 run:=CI n
def C_33:Cx:=cx0 tt [] [(5,S_33L5 Aa),(2,S_33L2 Aa)] 2
def B_33L5:Code:=(Try.f95.body.bind (Yag 5)).getD .skip
def B_33L2:Code:=(Try.f95.body.bind (Yag 2)).getD .skip
def D_33:Code:=Try.f95.body.getD .skip
def N_33 (_:XK E_33.params) (r:YH E_33.results):E_33.B:=r
def E_34:Entry where
 params:= [.v y11,.v y0,.v .int,.v .int]
 results:= [.v .bool]
 B:=Bool
 run:=λa=>BY a.1 a.2.1 a.2.2.1 a.2.2.2
 out:=λb=>((),(),(),())
 res:=λb=>b
def S_34L7 (n:Nat):LoopSpec where
 sh:= [(0,.v y11),(2,.v .int),(3,.v .int),(5,.bx (.v y0)),(11,.v .bool),(16,.v y9),(17,.v .int),(18,.v .int),(35,.v y1),(36,.v .int),(37,.v .int)]
 ex:= [(.exit 2,[(0,.v y11),(2,.v .int),(3,.v .int),(5,.bx (.v y0)),(11,.v .bool),(16,.v y9),(17,.v .int),(18,.v .int)])]
 run:=Ay n
def S_34L2 (n:Nat):LoopSpec where
 sh:= [(0,.v y11),(2,.v .int),(3,.v .int),(5,.bx (.v y0)),(16,.v y9),(17,.v .int),(18,.v .int)]
 ex:= [(.exit 0,[]),(.ret,[(8,.v .bool)])]
 run:=Ax n
def C_34:Cx:=cx0 tt [(95,E_33)] [(7,S_34L7 Aa),(2,S_34L2 Aa)] 4
def B_34L7:Code:=(Try.f45.body.bind (Yag 7)).getD .skip
def B_34L2:Code:=(Try.f45.body.bind (Yag 2)).getD .skip
def D_34:Code:=Try.f45.body.getD .skip
def N_34 (_:XK E_34.params) (r:YH E_34.results):E_34.B:=r
def E_35:Entry where
 params:= [.io y6 1,.v y2]
 results:= [.mv y5 0]
 B:=(List (List Bool))×(List (Int×Int×Int))
 run:=λa=>BQ a.1 a.2
 out:=λb=>(b.1,())
 res:=λb=>b.2
def S_35L12 (n:Nat):LoopSpec where
 sh:= [(0,.io y6 1),(3,.bx (.v y2)),(5,.mv y5 0),(6,.v .bool),(7,.v .int),(8,.bx (.v y0)),(9,.v .int),(10,.v .int),(15,.v y10),(16,.v .int),(17,.v .int),(23,.v y1),(24,.v .int),(25,.v .int),(34,.v .int),(35,.v .int)]
 ex:= [(.exit 6,[(0,.io y6 1),(3,.bx (.v y2)),(5,.mv y5 0),(6,.v .bool),(7,.v .int),(8,.bx (.v y0)),(15,.v y10),(16,.v .int),(17,.v .int),(23,.v y1),(24,.v .int),(25,.v .int)])]
 run:=Au n
def S_35L9 (n:Nat):LoopSpec where
 sh:= [(0,.io y6 1),(3,.bx (.v y2)),(5,.mv y5 0),(6,.v .bool),(7,.v .int),(8,.bx (.v y0)),(15,.v y10),(16,.v .int),(17,.v .int),(23,.v y1),(24,.v .int),(25,.v .int)]
 ex:= [(.exit 4,[(0,.io y6 1),(3,.bx (.v y2)),(5,.mv y5 0),(6,.v .bool),(15,.v y10),(16,.v .int),(17,.v .int)])]
 run:=AW n
def S_35L6 (n:Nat):LoopSpec where
 sh:= [(0,.io y6 1),(3,.bx (.v y2)),(5,.mv y5 0),(6,.v .bool),(15,.v y10),(16,.v .int),(17,.v .int)]
 ex:= [(.exit 2,[(0,.io y6 1),(3,.bx (.v y2)),(5,.mv y5 0),(6,.v .bool)])]
 run:=AU n
def S_35L3 (n:Nat):LoopSpec where
 sh:= [(0,.io y6 1),(3,.bx (.v y2)),(5,.mv y5 0),(6,.v .bool)]
 ex:= [(.exit 0,[(0,.io y6 1),(5,.mv y5 0)])]
 run:=Bn n
def C_35:Cx:=cx0 tt [(45,E_34)] [(12,S_35L12 Aa),(9,S_35L9 Aa),(6,S_35L6 Aa),(3,S_35L3 Aa)] 2
def B_35L12:Code:=(Try.f44.body.bind (Yag 12)).getD .skip
def B_35L9:Code:=(Try.f44.body.bind (Yag 9)).getD .skip
def B_35L6:Code:=(Try.f44.body.bind (Yag 6)).getD .skip
def B_35L3:Code:=(Try.f44.body.bind (Yag 3)).getD .skip
def D_35:Code:=Try.f44.body.getD .skip
def N_35 (o:XK E_35.params) (r:YH E_35.results):E_35.B:=(o.1,r)
def E_36:Entry where
 params:= [.v y2]
 results:= [.mv y6 1]
 B:=(List (List Bool))
 run:=λa=>B3 a
 out:=λb=>()
 res:=λb=>b
def C_36:Cx:=cx0 tt [(43,E_32),(44,E_35)] [] 1
def D_36:Code:=Try.f37.body.getD .skip
def N_36 (_:XK E_36.params) (r:YH E_36.results):E_36.B:=r
def E_37:Entry where
 params:= [.v y6]
 results:= [.mv .int 0]
 B:=(List Int)
 run:=λa=>DK a
 out:=λb=>()
 res:=λb=>b
def S_37L3 (n:Nat):LoopSpec where
 sh:= [(3,.mv .int 0),(7,.v y6),(8,.v .int),(9,.v .int)]
 ex:= [(.exit 0,[(3,.mv .int 0)])]
 run:=Ci n
def C_37:Cx:=cx0 tt [] [(3,S_37L3 Aa)] 1
def B_37L3:Code:=(Try.f89.body.bind (Yag 3)).getD .skip
def D_37:Code:=Try.f89.body.getD .skip
def N_37 (_:XK E_37.params) (r:YH E_37.results):E_37.B:=r
def E_38:Entry where
 params:= [.v y11]
 results:= [.mv y1 1]
 B:=(List (List Int))
 run:=λa=>Cr a
 out:=λb=>()
 res:=λb=>b
def S_38L3 (n:Nat):LoopSpec where
 sh:= [(3,.mv y1 1),(7,.v y11),(8,.v .int),(9,.v .int)]
 ex:= [(.exit 0,[(3,.mv y1 1)])]
 run:=Bv n
def C_38:Cx where
 tt:=YaU tt
 T:=Ygp [(89,E_37)]
 L:=Ygo [(3,S_38L3 Aa)]
 dep:=λi=>match i with
  |6=>1
  |16=>1
  |17=>1
  |_=>0
 n:=1
def B_38L3:Code:=(Try.f38.body.bind (Yag 3)).getD .skip
def D_38:Code:=Try.f38.body.getD .skip
def N_38 (_:XK E_38.params) (r:YH E_38.results):E_38.B:=r
def E_39:Entry where
 params:= [.v y2]
 results:= [.mv y1 1,.v .bool]
 B:=(List (List Int))×Bool
 run:=λa=>C3 a
 out:=λb=>()
 res:=λb=>(b.1,b.2)
def C_39:Cx where
 tt:=YaU tt
 T:=Ygp [(36,E_31),(37,E_36),(38,E_38)]
 L:=Ygo []
 dep:=λi=>match i with
  |7=>1
  |_=>0
 n:=1
def D_39:Code:=Try.f7.body.getD .skip
def N_39 (_:XK E_39.params) (r:YH E_39.results):E_39.B:=(r.1,r.2)
def E_40:Entry where
 params:= [.v .int,.v y1]
 results:= [.v .bool]
 B:=Bool
 run:=λa=>C8 a.1 a.2
 out:=λb=>((),())
 res:=λb=>b
def S_40L2 (n:Nat):LoopSpec where
 sh:= [(0,.v .int),(1,.v y1),(5,.v .int)]
 ex:= [(.exit 0,[]),(.ret,[(4,.v .bool)])]
 run:=BU n
def C_40:Cx:=cx0 tt [(90,E_8)] [(2,S_40L2 Aa)] 2
def B_40L2:Code:=(Try.f127.body.bind (Yag 2)).getD .skip
def D_40:Code:=Try.f127.body.getD .skip
def N_40 (_:XK E_40.params) (r:YH E_40.results):E_40.B:=r
def E_41:Entry where
 params:= [.v .int,.v .int,.v y1]
 results:= [.v .bool]
 B:=Bool
 run:=λa=>ED a.1 a.2.1 a.2.2
 out:=λb=>((),(),())
 res:=λb=>b
def C_41:Cx:=cx0 tt [(127,E_40)] [] 3
def D_41:Code:=Try.f139.body.getD .skip
def N_41 (_:XK E_41.params) (r:YH E_41.results):E_41.B:=r
def E_42:Entry where
 params:= [.v .int,.v y7]
 results:= [.v .bool]
 B:=Bool
 run:=λa=>Ex a.1 a.2
 out:=λb=>((),())
 res:=λb=>b
def S_42L4 (n:Nat):LoopSpec where
 sh:= [(0,.v .int),(3,.bx (.v y7)),(5,.v .int)]
 ex:= [(.exit 0,[]),(.ret,[(4,.v .bool)])]
 run:=B5 n
def C_42:Cx:=cx0 tt [(66,E_16),(90,E_8),(139,E_41),(140,E_10)] [(4,S_42L4 Aa)] 2
def B_42L4:Code:=(Try.f124.body.bind (Yag 4)).getD .skip
def D_42:Code:=Try.f124.body.getD .skip
def N_42 (_:XK E_42.params) (r:YH E_42.results):E_42.B:=r
def E_43:Entry where
 params:= [.v .int,.v .int,.v y0]
 results:= [.v .bool]
 B:=Bool
 run:=λa=>Fz a.1 a.2.1 a.2.2
 out:=λb=>((),(),())
 res:=λb=>b
def C_43:Cx:=cx0 tt [(124,E_42),(127,E_40)] [] 3
def D_43:Code:=Try.f91.body.getD .skip
def N_43 (_:XK E_43.params) (r:YH E_43.results):E_43.B:=r
def E_44:Entry where
 params:= [.v y2]
 results:= [.v .bool]
 B:=Bool
 run:=λa=>Ct a
 out:=λb=>()
 res:=λb=>b
def S_44L4 (n:Nat):LoopSpec where
 sh:= [(1,.bx (.v y2)),(3,.v .int)]
 ex:= [(.exit 0,[]),(.ret,[(2,.v .bool)])]
 run:=Cz n
def C_44:Cx:=cx0 tt [(90,E_8),(91,E_43)] [(4,S_44L4 Aa)] 1
def B_44L4:Code:=(Try.f39.body.bind (Yag 4)).getD .skip
def D_44:Code:=Try.f39.body.getD .skip
def N_44 (_:XK E_44.params) (r:YH E_44.results):E_44.B:=r
def E_45:Entry where
 params:= [.v .int]
 results:= [.mv .int 0]
 B:=(List Int)
 run:=λa=>C9 a
 out:=λb=>()
 res:=λb=>b
def S_45L3 (n:Nat):LoopSpec where
 sh:= [(0,.v .int),(3,.mv .int 0),(4,.v .int)]
 ex:= [(.exit 0,[(3,.mv .int 0)])]
 run:=BV n
def C_45:Cx:=cx0 tt [] [(3,S_45L3 Aa)] 1
def B_45L3:Code:=(Try.f94.body.bind (Yag 3)).getD .skip
def D_45:Code:=Try.f94.body.getD .skip
def N_45 (_:XK E_45.params) (r:YH E_45.results):E_45.B:=r
def E_46:Entry where
 params:= [.v y2]
 results:= [.mv y1 0]
 B:=(List (List Int))
 run:=λa=>CV a
 out:=λb=>()
 res:=λb=>b
def S_46L3 (n:Nat):LoopSpec where
 sh:= [(1,.bx (.v y2)),(3,.mv y1 0),(4,.v .int)]
 ex:= [(.exit 0,[(3,.mv y1 0)])]
 run:=CC n
def C_46:Cx:=cx0 tt [(94,E_45)] [(3,S_46L3 Aa)] 1
def B_46L3:Code:=(Try.f41.body.bind (Yag 3)).getD .skip
def D_46:Code:=Try.f41.body.getD .skip
def N_46 (_:XK E_46.params) (r:YH E_46.results):E_46.B:=r
def E_47:Entry where
 params:= [.v y1,.v .int]
 results:= [.v .bool]
 B:=Bool
 run:=λa=>EA a.1 a.2
 out:=λb=>((),())
 res:=λb=>b
def S_47L2 (n:Nat):LoopSpec where
 sh:= [(0,.v y1),(1,.v .int),(5,.v .int)]
 ex:= [(.exit 0,[]),(.ret,[(4,.v .bool)])]
 run:=C1 n
def C_47:Cx:=cx0 tt [] [(2,S_47L2 Aa)] 2
def B_47L2:Code:=(Try.f146.body.bind (Yag 2)).getD .skip
def D_47:Code:=Try.f146.body.getD .skip
def N_47 (_:XK E_47.params) (r:YH E_47.results):E_47.B:=r
def E_48:Entry where
 params:= [.v y0,.v y1,.v y9]
 results:= [.v .bool]
 B:=Bool
 run:=λa=>EB a.1 a.2.1 a.2.2
 out:=λb=>((),(),())
 res:=λb=>b
def S_48L7 (n:Nat):LoopSpec where
 sh:= [(1,.v y1),(2,.v y9),(3,.bx (.v y0)),(7,.v .int),(8,.v .int)]
 ex:= [(.exit 2,[(1,.v y1),(2,.v y9),(3,.bx (.v y0)),(7,.v .int)]),(.ret,[(6,.v .bool)])]
 run:=BN n
def S_48L2 (n:Nat):LoopSpec where
 sh:= [(1,.v y1),(2,.v y9),(3,.bx (.v y0)),(7,.v .int)]
 ex:= [(.exit 0,[]),(.ret,[(6,.v .bool)])]
 run:=CB n
def C_48:Cx:=cx0 tt [(146,E_47)] [(7,S_48L7 Aa),(2,S_48L2 Aa)] 3
def B_48L7:Code:=(Try.f128.body.bind (Yag 7)).getD .skip
def B_48L2:Code:=(Try.f128.body.bind (Yag 2)).getD .skip
def D_48:Code:=Try.f128.body.getD .skip
def N_48 (_:XK E_48.params) (r:YH E_48.results):E_48.B:=r
def E_49:Entry where
 params:= [.v y0,.v .int,.v .int,.v y9]
 results:= [.v .bool]
 B:=Bool
 run:=λa=>DT a.1 a.2.1 a.2.2.1 a.2.2.2
 out:=λb=>((),(),(),())
 res:=λb=>b
def S_49L2 (n:Nat):LoopSpec where
 sh:= [(1,.v .int),(2,.v .int),(3,.v y9),(4,.bx (.v y0)),(9,.v .int)]
 ex:= [(.exit 0,[]),(.ret,[(8,.v .bool)])]
 run:=BA n
def C_49:Cx:=cx0 tt [(128,E_48)] [(2,S_49L2 Aa)] 4
def B_49L2:Code:=(Try.f92.body.bind (Yag 2)).getD .skip
def D_49:Code:=Try.f92.body.getD .skip
def N_49 (_:XK E_49.params) (r:YH E_49.results):E_49.B:=r
def E_50:Entry where
 params:= [.v y1,.v .int]
 results:= [.mv .int 0]
 B:=(List Int)
 run:=λa=>C7 a.1 a.2
 out:=λb=>((),())
 res:=λb=>b
def S_50L3 (n:Nat):LoopSpec where
 sh:= [(0,.v y1),(1,.v .int),(5,.mv .int 0),(6,.v .int)]
 ex:= [(.exit 0,[(5,.mv .int 0)])]
 run:=BB n
def C_50:Cx:=cx0 tt [] [(3,S_50L3 Aa)] 2
def B_50L3:Code:=(Try.f93.body.bind (Yag 3)).getD .skip
def D_50:Code:=Try.f93.body.getD .skip
def N_50 (_:XK E_50.params) (r:YH E_50.results):E_50.B:=r
def E_51:Entry where
 params:= [.v y2,.v y9]
 results:= [.mv y1 0,.mv y5 0]
 B:=(List (List Int))×(List (Int×Int×Int))
 run:=λa=>Dl a.1 a.2
 out:=λb=>((),())
 res:=λb=>(b.1,b.2)
def S_51L15 (n:Nat):LoopSpec where
 sh:= [(2,.bx (.v y2)),(6,.mv y5 0),(7,.mv y1 0),(8,.v .int),(9,.v .int),(10,.bx (.v y0)),(11,.v .int),(12,.v y1),(13,.v .int)]
 ex:= [(.exit 6,[(2,.bx (.v y2)),(6,.mv y5 0),(7,.mv y1 0),(8,.v .int),(9,.v .int),(10,.bx (.v y0)),(11,.v .int)])]
 run:=BM n
def S_51L11 (n:Nat):LoopSpec where
 sh:= [(2,.bx (.v y2)),(6,.mv y5 0),(7,.mv y1 0),(8,.v .int),(9,.v .int),(10,.bx (.v y0)),(11,.v .int)]
 ex:= [(.exit 4,[(2,.bx (.v y2)),(6,.mv y5 0),(7,.mv y1 0),(8,.v .int),(9,.v .int)])]
 run:=Ca n
def S_51L7 (n:Nat):LoopSpec where
 sh:= [(2,.bx (.v y2)),(6,.mv y5 0),(7,.mv y1 0),(8,.v .int),(9,.v .int)]
 ex:= [(.exit 2,[(2,.bx (.v y2)),(6,.mv y5 0),(7,.mv y1 0),(8,.v .int)])]
 run:=Cl n
def S_51L4 (n:Nat):LoopSpec where
 sh:= [(2,.bx (.v y2)),(6,.mv y5 0),(7,.mv y1 0),(8,.v .int)]
 ex:= [(.exit 0,[(6,.mv y5 0),(7,.mv y1 0)]),(.ret,[(4,.mv y1 0),(5,.mv y5 0)])]
 run:=Dt n
def C_51:Cx:=cx0 tt [(92,E_49),(93,E_50)] [(15,S_51L15 Aa),(11,S_51L11 Aa),(7,S_51L7 Aa),(4,S_51L4 Aa)] 2
def B_51L15:Code:=(Try.f40.body.bind (Yag 15)).getD .skip
def B_51L11:Code:=(Try.f40.body.bind (Yag 11)).getD .skip
def B_51L7:Code:=(Try.f40.body.bind (Yag 7)).getD .skip
def B_51L4:Code:=(Try.f40.body.bind (Yag 4)).getD .skip
def D_51:Code:=Try.f40.body.getD .skip
def N_51 (_:XK E_51.params) (r:YH E_51.results):E_51.B:=(r.1,r.2)
def E_52:Entry where
 params:= [.v y9]
 results:= [.mv y1 0]
 B:=(List (List Int))
 run:=λa=>Ed a
 out:=λb=>()
 res:=λb=>b
def S_52L3 (n:Nat):LoopSpec where
 sh:= [(0,.v y9),(3,.mv y1 0),(4,.v .int)]
 ex:= [(.exit 0,[(3,.mv y1 0)])]
 run:=CO n
def C_52:Cx:=cx0 tt [(78,E_6)] [(3,S_52L3 Aa)] 1
def B_52L3:Code:=(Try.f42.body.bind (Yag 3)).getD .skip
def D_52:Code:=Try.f42.body.getD .skip
def N_52 (_:XK E_52.params) (r:YH E_52.results):E_52.B:=r
def E_53:Entry where
 params:= [.v y2]
 results:= [.mv y1 0,.v .bool]
 B:=(List (List Int))×Bool
 run:=λa=>C4 a
 out:=λb=>()
 res:=λb=>(b.1,b.2)
def C_53:Cx:=cx0 tt [(39,E_44),(40,E_51),(41,E_46),(42,E_52)] [] 1
def D_53:Code:=Try.f8.body.getD .skip
def N_53 (_:XK E_53.params) (r:YH E_53.results):E_53.B:=(r.1,r.2)
def E_54:Entry where
 params:= [.v y1,.v y1]
 results:= [.v .bool]
 B:=Bool
 run:=λa=>Eu a.1 a.2
 out:=λb=>((),())
 res:=λb=>b
def S_54L4 (n:Nat):LoopSpec where
 sh:= [(0,.v y1),(1,.v y1),(5,.v .int)]
 ex:= [(.exit 0,[]),(.ret,[(4,.v .bool)])]
 run:=CE n
def C_54:Cx:=cx0 tt [] [(4,S_54L4 Aa)] 2
def B_54L4:Code:=(Try.f22.body.bind (Yag 4)).getD .skip
def D_54:Code:=Try.f22.body.getD .skip
def N_54 (_:XK E_54.params) (r:YH E_54.results):E_54.B:=r
def E_55:Entry where
 params:= [.v y9,.v y9]
 results:= [.v .bool]
 B:=Bool
 run:=λa=>Ec a.1 a.2
 out:=λb=>((),())
 res:=λb=>b
def S_55L4 (n:Nat):LoopSpec where
 sh:= [(0,.v y9),(1,.v y9),(5,.v .int)]
 ex:= [(.exit 0,[]),(.ret,[(4,.v .bool)])]
 run:=Ck n
def C_55:Cx:=cx0 tt [(22,E_54)] [(4,S_55L4 Aa)] 2
def B_55L4:Code:=(Try.f9.body.bind (Yag 4)).getD .skip
def D_55:Code:=Try.f9.body.getD .skip
def N_55 (_:XK E_55.params) (r:YH E_55.results):E_55.B:=r
def E_56:Entry where
 params:= [.v y2]
 results:= [.mv y5 0,.v .bool]
 B:=(List (Int×Int×Int))×Bool
 run:=λa=>DE a
 out:=λb=>()
 res:=λb=>(b.1,b.2)
def C_56:Cx:=cx0 tt [(36,E_31),(43,E_32),(44,E_35)] [] 1
def D_56:Code:=Try.f10.body.getD .skip
def N_56 (_:XK E_56.params) (r:YH E_56.results):E_56.B:=(r.1,r.2)
def E_57:Entry where
 params:= [.v y2]
 results:= [.mv y5 0,.v .bool]
 B:=(List (Int×Int×Int))×Bool
 run:=λa=>DG a
 out:=λb=>()
 res:=λb=>(b.1,b.2)
def C_57:Cx:=cx0 tt [(39,E_44),(40,E_51),(41,E_46)] [] 1
def D_57:Code:=Try.f11.body.getD .skip
def N_57 (_:XK E_57.params) (r:YH E_57.results):E_57.B:=(r.1,r.2)
def E_58:Entry where
 params:= [.v y1,.v .int]
 results:= [.v .bool]
 B:=Bool
 run:=λa=>Em a.1 a.2
 out:=λb=>((),())
 res:=λb=>b
def S_58L2 (n:Nat):LoopSpec where
 sh:= [(0,.v y1),(1,.v .int),(5,.v .int)]
 ex:= [(.exit 0,[]),(.ret,[(4,.v .bool)])]
 run:=Dq n
def C_58:Cx:=cx0 tt [] [(2,S_58L2 Aa)] 2
def B_58L2:Code:=(Try.f12.body.bind (Yag 2)).getD .skip
def D_58:Code:=Try.f12.body.getD .skip
def N_58 (_:XK E_58.params) (r:YH E_58.results):E_58.B:=r
def E_59:Entry where
 params:= [.v y2,.v (.slice y5)]
 results:= [.v .bool,.v .bool]
 B:=Bool×Bool
 run:=λa=>DP a.1 a.2
 out:=λb=>((),())
 res:=λb=>(b.1,b.2)
def S_59L5 (n:Nat):LoopSpec where
 sh:= [(2,.bx (.v y2)),(6,.mv y6 1),(23,.v (.slice y5)),(24,.v .int),(25,.v .int)]
 ex:= [(.exit 0,[]),(.ret,[(4,.v .bool),(5,.v .bool)])]
 run:=Bx n
def C_59:Cx:=cx0 tt [(36,E_31),(43,E_32),(45,E_34)] [(5,S_59L5 Aa)] 2
def B_59L5:Code:=(Try.f13.body.bind (Yag 5)).getD .skip
def D_59:Code:=Try.f13.body.getD .skip
def N_59 (_:XK E_59.params) (r:YH E_59.results):E_59.B:=(r.1,r.2)
def E_60:Entry where
 params:= [.v y11]
 results:= [.mv y6 1]
 B:=(List (List Bool))
 run:=λa=>CX a
 out:=λb=>()
 res:=λb=>b
def S_60L3 (n:Nat):LoopSpec where
 sh:= [(0,.v y11),(3,.mv y6 1),(9,.v .int),(10,.v .int)]
 ex:= [(.exit 0,[(3,.mv y6 1)])]
 run:=Bm n
def C_60:Cx where
 tt:=YaU tt
 T:=Ygp []
 L:=Ygo [(3,S_60L3 Aa)]
 dep:=λi=>match i with
  |7=>1
  |_=>0
 n:=1
def B_60L3:Code:=(Try.f96.body.bind (Yag 3)).getD .skip
def D_60:Code:=Try.f96.body.getD .skip
def N_60 (_:XK E_60.params) (r:YH E_60.results):E_60.B:=r
def E_61:Entry where
 params:= [.io y6 1,.v .int,.v .int]
 results:= []
 B:=(List (List Bool))
 run:=λa=>DB a.1 a.2.1 a.2.2
 out:=λb=>(b,(),())
 res:=λb=>()
def S_61L1 (n:Nat):LoopSpec where
 sh:= [(0,.io y6 1),(1,.v .int),(2,.v .int),(11,.v .int),(12,.v .int)]
 ex:= [(.exit 0,[(0,.io y6 1)])]
 run:=BP n
def C_61:Cx:=cx0 tt [] [(1,S_61L1 Aa)] 3
def B_61L1:Code:=(Try.f97.body.bind (Yag 1)).getD .skip
def D_61:Code:=Try.f97.body.getD .skip
def N_61 (o:XK E_61.params) (_:YH E_61.results):E_61.B:=o.1
def E_62:Entry where
 params:= [.v y11]
 results:= [.v .bool]
 B:=Bool
 run:=λa=>BX a
 out:=λb=>()
 res:=λb=>b
def S_62L2 (n:Nat):LoopSpec where
 sh:= [(5,.v y11),(6,.v .int),(7,.v .int)]
 ex:= [(.exit 0,[]),(.ret,[(2,.v .bool)])]
 run:=Bb n
def C_62:Cx:=cx0 tt [(89,E_37)] [(2,S_62L2 Aa)] 1
def B_62L2:Code:=(Try.f48.body.bind (Yag 2)).getD .skip
def D_62:Code:=Try.f48.body.getD .skip
def N_62 (_:XK E_62.params) (r:YH E_62.results):E_62.B:=r
def E_63:Entry where
 params:= [.v y2]
 results:= [.mv y6 1]
 B:=(List (List Bool))
 run:=λa=>Cs a
 out:=λb=>()
 res:=λb=>b
def S_63L9 (n:Nat):LoopSpec where
 sh:= [(1,.bx (.v y2)),(3,.mv y6 1),(4,.v .bool),(5,.v .int),(12,.v .int),(13,.v .int),(20,.v .int),(21,.v .int)]
 ex:= [(.exit 4,[(1,.bx (.v y2)),(3,.mv y6 1),(4,.v .bool),(12,.v .int),(13,.v .int)])]
 run:=Az n
def S_63L6 (n:Nat):LoopSpec where
 sh:= [(1,.bx (.v y2)),(3,.mv y6 1),(4,.v .bool),(12,.v .int),(13,.v .int)]
 ex:= [(.exit 2,[(1,.bx (.v y2)),(3,.mv y6 1),(4,.v .bool)])]
 run:=A9 n
def S_63L3 (n:Nat):LoopSpec where
 sh:= [(1,.bx (.v y2)),(3,.mv y6 1),(4,.v .bool)]
 ex:= [(.exit 0,[(3,.mv y6 1)])]
 run:=Bw n
def C_63:Cx:=cx0 tt [(43,E_32),(44,E_35),(48,E_62),(96,E_60),(97,E_61)] [(9,S_63L9 Aa),(6,S_63L6 Aa),(3,S_63L3 Aa)] 1
def B_63L9:Code:=(Try.f46.body.bind (Yag 9)).getD .skip
def B_63L6:Code:=(Try.f46.body.bind (Yag 6)).getD .skip
def B_63L3:Code:=(Try.f46.body.bind (Yag 3)).getD .skip
def D_63:Code:=Try.f46.body.getD .skip
def N_63 (_:XK E_63.params) (r:YH E_63.results):E_63.B:=r
def E_64:Entry where
 params:= [.v y2]
 results:= [.mv y1 1,.v .bool]
 B:=(List (List Int))×Bool
 run:=λa=>Dc a
 out:=λb=>()
 res:=λb=>(b.1,b.2)
def C_64:Cx where
 tt:=YaU tt
 T:=Ygp [(36,E_31),(38,E_38),(46,E_63)]
 L:=Ygo []
 dep:=λi=>match i with
  |7=>1
  |_=>0
 n:=1
def D_64:Code:=Try.f14.body.getD .skip
def N_64 (_:XK E_64.params) (r:YH E_64.results):E_64.B:=(r.1,r.2)
def E_65:Entry where
 params:= [.v y9]
 results:= [.v .bool]
 B:=Bool
 run:=λa=>Eg a
 out:=λb=>()
 res:=λb=>b
def S_65L2 (n:Nat):LoopSpec where
 sh:= [(0,.v y9),(3,.v .int)]
 ex:= [(.exit 0,[]),(.ret,[(2,.v .bool)])]
 run:=Cm n
def C_65:Cx:=cx0 tt [] [(2,S_65L2 Aa)] 1
def B_65L2:Code:=(Try.f98.body.bind (Yag 2)).getD .skip
def D_65:Code:=Try.f98.body.getD .skip
def N_65 (_:XK E_65.params) (r:YH E_65.results):E_65.B:=r
def E_66:Entry where
 params:= [.v y2]
 results:= [.mv y1 0]
 B:=(List (List Int))
 run:=λa=>Dv a
 out:=λb=>()
 res:=λb=>b
def S_66L10 (n:Nat):LoopSpec where
 sh:= [(1,.bx (.v y2)),(3,.mv y1 0),(4,.v .bool),(5,.v .int),(6,.v y1),(7,.v .int)]
 ex:= [(.exit 4,[(1,.bx (.v y2)),(3,.mv y1 0),(4,.v .bool),(5,.v .int)])]
 run:=Be n
def S_66L6 (n:Nat):LoopSpec where
 sh:= [(1,.bx (.v y2)),(3,.mv y1 0),(4,.v .bool),(5,.v .int)]
 ex:= [(.exit 2,[(1,.bx (.v y2)),(3,.mv y1 0),(4,.v .bool)])]
 run:=BK n
def S_66L3 (n:Nat):LoopSpec where
 sh:= [(1,.bx (.v y2)),(3,.mv y1 0),(4,.v .bool)]
 ex:= [(.exit 0,[(3,.mv y1 0)])]
 run:=Cf n
def C_66:Cx:=cx0 tt [(40,E_51),(41,E_46),(93,E_50),(98,E_65)] [(10,S_66L10 Aa),(6,S_66L6 Aa),(3,S_66L3 Aa)] 1
def B_66L10:Code:=(Try.f47.body.bind (Yag 10)).getD .skip
def B_66L6:Code:=(Try.f47.body.bind (Yag 6)).getD .skip
def B_66L3:Code:=(Try.f47.body.bind (Yag 3)).getD .skip
def D_66:Code:=Try.f47.body.getD .skip
def N_66 (_:XK E_66.params) (r:YH E_66.results):E_66.B:=r
def E_67:Entry where
 params:= [.v y2]
 results:= [.mv y1 0,.v .bool]
 B:=(List (List Int))×Bool
 run:=λa=>Dh a
 out:=λb=>()
 res:=λb=>(b.1,b.2)
def C_67:Cx:=cx0 tt [(39,E_44),(42,E_52),(47,E_66)] [] 1
def D_67:Code:=Try.f15.body.getD .skip
def N_67 (_:XK E_67.params) (r:YH E_67.results):E_67.B:=(r.1,r.2)
def E_68:Entry where
 params:= [.v y2]
 results:= [.v .bool,.v .bool]
 B:=Bool×Bool
 run:=λa=>DO a
 out:=λb=>()
 res:=λb=>(b.1,b.2)
def C_68:Cx:=cx0 tt [(36,E_31),(37,E_36),(48,E_62)] [] 1
def D_68:Code:=Try.f16.body.getD .skip
def N_68 (_:XK E_68.params) (r:YH E_68.results):E_68.B:=(r.1,r.2)
def E_69:Entry where
 params:= [.v y1]
 results:= [.v .str]
 B:=ByteArray
 run:=λa=>DC a
 out:=λb=>()
 res:=λb=>b
def S_69L3 (n:Nat):LoopSpec where
 sh:= [(3,.mv (.num .u8) 0),(10,.v y1),(11,.v .int),(12,.v .int)]
 ex:= [(.exit 0,[(3,.mv (.num .u8) 0)])]
 run:=CD n
def C_69:Cx:=cx0 tt [] [(3,S_69L3 Aa)] 1
def B_69L3:Code:=(Try.f114.body.bind (Yag 3)).getD .skip
def D_69:Code:=Try.f114.body.getD .skip
def N_69 (_:XK E_69.params) (r:YH E_69.results):E_69.B:=r
def E_70:Entry where
 params:= [.v y7]
 results:= [.v (.smap .sb)]
 B:=(List ByteArray)
 run:=λa=>Ee a
 out:=λb=>()
 res:=λb=>b
def S_70L3 (n:Nat):LoopSpec where
 sh:= [(3,(.mp .sb)),(8,.v y9),(9,.v .int),(10,.v .int)]
 ex:= [(.exit 0,[(3,(.mp .sb))])]
 run:=Cj n
def C_70:Cx:=cx0 tt [(114,E_69)] [(3,S_70L3 Aa)] 1
def B_70L3:Code:=(Try.f112.body.bind (Yag 3)).getD .skip
def D_70:Code:=Try.f112.body.getD .skip
def N_70 (_:XK E_70.params) (r:YH E_70.results):E_70.B:=r
def E_71:Entry where
 params:= [.v y2]
 results:= [.v (.ptr y3)]
 B:=(Bool×Int×(List (List (List Int)))×(List (List (List ByteArray))))
 run:=λa=>CG a
 out:=λb=>()
 res:=λb=>b
def S_71L7 (n:Nat):LoopSpec where
 sh:= [(3,.bx (.pr (.v .int) (.pr (.mv y9 1) (.mv y12 1)))),(5,.bx (.v y0)),(6,.v .int),(20,.v y10),(21,.v .int),(22,.v .int),(27,.v y1),(28,.v .int),(29,.v .int)]
 ex:= [(.exit 2,[(3,.bx (.pr (.v .int) (.pr (.mv y9 1) (.mv y12 1)))),(5,.bx (.v y0)),(6,.v .int),(20,.v y10),(21,.v .int),(22,.v .int)])]
 run:=Bh n
def S_71L3 (n:Nat):LoopSpec where
 sh:= [(3,.bx (.pr (.v .int) (.pr (.mv y9 1) (.mv y12 1)))),(20,.v y10),(21,.v .int),(22,.v .int)]
 ex:= [(.exit 0,[(3,.bx (.pr (.v .int) (.pr (.mv y9 1) (.mv y12 1))))])]
 run:=Bg n
def C_71:Cx where
 tt:=YaU tt
 T:=Ygp [(112,E_70)]
 L:=Ygo [(7,S_71L7 Aa),(3,S_71L3 Aa)]
 dep:=λi=>match i with
  |13=>1
  |16=>1
  |_=>0
 n:=1
 fine:=true
def B_71L7:Code:=(Try.f99.body.bind (Yag 7)).getD .skip
def B_71L3:Code:=(Try.f99.body.bind (Yag 3)).getD .skip
def D_71:Code:=Try.f99.body.getD .skip
def N_71 (_:XK E_71.params) (r:YH E_71.results):E_71.B:=r
def E_72:Entry where
 params:= [.v .int]
 results:= [.mv .int 0]
 B:=(List Int)
 run:=λa=>D3 a
 out:=λb=>()
 res:=λb=>b
def S_72L3 (n:Nat):LoopSpec where
 sh:= [(3,.mv .int 0),(8,.v .int),(9,.v .int)]
 ex:= [(.exit 0,[(3,.mv .int 0)])]
 run:=BI n
def C_72:Cx:=cx0 tt [] [(3,S_72L3 Aa)] 1
def B_72L3:Code:=(Try.f62.body.bind (Yag 3)).getD .skip
def D_72:Code:=Try.f62.body.getD .skip
def N_72 (_:XK E_72.params) (r:YH E_72.results):E_72.B:=r
def E_73:Entry where
 params:= [.v y11]
 results:= [.v .int]
 B:=Int
 run:=λa=>BD a
 out:=λb=>()
 res:=λb=>b
def S_73L3 (n:Nat):LoopSpec where
 sh:= [(3,.v .int),(6,.v y11),(7,.v .int),(8,.v .int)]
 ex:= [(.exit 0,[(3,.v .int)])]
 run:=AQ n
def C_73:Cx:=cx0 tt [(89,E_37)] [(3,S_73L3 Aa)] 1
def B_73L3:Code:=(Try.f51.body.bind (Yag 3)).getD .skip
def D_73:Code:=Try.f51.body.getD .skip
def N_73 (_:XK E_73.params) (r:YH E_73.results):E_73.B:=r
def E_74:Entry where
 params:= [.v y1,.bx (.mv y6 1)]
 results:= [.v .bool]
 B:=(List (List Bool))×Bool
 run:=λa=>BW a.1 a.2
 out:=λb=>((),b.1)
 res:=λb=>b.2
def S_74L2 (n:Nat):LoopSpec where
 sh:= [(1,.bx (.mv y6 1)),(6,.v y1),(7,.v .int),(8,.v .int)]
 ex:= [(.exit 0,[(1,.bx (.mv y6 1))])]
 run:=AL n
def C_74:Cx:=cx0 tt [] [(2,S_74L2 Aa)] 2
def B_74L2:Code:=(Try.f50.body.bind (Yag 2)).getD .skip
def D_74:Code:=Try.f50.body.getD .skip
def N_74 (o:XK E_74.params) (r:YH E_74.results):E_74.B:=(o.2,r)
def E_75:Entry where
 params:= [.v y1,.v y1]
 results:= [.mv .int 0]
 B:=(List Int)
 run:=λa=>Do a.1 a.2
 out:=λb=>((),())
 res:=λb=>b
def S_75L3 (n:Nat):LoopSpec where
 sh:= [(1,.v y1),(5,.mv .int 0),(11,.v y1),(12,.v .int),(13,.v .int)]
 ex:= [(.exit 0,[(5,.mv .int 0)])]
 run:=Cv n
def C_75:Cx:=cx0 tt [] [(3,S_75L3 Aa)] 2
def B_75L3:Code:=(Try.f130.body.bind (Yag 3)).getD .skip
def D_75:Code:=Try.f130.body.getD .skip
def N_75 (_:XK E_75.params) (r:YH E_75.results):E_75.B:=r
def E_76_of (rec:(Int×(List Int)×(List (List Bool))×(Bool×Int×(List (List (List Int)))×(List (List (List ByteArray))))×(List Int)×Unit)->Option ((List Int)×(List (List Bool))×(Bool×Int×(List (List (List Int)))×(List (List (List ByteArray))))×(List Int)×Bool)):Entry where
 params:= [.v .int,.bx (.mv .int 0),.bx (.mv y6 1),.bx (.v (.ptr y3)),.bx (.v y1),.jk 1]
 results:= [.v .bool]
 cod:= [(2,.kb 50),(5,.kn 129 1 5)]
 B:=(List Int)×(List (List Bool))×(Bool×Int×(List (List (List Int)))×(List (List (List ByteArray))))×(List Int)×Bool
 run:=rec
 out:=λb=>((),b.1,b.2.1,b.2.2.1,b.2.2.2.1,())
 res:=λb=>b.2.2.2.2
def E_76 (d:Nat):Entry:=E_76_of (Al d)
def S_76L10 (rec:(Int×(List Int)×(List (List Bool))×(Bool×Int×(List (List (List Int)))×(List (List (List ByteArray))))×(List Int)×Unit)->Option ((List Int)×(List (List Bool))×(Bool×Int×(List (List (List Int)))×(List (List (List ByteArray))))×(List Int)×Bool)) (n:Nat):LoopSpec where
 sh:= [(0,.v .int),(1,.bx (.mv .int 0)),(2,.bx (.mv y6 1)),(3,.bx (.v (.ptr y3))),(4,.bx (.v y1)),(5,.jk 1),(8,.v .int),(9,.v .bool),(50,.v y9),(51,.v .int),(52,.v .int)]
 ex:= [(.exit 2,[(0,.v .int),(1,.bx (.mv .int 0)),(2,.bx (.mv y6 1)),(3,.bx (.v (.ptr y3))),(4,.bx (.v y1)),(5,.jk 1),(8,.v .int),(9,.v .bool)])]
 run:=Aj rec n
def S_76L4 (rec:(Int×(List Int)×(List (List Bool))×(Bool×Int×(List (List (List Int)))×(List (List (List ByteArray))))×(List Int)×Unit)->Option ((List Int)×(List (List Bool))×(Bool×Int×(List (List (List Int)))×(List (List (List ByteArray))))×(List Int)×Bool)) (n:Nat):LoopSpec where
 sh:= [(0,.v .int),(1,.bx (.mv .int 0)),(2,.bx (.mv y6 1)),(3,.bx (.v (.ptr y3))),(4,.bx (.v y1)),(5,.jk 1),(8,.v .int)]
 ex:= [(.exit 0,[(1,.bx (.mv .int 0)),(2,.bx (.mv y6 1)),(3,.bx (.v (.ptr y3))),(4,.bx (.v y1)),(5,.jk 1)]),(.ret,[(1,.bx (.mv .int 0)),(2,.bx (.mv y6 1)),(3,.bx (.v (.ptr y3))),(4,.bx (.v y1)),(5,.jk 1),(7,.v .bool)])]
 run:=Ah rec n
def C_76 (rec:(Int×(List Int)×(List (List Bool))×(Bool×Int×(List (List (List Int)))×(List (List (List ByteArray))))×(List Int)×Unit)->Option ((List Int)×(List (List Bool))×(Bool×Int×(List (List (List Int)))×(List (List (List ByteArray))))×(List Int)×Bool)):Cx where
 tt:=YaU tt
 T:=Ygp [(50,E_74),(114,E_69),(130,E_75),(3342465,E_76_of rec)]
 L:=Ygo [(10,S_76L10 rec Aa),(4,S_76L4 rec Aa)]
 dep:=λi=>0
 n:=6
 cod:= [(2,.kb 50),(5,.kn 129 1 5)]
def B_76L10:Code:=(Try.f129.body.bind (Yag 10)).getD .skip
def B_76L4:Code:=(Try.f129.body.bind (Yag 4)).getD .skip
def D_76:Code:=Try.f129.body.getD .skip
def N_76 (o:XK [.v .int,.bx (.mv .int 0),.bx (.mv y6 1),.bx (.v (.ptr y3)),.bx (.v y1),.jk 1]) (r:YH [.v .bool]):(List Int)×(List (List Bool))×(Bool×Int×(List (List (List Int)))×(List (List (List ByteArray))))×(List Int)×Bool:=(o.2.1,o.2.2.1,o.2.2.2.1,o.2.2.2.2.1,r)
def E_77:Entry where
 params:= [.v (.ptr y3),.v y1,.bx (.mv y6 1)]
 results:= []
 cod:= [(2,.cl 50)]
 B:=(List (List Bool))
 run:=λa=>Bs a.1 a.2.1 a.2.2
 out:=λb=>((),(),b)
 res:=λb=>()
def C_77:Cx where
 tt:=YaU tt
 T:=Ygp [(3342465,E_76 Aa)]
 L:=Ygo []
 dep:=λi=>0
 n:=3
 cod:= [(2,.cl 50)]
def D_77:Code:=Try.f100.body.getD .skip
def N_77 (o:XK E_77.params) (_:YH E_77.results):E_77.B:=o.2.2
def E_78:Entry where
 params:= [.v y2,.bx (.mv y6 1)]
 results:= []
 cod:= [(1,.cl 50)]
 B:=(List (List Bool))
 run:=λa=>AO a.1 a.2
 out:=λb=>((),b)
 res:=λb=>()
def C_78:Cx where
 tt:=YaU tt
 T:=Ygp [(62,E_72),(99,E_71),(3342436,E_77)]
 L:=Ygo []
 dep:=λi=>0
 n:=2
 cod:= [(1,.cl 50)]
def D_78:Code:=Try.f49.body.getD .skip
def N_78 (o:XK E_78.params) (_:YH E_78.results):E_78.B:=o.2
def E_79:Entry where
 params:= [.v y2]
 results:= [.v .int,.v .int,.v .int,.v .bool]
 B:=Int×Int×Int×Bool
 run:=λa=>Db a
 out:=λb=>()
 res:=λb=>(b.1,b.2.1,b.2.2.1,b.2.2.2)
def S_79L5 (n:Nat):LoopSpec where
 sh:= [(1,.bx (.v y2)),(6,.bx (.mv y6 1)),(14,.v .int),(15,.v .int)]
 ex:= [(.exit 0,[(1,.bx (.v y2)),(6,.bx (.mv y6 1))])]
 run:=AM n
def C_79:Cx:=cx0 tt [(36,E_31),(37,E_36),(43,E_32),(46,E_63),(51,E_73),(3342385,E_78)] [(5,S_79L5 Aa)] 1
def B_79L5:Code:=(Try.f17.body.bind (Yag 5)).getD .skip
def D_79:Code:=Try.f17.body.getD .skip
def N_79 (_:XK E_79.params) (r:YH E_79.results):E_79.B:=(r.1,r.2.1,r.2.2.1,r.2.2.2)
def E_80:Entry where
 params:= [.v .int]
 results:= [.mv .int 0]
 B:=(List Int)
 run:=λa=>Ey a
 out:=λb=>()
 res:=λb=>b
def S_80L3 (n:Nat):LoopSpec where
 sh:= [(0,.v .int),(3,.mv .int 0),(4,.v .int)]
 ex:= [(.exit 0,[(3,.mv .int 0)])]
 run:=B6 n
def C_80:Cx:=cx0 tt [] [(3,S_80L3 Aa)] 1
def B_80L3:Code:=(Try.f52.body.bind (Yag 3)).getD .skip
def D_80:Code:=Try.f52.body.getD .skip
def N_80 (_:XK E_80.params) (r:YH E_80.results):E_80.B:=r
def E_81:Entry where
 params:= [.v .int,.v y10]
 results:= [.mv y10 1]
 B:=(List (List ((List Int)×Int×(List (List Int)))))
 run:=λa=>Ez a.1 a.2
 out:=λb=>((),())
 res:=λb=>b
def S_81L7 (n:Nat):LoopSpec where
 sh:= [(1,.v y10),(5,.mv y10 1),(6,.v .int),(7,.v .int),(8,.v .int)]
 ex:= [(.exit 2,[(1,.v y10),(5,.mv y10 1),(6,.v .int),(7,.v .int)])]
 run:=B8 n
def S_81L3 (n:Nat):LoopSpec where
 sh:= [(1,.v y10),(5,.mv y10 1),(6,.v .int)]
 ex:= [(.exit 0,[(5,.mv y10 1)])]
 run:=B7 n
def C_81:Cx where
 tt:=YaU tt
 T:=Ygp [(122,E_22)]
 L:=Ygo [(7,S_81L7 Aa),(3,S_81L3 Aa)]
 dep:=λi=>match i with
  |10=>1
  |_=>0
 n:=2
 fine:=true
def B_81L7:Code:=(Try.f102.body.bind (Yag 7)).getD .skip
def B_81L3:Code:=(Try.f102.body.bind (Yag 3)).getD .skip
def D_81:Code:=Try.f102.body.getD .skip
def N_81 (_:XK E_81.params) (r:YH E_81.results):E_81.B:=r
def E_82:Entry where
 params:= [.v y7,.v y1]
 results:= [.v .bool]
 B:=Bool
 run:=λa=>F6 a.1 a.2
 out:=λb=>((),())
 res:=λb=>b
def C_82:Cx:=cx0 tt [(147,E_12)] [] 2
def D_82:Code:=Try.f143.body.getD .skip
def N_82 (_:XK E_82.params) (r:YH E_82.results):E_82.B:=r
def E_83:Entry where
 params:= [.v y0,.v y1]
 results:= [.v .bool]
 B:=Bool
 run:=λa=>Ds a.1 a.2
 out:=λb=>((),())
 res:=λb=>b
def S_83L3 (n:Nat):LoopSpec where
 sh:= [(1,.v y1),(2,.bx (.v y0)),(5,.mv .int 0),(6,.v .int)]
 ex:= [(.exit 0,[(2,.bx (.v y0)),(5,.mv .int 0)])]
 run:=BF n
def C_83:Cx:=cx0 tt [(143,E_82)] [(3,S_83L3 Aa)] 2
def B_83L3:Code:=(Try.f131.body.bind (Yag 3)).getD .skip
def D_83:Code:=Try.f131.body.getD .skip
def N_83 (_:XK E_83.params) (r:YH E_83.results):E_83.B:=r
def E_84_of (rec:(Int×(List (List ((List Int)×Int×(List (List Int)))))×(List Int)×(List Int)×((List (List Int))×(Int×Int×Bool)))->Option (((List (List Int))×(Int×Int×Bool)))):Entry where
 params:= [.v .int,.v y14,.v y1,.v y1,.pr (.mv y1 1) (.v y8)]
 results:= [.pr (.mv y1 1) (.v y8)]
 B:=((List (List Int))×(Int×Int×Bool))
 run:=rec
 out:=λb=>((),(),(),(),((),()))
 res:=λb=>b
def E_84 (d:Nat):Entry:=E_84_of (Ap d)
def S_84L14 (rec:(Int×(List (List ((List Int)×Int×(List (List Int)))))×(List Int)×(List Int)×((List (List Int))×(Int×Int×Bool)))->Option (((List (List Int))×(Int×Int×Bool)))) (n:Nat):LoopSpec where
 sh:= [(0,.v .int),(1,.v y14),(2,.v y1),(3,.v y1),(9,.bx (.pr (.mv y1 1) (.v y8))),(10,.bx (.pr (.mv y1 1) (.v y8))),(11,.v .int),(12,.v .int),(13,.mv .int 0),(14,.v .bool),(15,.v .int)]
 ex:= [(.exit 2,[(0,.v .int),(1,.v y14),(2,.v y1),(3,.v y1),(9,.bx (.pr (.mv y1 1) (.v y8))),(10,.bx (.pr (.mv y1 1) (.v y8))),(11,.v .int),(12,.v .int),(13,.mv .int 0),(14,.v .bool)])]
 run:=AA rec n
def S_84L8 (rec:(Int×(List (List ((List Int)×Int×(List (List Int)))))×(List Int)×(List Int)×((List (List Int))×(Int×Int×Bool)))->Option (((List (List Int))×(Int×Int×Bool)))) (n:Nat):LoopSpec where
 sh:= [(0,.v .int),(1,.v y14),(2,.v y1),(3,.v y1),(9,.bx (.pr (.mv y1 1) (.v y8))),(10,.bx (.pr (.mv y1 1) (.v y8))),(11,.v .int),(12,.v .int)]
 ex:= [(.exit 0,[(9,.bx (.pr (.mv y1 1) (.v y8))),(10,.bx (.pr (.mv y1 1) (.v y8)))])]
 run:=An rec n
def C_84 (rec:(Int×(List (List ((List Int)×Int×(List (List Int)))))×(List Int)×(List Int)×((List (List Int))×(Int×Int×Bool)))->Option (((List (List Int))×(Int×Int×Bool)))):Cx where
 tt:=YaU tt
 T:=Ygp [(78,E_6),(101,E_84_of rec),(131,E_83)]
 L:=Ygo [(14,S_84L14 rec Aa),(8,S_84L8 rec Aa)]
 dep:=λi=>match i with
  |36=>1
  |37=>1
  |_=>0
 n:=5
def B_84L14:Code:=(Try.f101.body.bind (Yag 14)).getD .skip
def B_84L8:Code:=(Try.f101.body.bind (Yag 8)).getD .skip
def D_84:Code:=Try.f101.body.getD .skip
def N_84 (_:XK [.v .int,.v y14,.v y1,.v y1,.pr (.mv y1 1) (.v y8)]) (r:YH [.pr (.mv y1 1) (.v y8)]):((List (List Int))×(Int×Int×Bool)):=r
def E_85:Entry where
 params:= [.v y2,.v y10,.v y1,.v .int,.v .bool]
 results:= [.pr (.mv y1 1) (.v y8)]
 B:=((List (List Int))×(Int×Int×Bool))
 run:=λa=>CT a.1 a.2.1 a.2.2.1 a.2.2.2.1 a.2.2.2.2
 out:=λb=>((),(),(),(),())
 res:=λb=>b
def C_85:Cx:=cx0 tt [(101,E_84 Aa),(102,E_81)] [] 5
def D_85:Code:=Try.f53.body.getD .skip
def N_85 (_:XK E_85.params) (r:YH E_85.results):E_85.B:=r
def E_86:Entry where
 params:= [.v y9]
 results:= [.v .int]
 B:=Int
 run:=λa=>DW a
 out:=λb=>()
 res:=λb=>b
def S_86L3 (n:Nat):LoopSpec where
 sh:= [(0,.v y9),(3,.v .int),(4,.v .int)]
 ex:= [(.exit 0,[(3,.v .int)])]
 run:=Cb n
def C_86:Cx:=cx0 tt [] [(3,S_86L3 Aa)] 1
def B_86L3:Code:=(Try.f54.body.bind (Yag 3)).getD .skip
def D_86:Code:=Try.f54.body.getD .skip
def N_86 (_:XK E_86.params) (r:YH E_86.results):E_86.B:=r
def E_87:Entry where
 params:= [.v y2]
 results:= [.v .int,.v .int,.v .int,.v .bool]
 B:=Int×Int×Int×Bool
 run:=λa=>Dg a
 out:=λb=>()
 res:=λb=>(b.1,b.2.1,b.2.2.1,b.2.2.2)
def S_87L10 (n:Nat):LoopSpec where
 sh:= [(1,.bx (.v y2)),(6,.v .int),(7,.mv y1 0),(9,.v .int),(10,.v .int),(11,.v .int)]
 ex:= [(.exit 2,[(1,.bx (.v y2)),(6,.v .int),(7,.mv y1 0),(9,.v .int),(10,.v .int)])]
 run:=AH n
def S_87L7 (n:Nat):LoopSpec where
 sh:= [(1,.bx (.v y2)),(6,.v .int),(7,.mv y1 0),(9,.v .int),(10,.v .int)]
 ex:= [(.exit 0,[(1,.bx (.v y2)),(6,.v .int),(7,.mv y1 0),(9,.v .int)])]
 run:=Ba n
def C_87:Cx:=cx0 tt [(39,E_44),(40,E_51),(41,E_46),(47,E_66),(52,E_80),(53,E_85),(54,E_86)] [(10,S_87L10 Aa),(7,S_87L7 Aa)] 1
def B_87L10:Code:=(Try.f18.body.bind (Yag 10)).getD .skip
def B_87L7:Code:=(Try.f18.body.bind (Yag 7)).getD .skip
def D_87:Code:=Try.f18.body.getD .skip
def N_87 (_:XK E_87.params) (r:YH E_87.results):E_87.B:=(r.1,r.2.1,r.2.2.1,r.2.2.2)
def E_88:Entry where
 params:= [.v y1,.v y1]
 results:= [.v .bool]
 B:=Bool
 run:=λa=>Ev a.1 a.2
 out:=λb=>((),())
 res:=λb=>b
def S_88L2 (n:Nat):LoopSpec where
 sh:= [(0,.v y1),(1,.v y1),(5,.v .int)]
 ex:= [(.exit 0,[]),(.ret,[(4,.v .bool)])]
 run:=Cw n
def C_88:Cx:=cx0 tt [(12,E_58)] [(2,S_88L2 Aa)] 2
def B_88L2:Code:=(Try.f19.body.bind (Yag 2)).getD .skip
def D_88:Code:=Try.f19.body.getD .skip
def N_88 (_:XK E_88.params) (r:YH E_88.results):E_88.B:=r
def E_89:Entry where
 params:= [.v y1]
 results:= [.nv .int 0]
 B:=(Bool×(List Int))
 run:=λa=>FI a
 out:=λb=>()
 res:=λb=>b
def C_89:Cx:=cx0 tt [] [] 1
def D_89:Code:=Try.f104.body.getD .skip
def N_89 (_:XK E_89.params) (r:YH E_89.results):E_89.B:=r
def E_90:Entry where
 params:= [.v y1,.bx (.nv .int 0)]
 results:= [.v .bool]
 B:=(Bool×(List Int))×Bool
 run:=λa=>BZ a.1 a.2
 out:=λb=>((),b.1)
 res:=λb=>b.2
def C_90:Cx:=cx0 tt [(104,E_89)] [] 2
def D_90:Code:=Try.f103.body.getD .skip
def N_90 (o:XK E_90.params) (r:YH E_90.results):E_90.B:=(o.2,r)
def E_91_of (rec:(Int×(List Int)×(Bool×(List Int))×(Bool×Int×(List (List (List Int)))×(List (List (List ByteArray))))×(List Int)×Unit)->Option ((List Int)×(Bool×(List Int))×(Bool×Int×(List (List (List Int)))×(List (List (List ByteArray))))×(List Int)×Bool)):Entry where
 params:= [.v .int,.bx (.mv .int 0),.bx (.nv .int 0),.bx (.v (.ptr y3)),.bx (.v y1),.jk 1]
 results:= [.v .bool]
 cod:= [(2,.kb 103),(5,.kn 129 1 5)]
 B:=(List Int)×(Bool×(List Int))×(Bool×Int×(List (List (List Int)))×(List (List (List ByteArray))))×(List Int)×Bool
 run:=rec
 out:=λb=>((),b.1,b.2.1,b.2.2.1,b.2.2.2.1,())
 res:=λb=>b.2.2.2.2
def E_91 (d:Nat):Entry:=E_91_of (Am d)
def S_91L10 (rec:(Int×(List Int)×(Bool×(List Int))×(Bool×Int×(List (List (List Int)))×(List (List (List ByteArray))))×(List Int)×Unit)->Option ((List Int)×(Bool×(List Int))×(Bool×Int×(List (List (List Int)))×(List (List (List ByteArray))))×(List Int)×Bool)) (n:Nat):LoopSpec where
 sh:= [(0,.v .int),(1,.bx (.mv .int 0)),(2,.bx (.nv .int 0)),(3,.bx (.v (.ptr y3))),(4,.bx (.v y1)),(5,.jk 1),(8,.v .int),(9,.v .bool),(50,.v y9),(51,.v .int),(52,.v .int)]
 ex:= [(.exit 2,[(0,.v .int),(1,.bx (.mv .int 0)),(2,.bx (.nv .int 0)),(3,.bx (.v (.ptr y3))),(4,.bx (.v y1)),(5,.jk 1),(8,.v .int),(9,.v .bool)])]
 run:=Ak rec n
def S_91L4 (rec:(Int×(List Int)×(Bool×(List Int))×(Bool×Int×(List (List (List Int)))×(List (List (List ByteArray))))×(List Int)×Unit)->Option ((List Int)×(Bool×(List Int))×(Bool×Int×(List (List (List Int)))×(List (List (List ByteArray))))×(List Int)×Bool)) (n:Nat):LoopSpec where
 sh:= [(0,.v .int),(1,.bx (.mv .int 0)),(2,.bx (.nv .int 0)),(3,.bx (.v (.ptr y3))),(4,.bx (.v y1)),(5,.jk 1),(8,.v .int)]
 ex:= [(.exit 0,[(1,.bx (.mv .int 0)),(2,.bx (.nv .int 0)),(3,.bx (.v (.ptr y3))),(4,.bx (.v y1)),(5,.jk 1)]),(.ret,[(1,.bx (.mv .int 0)),(2,.bx (.nv .int 0)),(3,.bx (.v (.ptr y3))),(4,.bx (.v y1)),(5,.jk 1),(7,.v .bool)])]
 run:=Ai rec n
def C_91 (rec:(Int×(List Int)×(Bool×(List Int))×(Bool×Int×(List (List (List Int)))×(List (List (List ByteArray))))×(List Int)×Unit)->Option ((List Int)×(Bool×(List Int))×(Bool×Int×(List (List (List Int)))×(List (List (List ByteArray))))×(List Int)×Bool)):Cx where
 tt:=YaU tt
 T:=Ygp [(103,E_90),(114,E_69),(130,E_75),(6815873,E_91_of rec)]
 L:=Ygo [(10,S_91L10 rec Aa),(4,S_91L4 rec Aa)]
 dep:=λi=>0
 n:=6
 cod:= [(2,.kb 103),(5,.kn 129 1 5)]
def B_91L10:Code:=(Try.f129.body.bind (Yag 10)).getD .skip
def B_91L4:Code:=(Try.f129.body.bind (Yag 4)).getD .skip
def D_91:Code:=Try.f129.body.getD .skip
def N_91 (o:XK [.v .int,.bx (.mv .int 0),.bx (.nv .int 0),.bx (.v (.ptr y3)),.bx (.v y1),.jk 1]) (r:YH [.v .bool]):(List Int)×(Bool×(List Int))×(Bool×Int×(List (List (List Int)))×(List (List (List ByteArray))))×(List Int)×Bool:=(o.2.1,o.2.2.1,o.2.2.2.1,o.2.2.2.2.1,r)
def E_92:Entry where
 params:= [.v (.ptr y3),.v y1,.bx (.nv .int 0)]
 results:= []
 cod:= [(2,.cl 103)]
 B:=(Bool×(List Int))
 run:=λa=>Bt a.1 a.2.1 a.2.2
 out:=λb=>((),(),b)
 res:=λb=>()
def C_92:Cx where
 tt:=YaU tt
 T:=Ygp [(6815873,E_91 Aa)]
 L:=Ygo []
 dep:=λi=>0
 n:=3
 cod:= [(2,.cl 103)]
def D_92:Code:=Try.f100.body.getD .skip
def N_92 (o:XK E_92.params) (_:YH E_92.results):E_92.B:=o.2.2
def E_93:Entry where
 params:= [.v y2,.v y1]
 results:= [.nv .int 0]
 B:=(Bool×(List Int))
 run:=λa=>Dd a.1 a.2
 out:=λb=>((),())
 res:=λb=>b
def C_93:Cx:=cx0 tt [(99,E_71),(6815844,E_92)] [] 2
def D_93:Code:=Try.f55.body.getD .skip
def N_93 (_:XK E_93.params) (r:YH E_93.results):E_93.B:=r
def E_94:Entry where
 params:= [.v y2,.v y1]
 results:= [.mv .int 0,.v .bool]
 B:=(List Int)×Bool
 run:=λa=>Da a.1 a.2
 out:=λb=>((),())
 res:=λb=>(b.1,b.2)
def S_94L4 (n:Nat):LoopSpec where
 sh:= [(1,.v y1),(2,.bx (.v y2)),(20,.v y1),(21,.v .int),(22,.v .int)]
 ex:= [(.exit 0,[(1,.v y1),(2,.bx (.v y2))]),(.ret,[(4,.mv .int 0),(5,.v .bool)])]
 run:=A8 n
def C_94:Cx:=cx0 tt [(36,E_31),(55,E_93)] [(4,S_94L4 Aa)] 2
def B_94L4:Code:=(Try.f20.body.bind (Yag 4)).getD .skip
def D_94:Code:=Try.f20.body.getD .skip
def N_94 (_:XK E_94.params) (r:YH E_94.results):E_94.B:=(r.1,r.2)
def E_95:Entry where
 params:= [.v y2,.v y1]
 results:= [.v .bool]
 B:=Bool
 run:=λa=>C5 a.1 a.2
 out:=λb=>((),())
 res:=λb=>b
def S_95L2 (n:Nat):LoopSpec where
 sh:= [(1,.v y1),(2,.bx (.v y2)),(5,.v .int)]
 ex:= [(.exit 0,[(1,.v y1),(2,.bx (.v y2))]),(.ret,[(4,.v .bool)])]
 run:=Bz n
def C_95:Cx:=cx0 tt [(90,E_8)] [(2,S_95L2 Aa)] 2
def B_95L2:Code:=(Try.f56.body.bind (Yag 2)).getD .skip
def D_95:Code:=Try.f56.body.getD .skip
def N_95 (_:XK E_95.params) (r:YH E_95.results):E_95.B:=r
def E_96:Entry where
 params:= [.v y2,.v y1]
 results:= [.v y1,.v .bool]
 B:=(List Int)×Bool
 run:=λa=>Df a.1 a.2
 out:=λb=>((),())
 res:=λb=>(b.1,b.2)
def C_96:Cx:=cx0 tt [(39,E_44),(53,E_85),(56,E_95)] [] 2
def D_96:Code:=Try.f21.body.getD .skip
def N_96 (_:XK E_96.params) (r:YH E_96.results):E_96.B:=(r.1,r.2)
def E_97:Entry where
 params:= [.v y13]
 results:= [.v .bool]
 B:=Bool
 run:=λa=>Dx a
 out:=λb=>()
 res:=λb=>b
def S_97L16 (n:Nat):LoopSpec where
 sh:= [(3,.bx (.v y2)),(4,.mv y1 1),(8,.mv y5 0),(10,.mv y5 0),(12,.v .int),(13,.v .int)]
 ex:= [(.exit 0,[(3,.bx (.v y2)),(4,.mv y1 1),(8,.mv y5 0),(12,.v .int)]),(.ret,[(2,.v .bool)])]
 run:=AE n
def S_97L26 (n:Nat):LoopSpec where
 sh:= [(3,.bx (.v y2)),(4,.mv y1 1),(8,.mv y5 0),(12,.v .int),(15,.v .int),(16,.v .int)]
 ex:= [(.exit 2,[(3,.bx (.v y2)),(4,.mv y1 1),(8,.mv y5 0),(12,.v .int),(15,.v .int)])]
 run:=AF n
def S_97L43 (n:Nat):LoopSpec where
 sh:= [(3,.bx (.v y2)),(4,.mv y1 1),(19,.mv y1 1),(23,.v .bool),(33,.mv .int 0),(34,.v .int)]
 ex:= [(.exit 4,[(3,.bx (.v y2)),(19,.mv y1 1),(23,.v .bool),(33,.mv .int 0)]),(.ret,[(2,.v .bool)])]
 run:=AG n
def S_97L53 (n:Nat):LoopSpec where
 sh:= [(19,.mv y1 1),(35,.mv .int 0),(39,.v .int)]
 ex:= [(.exit 6,[]),(.ret,[(2,.v .bool)])]
 run:=Av n
def C_97:Cx:=cx0 tt [(5,E_1),(6,E_25),(7,E_39),(8,E_53),(9,E_55),(10,E_56),(11,E_57),(12,E_58),(13,E_59),(14,E_64),(15,E_67),(16,E_68),(17,E_79),(18,E_87),(19,E_88),(20,E_94),(21,E_96),(22,E_54)] [(16,S_97L16 Aa),(26,S_97L26 Aa),(43,S_97L43 Aa),(53,S_97L53 Aa)] 1
def B_97L16:Code:=(Try.f3.body.bind (Yag 16)).getD .skip
def B_97L26:Code:=(Try.f3.body.bind (Yag 26)).getD .skip
def B_97L43:Code:=(Try.f3.body.bind (Yag 43)).getD .skip
def B_97L53:Code:=(Try.f3.body.bind (Yag 53)).getD .skip
def D_97:Code:=Try.f3.body.getD .skip
def N_97 (_:XK E_97.params) (r:YH E_97.results):E_97.B:=r
end
end T
