/- Contexts of the typed functions; no conditions. -/
import Derived.Test.YtgeboeaoblppcaaGreatV5
import Derived.Test.YtgeboeaoblppcaaGreatProg
import Derived.Test.YtgeboeaoblppcaaGreatPFnAffineSets
import Derived.KernelRfl
set_option linter.all false
set_option linter.unusedVariables false
set_option maxRecDepth 10000
open Go Go.Va Go.Proofs
namespace T
noncomputable section
abbrev y0:Ty:= .slice .int
abbrev y1:Ty:= .slice y0
abbrev y2:Ty:= .pair .int (.slice (.pair .int y0))
abbrev y3:Ty:= .pair .int (.pair .int (.pair y1 (.pair .int y0)))
abbrev y4:Ty:= .pair (.slice (.num .u8)) (.pair .int (.num .u64))
abbrev y5:Ty:= .pair .int y1
abbrev y6:Ty:= .pair .int y0
abbrev y7:Ty:= .pair y1 (.pair y0 y1)
abbrev y8:Ty:= .pair .int y5
abbrev y9:Ty:= .slice (.num .u8)
def tt:List (Nat×TI):= [
 (2,{ ty:= .int }),
 (3,{ ty:= .int }),
 (4,{ ty:= .bool }),
 (5,{ ty:=(.num .u8) }),
 (6,{ ty:=(.num .u8) }),
 (9,{ ty:= .str }),
 (22,{ ty:=y9,elem:=5 }),
 (24,{ ty:=y1,elem:=34 }),
 (28,{ ty:=y8,fields:= [3,3,24] }),
 (34,{ ty:=y0,elem:=3 }),
 (36,{ ty:=y6,fields:= [3,34] }),
 (41,{ ty:=y5,fields:= [3,24] }),
 (54,{ ty:=y7,fields:= [24,34,24] }),
 (75,{ ty:=(.op false) }),
 (79,{ ty:=(.num .u64) }),
 (81,{ ty:=y4,fields:= [22,3,79] }),
 (91,{ ty:=(.slice .bool),elem:=4 }),
 (96,{ ty:=(.smap .sb) }),
 (101,{ ty:=y3,fields:= [3,3,24,3,34] }),
 (108,{ ty:=(.slice y6),elem:=36 }),
 (110,{ ty:=y2,fields:= [3,108] }),
 (113,{ ty:=(.num .u64) })]
theorem tabT:Yif Tryz.prog tt=true:=by kernel_rfl
theorem mixT:Tryz.prog.follows .mixedOrders=true:=by kernel_rfl
def E_1:Entry where
 params:= [.v y9]
 results:= [.v .bool]
 B:=Bool
 run:=λa=>HN a
 out:=λb=>()
 res:=λb=>b
def C_1:Cx:=cx0 tt [] [] 1
def D_1:Code:=Tryz.f4.body.getD .skip
def N_1 (_:XK E_1.params) (r:YH E_1.results):E_1.B:=r
def E_2:Entry where
 params:= [.bx (.v y4)]
 results:= [.v .int]
 B:=((List Int)×Int×Int)×Int
 run:=λa=>Cr a
 out:=λb=>b.1
 res:=λb=>b.2
def C_2:Cx:=cx0 tt [] [] 1
def D_2:Code:=Tryz.f91.body.getD .skip
def N_2 (o:XK E_2.params) (r:YH E_2.results):E_2.B:=(o,r)
def E_3:Entry where
 params:= [.bx (.v y4),.v .int]
 results:= [.v .int]
 B:=((List Int)×Int×Int)×Int
 run:=λa=>Ag a.1 a.2
 out:=λb=>(b.1,())
 res:=λb=>b.2
def C_3:Cx:=cx0 tt [(91,E_2)] [] 2
def D_3:Code:=Tryz.f75.body.getD .skip
def N_3 (o:XK E_3.params) (r:YH E_3.results):E_3.B:=(o.1,r)
def E_4:Entry where
 params:= [.bx (.v y4),.v y0]
 results:= [.v .int]
 B:=((List Int)×Int×Int)×Int
 run:=λa=>Af a.1 a.2
 out:=λb=>(b.1,())
 res:=λb=>b.2
def C_4:Cx:=cx0 tt [(75,E_3)] [] 2
def D_4:Code:=Tryz.f74.body.getD .skip
def N_4 (o:XK E_4.params) (r:YH E_4.results):E_4.B:=(o.1,r)
def E_5:Entry where
 params:= [.v y0,.v y0]
 results:= [.v .bool]
 B:=Bool
 run:=λa=>FR a.1 a.2
 out:=λb=>((),())
 res:=λb=>b
def S_5L2 (n:Nat):LoopSpec where
 sh:= [(0,.v y0),(1,.v y0),(5,.v .int)]
 ex:= [(.exit 0,[]),(.ret,[(4,.v .bool)])]
 run:=Dh n
def C_5:Cx:=cx0 tt [] [(2,S_5L2 Aa)] 2
def B_5L2:Code:=(Tryz.f56.body.bind (Yag 2)).getD .skip
def D_5:Code:=Tryz.f56.body.getD .skip
def N_5 (_:XK E_5.params) (r:YH E_5.results):E_5.B:=r
def E_6:Entry where
 params:= [.v y0,.v y0]
 results:= [.v .bool]
 B:=Bool
 run:=λa=>FP a.1 a.2
 out:=λb=>((),())
 res:=λb=>b
def S_6L4 (n:Nat):LoopSpec where
 sh:= [(0,.v y0),(1,.v y0),(5,.v .int)]
 ex:= [(.exit 0,[]),(.ret,[(4,.v .bool)])]
 run:=Df n
def C_6:Cx:=cx0 tt [] [(4,S_6L4 Aa)] 2
def B_6L4:Code:=(Tryz.f83.body.bind (Yag 4)).getD .skip
def D_6:Code:=Tryz.f83.body.getD .skip
def N_6 (_:XK E_6.params) (r:YH E_6.results):E_6.B:=r
def E_7:Entry where
 params:= [.v y1,.v y0]
 results:= [.v .int,.v .bool]
 B:=Int×Bool
 run:=λa=>Cd a.1 a.2
 out:=λb=>((),())
 res:=λb=>(b.1,b.2)
def S_7L2 (n:Nat):LoopSpec where
 sh:= [(0,.v y1),(1,.v y0),(6,.v .int),(7,.v .int)]
 ex:= [(.exit 0,[(0,.v y1),(1,.v y0),(6,.v .int)])]
 run:=CQ n
def C_7:Cx:=cx0 tt [(56,E_5),(83,E_6)] [(2,S_7L2 Aa)] 2
def B_7L2:Code:=(Tryz.f57.body.bind (Yag 2)).getD .skip
def D_7:Code:=Tryz.f57.body.getD .skip
def N_7 (_:XK E_7.params) (r:YH E_7.results):E_7.B:=(r.1,r.2)
def E_8:Entry where
 params:= [.v y1,.v y0]
 results:= [.v y1]
 B:=(List (List Int))
 run:=λa=>D5 a.1 a.2
 out:=λb=>((),())
 res:=λb=>b
def C_8:Cx:=cx0 tt [(57,E_7)] [] 2
def D_8:Code:=Tryz.f76.body.getD .skip
def N_8 (_:XK E_8.params) (r:YH E_8.results):E_8.B:=r
def E_9:Entry where
 params:= [.bx (.v y4),.v .int]
 results:= [.v .bool]
 B:=((List Int)×Int×Int)×Bool
 run:=λa=>Ck a.1 a.2
 out:=λb=>(b.1,())
 res:=λb=>b.2
def C_9:Cx:=cx0 tt [(75,E_3)] [] 2
def D_9:Code:=Tryz.f77.body.getD .skip
def N_9 (o:XK E_9.params) (r:YH E_9.results):E_9.B:=(o.1,r)
def E_10:Entry where
 params:= [.v .int]
 results:= [.pr (.v .int) (.mv .int 0)]
 B:=(Int×(List Int))
 run:=λa=>CD a
 out:=λb=>()
 res:=λb=>b
def S_10L3 (n:Nat):LoopSpec where
 sh:= [(0,.v .int),(2,.bx (.pr (.v .int) (.mv .int 0))),(3,.bx (.pr (.v .int) (.mv .int 0))),(4,.v .int)]
 ex:= [(.exit 0,[(2,.bx (.pr (.v .int) (.mv .int 0))),(3,.bx (.pr (.v .int) (.mv .int 0)))])]
 run:=Ci n
def C_10:Cx:=cx0 tt [] [(3,S_10L3 Aa)] 1
def B_10L3:Code:=(Tryz.f35.body.bind (Yag 3)).getD .skip
def D_10:Code:=Tryz.f35.body.getD .skip
def N_10 (_:XK E_10.params) (r:YH E_10.results):E_10.B:=r
def E_11:Entry where
 params:= [.v .int,.v .int]
 results:= [.v .int]
 B:=Int
 run:=λa=>Dn a.1 a.2
 out:=λb=>((),())
 res:=λb=>b
def C_11:Cx:=cx0 tt [] [] 2
def D_11:Code:=Tryz.f79.body.getD .skip
def N_11 (_:XK E_11.params) (r:YH E_11.results):E_11.B:=r
def E_12:Entry where
 params:= [.v .int,.v .int]
 results:= [.v .int]
 B:=Int
 run:=λa=>G1 a.1 a.2
 out:=λb=>((),())
 res:=λb=>b
def C_12:Cx:=cx0 tt [] [] 2
def D_12:Code:=Tryz.f107.body.getD .skip
def N_12 (_:XK E_12.params) (r:YH E_12.results):E_12.B:=r
def E_13:Entry where
 params:= [.v y2]
 results:= [.v .int]
 B:=Int
 run:=λa=>E2 a
 out:=λb=>()
 res:=λb=>b
def S_13L3 (n:Nat):LoopSpec where
 sh:= [(1,.bx (.v y2)),(3,.v .int),(4,.v .int)]
 ex:= [(.exit 0,[(3,.v .int)])]
 run:=EV n
def C_13:Cx:=cx0 tt [(107,E_12)] [(3,S_13L3 Aa)] 1
def B_13L3:Code:=(Tryz.f92.body.bind (Yag 3)).getD .skip
def D_13:Code:=Tryz.f92.body.getD .skip
def N_13 (_:XK E_13.params) (r:YH E_13.results):E_13.B:=r
def E_14:Entry where
 params:= [.v y0]
 results:= [.mv .int 0]
 B:=(List Int)
 run:=λa=>De a
 out:=λb=>()
 res:=λb=>b
def C_14:Cx:=cx0 tt [] [] 1
def D_14:Code:=Tryz.f27.body.getD .skip
def N_14 (_:XK E_14.params) (r:YH E_14.results):E_14.B:=r
def E_15:Entry where
 params:= [.v y2,.v .int,.v y1,.v .int]
 results:= [.mv .int 0]
 B:=(List Int)
 run:=λa=>Do a.1 a.2.1 a.2.2.1 a.2.2.2
 out:=λb=>((),(),(),())
 res:=λb=>b
def S_15L7 (n:Nat):LoopSpec where
 sh:= [(1,.v .int),(2,.v y1),(3,.v .int),(4,.bx (.v y2)),(9,.mv .int 0),(10,.v .int),(11,.v .int),(12,.v .int)]
 ex:= [(.exit 2,[(1,.v .int),(2,.v y1),(3,.v .int),(4,.bx (.v y2)),(9,.mv .int 0),(10,.v .int),(11,.v .int)])]
 run:=DB n
def S_15L3 (n:Nat):LoopSpec where
 sh:= [(1,.v .int),(2,.v y1),(3,.v .int),(4,.bx (.v y2)),(9,.mv .int 0),(10,.v .int)]
 ex:= [(.exit 0,[(9,.mv .int 0)])]
 run:=Cs n
def C_15:Cx:=cx0 tt [] [(7,S_15L7 Aa),(3,S_15L3 Aa)] 4
def B_15L7:Code:=(Tryz.f93.body.bind (Yag 7)).getD .skip
def B_15L3:Code:=(Tryz.f93.body.bind (Yag 3)).getD .skip
def D_15:Code:=Tryz.f93.body.getD .skip
def N_15 (_:XK E_15.params) (r:YH E_15.results):E_15.B:=r
def E_16:Entry where
 params:= [.v y0,.v .int]
 results:= [.v .bool]
 B:=Bool
 run:=λa=>EP a.1 a.2
 out:=λb=>((),())
 res:=λb=>b
def S_16L2 (n:Nat):LoopSpec where
 sh:= [(0,.v y0),(1,.v .int),(5,.v .int)]
 ex:= [(.exit 0,[]),(.ret,[(4,.v .bool)])]
 run:=Du n
def C_16:Cx:=cx0 tt [] [(2,S_16L2 Aa)] 2
def B_16L2:Code:=(Tryz.f84.body.bind (Yag 2)).getD .skip
def D_16:Code:=Tryz.f84.body.getD .skip
def N_16 (_:XK E_16.params) (r:YH E_16.results):E_16.B:=r
def E_17:Entry where
 params:= [.v y1,.v y0]
 results:= [.mv y0 0]
 B:=(List (List Int))
 run:=λa=>K5 a.1 a.2
 out:=λb=>((),())
 res:=λb=>b
def S_17L3 (n:Nat):LoopSpec where
 sh:= [(0,.v y1),(1,.v y0),(5,.mv y0 0),(6,.v .int)]
 ex:= [(.exit 0,[(5,.mv y0 0)])]
 run:=Fm n
def C_17:Cx:=cx0 tt [] [(3,S_17L3 Aa)] 2
def B_17L3:Code:=(Tryz.f94.body.bind (Yag 3)).getD .skip
def D_17:Code:=Tryz.f94.body.getD .skip
def N_17 (_:XK E_17.params) (r:YH E_17.results):E_17.B:=r
def E_18:Entry where
 params:= [.v y0,.v .int]
 results:= [.mv .int 0,.v .bool]
 B:=(List Int)×Bool
 run:=λa=>CS a.1 a.2
 out:=λb=>((),())
 res:=λb=>(b.1,b.2)
def S_18L3 (n:Nat):LoopSpec where
 sh:= [(1,.v .int),(6,.mv .int 0),(7,.v .int)]
 ex:= [(.exit 0,[(6,.mv .int 0)]),(.ret,[(4,.mv .int 0),(5,.v .bool)])]
 run:=Di n
def C_18:Cx:=cx0 tt [(27,E_14)] [(3,S_18L3 Aa)] 2
def B_18L3:Code:=(Tryz.f95.body.bind (Yag 3)).getD .skip
def D_18:Code:=Tryz.f95.body.getD .skip
def N_18 (_:XK E_18.params) (r:YH E_18.results):E_18.B:=(r.1,r.2)
def E_19:Entry where
 params:= [.mv y0 0,.v y0]
 results:= [.mv y0 0]
 B:=(List (List Int))
 run:=λa=>CU a.1 a.2
 out:=λb=>((),())
 res:=λb=>b
def C_19:Cx where
 tt:=YaU tt
 T:=Ygp [(57,E_7)]
 L:=Ygo []
 dep:=λi=>0
 n:=2
 pre:=λi=>match i with
  |4=> [0]
  |_=> []
def D_19:Code:=Tryz.f76.body.getD .skip
def N_19 (_:XK E_19.params) (r:YH E_19.results):E_19.B:=r
def E_20:Entry where
 params:= [.io y0 0,.v y0]
 results:= [.mv y0 0]
 B:=(List (List Int))×(List (List Int))
 run:=λa=>DC a.1 a.2
 out:=λb=>(b.1,())
 res:=λb=>b.2
def S_20L3 (n:Nat):LoopSpec where
 sh:= [(0,.io y0 0),(1,.v y0),(5,.mv y0 0),(6,.v .int)]
 ex:= [(.exit 0,[(0,.io y0 0),(5,.mv y0 0)])]
 run:=Cm n
def C_20:Cx:=cx0 tt [] [(3,S_20L3 Aa)] 2
def B_20L3:Code:=(Tryz.f94.body.bind (Yag 3)).getD .skip
def D_20:Code:=Tryz.f94.body.getD .skip
def N_20 (o:XK E_20.params) (r:YH E_20.results):E_20.B:=(o.1,r)
def E_21:Entry where
 params:= [.v y2,.v .int,.v y1]
 results:= [.mv y0 0,.v .bool]
 B:=(List (List Int))×Bool
 run:=λa=>LC a.1 a.2.1 a.2.2
 out:=λb=>((),(),())
 res:=λb=>(b.1,b.2)
def S_21L4 (n:Nat):LoopSpec where
 sh:= [(1,.v .int),(2,.v y1),(3,.bx (.v y2)),(8,.mv y0 0),(9,.mv y0 0),(10,.v .int),(11,.mv y0 0),(12,.v .int)]
 ex:= [(.exit 0,[(1,.v .int),(3,.bx (.v y2)),(8,.mv y0 0),(9,.mv y0 0),(10,.v .int),(11,.mv y0 0)])]
 run:=FF n
def S_21L8 (n:Nat):LoopSpec where
 sh:= [(1,.v .int),(3,.bx (.v y2)),(8,.mv y0 0),(9,.mv y0 0),(10,.v .int),(11,.mv y0 0),(13,.v .int)]
 ex:= [(.exit 2,[(1,.v .int),(3,.bx (.v y2)),(8,.mv y0 0),(9,.mv y0 0),(10,.v .int),(11,.mv y0 0)])]
 run:=Ev n
def S_21L13 (n:Nat):LoopSpec where
 sh:= [(1,.v .int),(3,.bx (.v y2)),(8,.mv y0 0),(9,.mv y0 0),(10,.v .int),(11,.mv y0 0),(14,.v .int)]
 ex:= [(.exit 4,[(1,.v .int),(3,.bx (.v y2)),(8,.mv y0 0),(9,.mv y0 0),(10,.v .int)])]
 run:=D4 n
def S_21L26 (n:Nat):LoopSpec where
 sh:= [(1,.v .int),(3,.bx (.v y2)),(8,.mv y0 0),(9,.mv y0 0),(10,.v .int),(17,.v .int),(18,.v .int),(19,.mv .int 0),(20,.v .bool)]
 ex:= [(.exit 10,[(1,.v .int),(3,.bx (.v y2)),(8,.mv y0 0),(9,.mv y0 0),(10,.v .int),(17,.v .int),(18,.v .int)])]
 run:=Dp n
def S_21L23 (n:Nat):LoopSpec where
 sh:= [(1,.v .int),(3,.bx (.v y2)),(8,.mv y0 0),(9,.mv y0 0),(10,.v .int),(17,.v .int),(18,.v .int)]
 ex:= [(.exit 8,[(1,.v .int),(3,.bx (.v y2)),(8,.mv y0 0),(9,.mv y0 0),(10,.v .int),(17,.v .int)])]
 run:=Fq n
def S_21L20 (n:Nat):LoopSpec where
 sh:= [(1,.v .int),(3,.bx (.v y2)),(8,.mv y0 0),(9,.mv y0 0),(10,.v .int),(17,.v .int)]
 ex:= [(.exit 6,[(8,.mv y0 0),(10,.v .int)])]
 run:=Fo n
def C_21:Cx:=cx0 tt [(27,E_14),(57,E_7),(76,E_19),(84,E_16),(92,E_13),(93,E_15),(94,E_20),(95,E_18)] [(4,S_21L4 Aa),(8,S_21L8 Aa),(13,S_21L13 Aa),(26,S_21L26 Aa),(23,S_21L23 Aa),(20,S_21L20 Aa)] 3
def B_21L4:Code:=(Tryz.f78.body.bind (Yag 4)).getD .skip
def B_21L8:Code:=(Tryz.f78.body.bind (Yag 8)).getD .skip
def B_21L13:Code:=(Tryz.f78.body.bind (Yag 13)).getD .skip
def B_21L26:Code:=(Tryz.f78.body.bind (Yag 26)).getD .skip
def B_21L23:Code:=(Tryz.f78.body.bind (Yag 23)).getD .skip
def B_21L20:Code:=(Tryz.f78.body.bind (Yag 20)).getD .skip
def D_21:Code:=Tryz.f78.body.getD .skip
def N_21 (_:XK E_21.params) (r:YH E_21.results):E_21.B:=(r.1,r.2)
def E_22:Entry where
 params:= [.v y2,.v .int,.bf y0]
 results:= [.mv y0 0,.v .bool]
 B:=(List (List Int))×(List (List Int))×Bool
 run:=λa=>Cn a.1 a.2.1 a.2.2
 out:=λb=>((),(),b.1)
 res:=λb=>(b.2.1,b.2.2)
def S_22L4 (n:Nat):LoopSpec where
 sh:= [(1,.v .int),(2,.bf y0),(3,.bx (.v y2)),(8,.mv y0 0),(9,.mv y0 0),(10,.v .int),(11,.mv y0 0),(12,.v .int)]
 ex:= [(.exit 0,[(1,.v .int),(2,.bf y0),(3,.bx (.v y2)),(8,.mv y0 0),(9,.mv y0 0),(10,.v .int),(11,.mv y0 0)])]
 run:=B4 n
def S_22L8 (n:Nat):LoopSpec where
 sh:= [(1,.v .int),(2,.bf y0),(3,.bx (.v y2)),(8,.mv y0 0),(9,.mv y0 0),(10,.v .int),(11,.mv y0 0),(13,.v .int)]
 ex:= [(.exit 2,[(1,.v .int),(2,.bf y0),(3,.bx (.v y2)),(8,.mv y0 0),(9,.mv y0 0),(10,.v .int),(11,.mv y0 0)])]
 run:=CA n
def S_22L13 (n:Nat):LoopSpec where
 sh:= [(1,.v .int),(2,.bf y0),(3,.bx (.v y2)),(8,.mv y0 0),(9,.mv y0 0),(10,.v .int),(11,.mv y0 0),(14,.v .int)]
 ex:= [(.exit 4,[(1,.v .int),(2,.bf y0),(3,.bx (.v y2)),(8,.mv y0 0),(9,.mv y0 0),(10,.v .int)])]
 run:=Bn n
def S_22L26 (n:Nat):LoopSpec where
 sh:= [(1,.v .int),(2,.bf y0),(3,.bx (.v y2)),(8,.mv y0 0),(9,.mv y0 0),(10,.v .int),(17,.v .int),(18,.v .int),(19,.mv .int 0),(20,.v .bool)]
 ex:= [(.exit 10,[(1,.v .int),(2,.bf y0),(3,.bx (.v y2)),(8,.mv y0 0),(9,.mv y0 0),(10,.v .int),(17,.v .int),(18,.v .int)])]
 run:=Aw n
def S_22L23 (n:Nat):LoopSpec where
 sh:= [(1,.v .int),(2,.bf y0),(3,.bx (.v y2)),(8,.mv y0 0),(9,.mv y0 0),(10,.v .int),(17,.v .int),(18,.v .int)]
 ex:= [(.exit 8,[(1,.v .int),(2,.bf y0),(3,.bx (.v y2)),(8,.mv y0 0),(9,.mv y0 0),(10,.v .int),(17,.v .int)])]
 run:=BR n
def S_22L20 (n:Nat):LoopSpec where
 sh:= [(1,.v .int),(2,.bf y0),(3,.bx (.v y2)),(8,.mv y0 0),(9,.mv y0 0),(10,.v .int),(17,.v .int)]
 ex:= [(.exit 6,[(2,.bf y0),(8,.mv y0 0),(10,.v .int)])]
 run:=Bg n
def C_22:Cx:=cx0 tt [(27,E_14),(57,E_7),(76,E_19),(84,E_16),(92,E_13),(93,E_15),(94,E_20),(95,E_18)] [(4,S_22L4 Aa),(8,S_22L8 Aa),(13,S_22L13 Aa),(26,S_22L26 Aa),(23,S_22L23 Aa),(20,S_22L20 Aa)] 3
def B_22L4:Code:=(Tryz.f78.body.bind (Yag 4)).getD .skip
def B_22L8:Code:=(Tryz.f78.body.bind (Yag 8)).getD .skip
def B_22L13:Code:=(Tryz.f78.body.bind (Yag 13)).getD .skip
def B_22L26:Code:=(Tryz.f78.body.bind (Yag 26)).getD .skip
def B_22L23:Code:=(Tryz.f78.body.bind (Yag 23)).getD .skip
def B_22L20:Code:=(Tryz.f78.body.bind (Yag 20)).getD .skip
def D_22:Code:=Tryz.f78.body.getD .skip
def N_22 (o:XK E_22.params) (r:YH E_22.results):E_22.B:=(o.2.2,r.1,r.2)
def E_23:Entry where
 params:= [.bx (.v y4),.v .bool]
 results:= [.v .int,.v .int,.mv y0 0]
 B:=((List Int)×Int×Int)×Int×Int×(List (List Int))
 run:=λa=>D1 a.1 a.2
 out:=λb=>(b.1,())
 res:=λb=>(b.2.1,b.2.2.1,b.2.2.2)
def S_23L10 (n:Nat):LoopSpec where
 sh:= [(0,.bx (.v y4)),(7,.v .int),(8,.v .int),(9,.mv y0 0),(10,.v .int),(11,.mv .int 0),(12,.v .int)]
 ex:= [(.exit 2,[(0,.bx (.v y4)),(7,.v .int),(8,.v .int),(9,.mv y0 0),(10,.v .int),(11,.mv .int 0)])]
 run:=By n
def S_23L6 (n:Nat):LoopSpec where
 sh:= [(0,.bx (.v y4)),(7,.v .int),(8,.v .int),(9,.mv y0 0),(10,.v .int)]
 ex:= [(.exit 0,[(0,.bx (.v y4)),(7,.v .int),(8,.v .int),(9,.mv y0 0)])]
 run:=AS n
def C_23:Cx where
 tt:=YaU tt
 T:=Ygp [(35,E_10),(74,E_4),(75,E_3),(76,E_19),(77,E_9),(78,E_22),(79,E_11)]
 L:=Ygo [(10,S_23L10 Aa),(6,S_23L6 Aa)]
 dep:=λi=>match i with
  |62=>98
  |_=>0
 n:=2
def B_23L10:Code:=(Tryz.f50.body.bind (Yag 10)).getD .skip
def B_23L6:Code:=(Tryz.f50.body.bind (Yag 6)).getD .skip
def D_23:Code:=Tryz.f50.body.getD .skip
def N_23 (o:XK E_23.params) (r:YH E_23.results):E_23.B:=(o.1,r.1,r.2.1,r.2.2)
def E_24:Entry where
 params:= [.v y9]
 results:= [.v .int,.v .int,.mv y0 0]
 B:=Int×Int×(List (List Int))
 run:=λa=>Eg a
 out:=λb=>()
 res:=λb=>(b.1,b.2.1,b.2.2)
def C_24:Cx:=cx0 tt [(50,E_23)] [] 1
def D_24:Code:=Tryz.f19.body.getD .skip
def N_24 (_:XK E_24.params) (r:YH E_24.results):E_24.B:=(r.1,r.2.1,r.2.2)
def E_25:Entry where
 params:= [.v y9]
 results:= [.v .int,.v .int,.mv y0 0]
 B:=Int×Int×(List (List Int))
 run:=λa=>Dd a
 out:=λb=>()
 res:=λb=>(b.1,b.2.1,b.2.2)
def C_25:Cx:=cx0 tt [(19,E_24)] [] 1
def D_25:Code:=Tryz.f5.body.getD .skip
def N_25 (_:XK E_25.params) (r:YH E_25.results):E_25.B:=(r.1,r.2.1,r.2.2)
def E_26:Entry where
 params:= [.v .int]
 results:= [.v .bool]
 B:=Bool
 run:=λa=>Ez a
 out:=λb=>()
 res:=λb=>b
def C_26:Cx:=cx0 tt [] [] 1
def D_26:Code:=Tryz.f28.body.getD .skip
def N_26 (_:XK E_26.params) (r:YH E_26.results):E_26.B:=r
def E_27:Entry where
 params:= [.v .int]
 results:= [.v .bool]
 B:=Bool
 run:=λa=>DI a
 out:=λb=>()
 res:=λb=>b
def C_27:Cx:=cx0 tt [] [] 1
def D_27:Code:=Tryz.f31.body.getD .skip
def N_27 (_:XK E_27.params) (r:YH E_27.results):E_27.B:=r
def E_28:Entry where
 params:= [.v y0,.v .int]
 results:= [.v .bool]
 B:=Bool
 run:=λa=>C7 a.1 a.2
 out:=λb=>((),())
 res:=λb=>b
def S_28L2 (n:Nat):LoopSpec where
 sh:= [(1,.v .int),(7,.v y0),(8,.v .int),(9,.v .int)]
 ex:= [(.exit 0,[]),(.ret,[(4,.v .bool)])]
 run:=C8 n
def C_28:Cx:=cx0 tt [] [(2,S_28L2 Aa)] 2
def B_28L2:Code:=(Tryz.f37.body.bind (Yag 2)).getD .skip
def D_28:Code:=Tryz.f37.body.getD .skip
def N_28 (_:XK E_28.params) (r:YH E_28.results):E_28.B:=r
def E_29:Entry where
 params:= [.v y0,.v y0]
 results:= [.v .int]
 B:=Int
 run:=λa=>DM a.1 a.2
 out:=λb=>((),())
 res:=λb=>b
def S_29L2 (n:Nat):LoopSpec where
 sh:= [(0,.v y0),(1,.v y0),(5,.v .int)]
 ex:= [(.exit 0,[(0,.v y0),(1,.v y0)]),(.ret,[(4,.v .int)])]
 run:=Bp n
def C_29:Cx:=cx0 tt [] [(2,S_29L2 Aa)] 2
def B_29L2:Code:=(Tryz.f47.body.bind (Yag 2)).getD .skip
def D_29:Code:=Tryz.f47.body.getD .skip
def N_29 (_:XK E_29.params) (r:YH E_29.results):E_29.B:=r
def E_30:Entry where
 params:= [.v .int,.v .int,.v y1]
 results:= [.v .bool]
 B:=Bool
 run:=λa=>Ep a.1 a.2.1 a.2.2
 out:=λb=>((),(),())
 res:=λb=>b
def S_30L4 (n:Nat):LoopSpec where
 sh:= [(0,.v .int),(1,.v .int),(2,.v y1),(20,.v y1),(21,.v .int),(22,.v .int)]
 ex:= [(.exit 0,[]),(.ret,[(6,.v .bool)])]
 run:=BQ n
def C_30:Cx:=cx0 tt [(31,E_27),(37,E_28),(47,E_29)] [(4,S_30L4 Aa)] 3
def B_30L4:Code:=(Tryz.f29.body.bind (Yag 4)).getD .skip
def D_30:Code:=Tryz.f29.body.getD .skip
def N_30 (_:XK E_30.params) (r:YH E_30.results):E_30.B:=r
def E_31:Entry where
 params:= [.v .int,.v .int]
 results:= [.v .int]
 B:=Int
 run:=λa=>B5 a.1 a.2
 out:=λb=>((),())
 res:=λb=>b
def S_31L2 (n:Nat):LoopSpec where
 sh:= [(0,.v .int),(1,.v .int),(5,.v .int)]
 ex:= [(.exit 0,[(5,.v .int)])]
 run:=Cc n
def C_31:Cx:=cx0 tt [] [(2,S_31L2 Aa)] 2
def B_31L2:Code:=(Tryz.f61.body.bind (Yag 2)).getD .skip
def D_31:Code:=Tryz.f61.body.getD .skip
def N_31 (_:XK E_31.params) (r:YH E_31.results):E_31.B:=r
def E_32:Entry where
 params:= [.v y0,.v .int]
 results:= [.v .int]
 B:=Int
 run:=λa=>Fv a.1 a.2
 out:=λb=>((),())
 res:=λb=>b
def S_32L3 (n:Nat):LoopSpec where
 sh:= [(1,.v .int),(5,.v .int),(8,.v y0),(9,.v .int),(10,.v .int)]
 ex:= [(.exit 0,[(5,.v .int)])]
 run:=CX n
def C_32:Cx:=cx0 tt [] [(3,S_32L3 Aa)] 2
def B_32L3:Code:=(Tryz.f62.body.bind (Yag 3)).getD .skip
def D_32:Code:=Tryz.f62.body.getD .skip
def N_32 (_:XK E_32.params) (r:YH E_32.results):E_32.B:=r
def E_33:Entry where
 params:= [.v .int,.v y1]
 results:= [.v .bool]
 B:=Bool
 run:=λa=>E3 a.1 a.2
 out:=λb=>((),())
 res:=λb=>b
def S_33L6 (n:Nat):LoopSpec where
 sh:= [(0,.v .int),(1,.v y1),(5,.v y0),(6,.mv .bool 0),(27,.v y1),(28,.v .int),(29,.v .int)]
 ex:= [(.exit 0,[(0,.v .int),(1,.v y1),(5,.v y0),(6,.mv .bool 0)])]
 run:=Cf n
def S_33L18 (n:Nat):LoopSpec where
 sh:= [(0,.v .int),(1,.v y1),(5,.v y0),(6,.mv .bool 0),(10,.v y0),(12,.v y0),(13,.v .int),(39,.v y1),(40,.v .int),(41,.v .int),(45,.v y1),(46,.v .int),(47,.v .int),(51,.v y0),(52,.v .int),(53,.v .int)]
 ex:= [(.exit 6,[(0,.v .int),(1,.v y1),(5,.v y0),(6,.mv .bool 0),(10,.v y0),(13,.v .int),(39,.v y1),(40,.v .int),(41,.v .int),(45,.v y1),(46,.v .int),(47,.v .int)])]
 run:=BZ n
def S_33L14 (n:Nat):LoopSpec where
 sh:= [(0,.v .int),(1,.v y1),(5,.v y0),(6,.mv .bool 0),(10,.v y0),(39,.v y1),(40,.v .int),(41,.v .int),(45,.v y1),(46,.v .int),(47,.v .int)]
 ex:= [(.exit 4,[(0,.v .int),(1,.v y1),(5,.v y0),(6,.mv .bool 0),(39,.v y1),(40,.v .int),(41,.v .int)]),(.ret,[(4,.v .bool)])]
 run:=BY n
def S_33L11 (n:Nat):LoopSpec where
 sh:= [(0,.v .int),(1,.v y1),(5,.v y0),(6,.mv .bool 0),(39,.v y1),(40,.v .int),(41,.v .int)]
 ex:= [(.exit 2,[]),(.ret,[(4,.v .bool)])]
 run:=Cy n
def C_33:Cx:=cx0 tt [(61,E_31),(62,E_32)] [(6,S_33L6 Aa),(18,S_33L18 Aa),(14,S_33L14 Aa),(11,S_33L11 Aa)] 2
def B_33L6:Code:=(Tryz.f30.body.bind (Yag 6)).getD .skip
def B_33L18:Code:=(Tryz.f30.body.bind (Yag 18)).getD .skip
def B_33L14:Code:=(Tryz.f30.body.bind (Yag 14)).getD .skip
def B_33L11:Code:=(Tryz.f30.body.bind (Yag 11)).getD .skip
def D_33:Code:=Tryz.f30.body.getD .skip
def N_33 (_:XK E_33.params) (r:YH E_33.results):E_33.B:=r
def E_34:Entry where
 params:= [.v .int,.v .int,.v y1]
 results:= [.v .bool,.v .bool]
 B:=Bool×Bool
 run:=λa=>Dk a.1 a.2.1 a.2.2
 out:=λb=>((),(),())
 res:=λb=>(b.1,b.2)
def C_34:Cx:=cx0 tt [(28,E_26),(29,E_30),(30,E_33)] [] 3
def D_34:Code:=Tryz.f9.body.getD .skip
def N_34 (_:XK E_34.params) (r:YH E_34.results):E_34.B:=(r.1,r.2)
def E_35:Entry where
 params:= [.v y0]
 results:= [.mv .int 0]
 B:=(List Int)
 run:=λa=>CT a
 out:=λb=>()
 res:=λb=>b
def C_35:Cx:=cx0 tt [] [] 1
def D_35:Code:=Tryz.f73.body.getD .skip
def N_35 (_:XK E_35.params) (r:YH E_35.results):E_35.B:=r
def E_36:Entry where
 params:= [.v y1]
 results:= [.mv y0 1]
 B:=(List (List Int))
 run:=λa=>BT a
 out:=λb=>()
 res:=λb=>b
def S_36L3 (n:Nat):LoopSpec where
 sh:= [(3,.mv y0 1),(7,.v y1),(8,.v .int),(9,.v .int)]
 ex:= [(.exit 0,[(3,.mv y0 1)])]
 run:=BW n
def C_36:Cx where
 tt:=YaU tt
 T:=Ygp [(73,E_35)]
 L:=Ygo [(3,S_36L3 Aa)]
 dep:=λi=>match i with
  |6=>1
  |16=>1
  |17=>1
  |_=>0
 n:=1
def B_36L3:Code:=(Tryz.f72.body.bind (Yag 3)).getD .skip
def D_36:Code:=Tryz.f72.body.getD .skip
def N_36 (_:XK E_36.params) (r:YH E_36.results):E_36.B:=r
def E_37:Entry where
 params:= [.v .int]
 results:= [.mv .int 0]
 B:=(List Int)
 run:=λa=>C6 a
 out:=λb=>()
 res:=λb=>b
def S_37L3 (n:Nat):LoopSpec where
 sh:= [(3,.mv .int 0),(8,.v .int),(9,.v .int)]
 ex:= [(.exit 0,[(3,.mv .int 0)])]
 run:=BX n
def C_37:Cx:=cx0 tt [] [(3,S_37L3 Aa)] 1
def B_37L3:Code:=(Tryz.f80.body.bind (Yag 3)).getD .skip
def D_37:Code:=Tryz.f80.body.getD .skip
def N_37 (_:XK E_37.params) (r:YH E_37.results):E_37.B:=r
def E_38:Entry where
 params:= [.v .int,.v .int]
 results:= [.v .int]
 B:=Int
 run:=λa=>Da a.1 a.2
 out:=λb=>((),())
 res:=λb=>b
def S_38L2 (n:Nat):LoopSpec where
 sh:= [(0,.v .int),(1,.v .int),(5,.v .int)]
 ex:= [(.exit 0,[]),(.ret,[(4,.v .int)])]
 run:=EX n
def C_38:Cx:=cx0 tt [] [(2,S_38L2 Aa)] 2
def B_38L2:Code:=(Tryz.f81.body.bind (Yag 2)).getD .skip
def D_38:Code:=Tryz.f81.body.getD .skip
def N_38 (_:XK E_38.params) (r:YH E_38.results):E_38.B:=r
def E_39:Entry where
 params:= [.v .int,.v .int,.v y1]
 results:= [.v (.ptr y3)]
 B:=(Bool×Int×Int×(List (List Int))×Int×(List Int))
 run:=λa=>CI a.1 a.2.1 a.2.2
 out:=λb=>((),(),())
 res:=λb=>b
def S_39L6 (n:Nat):LoopSpec where
 sh:= [(0,.v .int),(1,.v .int),(7,.bx (.pr (.v .int) (.pr (.v .int) (.pr (.mv y0 1) (.pr (.v .int) (.mv .int 0)))))),(8,.v .int),(9,.v .int)]
 ex:= [(.exit 2,[(0,.v .int),(1,.v .int),(7,.bx (.pr (.v .int) (.pr (.v .int) (.pr (.mv y0 1) (.pr (.v .int) (.mv .int 0)))))),(8,.v .int),(9,.v .int)])]
 run:=Bh n
def S_39L14 (n:Nat):LoopSpec where
 sh:= [(12885426186,.v .int),(0,.v .int),(1,.v .int),(7,.bx (.pr (.v .int) (.pr (.v .int) (.pr (.mv y0 1) (.pr (.v .int) (.mv .int 0)))))),(8,.v .int),(11,.v .int),(110,.v .int),(111,.v .int)]
 ex:= [(.exit 4,[(12885426186,.v .int),(0,.v .int),(1,.v .int),(7,.bx (.pr (.v .int) (.pr (.v .int) (.pr (.mv y0 1) (.pr (.v .int) (.mv .int 0)))))),(8,.v .int)])]
 run:=Bc n
def S_39L24 (n:Nat):LoopSpec where
 sh:= [(12885426186,.v .int),(12885426190,.v .int),(12885426305,.jk 1),(0,.v .int),(1,.v .int),(7,.bx (.pr (.v .int) (.pr (.v .int) (.pr (.mv y0 1) (.pr (.v .int) (.mv .int 0)))))),(8,.v .int),(15,.v .int),(130,.v .int),(131,.v .int),(151,.v .int),(152,.v .int)]
 ex:= [(.exit 8,[(12885426186,.v .int),(12885426305,.jk 1),(0,.v .int),(1,.v .int),(7,.bx (.pr (.v .int) (.pr (.v .int) (.pr (.mv y0 1) (.pr (.v .int) (.mv .int 0)))))),(8,.v .int),(130,.v .int),(131,.v .int)])]
 run:=Bd n
def S_39L19 (n:Nat):LoopSpec where
 sh:= [(12885426186,.v .int),(12885426305,.jk 1),(0,.v .int),(1,.v .int),(7,.bx (.pr (.v .int) (.pr (.v .int) (.pr (.mv y0 1) (.pr (.v .int) (.mv .int 0)))))),(8,.v .int),(130,.v .int),(131,.v .int)]
 ex:= [(.exit 6,[(0,.v .int),(1,.v .int),(7,.bx (.pr (.v .int) (.pr (.v .int) (.pr (.mv y0 1) (.pr (.v .int) (.mv .int 0)))))),(8,.v .int)])]
 run:=AN n
def S_39L3 (n:Nat):LoopSpec where
 sh:= [(0,.v .int),(1,.v .int),(7,.bx (.pr (.v .int) (.pr (.v .int) (.pr (.mv y0 1) (.pr (.v .int) (.mv .int 0)))))),(8,.v .int)]
 ex:= [(.exit 0,[(7,.bx (.pr (.v .int) (.pr (.v .int) (.pr (.mv y0 1) (.pr (.v .int) (.mv .int 0))))))])]
 run:=AW n
def C_39:Cx where
 tt:=YaU tt
 T:=Ygp [(72,E_36),(80,E_37),(81,E_38)]
 L:=Ygo [(6,S_39L6 Aa),(14,S_39L14 Aa),(24,S_39L24 Aa),(19,S_39L19 Aa),(3,S_39L3 Aa)]
 dep:=λi=>match i with
  |69=>99
  |_=>0
 n:=3
def B_39L6:Code:=(Tryz.f51.body.bind (Yag 6)).getD .skip
def B_39L14:Code:=(Tryz.f51.body.bind (Yag 14)).getD .skip
def B_39L24:Code:=(Tryz.f51.body.bind (Yag 24)).getD .skip
def B_39L19:Code:=(Tryz.f51.body.bind (Yag 19)).getD .skip
def B_39L3:Code:=(Tryz.f51.body.bind (Yag 3)).getD .skip
def D_39:Code:=Tryz.f51.body.getD .skip
def N_39 (_:XK E_39.params) (r:YH E_39.results):E_39.B:=r
def E_40:Entry where
 params:= [.bx (.pr (.v .int) (.pr (.v .int) (.pr (.mv y0 1) (.pr (.v .int) (.mv .int 0)))))]
 results:= [.mv .int 0]
 B:=(Int×(Int×((List (List Int))×(Int×(List Int)))))×(List Int)
 run:=λa=>AY a
 out:=λb=>b.1
 res:=λb=>b.2
def S_40L3 (n:Nat):LoopSpec where
 sh:= [(21474902026,.jk 1),(0,.bx (.pr (.v .int) (.pr (.v .int) (.pr (.mv y0 1) (.pr (.v .int) (.mv .int 0)))))),(3,.mv .int 0),(11,.v .int),(12,.v .int)]
 ex:= [(.exit 0,[(0,.bx (.pr (.v .int) (.pr (.v .int) (.pr (.mv y0 1) (.pr (.v .int) (.mv .int 0)))))),(3,.mv .int 0)])]
 run:=Az n
def C_40:Cx:=cx0 tt [] [(3,S_40L3 Aa)] 1
def B_40L3:Code:=(Tryz.f43.body.bind (Yag 3)).getD .skip
def D_40:Code:=Tryz.f43.body.getD .skip
def N_40 (o:XK E_40.params) (r:YH E_40.results):E_40.B:=(o,r)
def E_41:Entry where
 params:= [.bx (.pr (.v .int) (.pr (.v .int) (.pr (.mv y0 1) (.pr (.v .int) (.mv .int 0))))),.v y0]
 results:= [.mv .int 0]
 B:=(Int×(Int×((List (List Int))×(Int×(List Int)))))×(List Int)
 run:=λa=>BS a.1 a.2
 out:=λb=>(b.1,())
 res:=λb=>b.2
def S_41L4 (n:Nat):LoopSpec where
 sh:= [(458773,.jk 1),(0,.bx (.pr (.v .int) (.pr (.v .int) (.pr (.mv y0 1) (.pr (.v .int) (.mv .int 0)))))),(1,.v y0),(5,.mv .int 0),(6,.mv .int 0),(22,.v .int),(23,.v .int)]
 ex:= [(.exit 0,[(0,.bx (.pr (.v .int) (.pr (.v .int) (.pr (.mv y0 1) (.pr (.v .int) (.mv .int 0)))))),(1,.v y0),(5,.mv .int 0),(6,.mv .int 0)])]
 run:=AP n
def S_41L14 (n:Nat):LoopSpec where
 sh:= [(21474902055,.jk 1),(458813,.jk 1),(0,.bx (.pr (.v .int) (.pr (.v .int) (.pr (.mv y0 1) (.pr (.v .int) (.mv .int 0)))))),(1,.v y0),(5,.mv .int 0),(6,.mv .int 0),(9,.v .int),(10,.v .int),(11,.v .int),(40,.v .int),(41,.v .int),(62,.v .int),(63,.v .int)]
 ex:= [(.exit 4,[(21474902055,.jk 1),(0,.bx (.pr (.v .int) (.pr (.v .int) (.pr (.mv y0 1) (.pr (.v .int) (.mv .int 0)))))),(1,.v y0),(5,.mv .int 0),(6,.mv .int 0),(9,.v .int),(11,.v .int),(40,.v .int),(41,.v .int)])]
 run:=AM n
def S_41L9 (n:Nat):LoopSpec where
 sh:= [(21474902055,.jk 1),(0,.bx (.pr (.v .int) (.pr (.v .int) (.pr (.mv y0 1) (.pr (.v .int) (.mv .int 0)))))),(1,.v y0),(5,.mv .int 0),(6,.mv .int 0),(40,.v .int),(41,.v .int)]
 ex:= [(.exit 2,[(0,.bx (.pr (.v .int) (.pr (.v .int) (.pr (.mv y0 1) (.pr (.v .int) (.mv .int 0)))))),(5,.mv .int 0)])]
 run:=AA n
def C_41:Cx:=cx0 tt [(43,E_40)] [(4,S_41L4 Aa),(14,S_41L14 Aa),(9,S_41L9 Aa)] 2
def B_41L4:Code:=(Tryz.f44.body.bind (Yag 4)).getD .skip
def B_41L14:Code:=(Tryz.f44.body.bind (Yag 14)).getD .skip
def B_41L9:Code:=(Tryz.f44.body.bind (Yag 9)).getD .skip
def D_41:Code:=Tryz.f44.body.getD .skip
def N_41 (o:XK E_41.params) (r:YH E_41.results):E_41.B:=(o.1,r)
def E_42:Entry where
 params:= [.bx (.pr (.v .int) (.pr (.v .int) (.pr (.mv y0 1) (.pr (.v .int) (.mv .int 0)))))]
 results:= [.mv y0 1]
 B:=(Int×(Int×((List (List Int))×(Int×(List Int)))))×(List (List Int))
 run:=λa=>Cb a
 out:=λb=>b.1
 res:=λb=>b.2
def S_42L2 (n:Nat):LoopSpec where
 sh:= [(12884967436,.jk 1),(0,.bx (.pr (.v .int) (.pr (.v .int) (.pr (.mv y0 1) (.pr (.v .int) (.mv .int 0)))))),(13,.v .int),(14,.v .int)]
 ex:= [(.exit 0,[(0,.bx (.pr (.v .int) (.pr (.v .int) (.pr (.mv y0 1) (.pr (.v .int) (.mv .int 0))))))])]
 run:=AL n
def S_42L9 (n:Nat):LoopSpec where
 sh:= [(0,.bx (.pr (.v .int) (.pr (.v .int) (.pr (.mv y0 1) (.pr (.v .int) (.mv .int 0)))))),(5,.mv y0 1),(6,.mv .int 0),(29,.v .int),(30,.v .int)]
 ex:= [(.exit 2,[(0,.bx (.pr (.v .int) (.pr (.v .int) (.pr (.mv y0 1) (.pr (.v .int) (.mv .int 0)))))),(5,.mv y0 1)])]
 run:=AX n
def C_42:Cx where
 tt:=YaU tt
 T:=Ygp [(43,E_40),(44,E_41)]
 L:=Ygo [(2,S_42L2 Aa),(9,S_42L9 Aa)]
 dep:=λi=>match i with
  |25=>1
  |43=>1
  |44=>1
  |_=>0
 n:=1
def B_42L2:Code:=(Tryz.f52.body.bind (Yag 2)).getD .skip
def B_42L9:Code:=(Tryz.f52.body.bind (Yag 9)).getD .skip
def D_42:Code:=Tryz.f52.body.getD .skip
def N_42 (o:XK E_42.params) (r:YH E_42.results):E_42.B:=(o,r)
def E_43:Entry where
 params:= [.v .int,.v .int,.v y1]
 results:= [.bx (.pr (.v .int) (.pr (.v .int) (.pr (.mv y0 1) (.pr (.v .int) (.mv .int 0)))))]
 B:=(Int×(Int×((List (List Int))×(Int×(List Int)))))
 run:=λa=>Ce a.1 a.2.1 a.2.2
 out:=λb=>((),(),())
 res:=λb=>b
def S_43L6 (n:Nat):LoopSpec where
 sh:= [(0,.v .int),(1,.v .int),(7,.bx (.pr (.v .int) (.pr (.v .int) (.pr (.mv y0 1) (.pr (.v .int) (.mv .int 0)))))),(8,.v .int),(9,.v .int)]
 ex:= [(.exit 2,[(0,.v .int),(1,.v .int),(7,.bx (.pr (.v .int) (.pr (.v .int) (.pr (.mv y0 1) (.pr (.v .int) (.mv .int 0)))))),(8,.v .int),(9,.v .int)])]
 run:=CF n
def S_43L14 (n:Nat):LoopSpec where
 sh:= [(12885426186,.v .int),(0,.v .int),(1,.v .int),(7,.bx (.pr (.v .int) (.pr (.v .int) (.pr (.mv y0 1) (.pr (.v .int) (.mv .int 0)))))),(8,.v .int),(11,.v .int),(110,.v .int),(111,.v .int)]
 ex:= [(.exit 4,[(12885426186,.v .int),(0,.v .int),(1,.v .int),(7,.bx (.pr (.v .int) (.pr (.v .int) (.pr (.mv y0 1) (.pr (.v .int) (.mv .int 0)))))),(8,.v .int)])]
 run:=Cv n
def S_43L24 (n:Nat):LoopSpec where
 sh:= [(12885426186,.v .int),(12885426190,.v .int),(12885426305,.jk 1),(0,.v .int),(1,.v .int),(7,.bx (.pr (.v .int) (.pr (.v .int) (.pr (.mv y0 1) (.pr (.v .int) (.mv .int 0)))))),(8,.v .int),(15,.v .int),(130,.v .int),(131,.v .int),(151,.v .int),(152,.v .int)]
 ex:= [(.exit 8,[(12885426186,.v .int),(12885426305,.jk 1),(0,.v .int),(1,.v .int),(7,.bx (.pr (.v .int) (.pr (.v .int) (.pr (.mv y0 1) (.pr (.v .int) (.mv .int 0)))))),(8,.v .int),(130,.v .int),(131,.v .int)])]
 run:=Cw n
def S_43L19 (n:Nat):LoopSpec where
 sh:= [(12885426186,.v .int),(12885426305,.jk 1),(0,.v .int),(1,.v .int),(7,.bx (.pr (.v .int) (.pr (.v .int) (.pr (.mv y0 1) (.pr (.v .int) (.mv .int 0)))))),(8,.v .int),(130,.v .int),(131,.v .int)]
 ex:= [(.exit 6,[(0,.v .int),(1,.v .int),(7,.bx (.pr (.v .int) (.pr (.v .int) (.pr (.mv y0 1) (.pr (.v .int) (.mv .int 0)))))),(8,.v .int)])]
 run:=Bq n
def S_43L3 (n:Nat):LoopSpec where
 sh:= [(0,.v .int),(1,.v .int),(7,.bx (.pr (.v .int) (.pr (.v .int) (.pr (.mv y0 1) (.pr (.v .int) (.mv .int 0)))))),(8,.v .int)]
 ex:= [(.exit 0,[(7,.bx (.pr (.v .int) (.pr (.v .int) (.pr (.mv y0 1) (.pr (.v .int) (.mv .int 0))))))])]
 run:=B8 n
def C_43:Cx where
 tt:=YaU tt
 T:=Ygp [(72,E_36),(80,E_37),(81,E_38)]
 L:=Ygo [(6,S_43L6 Aa),(14,S_43L14 Aa),(24,S_43L24 Aa),(19,S_43L19 Aa),(3,S_43L3 Aa)]
 dep:=λi=>match i with
  |69=>99
  |_=>0
 n:=3
def B_43L6:Code:=(Tryz.f51.body.bind (Yag 6)).getD .skip
def B_43L14:Code:=(Tryz.f51.body.bind (Yag 14)).getD .skip
def B_43L24:Code:=(Tryz.f51.body.bind (Yag 24)).getD .skip
def B_43L19:Code:=(Tryz.f51.body.bind (Yag 19)).getD .skip
def B_43L3:Code:=(Tryz.f51.body.bind (Yag 3)).getD .skip
def D_43:Code:=Tryz.f51.body.getD .skip
def N_43 (_:XK E_43.params) (r:YH E_43.results):E_43.B:=r
def E_44:Entry where
 params:= [.bx (.pr (.v .int) (.pr (.v .int) (.pr (.v y1) (.pr (.v .int) (.v y0)))))]
 results:= [.pr (.v .int) (.pr (.v .int) (.mv y0 1))]
 B:=(Int×(Int×((List (List Int))×(Int×(List Int)))))×(Int×(Int×(List (List Int))))
 run:=λa=>Dz a
 out:=λb=>b.1
 res:=λb=>b.2
def S_44L3 (n:Nat):LoopSpec where
 sh:= [(0,.bx (.v y3)),(2,.bx (.pr (.v .int) (.pr (.v .int) (.mv y0 1)))),(3,.bx (.pr (.v .int) (.pr (.v .int) (.mv y0 1)))),(33,.v y1),(34,.v .int),(35,.v .int)]
 ex:= [(.exit 0,[(0,.bx (.v y3)),(2,.bx (.pr (.v .int) (.pr (.v .int) (.mv y0 1)))),(3,.bx (.pr (.v .int) (.pr (.v .int) (.mv y0 1))))])]
 run:=Bl n
def C_44:Cx where
 tt:=YaU tt
 T:=Ygp [(72,E_36),(73,E_35)]
 L:=Ygo [(3,S_44L3 Aa)]
 dep:=λi=>match i with
  |51=>1
  |52=>1
  |_=>0
 n:=1
def B_44L3:Code:=(Tryz.f49.body.bind (Yag 3)).getD .skip
def D_44:Code:=Tryz.f49.body.getD .skip
def N_44 (o:XK E_44.params) (r:YH E_44.results):E_44.B:=(o,r)
def E_45:Entry where
 params:= [.v .int,.v .int,.v y1]
 results:= [.pr (.v .int) (.pr (.v .int) (.mv y0 1))]
 B:=(Int×(Int×(List (List Int))))
 run:=λa=>DY a.1 a.2.1 a.2.2
 out:=λb=>((),(),())
 res:=λb=>b
def S_45L8 (n:Nat):LoopSpec where
 sh:= [(0,.v .int),(1,.v .int),(6,.bx (.pr (.v .int) (.pr (.v .int) (.mv y0 1)))),(7,.v y0),(8,.mv y0 1),(11,.mv .int 0),(24,.v y1),(25,.v .int),(26,.v .int),(33,.v y0),(34,.v .int),(35,.v .int)]
 ex:= [(.exit 2,[(0,.v .int),(1,.v .int),(6,.bx (.pr (.v .int) (.pr (.v .int) (.mv y0 1)))),(7,.v y0),(8,.mv y0 1),(11,.mv .int 0),(24,.v y1),(25,.v .int),(26,.v .int)])]
 run:=BG n
def S_45L4 (n:Nat):LoopSpec where
 sh:= [(0,.v .int),(1,.v .int),(6,.bx (.pr (.v .int) (.pr (.v .int) (.mv y0 1)))),(7,.v y0),(8,.mv y0 1),(24,.v y1),(25,.v .int),(26,.v .int)]
 ex:= [(.exit 0,[(0,.v .int),(1,.v .int),(6,.bx (.pr (.v .int) (.pr (.v .int) (.mv y0 1)))),(7,.v y0),(8,.mv y0 1)])]
 run:=BF n
def S_45L20 (n:Nat):LoopSpec where
 sh:= [(1114182,.jk 1),(0,.v .int),(1,.v .int),(6,.bx (.pr (.v .int) (.pr (.v .int) (.mv y0 1)))),(7,.v y0),(14,.mv y0 1),(16,.mv .int 0),(17,.v .int),(64,.gs y0 1),(65,.v .int),(66,.v .int),(71,.v .int),(72,.v .int)]
 ex:= [(.exit 6,[(0,.v .int),(1,.v .int),(6,.bx (.pr (.v .int) (.pr (.v .int) (.mv y0 1)))),(7,.v y0),(14,.mv y0 1),(16,.mv .int 0),(17,.v .int),(64,.gs y0 1),(65,.v .int),(66,.v .int)])]
 run:=Bt n
def S_45L16 (n:Nat):LoopSpec where
 sh:= [(0,.v .int),(1,.v .int),(6,.bx (.pr (.v .int) (.pr (.v .int) (.mv y0 1)))),(7,.v y0),(14,.mv y0 1),(64,.gs y0 1),(65,.v .int),(66,.v .int)]
 ex:= [(.exit 4,[(0,.v .int),(1,.v .int),(6,.bx (.pr (.v .int) (.pr (.v .int) (.mv y0 1)))),(14,.mv y0 1)])]
 run:=Bs n
def C_45:Cx where
 tt:=YaU tt
 T:=Ygp [(49,E_44),(51,E_43),(52,E_42)]
 L:=Ygo [(8,S_45L8 Aa),(4,S_45L4 Aa),(20,S_45L20 Aa),(16,S_45L16 Aa)]
 dep:=λi=>match i with
  |23=>1
  |56=>1
  |57=>1
  |59=>1
  |69=>99
  |93=>1
  |94=>1
  |_=>0
 n:=3
def B_45L8:Code:=(Tryz.f20.body.bind (Yag 8)).getD .skip
def B_45L4:Code:=(Tryz.f20.body.bind (Yag 4)).getD .skip
def B_45L20:Code:=(Tryz.f20.body.bind (Yag 20)).getD .skip
def B_45L16:Code:=(Tryz.f20.body.bind (Yag 16)).getD .skip
def D_45:Code:=Tryz.f20.body.getD .skip
def N_45 (_:XK E_45.params) (r:YH E_45.results):E_45.B:=r
def E_46:Entry where
 params:= [.v .int,.v .int,.v y1]
 results:= [.pr (.v .int) (.pr (.v .int) (.mv y0 1)),.v .bool]
 B:=(Int×(Int×(List (List Int))))×Bool
 run:=λa=>Dj a.1 a.2.1 a.2.2
 out:=λb=>((),(),())
 res:=λb=>(b.1,b.2)
def C_46:Cx:=cx0 tt [(9,E_34),(20,E_45)] [] 3
def D_46:Code:=Tryz.f6.body.getD .skip
def N_46 (_:XK E_46.params) (r:YH E_46.results):E_46.B:=(r.1,r.2)
def E_47:Entry where
 params:= [.v .int]
 results:= [.v .bool]
 B:=Bool
 run:=λa=>Dw a
 out:=λb=>()
 res:=λb=>b
def C_47:Cx:=cx0 tt [] [] 1
def D_47:Code:=Tryz.f21.body.getD .skip
def N_47 (_:XK E_47.params) (r:YH E_47.results):E_47.B:=r
def E_48:Entry where
 params:= [.v .int,.v .int,.v .int]
 results:= [.v .bool]
 B:=Bool
 run:=λa=>EH a.1 a.2.1 a.2.2
 out:=λb=>((),(),())
 res:=λb=>b
def C_48:Cx:=cx0 tt [] [] 3
def D_48:Code:=Tryz.f53.body.getD .skip
def N_48 (_:XK E_48.params) (r:YH E_48.results):E_48.B:=r
def E_49:Entry where
 params:= [.v .int]
 results:= [.v .bool]
 B:=Bool
 run:=λa=>E1 a
 out:=λb=>()
 res:=λb=>b
def C_49:Cx:=cx0 tt [(53,E_48)] [] 1
def D_49:Code:=Tryz.f34.body.getD .skip
def N_49 (_:XK E_49.params) (r:YH E_49.results):E_49.B:=r
def E_50:Entry where
 params:= [.v .int,.v .int]
 results:= [.v .int]
 B:=Int
 run:=λa=>Fz a.1 a.2
 out:=λb=>((),())
 res:=λb=>b
def S_50L2 (n:Nat):LoopSpec where
 sh:= [(0,.v .int),(1,.v .int),(5,.v .int)]
 ex:= [(.exit 0,[(5,.v .int)])]
 run:=Eb n
def C_50:Cx:=cx0 tt [] [(2,S_50L2 Aa)] 2
def B_50L2:Code:=(Tryz.f54.body.bind (Yag 2)).getD .skip
def D_50:Code:=Tryz.f54.body.getD .skip
def N_50 (_:XK E_50.params) (r:YH E_50.results):E_50.B:=r
def E_51:Entry where
 params:= [.v .int,.v y0]
 results:= [.v .bool]
 B:=Bool
 run:=λa=>Eu a.1 a.2
 out:=λb=>((),())
 res:=λb=>b
def S_51L2 (n:Nat):LoopSpec where
 sh:= [(0,.v .int),(1,.v y0),(5,.v .int)]
 ex:= [(.exit 0,[]),(.ret,[(4,.v .bool)])]
 run:=Cl n
def C_51:Cx:=cx0 tt [(53,E_48)] [(2,S_51L2 Aa)] 2
def B_51L2:Code:=(Tryz.f82.body.bind (Yag 2)).getD .skip
def D_51:Code:=Tryz.f82.body.getD .skip
def N_51 (_:XK E_51.params) (r:YH E_51.results):E_51.B:=r
def E_52:Entry where
 params:= [.v .int,.v .int,.v y0]
 results:= [.v .bool]
 B:=Bool
 run:=λa=>ED a.1 a.2.1 a.2.2
 out:=λb=>((),(),())
 res:=λb=>b
def C_52:Cx:=cx0 tt [(82,E_51)] [] 3
def D_52:Code:=Tryz.f55.body.getD .skip
def N_52 (_:XK E_52.params) (r:YH E_52.results):E_52.B:=r
def E_53:Entry where
 params:= [.v .int,.v .int,.v y1]
 results:= [.v .bool]
 B:=Bool
 run:=λa=>E0 a.1 a.2.1 a.2.2
 out:=λb=>((),(),())
 res:=λb=>b
def S_53L4 (n:Nat):LoopSpec where
 sh:= [(0,.v .int),(1,.v .int),(2,.v y1),(7,.v .int)]
 ex:= [(.exit 0,[]),(.ret,[(6,.v .bool)])]
 run:=CP n
def C_53:Cx:=cx0 tt [(34,E_49),(53,E_48),(54,E_50),(55,E_52),(56,E_5)] [(4,S_53L4 Aa)] 3
def B_53L4:Code:=(Tryz.f22.body.bind (Yag 4)).getD .skip
def D_53:Code:=Tryz.f22.body.getD .skip
def N_53 (_:XK E_53.params) (r:YH E_53.results):E_53.B:=r
def E_54:Entry where
 params:= [.v .int,.v y0,.v y0,.v .int]
 results:= [.mv .int 0]
 B:=(List Int)
 run:=λa=>Bk a.1 a.2.1 a.2.2.1 a.2.2.2
 out:=λb=>((),(),(),())
 res:=λb=>b
def S_54L3 (n:Nat):LoopSpec where
 sh:= [(0,.v .int),(1,.v y0),(2,.v y0),(3,.v .int),(9,.mv .int 0),(10,.v .int)]
 ex:= [(.exit 0,[(9,.mv .int 0)])]
 run:=AE n
def C_54:Cx:=cx0 tt [] [(3,S_54L3 Aa)] 4
def B_54L3:Code:=(Tryz.f25.body.bind (Yag 3)).getD .skip
def D_54:Code:=Tryz.f25.body.getD .skip
def N_54 (_:XK E_54.params) (r:YH E_54.results):E_54.B:=r
def E_55:Entry where
 params:= [.v .int,.v y1]
 results:= [.v .bool]
 B:=Bool
 run:=λa=>DQ a.1 a.2
 out:=λb=>((),())
 res:=λb=>b
def S_55L9 (n:Nat):LoopSpec where
 sh:= [(0,.v .int),(1,.v y1),(5,.v .int),(6,.v .int),(7,.mv .int 0),(8,.v .int)]
 ex:= [(.exit 4,[(0,.v .int),(1,.v y1),(5,.v .int),(6,.v .int),(7,.mv .int 0)])]
 run:=B1 n
def S_55L5 (n:Nat):LoopSpec where
 sh:= [(0,.v .int),(1,.v y1),(5,.v .int),(6,.v .int)]
 ex:= [(.exit 2,[(0,.v .int),(1,.v y1),(5,.v .int)]),(.ret,[(4,.v .bool)])]
 run:=B0 n
def S_55L2 (n:Nat):LoopSpec where
 sh:= [(0,.v .int),(1,.v y1),(5,.v .int)]
 ex:= [(.exit 0,[]),(.ret,[(4,.v .bool)])]
 run:=Bi n
def C_55:Cx:=cx0 tt [(25,E_54),(57,E_7)] [(9,S_55L9 Aa),(5,S_55L5 Aa),(2,S_55L2 Aa)] 2
def B_55L9:Code:=(Tryz.f23.body.bind (Yag 9)).getD .skip
def B_55L5:Code:=(Tryz.f23.body.bind (Yag 5)).getD .skip
def B_55L2:Code:=(Tryz.f23.body.bind (Yag 2)).getD .skip
def D_55:Code:=Tryz.f23.body.getD .skip
def N_55 (_:XK E_55.params) (r:YH E_55.results):E_55.B:=r
def E_56:Entry where
 params:= [.v .int,.v .int]
 results:= [.v .int]
 B:=Int
 run:=λa=>Et a.1 a.2
 out:=λb=>((),())
 res:=λb=>b
def S_56L2 (n:Nat):LoopSpec where
 sh:= [(0,.v .int),(1,.v .int),(5,.v .int)]
 ex:= [(.exit 0,[(5,.v .int)])]
 run:=ER n
def C_56:Cx:=cx0 tt [] [(2,S_56L2 Aa)] 2
def B_56L2:Code:=(Tryz.f59.body.bind (Yag 2)).getD .skip
def D_56:Code:=Tryz.f59.body.getD .skip
def N_56 (_:XK E_56.params) (r:YH E_56.results):E_56.B:=r
def E_57:Entry where
 params:= [.v .int,.v y0,.v .int]
 results:= [.mv .int 0]
 B:=(List Int)
 run:=λa=>E6 a.1 a.2.1 a.2.2
 out:=λb=>((),(),())
 res:=λb=>b
def S_57L3 (n:Nat):LoopSpec where
 sh:= [(0,.v .int),(1,.v y0),(2,.v .int),(7,.mv .int 0),(8,.v .int)]
 ex:= [(.exit 0,[(7,.mv .int 0)])]
 run:=Cg n
def C_57:Cx:=cx0 tt [] [(3,S_57L3 Aa)] 3
def B_57L3:Code:=(Tryz.f58.body.bind (Yag 3)).getD .skip
def D_57:Code:=Tryz.f58.body.getD .skip
def N_57 (_:XK E_57.params) (r:YH E_57.results):E_57.B:=r
def E_58:Entry where
 params:= [.v .int,.v .int,.v y1]
 results:= [.pr (.mv y0 0) (.pr (.mv .int 0) (.v y1))]
 B:=((List (List Int))×((List Int)×(List (List Int))))
 run:=λa=>Bj a.1 a.2.1 a.2.2
 out:=λb=>((),(),())
 res:=λb=>b
def S_58L3 (n:Nat):LoopSpec where
 sh:= [(0,.v .int),(1,.v .int),(2,.v y1),(6,.bx (.pr (.mv y0 0) (.pr (.mv .int 0) (.mv y0 0)))),(7,.bx (.pr (.mv y0 0) (.pr (.mv .int 0) (.mv y0 0)))),(8,.v .int)]
 ex:= [(.exit 0,[(0,.v .int),(1,.v .int),(6,.bx (.pr (.mv y0 0) (.pr (.mv .int 0) (.mv y0 0)))),(7,.bx (.pr (.mv y0 0) (.pr (.mv .int 0) (.mv y0 0))))])]
 run:=Bz n
def S_58L10 (n:Nat):LoopSpec where
 sh:= [(0,.v .int),(1,.v .int),(6,.bx (.pr (.mv y0 0) (.pr (.mv .int 0) (.v y1)))),(7,.bx (.pr (.mv y0 0) (.pr (.mv .int 0) (.v y1)))),(9,.v .int),(10,.v .int)]
 ex:= [(.exit 4,[(0,.v .int),(1,.v .int),(6,.bx (.pr (.mv y0 0) (.pr (.mv .int 0) (.v y1)))),(7,.bx (.pr (.mv y0 0) (.pr (.mv .int 0) (.v y1)))),(9,.v .int),(10,.v .int)])]
 run:=A8 n
def S_58L16 (n:Nat):LoopSpec where
 sh:= [(0,.v .int),(1,.v .int),(6,.bx (.pr (.mv y0 0) (.pr (.mv .int 0) (.v y1)))),(7,.bx (.pr (.mv y0 0) (.pr (.mv .int 0) (.v y1)))),(9,.v .int),(11,.mv .int 0),(12,.mv y0 0),(13,.v .int)]
 ex:= [(.exit 6,[(0,.v .int),(1,.v .int),(6,.bx (.pr (.mv y0 0) (.pr (.mv .int 0) (.v y1)))),(7,.bx (.pr (.mv y0 0) (.pr (.mv .int 0) (.v y1)))),(9,.v .int),(11,.mv .int 0),(12,.mv y0 0)])]
 run:=A9 n
def S_58L20 (n:Nat):LoopSpec where
 sh:= [(0,.v .int),(1,.v .int),(6,.bx (.pr (.mv y0 0) (.pr (.mv .int 0) (.v y1)))),(7,.bx (.pr (.mv y0 0) (.pr (.mv .int 0) (.v y1)))),(9,.v .int),(11,.mv .int 0),(12,.mv y0 0),(14,.v .int)]
 ex:= [(.exit 8,[(0,.v .int),(1,.v .int),(6,.bx (.pr (.mv y0 0) (.pr (.mv .int 0) (.v y1)))),(7,.bx (.pr (.mv y0 0) (.pr (.mv .int 0) (.v y1)))),(9,.v .int),(11,.mv .int 0),(12,.mv y0 0)])]
 run:=Ba n
def S_58L7 (n:Nat):LoopSpec where
 sh:= [(0,.v .int),(1,.v .int),(6,.bx (.pr (.mv y0 0) (.pr (.mv .int 0) (.v y1)))),(7,.bx (.pr (.mv y0 0) (.pr (.mv .int 0) (.v y1)))),(9,.v .int)]
 ex:= [(.exit 2,[(6,.bx (.pr (.mv y0 0) (.pr (.mv .int 0) (.v y1)))),(7,.bx (.pr (.mv y0 0) (.pr (.mv .int 0) (.v y1))))])]
 run:=Bf n
def C_58:Cx:=cx0 tt [(25,E_54),(27,E_14),(58,E_57),(59,E_56)] [(3,S_58L3 Aa),(10,S_58L10 Aa),(16,S_58L16 Aa),(20,S_58L20 Aa),(7,S_58L7 Aa)] 3
def B_58L3:Code:=(Tryz.f24.body.bind (Yag 3)).getD .skip
def B_58L10:Code:=(Tryz.f24.body.bind (Yag 10)).getD .skip
def B_58L16:Code:=(Tryz.f24.body.bind (Yag 16)).getD .skip
def B_58L20:Code:=(Tryz.f24.body.bind (Yag 20)).getD .skip
def B_58L7:Code:=(Tryz.f24.body.bind (Yag 7)).getD .skip
def D_58:Code:=Tryz.f24.body.getD .skip
def N_58 (_:XK E_58.params) (r:YH E_58.results):E_58.B:=r
def E_59:Entry where
 params:= [.v y7,.v .int]
 results:= [.mv .int 0]
 B:=(List Int)
 run:=λa=>EC a.1 a.2
 out:=λb=>((),())
 res:=λb=>b
def S_59L3 (n:Nat):LoopSpec where
 sh:= [(1,.v .int),(2,.bx (.v y7)),(5,.mv .int 0),(6,.v .int)]
 ex:= [(.exit 0,[(5,.mv .int 0)])]
 run:=B7 n
def C_59:Cx:=cx0 tt [(84,E_16)] [(3,S_59L3 Aa)] 2
def B_59L3:Code:=(Tryz.f60.body.bind (Yag 3)).getD .skip
def D_59:Code:=Tryz.f60.body.getD .skip
def N_59 (_:XK E_59.params) (r:YH E_59.results):E_59.B:=r
def E_60:Entry where
 params:= [.v y7,.v .int,.v .int]
 results:= [.mv y0 0]
 B:=(List (List Int))
 run:=λa=>CO a.1 a.2.1 a.2.2
 out:=λb=>((),(),())
 res:=λb=>b
def S_60L8 (n:Nat):LoopSpec where
 sh:= [(1,.v .int),(2,.v .int),(3,.bx (.v y7)),(7,.mv y0 0),(8,.mv .int 0),(9,.v .int),(10,.mv .int 0),(11,.v .int)]
 ex:= [(.exit 2,[(1,.v .int),(2,.v .int),(3,.bx (.v y7)),(7,.mv y0 0),(8,.mv .int 0),(9,.v .int),(10,.mv .int 0)])]
 run:=B3 n
def S_60L3 (n:Nat):LoopSpec where
 sh:= [(1,.v .int),(2,.v .int),(3,.bx (.v y7)),(7,.mv y0 0),(8,.mv .int 0),(9,.v .int)]
 ex:= [(.exit 0,[(7,.mv y0 0)])]
 run:=B2 n
def C_60:Cx:=cx0 tt [(60,E_59)] [(8,S_60L8 Aa),(3,S_60L3 Aa)] 3
def B_60L8:Code:=(Tryz.f26.body.bind (Yag 8)).getD .skip
def B_60L3:Code:=(Tryz.f26.body.bind (Yag 3)).getD .skip
def D_60:Code:=Tryz.f26.body.getD .skip
def N_60 (_:XK E_60.params) (r:YH E_60.results):E_60.B:=r
def E_61:Entry where
 params:= [.v .int,.v .int,.v y1]
 results:= [.pr (.v .int) (.pr (.v .int) (.mv y0 0)),.v .bool]
 B:=(Int×(Int×(List (List Int))))×Bool
 run:=λa=>Au a.1 a.2.1 a.2.2
 out:=λb=>((),(),())
 res:=λb=>(b.1,b.2)
def S_61L5 (n:Nat):LoopSpec where
 sh:= [(0,.v .int),(1,.v .int),(2,.v y1),(6,.bx (.pr (.v .int) (.pr (.v .int) (.mv y0 0)))),(8,.mv y0 0),(9,.v .int)]
 ex:= [(.exit 0,[(0,.v .int),(1,.v .int),(2,.v y1),(6,.bx (.pr (.v .int) (.pr (.v .int) (.mv y0 0)))),(8,.mv y0 0)])]
 run:=BJ n
def S_61L15 (n:Nat):LoopSpec where
 sh:= [(0,.v .int),(1,.v .int),(2,.v y1),(6,.bx (.pr (.v .int) (.pr (.v .int) (.mv y0 0)))),(10,.mv y0 0),(11,.mv y0 0),(12,.v .int),(13,.v .int),(14,.v .int)]
 ex:= [(.exit 4,[(0,.v .int),(1,.v .int),(2,.v y1),(6,.bx (.pr (.v .int) (.pr (.v .int) (.mv y0 0)))),(10,.mv y0 0),(11,.mv y0 0),(12,.v .int),(13,.v .int)])]
 run:=Bw n
def S_61L11 (n:Nat):LoopSpec where
 sh:= [(0,.v .int),(1,.v .int),(2,.v y1),(6,.bx (.pr (.v .int) (.pr (.v .int) (.mv y0 0)))),(10,.mv y0 0),(11,.mv y0 0),(12,.v .int)]
 ex:= [(.exit 2,[(0,.v .int),(1,.v .int),(6,.bx (.pr (.v .int) (.pr (.v .int) (.mv y0 0)))),(11,.mv y0 0)])]
 run:=Bv n
def C_61:Cx:=cx0 tt [(21,E_47),(22,E_53),(23,E_55),(24,E_58),(25,E_54),(26,E_60),(27,E_14)] [(5,S_61L5 Aa),(15,S_61L15 Aa),(11,S_61L11 Aa)] 3
def B_61L5:Code:=(Tryz.f7.body.bind (Yag 5)).getD .skip
def B_61L15:Code:=(Tryz.f7.body.bind (Yag 15)).getD .skip
def B_61L11:Code:=(Tryz.f7.body.bind (Yag 11)).getD .skip
def D_61:Code:=Tryz.f7.body.getD .skip
def N_61 (_:XK E_61.params) (r:YH E_61.results):E_61.B:=(r.1,r.2)
def E_62:Entry where
 params:= [.v y0,.v y0]
 results:= [.v .bool]
 B:=Bool
 run:=λa=>EO a.1 a.2
 out:=λb=>((),())
 res:=λb=>b
def S_62L4 (n:Nat):LoopSpec where
 sh:= [(0,.v y0),(1,.v y0),(5,.v .int)]
 ex:= [(.exit 0,[]),(.ret,[(4,.v .bool)])]
 run:=Dt n
def C_62:Cx:=cx0 tt [] [(4,S_62L4 Aa)] 2
def B_62L4:Code:=(Tryz.f36.body.bind (Yag 4)).getD .skip
def D_62:Code:=Tryz.f36.body.getD .skip
def N_62 (_:XK E_62.params) (r:YH E_62.results):E_62.B:=r
def E_63:Entry where
 params:= [.v y1,.v y1]
 results:= [.v .bool]
 B:=Bool
 run:=λa=>AR a.1 a.2
 out:=λb=>((),())
 res:=λb=>b
def S_63L4 (n:Nat):LoopSpec where
 sh:= [(0,.v y1),(1,.v y1),(5,.v .int)]
 ex:= [(.exit 0,[]),(.ret,[(4,.v .bool)])]
 run:=Dc n
def C_63:Cx:=cx0 tt [(36,E_62)] [(4,S_63L4 Aa)] 2
def B_63L4:Code:=(Tryz.f17.body.bind (Yag 4)).getD .skip
def D_63:Code:=Tryz.f17.body.getD .skip
def N_63 (_:XK E_63.params) (r:YH E_63.results):E_63.B:=r
def E_64:Entry where
 params:= [.v y8,.v y8]
 results:= [.v .bool]
 B:=Bool
 run:=λa=>Ai a.1 a.2
 out:=λb=>((),())
 res:=λb=>b
def C_64:Cx:=cx0 tt [(17,E_63)] [] 2
def D_64:Code:=Tryz.f8.body.getD .skip
def N_64 (_:XK E_64.params) (r:YH E_64.results):E_64.B:=r
def E_65:Entry where
 params:= [.v .int,.v .int,.v y1]
 results:= [.v .bool,.v .bool]
 B:=Bool×Bool
 run:=λa=>D0 a.1 a.2.1 a.2.2
 out:=λb=>((),(),())
 res:=λb=>(b.1,b.2)
def C_65:Cx:=cx0 tt [(21,E_47),(22,E_53),(23,E_55)] [] 3
def D_65:Code:=Tryz.f10.body.getD .skip
def N_65 (_:XK E_65.params) (r:YH E_65.results):E_65.B:=(r.1,r.2)
def E_66:Entry where
 params:= [.v .int,.v .int,.v .int,.bx (.v .int)]
 results:= [.v .int]
 B:=Int×Int
 run:=λa=>Fb a.1 a.2.1 a.2.2.1 a.2.2.2
 out:=λb=>((),(),(),b.1)
 res:=λb=>b.2
def C_66:Cx:=cx0 tt [] [] 4
def D_66:Code:=Tryz.f33.body.getD .skip
def N_66 (o:XK E_66.params) (r:YH E_66.results):E_66.B:=(o.2.2.2,r)
def E_67:Entry where
 params:= [.v .int,.bx (.v .int)]
 results:= [.pr (.v .int) (.mv .int 0)]
 cod:= [(1,.cl 33)]
 B:=Int×(Int×(List Int))
 run:=λa=>BU a.1 a.2
 out:=λb=>((),b.1)
 res:=λb=>b.2
def S_67L3 (n:Nat):LoopSpec where
 sh:= [(0,.v .int),(1,.bx (.v .int)),(4,.bx (.pr (.v .int) (.mv .int 0))),(5,.bx (.pr (.v .int) (.mv .int 0))),(6,.v .int)]
 ex:= [(.exit 0,[(1,.bx (.v .int)),(4,.bx (.pr (.v .int) (.mv .int 0))),(5,.bx (.pr (.v .int) (.mv .int 0)))])]
 run:=As n
def C_67:Cx where
 tt:=YaU tt
 T:=Ygp [(33,E_66)]
 L:=Ygo [(3,S_67L3 Aa)]
 dep:=λi=>0
 n:=2
 cod:= [(1,.cl 33)]
def B_67L3:Code:=(Tryz.f32.body.bind (Yag 3)).getD .skip
def D_67:Code:=Tryz.f32.body.getD .skip
def N_67 (o:XK E_67.params) (r:YH E_67.results):E_67.B:=(o.2,r)
def E_68:Entry where
 params:= [.v .int]
 results:= [.pr (.v .int) (.mv .int 0),.v .bool]
 B:=(Int×(List Int))×Bool
 run:=λa=>CB a
 out:=λb=>()
 res:=λb=>(b.1,b.2)
def C_68:Cx:=cx0 tt [(31,E_27),(2228256,E_67)] [] 1
def D_68:Code:=Tryz.f11.body.getD .skip
def N_68 (_:XK E_68.params) (r:YH E_68.results):E_68.B:=(r.1,r.2)
def E_69:Entry where
 params:= [.v .int]
 results:= [.pr (.v .int) (.mv .int 0),.v .bool]
 B:=(Int×(List Int))×Bool
 run:=λa=>CC a
 out:=λb=>()
 res:=λb=>(b.1,b.2)
def C_69:Cx:=cx0 tt [(34,E_49),(35,E_10)] [] 1
def D_69:Code:=Tryz.f12.body.getD .skip
def N_69 (_:XK E_69.params) (r:YH E_69.results):E_69.B:=(r.1,r.2)
def E_70:Entry where
 params:= [.v y6,.v y6]
 results:= [.v .bool]
 B:=Bool
 run:=λa=>Fg a.1 a.2
 out:=λb=>((),())
 res:=λb=>b
def C_70:Cx:=cx0 tt [(36,E_62)] [] 2
def D_70:Code:=Tryz.f13.body.getD .skip
def N_70 (_:XK E_70.params) (r:YH E_70.results):E_70.B:=r
def E_71:Entry where
 params:= [.io y0 1,.v (.fn 47)]
 results:= []
 B:=List (List Int)
 run:=λa=>An a.1 a.2
 out:=λb=>(b,())
 res:=λb=>()
def D_71:Code:=Tryz.f46.body.getD .skip
def E_72:Entry where
 params:= [.v y1]
 results:= [.mv y0 1]
 B:=(List (List Int))
 run:=λa=>DO a
 out:=λb=>()
 res:=λb=>b
def C_72:Cx:=cx0 tt [(72,E_36),(3145774,E_71)] [] 1
def D_72:Code:=Tryz.f64.body.getD .skip
def N_72 (_:XK E_72.params) (r:YH E_72.results):E_72.B:=r
def E_73:Entry where
 params:= [.v y0,.v y0]
 results:= [.v .bool]
 B:=Bool
 run:=λa=>K4 a.1 a.2
 out:=λb=>((),())
 res:=λb=>b
def S_73L4 (n:Nat):LoopSpec where
 sh:= [(1,.v y0),(12,.v y0),(13,.v .int),(14,.v .int)]
 ex:= [(.exit 0,[]),(.ret,[(4,.v .bool)])]
 run:=Ff n
def C_73:Cx:=cx0 tt [] [(4,S_73L4 Aa)] 2
def B_73L4:Code:=(Tryz.f85.body.bind (Yag 4)).getD .skip
def D_73:Code:=Tryz.f85.body.getD .skip
def N_73 (_:XK E_73.params) (r:YH E_73.results):E_73.B:=r
def E_74:Entry where
 params:= [.mv y0 1]
 results:= [.mv y0 1]
 B:=List (List Int)
 run:=λa=>EM a
 out:=λb=>()
 res:=λb=>b
def D_74:Code:=Tryz.f63.body.getD .skip
def E_75:Entry where
 params:= [.v .int,.v y1]
 results:= [.pr (.v .int) (.mv y0 1)]
 B:=(Int×(List (List Int)))
 run:=λa=>DN a.1 a.2
 out:=λb=>((),())
 res:=λb=>b
def C_75:Cx:=cx0 tt [(63,E_74),(64,E_72)] [] 2
def D_75:Code:=Tryz.f38.body.getD .skip
def N_75 (_:XK E_75.params) (r:YH E_75.results):E_75.B:=r
def E_76:Entry where
 params:= [.v .int,.v .int,.v y1]
 results:= [.v y5,.v .bool]
 B:=(Int×(List (List Int)))×Bool
 run:=λa=>Cq a.1 a.2.1 a.2.2
 out:=λb=>((),(),())
 res:=λb=>(b.1,b.2)
def S_76L4 (n:Nat):LoopSpec where
 sh:= [(0,.v .int),(1,.v .int),(2,.v y1),(6,.bx (.pr (.v .int) (.mv y0 1))),(27,.v y1),(28,.v .int),(29,.v .int)]
 ex:= [(.exit 0,[(1,.v .int),(2,.v y1),(6,.bx (.pr (.v .int) (.mv y0 1)))]),(.ret,[(6,.bx (.v y5)),(7,.v .bool)])]
 run:=BN n
def C_76:Cx:=cx0 tt [(31,E_27),(37,E_28),(38,E_75)] [(4,S_76L4 Aa)] 3
def B_76L4:Code:=(Tryz.f14.body.bind (Yag 4)).getD .skip
def D_76:Code:=Tryz.f14.body.getD .skip
def N_76 (_:XK E_76.params) (r:YH E_76.results):E_76.B:=(r.1,r.2)
def E_77:Entry where
 params:= [.v .int,.v y5]
 results:= [.v .bool]
 B:=Bool
 run:=λa=>Eo a.1 a.2
 out:=λb=>((),())
 res:=λb=>b
def S_77L4 (n:Nat):LoopSpec where
 sh:= [(0,.v .int),(3,.bx (.v y5)),(16,.v y1),(17,.v .int),(18,.v .int)]
 ex:= [(.exit 0,[]),(.ret,[(4,.v .bool)])]
 run:=BP n
def C_77:Cx:=cx0 tt [(37,E_28),(47,E_29)] [(4,S_77L4 Aa)] 2
def B_77L4:Code:=(Tryz.f86.body.bind (Yag 4)).getD .skip
def D_77:Code:=Tryz.f86.body.getD .skip
def N_77 (_:XK E_77.params) (r:YH E_77.results):E_77.B:=r
def E_78:Entry where
 params:= [.v .int,.v y5]
 results:= [.v .bool]
 B:=Bool
 run:=λa=>Fe a.1 a.2
 out:=λb=>((),())
 res:=λb=>b
def C_78:Cx:=cx0 tt [(31,E_27),(86,E_77)] [] 2
def D_78:Code:=Tryz.f65.body.getD .skip
def N_78 (_:XK E_78.params) (r:YH E_78.results):E_78.B:=r
def E_79:Entry where
 params:= [.v y6,.v .int]
 results:= [.v .bool]
 B:=Bool
 run:=λa=>GO a.1 a.2
 out:=λb=>((),())
 res:=λb=>b
def C_79:Cx:=cx0 tt [(37,E_28),(61,E_31)] [] 2
def D_79:Code:=Tryz.f66.body.getD .skip
def N_79 (_:XK E_79.params) (r:YH E_79.results):E_79.B:=r
def E_80:Entry where
 params:= [.v .int,.v y6,.v y5]
 results:= [.v .bool]
 B:=Bool
 run:=λa=>Gu a.1 a.2.1 a.2.2
 out:=λb=>((),(),())
 res:=λb=>b
def C_80:Cx:=cx0 tt [(61,E_31),(65,E_78),(66,E_79)] [] 3
def D_80:Code:=Tryz.f39.body.getD .skip
def N_80 (_:XK E_80.params) (r:YH E_80.results):E_80.B:=r
def E_81:Entry where
 params:= [.v y0]
 results:= [.v .str]
 B:=ByteArray
 run:=λa=>EN a
 out:=λb=>()
 res:=λb=>b
def S_81L3 (n:Nat):LoopSpec where
 sh:= [(3,.mv (.num .u8) 0),(10,.v y0),(11,.v .int),(12,.v .int)]
 ex:= [(.exit 0,[(3,.mv (.num .u8) 0)])]
 run:=C0 n
def C_81:Cx:=cx0 tt [] [(3,S_81L3 Aa)] 1
def B_81L3:Code:=(Tryz.f68.body.bind (Yag 3)).getD .skip
def D_81:Code:=Tryz.f68.body.getD .skip
def N_81 (_:XK E_81.params) (r:YH E_81.results):E_81.B:=r
def E_82:Entry where
 params:= [.v y5]
 results:= [.v (.smap .sb)]
 B:=(List ByteArray)
 run:=λa=>Ea a
 out:=λb=>()
 res:=λb=>b
def S_82L3 (n:Nat):LoopSpec where
 sh:= [(3,(.mp .sb)),(8,.v y1),(9,.v .int),(10,.v .int)]
 ex:= [(.exit 0,[(3,(.mp .sb))])]
 run:=CK n
def C_82:Cx:=cx0 tt [(68,E_81)] [(3,S_82L3 Aa)] 1
def B_82L3:Code:=(Tryz.f67.body.bind (Yag 3)).getD .skip
def D_82:Code:=Tryz.f67.body.getD .skip
def N_82 (_:XK E_82.params) (r:YH E_82.results):E_82.B:=r
def E_83:Entry where
 params:= [.v .int,.v y6,.v y5]
 results:= [.mv .int 0,.mv .int 0,.v .bool]
 B:=(List Int)×(List Int)×Bool
 run:=λa=>En a.1 a.2.1 a.2.2
 out:=λb=>((),(),())
 res:=λb=>(b.1,b.2.1,b.2.2)
def S_83L10 (n:Nat):LoopSpec where
 sh:= [(0,.v .int),(4,.bx (.v y6)),(5,.bx (.v y5)),(9,.v (.smap .sb)),(10,.v .int),(11,.mv .int 0),(12,.mv .int 0),(13,.v .int),(14,.v .int),(15,.v .int)]
 ex:= [(.exit 2,[(0,.v .int),(4,.bx (.v y6)),(5,.bx (.v y5)),(9,.v (.smap .sb)),(10,.v .int),(11,.mv .int 0),(12,.mv .int 0),(13,.v .int)])]
 run:=B9 n
def S_83L19 (n:Nat):LoopSpec where
 sh:= [(786493,.jk 1),(0,.v .int),(4,.bx (.v y6)),(5,.bx (.v y5)),(9,.v (.smap .sb)),(10,.v .int),(11,.mv .int 0),(12,.mv .int 0),(13,.v .int),(16,.v .int),(17,.v .int),(57,.v .int),(58,.v .int),(62,.v .int),(63,.v .int)]
 ex:= [(.exit 6,[(0,.v .int),(4,.bx (.v y6)),(5,.bx (.v y5)),(9,.v (.smap .sb)),(10,.v .int),(11,.mv .int 0),(12,.mv .int 0),(13,.v .int),(16,.v .int),(17,.v .int),(57,.v .int),(58,.v .int)])]
 run:=BI n
def S_83L15 (n:Nat):LoopSpec where
 sh:= [(0,.v .int),(4,.bx (.v y6)),(5,.bx (.v y5)),(9,.v (.smap .sb)),(10,.v .int),(11,.mv .int 0),(12,.mv .int 0),(13,.v .int),(57,.v .int),(58,.v .int)]
 ex:= [(.exit 4,[(0,.v .int),(4,.bx (.v y6)),(5,.bx (.v y5)),(9,.v (.smap .sb)),(10,.v .int),(11,.mv .int 0),(12,.mv .int 0),(13,.v .int)])]
 run:=BH n
def S_83L6 (n:Nat):LoopSpec where
 sh:= [(0,.v .int),(4,.bx (.v y6)),(5,.bx (.v y5)),(9,.v (.smap .sb)),(10,.v .int),(11,.mv .int 0),(12,.mv .int 0),(13,.v .int)]
 ex:= [(.exit 0,[]),(.ret,[(6,.mv .int 0),(7,.mv .int 0),(8,.v .bool)])]
 run:=BO n
def C_83:Cx:=cx0 tt [(61,E_31),(67,E_82),(68,E_81)] [(10,S_83L10 Aa),(19,S_83L19 Aa),(15,S_83L15 Aa),(6,S_83L6 Aa)] 3
def B_83L10:Code:=(Tryz.f40.body.bind (Yag 10)).getD .skip
def B_83L19:Code:=(Tryz.f40.body.bind (Yag 19)).getD .skip
def B_83L15:Code:=(Tryz.f40.body.bind (Yag 15)).getD .skip
def B_83L6:Code:=(Tryz.f40.body.bind (Yag 6)).getD .skip
def D_83:Code:=Tryz.f40.body.getD .skip
def N_83 (_:XK E_83.params) (r:YH E_83.results):E_83.B:=(r.1,r.2.1,r.2.2)
def E_84:Entry where
 params:= [.v .int,.v y6,.v y5]
 results:= [.v .bool,.v .bool]
 B:=Bool×Bool
 run:=λa=>CZ a.1 a.2.1 a.2.2
 out:=λb=>((),(),())
 res:=λb=>(b.1,b.2)
def C_84:Cx:=cx0 tt [(39,E_80),(40,E_83)] [] 3
def D_84:Code:=Tryz.f15.body.getD .skip
def N_84 (_:XK E_84.params) (r:YH E_84.results):E_84.B:=(r.1,r.2)
def E_85:Entry where
 params:= [.v y8]
 results:= [.v .bool]
 B:=Bool
 run:=λa=>D8 a
 out:=λb=>()
 res:=λb=>b
def S_85L4 (n:Nat):LoopSpec where
 sh:= [(1,.bx (.v y8)),(26,.v y1),(27,.v .int),(28,.v .int)]
 ex:= [(.exit 0,[]),(.ret,[(2,.v .bool)])]
 run:=CH n
def C_85:Cx:=cx0 tt [(28,E_26),(37,E_28)] [(4,S_85L4 Aa)] 1
def B_85L4:Code:=(Tryz.f48.body.bind (Yag 4)).getD .skip
def D_85:Code:=Tryz.f48.body.getD .skip
def N_85 (_:XK E_85.params) (r:YH E_85.results):E_85.B:=r
def E_86:Entry where
 params:= [.v y8]
 results:= [.v (.ptr y3)]
 B:=(Bool×Int×Int×(List (List Int))×Int×(List Int))
 run:=λa=>Bb a
 out:=λb=>()
 res:=λb=>b
def C_86:Cx:=cx0 tt [(51,E_39)] [] 1
def D_86:Code:=Tryz.f42.body.getD .skip
def N_86 (_:XK E_86.params) (r:YH E_86.results):E_86.B:=r
def E_87:Entry where
 params:= [.v (.ptr y3)]
 results:= [.v .bool]
 B:=Bool
 run:=λa=>CJ a
 out:=λb=>()
 res:=λb=>b
def S_87L2 (n:Nat):LoopSpec where
 sh:= [(0,.v (.ptr y3)),(13,.v y1),(14,.v .int),(15,.v .int)]
 ex:= [(.exit 0,[]),(.ret,[(2,.v .bool)])]
 run:=Be n
def C_87:Cx:=cx0 tt [] [(2,S_87L2 Aa)] 1
def B_87L2:Code:=(Tryz.f69.body.bind (Yag 2)).getD .skip
def D_87:Code:=Tryz.f69.body.getD .skip
def N_87 (_:XK E_87.params) (r:YH E_87.results):E_87.B:=r
def E_88:Entry where
 params:= [.v (.ptr y3)]
 results:= [.mv .int 0]
 B:=(List Int)
 run:=λa=>AG a
 out:=λb=>()
 res:=λb=>b
def S_88L3 (n:Nat):LoopSpec where
 sh:= [(3,.mv .int 0),(10,.v y0),(11,.v .int),(12,.v .int)]
 ex:= [(.exit 0,[(3,.mv .int 0)])]
 run:=Aq n
def C_88:Cx:=cx0 tt [] [(3,S_88L3 Aa)] 1
def B_88L3:Code:=(Tryz.f43.body.bind (Yag 3)).getD .skip
def D_88:Code:=Tryz.f43.body.getD .skip
def N_88 (_:XK E_88.params) (r:YH E_88.results):E_88.B:=r
def E_89:Entry where
 params:= [.v y8]
 results:= [.v .int,.v .bool]
 B:=Int×Bool
 run:=λa=>BM a
 out:=λb=>()
 res:=λb=>(b.1,b.2)
def C_89:Cx:=cx0 tt [(42,E_86),(43,E_88),(48,E_85),(61,E_31),(69,E_87)] [] 1
def D_89:Code:=Tryz.f41.body.getD .skip
def N_89 (_:XK E_89.params) (r:YH E_89.results):E_89.B:=(r.1,r.2)
def E_90:Entry where
 params:= [.v .int,.v .int,.v .int]
 results:= [.mv .int 0]
 B:=(List Int)
 run:=λa=>FN a.1 a.2.1 a.2.2
 out:=λb=>((),(),())
 res:=λb=>b
def S_90L3 (n:Nat):LoopSpec where
 sh:= [(0,.v .int),(2,.v .int),(7,.mv .int 0),(8,.v .int)]
 ex:= [(.exit 0,[(7,.mv .int 0)])]
 run:=C5 n
def C_90:Cx:=cx0 tt [] [(3,S_90L3 Aa)] 3
def B_90L3:Code:=(Tryz.f45.body.bind (Yag 3)).getD .skip
def D_90:Code:=Tryz.f45.body.getD .skip
def N_90 (_:XK E_90.params) (r:YH E_90.results):E_90.B:=r
def E_91:Entry where
 params:= [.v (.ptr y3),.v y0]
 results:= [.mv .int 0]
 B:=(List Int)
 run:=λa=>Cj a.1 a.2
 out:=λb=>((),())
 res:=λb=>b
def S_91L4 (n:Nat):LoopSpec where
 sh:= [(458773,.jk 1),(0,.v (.ptr y3)),(1,.v y0),(5,.mv .int 0),(6,.mv .int 0),(22,.v .int),(23,.v .int)]
 ex:= [(.exit 0,[(0,.v (.ptr y3)),(1,.v y0),(5,.mv .int 0),(6,.mv .int 0)])]
 run:=AI n
def S_91L14 (n:Nat):LoopSpec where
 sh:= [(458813,.jk 1),(0,.v (.ptr y3)),(1,.v y0),(5,.mv .int 0),(6,.mv .int 0),(9,.v .int),(10,.v .int),(11,.v .int),(39,.v y0),(40,.v .int),(41,.v .int),(62,.v .int),(63,.v .int)]
 ex:= [(.exit 4,[(0,.v (.ptr y3)),(1,.v y0),(5,.mv .int 0),(6,.mv .int 0),(9,.v .int),(11,.v .int),(39,.v y0),(40,.v .int),(41,.v .int)])]
 run:=AB n
def S_91L9 (n:Nat):LoopSpec where
 sh:= [(0,.v (.ptr y3)),(1,.v y0),(5,.mv .int 0),(6,.mv .int 0),(39,.v y0),(40,.v .int),(41,.v .int)]
 ex:= [(.exit 2,[(5,.mv .int 0)])]
 run:=Ar n
def C_91:Cx:=cx0 tt [(43,E_88)] [(4,S_91L4 Aa),(14,S_91L14 Aa),(9,S_91L9 Aa)] 2
def B_91L4:Code:=(Tryz.f44.body.bind (Yag 4)).getD .skip
def B_91L14:Code:=(Tryz.f44.body.bind (Yag 14)).getD .skip
def B_91L9:Code:=(Tryz.f44.body.bind (Yag 9)).getD .skip
def D_91:Code:=Tryz.f44.body.getD .skip
def N_91 (_:XK E_91.params) (r:YH E_91.results):E_91.B:=r
def E_92:Entry where
 params:= [.v y8]
 results:= [.mv y0 1,.v .bool]
 B:=(List (List Int))×Bool
 run:=λa=>Al a
 out:=λb=>()
 res:=λb=>(b.1,b.2)
def S_92L8 (n:Nat):LoopSpec where
 sh:= [(1,.bx (.v y8)),(4,.v .int),(6,.v (.ptr y3)),(7,.v .int),(8,.mv y0 1),(9,.v .int)]
 ex:= [(.exit 0,[(8,.mv y0 1)])]
 run:=AT n
def C_92:Cx where
 tt:=YaU tt
 T:=Ygp [(41,E_89),(42,E_86),(43,E_88),(44,E_91),(45,E_90),(3145774,E_71)]
 L:=Ygo [(8,S_92L8 Aa)]
 dep:=λi=>match i with
  |21=>1
  |27=>1
  |41=>1
  |42=>1
  |_=>0
 n:=1
def B_92L8:Code:=(Tryz.f16.body.bind (Yag 8)).getD .skip
def D_92:Code:=Tryz.f16.body.getD .skip
def N_92 (_:XK E_92.params) (r:YH E_92.results):E_92.B:=(r.1,r.2)
def E_93:Entry where
 params:= [.v (.ptr y3)]
 results:= [.pr (.v .int) (.pr (.v .int) (.mv y0 1))]
 B:=(Int×(Int×(List (List Int))))
 run:=λa=>Er a
 out:=λb=>()
 res:=λb=>b
def S_93L3 (n:Nat):LoopSpec where
 sh:= [(0,.v (.ptr y3)),(2,.bx (.pr (.v .int) (.pr (.v .int) (.mv y0 1)))),(3,.bx (.pr (.v .int) (.pr (.v .int) (.mv y0 1)))),(33,.v y1),(34,.v .int),(35,.v .int)]
 ex:= [(.exit 0,[(2,.bx (.pr (.v .int) (.pr (.v .int) (.mv y0 1)))),(3,.bx (.pr (.v .int) (.pr (.v .int) (.mv y0 1))))])]
 run:=Bm n
def C_93:Cx where
 tt:=YaU tt
 T:=Ygp [(72,E_36),(73,E_35)]
 L:=Ygo [(3,S_93L3 Aa)]
 dep:=λi=>match i with
  |51=>1
  |52=>1
  |_=>0
 n:=1
def B_93L3:Code:=(Tryz.f49.body.bind (Yag 3)).getD .skip
def D_93:Code:=Tryz.f49.body.getD .skip
def N_93 (_:XK E_93.params) (r:YH E_93.results):E_93.B:=r
def E_94:Entry where
 params:= [.v y8]
 results:= [.pr (.v .int) (.pr (.v .int) (.mv y0 1)),.v .bool]
 B:=(Int×(Int×(List (List Int))))×Bool
 run:=λa=>Ah a
 out:=λb=>()
 res:=λb=>(b.1,b.2)
def C_94:Cx:=cx0 tt [(42,E_86),(48,E_85),(49,E_93)] [] 1
def D_94:Code:=Tryz.f18.body.getD .skip
def N_94 (_:XK E_94.params) (r:YH E_94.results):E_94.B:=(r.1,r.2)
def E_95:Entry where
 params:= [.v y9]
 results:= [.v .bool]
 B:=Bool
 run:=λa=>EZ a
 out:=λb=>()
 res:=λb=>b
def C_95:Cx:=cx0 tt [(4,E_1),(5,E_25),(6,E_46),(7,E_61),(8,E_64),(9,E_34),(10,E_65),(11,E_68),(12,E_69),(13,E_70),(14,E_76),(15,E_84),(16,E_92),(17,E_63),(18,E_94)] [] 1
def D_95:Code:=Tryz.f3.body.getD .skip
def N_95 (_:XK E_95.params) (r:YH E_95.results):E_95.B:=r
end
end T
