/- Contexts of the typed functions; no conditions. -/
import Derived.Test.YtgeboeaoblppcabGreatV5
import Derived.Test.YtgeboeaoblppcabGreatProg
import Derived.Test.YtgeboeaoblppcabGreatPFnNetworks
import Derived.KernelRfl
set_option linter.all false
set_option linter.unusedVariables false
set_option maxRecDepth 10000
open Go Go.Va Go.Proofs
namespace T
noncomputable section
abbrev y0:Ty:= .pair (.slice .int) (.pair .int (.slice (.slice .int)))
abbrev y1:Ty:= .pair .int (.pair (.slice (.slice (.slice .int))) (.slice (.slice (.smap .sb))))
abbrev y2:Ty:= .slice .int
abbrev y3:Ty:= .pair .int (.pair .int (.slice y0))
abbrev y4:Ty:= .pair (.slice (.num .u8)) (.pair .int (.num .u64))
abbrev y5:Ty:= .pair .int (.slice y2)
abbrev y6:Ty:= .pair .int (.pair .int .bool)
abbrev y7:Ty:= .slice y2
abbrev y8:Ty:= .slice y0
abbrev y9:Ty:= .slice (.num .u8)
abbrev y10:Ty:= .slice (.smap .sb)
abbrev y11:Ty:= .slice y8
abbrev y12:Ty:= .pair .int (.pair .int (.pair .bool (.num .u8)))
def tt:List (Nat×TI):= [
 (2,{ ty:= .int }),
 (3,{ ty:= .int }),
 (4,{ ty:= .bool }),
 (5,{ ty:=(.num .u8) }),
 (6,{ ty:=(.num .u8) }),
 (7,{ ty:=y12,fields:= [2,3,4,6] }),
 (8,{ ty:=y12,fields:= [2,3,4,6] }),
 (9,{ ty:= .str }),
 (22,{ ty:=y9,elem:=5 }),
 (24,{ ty:=y8,elem:=47 }),
 (26,{ ty:=y3,fields:= [3,3,24] }),
 (27,{ ty:=y2,elem:=3 }),
 (35,{ ty:=y7,elem:=27 }),
 (42,{ ty:=y5,fields:= [3,35] }),
 (47,{ ty:=y0,fields:= [27,42] }),
 (51,{ ty:=(.num .u64) }),
 (53,{ ty:=y4,fields:= [22,3,51] }),
 (60,{ ty:=(.pair y7 y6),fields:= [35,3,3,4] }),
 (63,{ ty:=(.op false) }),
 (70,{ ty:=(.op false) }),
 (72,{ ty:=(.smap .sb) }),
 (82,{ ty:=(.slice y5),elem:=42 }),
 (85,{ ty:=(.op true) }),
 (89,{ ty:=y11,elem:=24 }),
 (92,{ ty:=(.num .u64) }),
 (99,{ ty:=(.slice y7),elem:=35 }),
 (100,{ ty:=(.slice y10),elem:=103 }),
 (102,{ ty:=y1,fields:= [3,99,100] }),
 (103,{ ty:=y10,elem:=72 }),
 (107,{ ty:=(.op false) })]
theorem tabT:Yif Tryz.prog tt=true:=by kernel_rfl
theorem mixT:Tryz.prog.follows .mixedOrders=true:=by kernel_rfl
def E_1:Entry where
 params:= [.v y9]
 results:= [.v .bool]
 B:=Bool
 run:=λa=>FA a
 out:=λb=>()
 res:=λb=>b
def C_1:Cx:=cx0 tt [] [] 1
def D_1:Code:=Tryz.f4.body.getD .skip
def N_1 (_:XK E_1.params) (r:YH E_1.results):E_1.B:=r
def E_2:Entry where
 params:= [.bx (.v y4)]
 results:= [.v .int]
 B:=((List Int)×Int×Int)×Int
 run:=λa=>Cb a
 out:=λb=>b.1
 res:=λb=>b.2
def C_2:Cx:=cx0 tt [] [] 1
def D_2:Code:=Tryz.f62.body.getD .skip
def N_2 (o:XK E_2.params) (r:YH E_2.results):E_2.B:=(o,r)
def E_3:Entry where
 params:= [.bx (.v y4),.v .int]
 results:= [.v .int]
 B:=((List Int)×Int×Int)×Int
 run:=λa=>Ae a.1 a.2
 out:=λb=>(b.1,())
 res:=λb=>b.2
def C_3:Cx:=cx0 tt [(62,E_2)] [] 2
def D_3:Code:=Tryz.f36.body.getD .skip
def N_3 (o:XK E_3.params) (r:YH E_3.results):E_3.B:=(o.1,r)
def E_4:Entry where
 params:= [.bx (.v y4),.v .int]
 results:= [.v .bool]
 B:=((List Int)×Int×Int)×Bool
 run:=λa=>Av a.1 a.2
 out:=λb=>(b.1,())
 res:=λb=>b.2
def C_4:Cx:=cx0 tt [(36,E_3)] [] 2
def D_4:Code:=Tryz.f38.body.getD .skip
def N_4 (o:XK E_4.params) (r:YH E_4.results):E_4.B:=(o.1,r)
def E_5:Entry where
 params:= [.v .int]
 results:= [.v .int,.mv y5 0]
 B:=Int×(List (Int×(List (List Int))))
 run:=λa=>Dg a
 out:=λb=>()
 res:=λb=>(b.1,b.2)
def C_5:Cx:=cx0 tt [] [] 1
def D_5:Code:=Tryz.f74.body.getD .skip
def N_5 (_:XK E_5.params) (r:YH E_5.results):E_5.B:=(r.1,r.2)
def E_6:Entry where
 params:= [.v y2]
 results:= [.mv .int 0]
 B:=(List Int)
 run:=λa=>Ci a
 out:=λb=>()
 res:=λb=>b
def C_6:Cx:=cx0 tt [] [] 1
def D_6:Code:=Tryz.f75.body.getD .skip
def N_6 (_:XK E_6.params) (r:YH E_6.results):E_6.B:=r
def E_7:Entry where
 params:= [.bx (.v y4),.v y2]
 results:= [.v .int]
 B:=((List Int)×Int×Int)×Int
 run:=λa=>Ab a.1 a.2
 out:=λb=>(b.1,())
 res:=λb=>b.2
def C_7:Cx:=cx0 tt [(36,E_3)] [] 2
def D_7:Code:=Tryz.f35.body.getD .skip
def N_7 (o:XK E_7.params) (r:YH E_7.results):E_7.B:=(o.1,r)
def E_8:Entry where
 params:= [.v .int,.v .int,.v .int]
 results:= [.v .bool]
 B:=Bool
 run:=λa=>CH a.1 a.2.1 a.2.2
 out:=λb=>((),(),())
 res:=λb=>b
def C_8:Cx:=cx0 tt [] [] 3
def D_8:Code:=Tryz.f44.body.getD .skip
def N_8 (_:XK E_8.params) (r:YH E_8.results):E_8.B:=r
def E_9:Entry where
 params:= [.v .int]
 results:= [.v .bool]
 B:=Bool
 run:=λa=>Ed a
 out:=λb=>()
 res:=λb=>b
def C_9:Cx:=cx0 tt [(44,E_8)] [] 1
def D_9:Code:=Tryz.f67.body.getD .skip
def N_9 (_:XK E_9.params) (r:YH E_9.results):E_9.B:=r
def E_10:Entry where
 params:= [.v y2,.v y2]
 results:= [.v .bool]
 B:=Bool
 run:=λa=>Eb a.1 a.2
 out:=λb=>((),())
 res:=λb=>b
def S_10L2 (n:Nat):LoopSpec where
 sh:= [(0,.v y2),(1,.v y2),(5,.v .int)]
 ex:= [(.exit 0,[]),(.ret,[(4,.v .bool)])]
 run:=CQ n
def C_10:Cx:=cx0 tt [] [(2,S_10L2 Ad)] 2
def B_10L2:Code:=(Tryz.f83.body.bind (Yag 2)).getD .skip
def D_10:Code:=Tryz.f83.body.getD .skip
def N_10 (_:XK E_10.params) (r:YH E_10.results):E_10.B:=r
def E_11:Entry where
 params:= [.v y2,.v y2]
 results:= [.v .bool]
 B:=Bool
 run:=λa=>Ea a.1 a.2
 out:=λb=>((),())
 res:=λb=>b
def S_11L4 (n:Nat):LoopSpec where
 sh:= [(0,.v y2),(1,.v y2),(5,.v .int)]
 ex:= [(.exit 0,[]),(.ret,[(4,.v .bool)])]
 run:=CN n
def C_11:Cx:=cx0 tt [] [(4,S_11L4 Ad)] 2
def B_11L4:Code:=(Tryz.f84.body.bind (Yag 4)).getD .skip
def D_11:Code:=Tryz.f84.body.getD .skip
def N_11 (_:XK E_11.params) (r:YH E_11.results):E_11.B:=r
def E_12:Entry where
 params:= [.v y7,.v y2]
 results:= [.v .int,.v .bool]
 B:=Int×Bool
 run:=λa=>Dn a.1 a.2
 out:=λb=>((),())
 res:=λb=>(b.1,b.2)
def S_12L2 (n:Nat):LoopSpec where
 sh:= [(0,.v y7),(1,.v y2),(6,.v .int),(7,.v .int)]
 ex:= [(.exit 0,[(0,.v y7),(1,.v y2),(6,.v .int)])]
 run:=Ct n
def C_12:Cx:=cx0 tt [(83,E_10),(84,E_11)] [(2,S_12L2 Ad)] 2
def B_12L2:Code:=(Tryz.f73.body.bind (Yag 2)).getD .skip
def D_12:Code:=Tryz.f73.body.getD .skip
def N_12 (_:XK E_12.params) (r:YH E_12.results):E_12.B:=(r.1,r.2)
def E_13:Entry where
 params:= [.v y7,.v y2]
 results:= [.v y7]
 B:=(List (List Int))
 run:=λa=>Ep a.1 a.2
 out:=λb=>((),())
 res:=λb=>b
def C_13:Cx:=cx0 tt [(73,E_12)] [] 2
def D_13:Code:=Tryz.f68.body.getD .skip
def N_13 (_:XK E_13.params) (r:YH E_13.results):E_13.B:=r
def E_14:Entry where
 params:= [.bx (.v y4),.v .int]
 results:= [.mv .int 0]
 B:=((List Int)×Int×Int)×(List Int)
 run:=λa=>B0 a.1 a.2
 out:=λb=>(b.1,())
 res:=λb=>b.2
def S_14L3 (n:Nat):LoopSpec where
 sh:= [(0,.bx (.v y4)),(1,.v .int),(5,.mv .int 0),(6,.v .int)]
 ex:= [(.exit 0,[(0,.bx (.v y4)),(5,.mv .int 0)])]
 run:=AQ n
def C_14:Cx:=cx0 tt [(36,E_3)] [(3,S_14L3 Ad)] 2
def B_14L3:Code:=(Tryz.f70.body.bind (Yag 3)).getD .skip
def D_14:Code:=Tryz.f70.body.getD .skip
def N_14 (o:XK E_14.params) (r:YH E_14.results):E_14.B:=(o.1,r)
def E_15:Entry where
 params:= [.v y2]
 results:= [.pr (.v .int) (.mv y2 0)]
 B:=(Int×(List (List Int)))
 run:=λa=>C0 a
 out:=λb=>()
 res:=λb=>b
def S_15L6 (n:Nat):LoopSpec where
 sh:= [(0,.v y2),(2,.bx (.pr (.v .int) (.mv y2 0))),(3,.bx (.pr (.v .int) (.mv y2 0))),(4,.v .int),(5,.v .int)]
 ex:= [(.exit 2,[(0,.v y2),(2,.bx (.pr (.v .int) (.mv y2 0))),(3,.bx (.pr (.v .int) (.mv y2 0))),(4,.v .int)])]
 run:=AX n
def S_15L3 (n:Nat):LoopSpec where
 sh:= [(0,.v y2),(2,.bx (.pr (.v .int) (.mv y2 0))),(3,.bx (.pr (.v .int) (.mv y2 0))),(4,.v .int)]
 ex:= [(.exit 0,[(2,.bx (.pr (.v .int) (.mv y2 0))),(3,.bx (.pr (.v .int) (.mv y2 0)))])]
 run:=Bj n
def C_15:Cx:=cx0 tt [] [(6,S_15L6 Ad),(3,S_15L3 Ad)] 1
def B_15L6:Code:=(Tryz.f69.body.bind (Yag 6)).getD .skip
def B_15L3:Code:=(Tryz.f69.body.bind (Yag 3)).getD .skip
def D_15:Code:=Tryz.f69.body.getD .skip
def N_15 (_:XK E_15.params) (r:YH E_15.results):E_15.B:=r
def E_16:Entry where
 params:= [.v .int,.v .int]
 results:= [.v .int]
 B:=Int
 run:=λa=>CP a.1 a.2
 out:=λb=>((),())
 res:=λb=>b
def S_16L2 (n:Nat):LoopSpec where
 sh:= [(0,.v .int),(1,.v .int),(5,.v .int)]
 ex:= [(.exit 0,[(5,.v .int)])]
 run:=Cj n
def C_16:Cx:=cx0 tt [] [(2,S_16L2 Ad)] 2
def B_16L2:Code:=(Tryz.f46.body.bind (Yag 2)).getD .skip
def D_16:Code:=Tryz.f46.body.getD .skip
def N_16 (_:XK E_16.params) (r:YH E_16.results):E_16.B:=r
def E_17:Entry where
 params:= [.v .int,.v .int,.v .int]
 results:= [.mv .int 0]
 B:=(List Int)
 run:=λa=>Dm a.1 a.2.1 a.2.2
 out:=λb=>((),(),())
 res:=λb=>b
def S_17L3 (n:Nat):LoopSpec where
 sh:= [(0,.v .int),(2,.v .int),(7,.mv .int 0),(8,.v .int)]
 ex:= [(.exit 0,[(7,.mv .int 0)])]
 run:=CO n
def C_17:Cx:=cx0 tt [] [(3,S_17L3 Ad)] 3
def B_17L3:Code:=(Tryz.f47.body.bind (Yag 3)).getD .skip
def D_17:Code:=Tryz.f47.body.getD .skip
def N_17 (_:XK E_17.params) (r:YH E_17.results):E_17.B:=r
def E_18:Entry where
 params:= [.v .int,.v .int]
 results:= [.pr (.v .int) (.mv y2 0)]
 B:=(Int×(List (List Int)))
 run:=λa=>CV a.1 a.2
 out:=λb=>((),())
 res:=λb=>b
def S_18L3 (n:Nat):LoopSpec where
 sh:= [(0,.v .int),(1,.v .int),(4,.bx (.pr (.v .int) (.mv y2 0))),(5,.bx (.pr (.v .int) (.mv y2 0))),(6,.v .int)]
 ex:= [(.exit 0,[(4,.bx (.pr (.v .int) (.mv y2 0))),(5,.bx (.pr (.v .int) (.mv y2 0)))])]
 run:=B6 n
def C_18:Cx:=cx0 tt [(46,E_16),(47,E_17)] [(3,S_18L3 Ad)] 2
def B_18L3:Code:=(Tryz.f71.body.bind (Yag 3)).getD .skip
def D_18:Code:=Tryz.f71.body.getD .skip
def N_18 (_:XK E_18.params) (r:YH E_18.results):E_18.B:=r
def E_19:Entry where
 params:= [.mv y2 0,.v y2]
 results:= [.mv y2 0]
 B:=(List (List Int))
 run:=λa=>EC a.1 a.2
 out:=λb=>((),())
 res:=λb=>b
def C_19:Cx where
 tt:=YaU tt
 T:=Ygp [(73,E_12)]
 L:=Ygo []
 dep:=λi=>0
 n:=2
 pre:=λi=>match i with
  |4=> [0]
  |_=> []
def D_19:Code:=Tryz.f68.body.getD .skip
def N_19 (_:XK E_19.params) (r:YH E_19.results):E_19.B:=r
def E_20:Entry where
 params:= [.bx (.v y4),.v .int,.v .int]
 results:= [.v y5]
 B:=((List Int)×Int×Int)×(Int×(List (List Int)))
 run:=λa=>A9 a.1 a.2.1 a.2.2
 out:=λb=>(b.1,(),())
 res:=λb=>b.2
def S_20L9 (n:Nat):LoopSpec where
 sh:= [(0,.bx (.v y4)),(1,.v .int),(2,.v .int),(6,.bx (.pr (.v .int) (.mv y2 0))),(7,.bx (.pr (.v .int) (.mv y2 0))),(8,.v .int),(9,.mv .int 0),(10,.v .int)]
 ex:= [(.exit 2,[(0,.bx (.v y4)),(1,.v .int),(2,.v .int),(6,.bx (.pr (.v .int) (.mv y2 0))),(7,.bx (.pr (.v .int) (.mv y2 0))),(8,.v .int),(9,.mv .int 0)])]
 run:=Bm n
def S_20L5 (n:Nat):LoopSpec where
 sh:= [(0,.bx (.v y4)),(1,.v .int),(2,.v .int),(6,.bx (.pr (.v .int) (.mv y2 0))),(7,.bx (.pr (.v .int) (.mv y2 0))),(8,.v .int)]
 ex:= [(.exit 0,[(0,.bx (.v y4)),(1,.v .int),(2,.v .int),(6,.bx (.pr (.v .int) (.mv y2 0))),(7,.bx (.pr (.v .int) (.mv y2 0)))])]
 run:=Bl n
def C_20:Cx:=cx0 tt [(35,E_7),(36,E_3),(38,E_4),(44,E_8),(67,E_9),(68,E_19),(69,E_15),(70,E_14),(71,E_18)] [(9,S_20L9 Ad),(5,S_20L5 Ad)] 3
def B_20L9:Code:=(Tryz.f51.body.bind (Yag 9)).getD .skip
def B_20L5:Code:=(Tryz.f51.body.bind (Yag 5)).getD .skip
def D_20:Code:=Tryz.f51.body.getD .skip
def N_20 (o:XK E_20.params) (r:YH E_20.results):E_20.B:=(o.1,r)
def E_21:Entry where
 params:= [.bx (.v y4)]
 results:= [.v .int,.mv y5 0]
 B:=((List Int)×Int×Int)×Int×(List (Int×(List (List Int))))
 run:=λa=>Cl a
 out:=λb=>b.1
 res:=λb=>(b.2.1,b.2.2)
def S_21L9 (n:Nat):LoopSpec where
 sh:= [(0,.bx (.v y4)),(4,.v .int),(5,.mv y5 0),(6,.mv y5 0),(7,.v .int),(8,.bx (.pr (.v .int) (.mv y2 0))),(9,.v .int)]
 ex:= [(.exit 2,[(0,.bx (.v y4)),(4,.v .int),(5,.mv y5 0),(6,.mv y5 0),(7,.v .int),(8,.bx (.pr (.v .int) (.mv y2 0)))])]
 run:=AZ n
def S_21L5 (n:Nat):LoopSpec where
 sh:= [(0,.bx (.v y4)),(4,.v .int),(5,.mv y5 0),(6,.mv y5 0),(7,.v .int)]
 ex:= [(.exit 0,[(0,.bx (.v y4)),(4,.v .int),(6,.mv y5 0)])]
 run:=AY n
def S_21L17 (n:Nat):LoopSpec where
 sh:= [(0,.bx (.v y4)),(10,.v .int),(11,.mv y5 0),(12,.v .int)]
 ex:= [(.exit 4,[(0,.bx (.v y4)),(10,.v .int),(11,.mv y5 0)])]
 run:=Be n
def C_21:Cx:=cx0 tt [(35,E_7),(36,E_3),(38,E_4),(51,E_20),(74,E_5),(75,E_6)] [(9,S_21L9 Ad),(5,S_21L5 Ad),(17,S_21L17 Ad)] 1
def B_21L9:Code:=(Tryz.f54.body.bind (Yag 9)).getD .skip
def B_21L5:Code:=(Tryz.f54.body.bind (Yag 5)).getD .skip
def B_21L17:Code:=(Tryz.f54.body.bind (Yag 17)).getD .skip
def D_21:Code:=Tryz.f54.body.getD .skip
def N_21 (o:XK E_21.params) (r:YH E_21.results):E_21.B:=(o,r.1,r.2)
def E_22:Entry where
 params:= [.v .int,.v .int]
 results:= [.v .int]
 B:=Int
 run:=λa=>BI a.1 a.2
 out:=λb=>((),())
 res:=λb=>b
def C_22:Cx:=cx0 tt [] [] 2
def D_22:Code:=Tryz.f37.body.getD .skip
def N_22 (_:XK E_22.params) (r:YH E_22.results):E_22.B:=r
def E_23:Entry where
 params:= [.bx (.v y4)]
 results:= [.v y3]
 B:=((List Int)×Int×Int)×(Int×Int×(List ((List Int)×Int×(List (List Int)))))
 run:=λa=>B3 a
 out:=λb=>b.1
 res:=λb=>b.2
def S_23L11 (n:Nat):LoopSpec where
 sh:= [(0,.bx (.v y4)),(2,.bx (.pr (.v .int) (.pr (.v .int) (.mv y0 2001)))),(3,.v .int),(4,.mv y5 0),(5,.bx (.pr (.v .int) (.pr (.v .int) (.mv y0 2001)))),(6,.v .int),(7,.bx (.v y5)),(8,.bx (.pr (.mv .int 0) (.v y5))),(9,.v .int)]
 ex:= [(.exit 2,[(0,.bx (.v y4)),(2,.bx (.pr (.v .int) (.pr (.v .int) (.mv y0 2001)))),(3,.v .int),(4,.mv y5 0),(5,.bx (.pr (.v .int) (.pr (.v .int) (.mv y0 2001)))),(6,.v .int),(8,.bx (.pr (.mv .int 0) (.v y5)))])]
 run:=AI n
def S_23L4 (n:Nat):LoopSpec where
 sh:= [(0,.bx (.v y4)),(2,.bx (.pr (.v .int) (.pr (.v .int) (.mv y0 2001)))),(3,.v .int),(4,.mv y5 0),(5,.bx (.pr (.v .int) (.pr (.v .int) (.mv y0 2001)))),(6,.v .int)]
 ex:= [(.exit 0,[(0,.bx (.v y4)),(2,.bx (.pr (.v .int) (.pr (.v .int) (.mv y0 2001)))),(5,.bx (.pr (.v .int) (.pr (.v .int) (.mv y0 2001))))])]
 run:=AO n
def S_23L23 (n:Nat):LoopSpec where
 sh:= [(0,.bx (.v y4)),(2,.bx (.pr (.v .int) (.pr (.v .int) (.mv y0 2001)))),(5,.bx (.pr (.v .int) (.pr (.v .int) (.mv y0 0)))),(10,.v .int)]
 ex:= [(.exit 5,[(0,.bx (.v y4)),(2,.bx (.pr (.v .int) (.pr (.v .int) (.mv y0 2001)))),(5,.bx (.pr (.v .int) (.pr (.v .int) (.mv y0 0))))])]
 run:=Bk n
def C_23:Cx where
 tt:=YaU tt
 T:=Ygp [(35,E_7),(36,E_3),(37,E_22),(38,E_4),(51,E_20),(54,E_21)]
 L:=Ygo [(11,S_23L11 Ad),(4,S_23L4 Ad),(23,S_23L23 Ad)]
 dep:=λi=>match i with
  |76=>2001
  |77=>2001
  |_=>0
 n:=1
 fine:=true
def B_23L11:Code:=(Tryz.f21.body.bind (Yag 11)).getD .skip
def B_23L4:Code:=(Tryz.f21.body.bind (Yag 4)).getD .skip
def B_23L23:Code:=(Tryz.f21.body.bind (Yag 23)).getD .skip
def D_23:Code:=Tryz.f21.body.getD .skip
def N_23 (o:XK E_23.params) (r:YH E_23.results):E_23.B:=(o,r)
def E_24:Entry where
 params:= [.bx (.v y4),.v y3,.v .bool]
 results:= [.mv .int 0]
 B:=((List Int)×Int×Int)×(List Int)
 run:=λa=>Cm a.1 a.2.1 a.2.2
 out:=λb=>(b.1,(),())
 res:=λb=>b.2
def S_24L3 (n:Nat):LoopSpec where
 sh:= [(0,.bx (.v y4)),(2,.v .bool),(4,.bx (.v y3)),(7,.mv .int 0),(8,.v .int)]
 ex:= [(.exit 0,[(0,.bx (.v y4)),(4,.bx (.v y3)),(7,.mv .int 0)])]
 run:=AJ n
def C_24:Cx:=cx0 tt [(35,E_7),(36,E_3),(37,E_22),(38,E_4)] [(3,S_24L3 Ad)] 3
def B_24L3:Code:=(Tryz.f22.body.bind (Yag 3)).getD .skip
def D_24:Code:=Tryz.f22.body.getD .skip
def N_24 (o:XK E_24.params) (r:YH E_24.results):E_24.B:=(o.1,r)
def E_25:Entry where
 params:= [.v y9]
 results:= [.v y3,.mv .int 0]
 B:=(Int×Int×(List ((List Int)×Int×(List (List Int)))))×(List Int)
 run:=λa=>Cw a
 out:=λb=>()
 res:=λb=>(b.1,b.2)
def C_25:Cx:=cx0 tt [(21,E_23),(22,E_24)] [] 1
def D_25:Code:=Tryz.f5.body.getD .skip
def N_25 (_:XK E_25.params) (r:YH E_25.results):E_25.B:=(r.1,r.2)
def E_26:Entry where
 params:= [.v .int]
 results:= [.v .bool]
 B:=Bool
 run:=λa=>Dr a
 out:=λb=>()
 res:=λb=>b
def C_26:Cx:=cx0 tt [] [] 1
def D_26:Code:=Tryz.f55.body.getD .skip
def N_26 (_:XK E_26.params) (r:YH E_26.results):E_26.B:=r
def E_27:Entry where
 params:= [.v y2,.v .int]
 results:= [.v .bool]
 B:=Bool
 run:=λa=>C6 a.1 a.2
 out:=λb=>((),())
 res:=λb=>b
def S_27L2 (n:Nat):LoopSpec where
 sh:= [(1,.v .int),(7,.v y2),(8,.v .int),(9,.v .int)]
 ex:= [(.exit 0,[]),(.ret,[(4,.v .bool)])]
 run:=CL n
def C_27:Cx:=cx0 tt [] [(2,S_27L2 Ad)] 2
def B_27L2:Code:=(Tryz.f39.body.bind (Yag 2)).getD .skip
def D_27:Code:=Tryz.f39.body.getD .skip
def N_27 (_:XK E_27.params) (r:YH E_27.results):E_27.B:=r
def E_28:Entry where
 params:= [.v y2,.v y2]
 results:= [.v .int]
 B:=Int
 run:=λa=>DC a.1 a.2
 out:=λb=>((),())
 res:=λb=>b
def S_28L2 (n:Nat):LoopSpec where
 sh:= [(0,.v y2),(1,.v y2),(5,.v .int)]
 ex:= [(.exit 0,[(0,.v y2),(1,.v y2)]),(.ret,[(4,.v .int)])]
 run:=Bv n
def C_28:Cx:=cx0 tt [] [(2,S_28L2 Ad)] 2
def B_28L2:Code:=(Tryz.f81.body.bind (Yag 2)).getD .skip
def D_28:Code:=Tryz.f81.body.getD .skip
def N_28 (_:XK E_28.params) (r:YH E_28.results):E_28.B:=r
def E_29:Entry where
 params:= [.v .int,.v y5]
 results:= [.v .bool]
 B:=Bool
 run:=λa=>Do a.1 a.2
 out:=λb=>((),())
 res:=λb=>b
def S_29L4 (n:Nat):LoopSpec where
 sh:= [(0,.v .int),(3,.bx (.v y5)),(16,.v y7),(17,.v .int),(18,.v .int)]
 ex:= [(.exit 0,[]),(.ret,[(4,.v .bool)])]
 run:=BM n
def C_29:Cx:=cx0 tt [(39,E_27),(81,E_28)] [(4,S_29L4 Ad)] 2
def B_29L4:Code:=(Tryz.f65.body.bind (Yag 4)).getD .skip
def D_29:Code:=Tryz.f65.body.getD .skip
def N_29 (_:XK E_29.params) (r:YH E_29.results):E_29.B:=r
def E_30:Entry where
 params:= [.v .int,.v .int,.v y0]
 results:= [.v .bool]
 B:=Bool
 run:=λa=>Cg a.1 a.2.1 a.2.2
 out:=λb=>((),(),())
 res:=λb=>b
def C_30:Cx:=cx0 tt [(39,E_27),(65,E_29)] [] 3
def D_30:Code:=Tryz.f48.body.getD .skip
def N_30 (_:XK E_30.params) (r:YH E_30.results):E_30.B:=r
def E_31:Entry where
 params:= [.v y3]
 results:= [.v .bool]
 B:=Bool
 run:=λa=>BA a
 out:=λb=>()
 res:=λb=>b
def S_31L4 (n:Nat):LoopSpec where
 sh:= [(1,.bx (.v y3)),(26,.v y8),(27,.v .int),(28,.v .int)]
 ex:= [(.exit 0,[]),(.ret,[(2,.v .bool)])]
 run:=Ce n
def C_31:Cx:=cx0 tt [(48,E_30),(55,E_26)] [(4,S_31L4 Ad)] 1
def B_31L4:Code:=(Tryz.f23.body.bind (Yag 4)).getD .skip
def D_31:Code:=Tryz.f23.body.getD .skip
def N_31 (_:XK E_31.params) (r:YH E_31.results):E_31.B:=r
def E_32:Entry where
 params:= [.v y2]
 results:= [.v .str]
 B:=ByteArray
 run:=λa=>BX a
 out:=λb=>()
 res:=λb=>b
def S_32L3 (n:Nat):LoopSpec where
 sh:= [(3,.mv (.num .u8) 0),(10,.v y2),(11,.v .int),(12,.v .int)]
 ex:= [(.exit 0,[(3,.mv (.num .u8) 0)])]
 run:=CF n
def C_32:Cx:=cx0 tt [] [(3,S_32L3 Ad)] 1
def B_32L3:Code:=(Tryz.f42.body.bind (Yag 3)).getD .skip
def D_32:Code:=Tryz.f42.body.getD .skip
def N_32 (_:XK E_32.params) (r:YH E_32.results):E_32.B:=r
def E_33:Entry where
 params:= [.v y5]
 results:= [.v (.smap .sb)]
 B:=(List ByteArray)
 run:=λa=>DH a
 out:=λb=>()
 res:=λb=>b
def S_33L3 (n:Nat):LoopSpec where
 sh:= [(3,(.mp .sb)),(8,.v y7),(9,.v .int),(10,.v .int)]
 ex:= [(.exit 0,[(3,(.mp .sb))])]
 run:=Cq n
def C_33:Cx:=cx0 tt [(42,E_32)] [(3,S_33L3 Ad)] 1
def B_33L3:Code:=(Tryz.f76.body.bind (Yag 3)).getD .skip
def D_33:Code:=Tryz.f76.body.getD .skip
def N_33 (_:XK E_33.params) (r:YH E_33.results):E_33.B:=r
def E_34:Entry where
 params:= [.v y3]
 results:= [.v (.ptr y1)]
 B:=(Bool×Int×(List (List (List Int)))×(List (List (List ByteArray))))
 run:=λa=>BC a
 out:=λb=>()
 res:=λb=>b
def S_34L7 (n:Nat):LoopSpec where
 sh:= [(3,.bx (.pr (.v .int) (.pr (.mv y7 1) (.mv y10 1)))),(5,.bx (.v y0)),(6,.v .int),(20,.v y8),(21,.v .int),(22,.v .int),(27,.v y2),(28,.v .int),(29,.v .int)]
 ex:= [(.exit 2,[(3,.bx (.pr (.v .int) (.pr (.mv y7 1) (.mv y10 1)))),(5,.bx (.v y0)),(6,.v .int),(20,.v y8),(21,.v .int),(22,.v .int)])]
 run:=By n
def S_34L3 (n:Nat):LoopSpec where
 sh:= [(3,.bx (.pr (.v .int) (.pr (.mv y7 1) (.mv y10 1)))),(20,.v y8),(21,.v .int),(22,.v .int)]
 ex:= [(.exit 0,[(3,.bx (.pr (.v .int) (.pr (.mv y7 1) (.mv y10 1))))])]
 run:=Bx n
def C_34:Cx where
 tt:=YaU tt
 T:=Ygp [(76,E_33)]
 L:=Ygo [(7,S_34L7 Ad),(3,S_34L3 Ad)]
 dep:=λi=>match i with
  |13=>1
  |16=>1
  |_=>0
 n:=1
 fine:=true
def B_34L7:Code:=(Tryz.f56.body.bind (Yag 7)).getD .skip
def B_34L3:Code:=(Tryz.f56.body.bind (Yag 3)).getD .skip
def D_34:Code:=Tryz.f56.body.getD .skip
def N_34 (_:XK E_34.params) (r:YH E_34.results):E_34.B:=r
def E_35:Entry where
 params:= [.v y2]
 results:= [.nv .int 0]
 B:=(Bool×(List Int))
 run:=λa=>Ex a
 out:=λb=>()
 res:=λb=>b
def C_35:Cx:=cx0 tt [] [] 1
def D_35:Code:=Tryz.f32.body.getD .skip
def N_35 (_:XK E_35.params) (r:YH E_35.results):E_35.B:=r
def E_36:Entry where
 params:= [.v y2,.bx (.nv .int 0)]
 results:= [.v .bool]
 B:=(Bool×(List Int))×Bool
 run:=λa=>B5 a.1 a.2
 out:=λb=>((),b.1)
 res:=λb=>b.2
def C_36:Cx:=cx0 tt [(32,E_35)] [] 2
def D_36:Code:=Tryz.f58.body.getD .skip
def N_36 (o:XK E_36.params) (r:YH E_36.results):E_36.B:=(o.2,r)
def E_37:Entry where
 params:= [.v y2,.v y2]
 results:= [.mv .int 0]
 B:=(List Int)
 run:=λa=>Bi a.1 a.2
 out:=λb=>((),())
 res:=λb=>b
def S_37L3 (n:Nat):LoopSpec where
 sh:= [(1,.v y2),(5,.mv .int 0),(11,.v y2),(12,.v .int),(13,.v .int)]
 ex:= [(.exit 0,[(5,.mv .int 0)])]
 run:=CC n
def C_37:Cx:=cx0 tt [] [(3,S_37L3 Ad)] 2
def B_37L3:Code:=(Tryz.f41.body.bind (Yag 3)).getD .skip
def D_37:Code:=Tryz.f41.body.getD .skip
def N_37 (_:XK E_37.params) (r:YH E_37.results):E_37.B:=r
def E_38_of (rec:(Int×(List Int)×(Bool×(List Int))×(Bool×Int×(List (List (List Int)))×(List (List (List ByteArray))))×(List Int)×Unit)->Option ((List Int)×(Bool×(List Int))×(Bool×Int×(List (List (List Int)))×(List (List (List ByteArray))))×(List Int)×Bool)):Entry where
 params:= [.v .int,.bx (.mv .int 0),.bx (.nv .int 0),.bx (.v (.ptr y1)),.bx (.v y2),.jk 1]
 results:= [.v .bool]
 cod:= [(2,.kb 58),(5,.kn 77 1 5)]
 B:=(List Int)×(Bool×(List Int))×(Bool×Int×(List (List (List Int)))×(List (List (List ByteArray))))×(List Int)×Bool
 run:=rec
 out:=λb=>((),b.1,b.2.1,b.2.2.1,b.2.2.2.1,())
 res:=λb=>b.2.2.2.2
def E_38 (d:Nat):Entry:=E_38_of (Ax d)
def S_38L10 (rec:(Int×(List Int)×(Bool×(List Int))×(Bool×Int×(List (List (List Int)))×(List (List (List ByteArray))))×(List Int)×Unit)->Option ((List Int)×(Bool×(List Int))×(Bool×Int×(List (List (List Int)))×(List (List (List ByteArray))))×(List Int)×Bool)) (n:Nat):LoopSpec where
 sh:= [(0,.v .int),(1,.bx (.mv .int 0)),(2,.bx (.nv .int 0)),(3,.bx (.v (.ptr y1))),(4,.bx (.v y2)),(5,.jk 1),(8,.v .int),(9,.v .bool),(50,.v y7),(51,.v .int),(52,.v .int)]
 ex:= [(.exit 2,[(0,.v .int),(1,.bx (.mv .int 0)),(2,.bx (.nv .int 0)),(3,.bx (.v (.ptr y1))),(4,.bx (.v y2)),(5,.jk 1),(8,.v .int),(9,.v .bool)])]
 run:=Ar rec n
def S_38L4 (rec:(Int×(List Int)×(Bool×(List Int))×(Bool×Int×(List (List (List Int)))×(List (List (List ByteArray))))×(List Int)×Unit)->Option ((List Int)×(Bool×(List Int))×(Bool×Int×(List (List (List Int)))×(List (List (List ByteArray))))×(List Int)×Bool)) (n:Nat):LoopSpec where
 sh:= [(0,.v .int),(1,.bx (.mv .int 0)),(2,.bx (.nv .int 0)),(3,.bx (.v (.ptr y1))),(4,.bx (.v y2)),(5,.jk 1),(8,.v .int)]
 ex:= [(.exit 0,[(1,.bx (.mv .int 0)),(2,.bx (.nv .int 0)),(3,.bx (.v (.ptr y1))),(4,.bx (.v y2)),(5,.jk 1)]),(.ret,[(1,.bx (.mv .int 0)),(2,.bx (.nv .int 0)),(3,.bx (.v (.ptr y1))),(4,.bx (.v y2)),(5,.jk 1),(7,.v .bool)])]
 run:=Ak rec n
def C_38 (rec:(Int×(List Int)×(Bool×(List Int))×(Bool×Int×(List (List (List Int)))×(List (List (List ByteArray))))×(List Int)×Unit)->Option ((List Int)×(Bool×(List Int))×(Bool×Int×(List (List (List Int)))×(List (List (List ByteArray))))×(List Int)×Bool)):Cx where
 tt:=YaU tt
 T:=Ygp [(41,E_37),(42,E_32),(58,E_36),(3866701,E_38_of rec)]
 L:=Ygo [(10,S_38L10 rec Ad),(4,S_38L4 rec Ad)]
 dep:=λi=>0
 n:=6
 cod:= [(2,.kb 58),(5,.kn 77 1 5)]
def B_38L10:Code:=(Tryz.f77.body.bind (Yag 10)).getD .skip
def B_38L4:Code:=(Tryz.f77.body.bind (Yag 4)).getD .skip
def D_38:Code:=Tryz.f77.body.getD .skip
def N_38 (o:XK [.v .int,.bx (.mv .int 0),.bx (.nv .int 0),.bx (.v (.ptr y1)),.bx (.v y2),.jk 1]) (r:YH [.v .bool]):(List Int)×(Bool×(List Int))×(Bool×Int×(List (List (List Int)))×(List (List (List ByteArray))))×(List Int)×Bool:=(o.2.1,o.2.2.1,o.2.2.2.1,o.2.2.2.2.1,r)
def E_39:Entry where
 params:= [.v (.ptr y1),.v y2,.bx (.nv .int 0)]
 results:= []
 cod:= [(2,.cl 58)]
 B:=(Bool×(List Int))
 run:=λa=>BG a.1 a.2.1 a.2.2
 out:=λb=>((),(),b)
 res:=λb=>()
def C_39:Cx where
 tt:=YaU tt
 T:=Ygp [(3866701,E_38 Ad)]
 L:=Ygo []
 dep:=λi=>0
 n:=3
 cod:= [(2,.cl 58)]
def D_39:Code:=Tryz.f57.body.getD .skip
def N_39 (o:XK E_39.params) (_:YH E_39.results):E_39.B:=o.2.2
def E_40:Entry where
 params:= [.v y3,.v y2]
 results:= [.nv .int 0]
 B:=(Bool×(List Int))
 run:=λa=>C5 a.1 a.2
 out:=λb=>((),())
 res:=λb=>b
def C_40:Cx:=cx0 tt [(56,E_34),(3866681,E_39)] [] 2
def D_40:Code:=Tryz.f24.body.getD .skip
def N_40 (_:XK E_40.params) (r:YH E_40.results):E_40.B:=r
def E_41:Entry where
 params:= [.v y3,.v y2]
 results:= [.mv .int 0,.v .bool]
 B:=(List Int)×Bool
 run:=λa=>Cv a.1 a.2
 out:=λb=>((),())
 res:=λb=>(b.1,b.2)
def S_41L4 (n:Nat):LoopSpec where
 sh:= [(1,.v y2),(2,.bx (.v y3)),(20,.v y2),(21,.v .int),(22,.v .int)]
 ex:= [(.exit 0,[(1,.v y2),(2,.bx (.v y3))]),(.ret,[(4,.mv .int 0),(5,.v .bool)])]
 run:=Bt n
def C_41:Cx:=cx0 tt [(23,E_31),(24,E_40)] [(4,S_41L4 Ad)] 2
def B_41L4:Code:=(Tryz.f6.body.bind (Yag 4)).getD .skip
def D_41:Code:=Tryz.f6.body.getD .skip
def N_41 (_:XK E_41.params) (r:YH E_41.results):E_41.B:=(r.1,r.2)
def E_42:Entry where
 params:= [.v .int,.v y2]
 results:= [.v .bool]
 B:=Bool
 run:=λa=>Cc a.1 a.2
 out:=λb=>((),())
 res:=λb=>b
def S_42L2 (n:Nat):LoopSpec where
 sh:= [(0,.v .int),(1,.v y2),(5,.v .int)]
 ex:= [(.exit 0,[]),(.ret,[(4,.v .bool)])]
 run:=B4 n
def C_42:Cx:=cx0 tt [(44,E_8)] [(2,S_42L2 Ad)] 2
def B_42L2:Code:=(Tryz.f45.body.bind (Yag 2)).getD .skip
def D_42:Code:=Tryz.f45.body.getD .skip
def N_42 (_:XK E_42.params) (r:YH E_42.results):E_42.B:=r
def E_43:Entry where
 params:= [.v .int,.v .int,.v y2]
 results:= [.v .bool]
 B:=Bool
 run:=λa=>DS a.1 a.2.1 a.2.2
 out:=λb=>((),(),())
 res:=λb=>b
def C_43:Cx:=cx0 tt [(45,E_42)] [] 3
def D_43:Code:=Tryz.f82.body.getD .skip
def N_43 (_:XK E_43.params) (r:YH E_43.results):E_43.B:=r
def E_44:Entry where
 params:= [.v .int,.v y5]
 results:= [.v .bool]
 B:=Bool
 run:=λa=>DP a.1 a.2
 out:=λb=>((),())
 res:=λb=>b
def S_44L4 (n:Nat):LoopSpec where
 sh:= [(0,.v .int),(3,.bx (.v y5)),(5,.v .int)]
 ex:= [(.exit 0,[]),(.ret,[(4,.v .bool)])]
 run:=B7 n
def C_44:Cx:=cx0 tt [(44,E_8),(46,E_16),(82,E_43),(83,E_10)] [(4,S_44L4 Ad)] 2
def B_44L4:Code:=(Tryz.f72.body.bind (Yag 4)).getD .skip
def D_44:Code:=Tryz.f72.body.getD .skip
def N_44 (_:XK E_44.params) (r:YH E_44.results):E_44.B:=r
def E_45:Entry where
 params:= [.v .int,.v .int,.v y0]
 results:= [.v .bool]
 B:=Bool
 run:=λa=>Dw a.1 a.2.1 a.2.2
 out:=λb=>((),(),())
 res:=λb=>b
def C_45:Cx:=cx0 tt [(45,E_42),(72,E_44)] [] 3
def D_45:Code:=Tryz.f52.body.getD .skip
def N_45 (_:XK E_45.params) (r:YH E_45.results):E_45.B:=r
def E_46:Entry where
 params:= [.v y3]
 results:= [.v .bool]
 B:=Bool
 run:=λa=>BZ a
 out:=λb=>()
 res:=λb=>b
def S_46L4 (n:Nat):LoopSpec where
 sh:= [(1,.bx (.v y3)),(3,.v .int)]
 ex:= [(.exit 0,[]),(.ret,[(2,.v .bool)])]
 run:=CE n
def C_46:Cx:=cx0 tt [(44,E_8),(52,E_45)] [(4,S_46L4 Ad)] 1
def B_46L4:Code:=(Tryz.f25.body.bind (Yag 4)).getD .skip
def D_46:Code:=Tryz.f25.body.getD .skip
def N_46 (_:XK E_46.params) (r:YH E_46.results):E_46.B:=r
def E_47:Entry where
 params:= [.v y3,.v y2]
 results:= [.v .bool]
 B:=Bool
 run:=λa=>C3 a.1 a.2
 out:=λb=>((),())
 res:=λb=>b
def S_47L2 (n:Nat):LoopSpec where
 sh:= [(1,.v y2),(2,.bx (.v y3)),(5,.v .int)]
 ex:= [(.exit 0,[(1,.v y2),(2,.bx (.v y3))]),(.ret,[(4,.v .bool)])]
 run:=BN n
def C_47:Cx:=cx0 tt [(44,E_8)] [(2,S_47L2 Ad)] 2
def B_47L2:Code:=(Tryz.f26.body.bind (Yag 2)).getD .skip
def D_47:Code:=Tryz.f26.body.getD .skip
def N_47 (_:XK E_47.params) (r:YH E_47.results):E_47.B:=r
def E_48:Entry where
 params:= [.v .int,.v y8]
 results:= [.mv y8 1]
 B:=(List (List ((List Int)×Int×(List (List Int)))))
 run:=λa=>DQ a.1 a.2
 out:=λb=>((),())
 res:=λb=>b
def S_48L7 (n:Nat):LoopSpec where
 sh:= [(1,.v y8),(5,.mv y8 1),(6,.v .int),(7,.v .int),(8,.v .int)]
 ex:= [(.exit 2,[(1,.v y8),(5,.mv y8 1),(6,.v .int),(7,.v .int)])]
 run:=Ca n
def S_48L3 (n:Nat):LoopSpec where
 sh:= [(1,.v y8),(5,.mv y8 1),(6,.v .int)]
 ex:= [(.exit 0,[(5,.mv y8 1)])]
 run:=B9 n
def C_48:Cx where
 tt:=YaU tt
 T:=Ygp [(37,E_22)]
 L:=Ygo [(7,S_48L7 Ad),(3,S_48L3 Ad)]
 dep:=λi=>match i with
  |10=>1
  |_=>0
 n:=2
 fine:=true
def B_48L7:Code:=(Tryz.f60.body.bind (Yag 7)).getD .skip
def B_48L3:Code:=(Tryz.f60.body.bind (Yag 3)).getD .skip
def D_48:Code:=Tryz.f60.body.getD .skip
def N_48 (_:XK E_48.params) (r:YH E_48.results):E_48.B:=r
def E_49:Entry where
 params:= [.v y5,.v y2]
 results:= [.v .bool]
 B:=Bool
 run:=λa=>C7 a.1 a.2
 out:=λb=>((),())
 res:=λb=>b
def C_49:Cx:=cx0 tt [(73,E_12)] [] 2
def D_49:Code:=Tryz.f53.body.getD .skip
def N_49 (_:XK E_49.params) (r:YH E_49.results):E_49.B:=r
def E_50:Entry where
 params:= [.v y0,.v y2]
 results:= [.v .bool]
 B:=Bool
 run:=λa=>CJ a.1 a.2
 out:=λb=>((),())
 res:=λb=>b
def S_50L3 (n:Nat):LoopSpec where
 sh:= [(1,.v y2),(2,.bx (.v y0)),(5,.mv .int 0),(6,.v .int)]
 ex:= [(.exit 0,[(2,.bx (.v y0)),(5,.mv .int 0)])]
 run:=BQ n
def C_50:Cx:=cx0 tt [(53,E_49)] [(3,S_50L3 Ad)] 2
def B_50L3:Code:=(Tryz.f78.body.bind (Yag 3)).getD .skip
def D_50:Code:=Tryz.f78.body.getD .skip
def N_50 (_:XK E_50.params) (r:YH E_50.results):E_50.B:=r
def E_51_of (rec:(Int×(List (List ((List Int)×Int×(List (List Int)))))×(List Int)×(List Int)×((List (List Int))×(Int×Int×Bool)))->Option (((List (List Int))×(Int×Int×Bool)))):Entry where
 params:= [.v .int,.v y11,.v y2,.v y2,.pr (.mv y2 1) (.v y6)]
 results:= [.pr (.mv y2 1) (.v y6)]
 B:=((List (List Int))×(Int×Int×Bool))
 run:=rec
 out:=λb=>((),(),(),(),((),()))
 res:=λb=>b
def E_51 (d:Nat):Entry:=E_51_of (AH d)
def S_51L14 (rec:(Int×(List (List ((List Int)×Int×(List (List Int)))))×(List Int)×(List Int)×((List (List Int))×(Int×Int×Bool)))->Option (((List (List Int))×(Int×Int×Bool)))) (n:Nat):LoopSpec where
 sh:= [(0,.v .int),(1,.v y11),(2,.v y2),(3,.v y2),(9,.bx (.pr (.mv y2 1) (.v y6))),(10,.bx (.pr (.mv y2 1) (.v y6))),(11,.v .int),(12,.v .int),(13,.mv .int 0),(14,.v .bool),(15,.v .int)]
 ex:= [(.exit 2,[(0,.v .int),(1,.v y11),(2,.v y2),(3,.v y2),(9,.bx (.pr (.mv y2 1) (.v y6))),(10,.bx (.pr (.mv y2 1) (.v y6))),(11,.v .int),(12,.v .int),(13,.mv .int 0),(14,.v .bool)])]
 run:=AT rec n
def S_51L8 (rec:(Int×(List (List ((List Int)×Int×(List (List Int)))))×(List Int)×(List Int)×((List (List Int))×(Int×Int×Bool)))->Option (((List (List Int))×(Int×Int×Bool)))) (n:Nat):LoopSpec where
 sh:= [(0,.v .int),(1,.v y11),(2,.v y2),(3,.v y2),(9,.bx (.pr (.mv y2 1) (.v y6))),(10,.bx (.pr (.mv y2 1) (.v y6))),(11,.v .int),(12,.v .int)]
 ex:= [(.exit 0,[(9,.bx (.pr (.mv y2 1) (.v y6))),(10,.bx (.pr (.mv y2 1) (.v y6)))])]
 run:=Az rec n
def C_51 (rec:(Int×(List (List ((List Int)×Int×(List (List Int)))))×(List Int)×(List Int)×((List (List Int))×(Int×Int×Bool)))->Option (((List (List Int))×(Int×Int×Bool)))):Cx where
 tt:=YaU tt
 T:=Ygp [(59,E_51_of rec),(75,E_6),(78,E_50)]
 L:=Ygo [(14,S_51L14 rec Ad),(8,S_51L8 rec Ad)]
 dep:=λi=>match i with
  |36=>1
  |37=>1
  |_=>0
 n:=5
def B_51L14:Code:=(Tryz.f59.body.bind (Yag 14)).getD .skip
def B_51L8:Code:=(Tryz.f59.body.bind (Yag 8)).getD .skip
def D_51:Code:=Tryz.f59.body.getD .skip
def N_51 (_:XK [.v .int,.v y11,.v y2,.v y2,.pr (.mv y2 1) (.v y6)]) (r:YH [.pr (.mv y2 1) (.v y6)]):((List (List Int))×(Int×Int×Bool)):=r
def E_52:Entry where
 params:= [.v y3,.v y8,.v y2,.v .int,.v .bool]
 results:= [.pr (.mv y2 1) (.v y6)]
 B:=((List (List Int))×(Int×Int×Bool))
 run:=λa=>BY a.1 a.2.1 a.2.2.1 a.2.2.2.1 a.2.2.2.2
 out:=λb=>((),(),(),(),())
 res:=λb=>b
def C_52:Cx:=cx0 tt [(59,E_51 Ad),(60,E_48)] [] 5
def D_52:Code:=Tryz.f27.body.getD .skip
def N_52 (_:XK E_52.params) (r:YH E_52.results):E_52.B:=r
def E_53:Entry where
 params:= [.v y3,.v y2]
 results:= [.v y2,.v .bool]
 B:=(List Int)×Bool
 run:=λa=>Cy a.1 a.2
 out:=λb=>((),())
 res:=λb=>(b.1,b.2)
def C_53:Cx:=cx0 tt [(25,E_46),(26,E_47),(27,E_52)] [] 2
def D_53:Code:=Tryz.f7.body.getD .skip
def N_53 (_:XK E_53.params) (r:YH E_53.results):E_53.B:=(r.1,r.2)
def E_54:Entry where
 params:= [.v y2,.v y2]
 results:= [.v .bool]
 B:=Bool
 run:=λa=>CM a.1 a.2
 out:=λb=>((),())
 res:=λb=>b
def S_54L4 (n:Nat):LoopSpec where
 sh:= [(0,.v y2),(1,.v y2),(5,.v .int)]
 ex:= [(.exit 0,[]),(.ret,[(4,.v .bool)])]
 run:=CG n
def C_54:Cx:=cx0 tt [] [(4,S_54L4 Ad)] 2
def B_54L4:Code:=(Tryz.f8.body.bind (Yag 4)).getD .skip
def D_54:Code:=Tryz.f8.body.getD .skip
def N_54 (_:XK E_54.params) (r:YH E_54.results):E_54.B:=r
def E_55:Entry where
 params:= [.v .int]
 results:= [.mv .int 0]
 B:=(List Int)
 run:=λa=>Co a
 out:=λb=>()
 res:=λb=>b
def S_55L3 (n:Nat):LoopSpec where
 sh:= [(3,.mv .int 0),(8,.v .int),(9,.v .int)]
 ex:= [(.exit 0,[(3,.mv .int 0)])]
 run:=BT n
def C_55:Cx:=cx0 tt [] [(3,S_55L3 Ad)] 1
def B_55L3:Code:=(Tryz.f61.body.bind (Yag 3)).getD .skip
def D_55:Code:=Tryz.f61.body.getD .skip
def N_55 (_:XK E_55.params) (r:YH E_55.results):E_55.B:=r
def E_56:Entry where
 params:= [.v y2,.bx (.v .int)]
 results:= [.v .bool]
 B:=Int×Bool
 run:=λa=>Cu a.1 a.2
 out:=λb=>((),b.1)
 res:=λb=>b.2
def C_56:Cx:=cx0 tt [] [] 2
def D_56:Code:=Tryz.f29.body.getD .skip
def N_56 (o:XK E_56.params) (r:YH E_56.results):E_56.B:=(o.2,r)
def E_57_of (rec:(Int×(List Int)×Int×(Bool×Int×(List (List (List Int)))×(List (List (List ByteArray))))×(List Int)×Unit)->Option ((List Int)×Int×(Bool×Int×(List (List (List Int)))×(List (List (List ByteArray))))×(List Int)×Bool)):Entry where
 params:= [.v .int,.bx (.mv .int 0),.bx (.v .int),.bx (.v (.ptr y1)),.bx (.v y2),.jk 1]
 results:= [.v .bool]
 cod:= [(2,.kb 29),(5,.kn 77 1 5)]
 B:=(List Int)×Int×(Bool×Int×(List (List (List Int)))×(List (List (List ByteArray))))×(List Int)×Bool
 run:=rec
 out:=λb=>((),b.1,b.2.1,b.2.2.1,b.2.2.2.1,())
 res:=λb=>b.2.2.2.2
def E_57 (d:Nat):Entry:=E_57_of (Au d)
def S_57L10 (rec:(Int×(List Int)×Int×(Bool×Int×(List (List (List Int)))×(List (List (List ByteArray))))×(List Int)×Unit)->Option ((List Int)×Int×(Bool×Int×(List (List (List Int)))×(List (List (List ByteArray))))×(List Int)×Bool)) (n:Nat):LoopSpec where
 sh:= [(0,.v .int),(1,.bx (.mv .int 0)),(2,.bx (.v .int)),(3,.bx (.v (.ptr y1))),(4,.bx (.v y2)),(5,.jk 1),(8,.v .int),(9,.v .bool),(50,.v y7),(51,.v .int),(52,.v .int)]
 ex:= [(.exit 2,[(0,.v .int),(1,.bx (.mv .int 0)),(2,.bx (.v .int)),(3,.bx (.v (.ptr y1))),(4,.bx (.v y2)),(5,.jk 1),(8,.v .int),(9,.v .bool)])]
 run:=Aq rec n
def S_57L4 (rec:(Int×(List Int)×Int×(Bool×Int×(List (List (List Int)))×(List (List (List ByteArray))))×(List Int)×Unit)->Option ((List Int)×Int×(Bool×Int×(List (List (List Int)))×(List (List (List ByteArray))))×(List Int)×Bool)) (n:Nat):LoopSpec where
 sh:= [(0,.v .int),(1,.bx (.mv .int 0)),(2,.bx (.v .int)),(3,.bx (.v (.ptr y1))),(4,.bx (.v y2)),(5,.jk 1),(8,.v .int)]
 ex:= [(.exit 0,[(1,.bx (.mv .int 0)),(2,.bx (.v .int)),(3,.bx (.v (.ptr y1))),(4,.bx (.v y2)),(5,.jk 1)]),(.ret,[(1,.bx (.mv .int 0)),(2,.bx (.v .int)),(3,.bx (.v (.ptr y1))),(4,.bx (.v y2)),(5,.jk 1),(7,.v .bool)])]
 run:=Aj rec n
def C_57 (rec:(Int×(List Int)×Int×(Bool×Int×(List (List (List Int)))×(List (List (List ByteArray))))×(List Int)×Unit)->Option ((List Int)×Int×(Bool×Int×(List (List (List Int)))×(List (List (List ByteArray))))×(List Int)×Bool)):Cx where
 tt:=YaU tt
 T:=Ygp [(29,E_56),(41,E_37),(42,E_32),(1966157,E_57_of rec)]
 L:=Ygo [(10,S_57L10 rec Ad),(4,S_57L4 rec Ad)]
 dep:=λi=>0
 n:=6
 cod:= [(2,.kb 29),(5,.kn 77 1 5)]
def B_57L10:Code:=(Tryz.f77.body.bind (Yag 10)).getD .skip
def B_57L4:Code:=(Tryz.f77.body.bind (Yag 4)).getD .skip
def D_57:Code:=Tryz.f77.body.getD .skip
def N_57 (o:XK [.v .int,.bx (.mv .int 0),.bx (.v .int),.bx (.v (.ptr y1)),.bx (.v y2),.jk 1]) (r:YH [.v .bool]):(List Int)×Int×(Bool×Int×(List (List (List Int)))×(List (List (List ByteArray))))×(List Int)×Bool:=(o.2.1,o.2.2.1,o.2.2.2.1,o.2.2.2.2.1,r)
def E_58:Entry where
 params:= [.v (.ptr y1),.v y2,.bx (.v .int)]
 results:= []
 cod:= [(2,.cl 29)]
 B:=Int
 run:=λa=>BB a.1 a.2.1 a.2.2
 out:=λb=>((),(),b)
 res:=λb=>()
def C_58:Cx where
 tt:=YaU tt
 T:=Ygp [(1966157,E_57 Ad)]
 L:=Ygo []
 dep:=λi=>0
 n:=3
 cod:= [(2,.cl 29)]
def D_58:Code:=Tryz.f57.body.getD .skip
def N_58 (o:XK E_58.params) (_:YH E_58.results):E_58.B:=o.2.2
def E_59:Entry where
 params:= [.v y3,.bx (.v .int)]
 results:= []
 cod:= [(1,.cl 29)]
 B:=Int
 run:=λa=>BK a.1 a.2
 out:=λb=>((),b)
 res:=λb=>()
def C_59:Cx where
 tt:=YaU tt
 T:=Ygp [(56,E_34),(61,E_55),(1966137,E_58)]
 L:=Ygo []
 dep:=λi=>0
 n:=2
 cod:= [(1,.cl 29)]
def D_59:Code:=Tryz.f28.body.getD .skip
def N_59 (o:XK E_59.params) (_:YH E_59.results):E_59.B:=o.2
def E_60:Entry where
 params:= [.v y3]
 results:= [.v .int,.v .bool]
 B:=Int×Bool
 run:=λa=>BD a
 out:=λb=>()
 res:=λb=>(b.1,b.2)
def C_60:Cx:=cx0 tt [(23,E_31),(1966108,E_59)] [] 1
def D_60:Code:=Tryz.f9.body.getD .skip
def N_60 (_:XK E_60.params) (r:YH E_60.results):E_60.B:=(r.1,r.2)
def E_61:Entry where
 params:= [.v .int]
 results:= [.mv .int 0]
 B:=(List Int)
 run:=λa=>CX a
 out:=λb=>()
 res:=λb=>b
def S_61L3 (n:Nat):LoopSpec where
 sh:= [(0,.v .int),(3,.mv .int 0),(4,.v .int)]
 ex:= [(.exit 0,[(3,.mv .int 0)])]
 run:=B8 n
def C_61:Cx:=cx0 tt [] [(3,S_61L3 Ad)] 1
def B_61L3:Code:=(Tryz.f30.body.bind (Yag 3)).getD .skip
def D_61:Code:=Tryz.f30.body.getD .skip
def N_61 (_:XK E_61.params) (r:YH E_61.results):E_61.B:=r
def E_62:Entry where
 params:= [.v y3]
 results:= [.v .int,.v .bool]
 B:=Int×Bool
 run:=λa=>BF a
 out:=λb=>()
 res:=λb=>(b.1,b.2)
def C_62:Cx:=cx0 tt [(25,E_46),(27,E_52),(30,E_61)] [] 1
def D_62:Code:=Tryz.f10.body.getD .skip
def N_62 (_:XK E_62.params) (r:YH E_62.results):E_62.B:=(r.1,r.2)
def E_63:Entry where
 params:= [.v y2]
 results:= [.mv .int 0]
 B:=(List Int)
 run:=λa=>C4 a
 out:=λb=>()
 res:=λb=>b
def C_63:Cx:=cx0 tt [] [] 1
def D_63:Code:=Tryz.f32.body.getD .skip
def N_63 (_:XK E_63.params) (r:YH E_63.results):E_63.B:=r
def E_64:Entry where
 params:= [.v y2,.bx (.mv y2 1)]
 results:= [.v .bool]
 B:=(List (List Int))×Bool
 run:=λa=>Cd a.1 a.2
 out:=λb=>((),b.1)
 res:=λb=>b.2
def C_64:Cx where
 tt:=YaU tt
 T:=Ygp [(32,E_63)]
 L:=Ygo []
 dep:=λi=>match i with
  |7=>1
  |8=>1
  |_=>0
 n:=2
def D_64:Code:=Tryz.f31.body.getD .skip
def N_64 (o:XK E_64.params) (r:YH E_64.results):E_64.B:=(o.2,r)
def E_65_of (rec:(Int×(List Int)×(List (List Int))×(Bool×Int×(List (List (List Int)))×(List (List (List ByteArray))))×(List Int)×Unit)->Option ((List Int)×(List (List Int))×(Bool×Int×(List (List (List Int)))×(List (List (List ByteArray))))×(List Int)×Bool)):Entry where
 params:= [.v .int,.bx (.mv .int 0),.bx (.mv y2 1),.bx (.v (.ptr y1)),.bx (.v y2),.jk 1]
 results:= [.v .bool]
 cod:= [(2,.kb 31),(5,.kn 77 1 5)]
 B:=(List Int)×(List (List Int))×(Bool×Int×(List (List (List Int)))×(List (List (List ByteArray))))×(List Int)×Bool
 run:=rec
 out:=λb=>((),b.1,b.2.1,b.2.2.1,b.2.2.2.1,())
 res:=λb=>b.2.2.2.2
def E_65 (d:Nat):Entry:=E_65_of (Ay d)
def S_65L10 (rec:(Int×(List Int)×(List (List Int))×(Bool×Int×(List (List (List Int)))×(List (List (List ByteArray))))×(List Int)×Unit)->Option ((List Int)×(List (List Int))×(Bool×Int×(List (List (List Int)))×(List (List (List ByteArray))))×(List Int)×Bool)) (n:Nat):LoopSpec where
 sh:= [(0,.v .int),(1,.bx (.mv .int 0)),(2,.bx (.mv y2 1)),(3,.bx (.v (.ptr y1))),(4,.bx (.v y2)),(5,.jk 1),(8,.v .int),(9,.v .bool),(50,.v y7),(51,.v .int),(52,.v .int)]
 ex:= [(.exit 2,[(0,.v .int),(1,.bx (.mv .int 0)),(2,.bx (.mv y2 1)),(3,.bx (.v (.ptr y1))),(4,.bx (.v y2)),(5,.jk 1),(8,.v .int),(9,.v .bool)])]
 run:=As rec n
def S_65L4 (rec:(Int×(List Int)×(List (List Int))×(Bool×Int×(List (List (List Int)))×(List (List (List ByteArray))))×(List Int)×Unit)->Option ((List Int)×(List (List Int))×(Bool×Int×(List (List (List Int)))×(List (List (List ByteArray))))×(List Int)×Bool)) (n:Nat):LoopSpec where
 sh:= [(0,.v .int),(1,.bx (.mv .int 0)),(2,.bx (.mv y2 1)),(3,.bx (.v (.ptr y1))),(4,.bx (.v y2)),(5,.jk 1),(8,.v .int)]
 ex:= [(.exit 0,[(1,.bx (.mv .int 0)),(2,.bx (.mv y2 1)),(3,.bx (.v (.ptr y1))),(4,.bx (.v y2)),(5,.jk 1)]),(.ret,[(1,.bx (.mv .int 0)),(2,.bx (.mv y2 1)),(3,.bx (.v (.ptr y1))),(4,.bx (.v y2)),(5,.jk 1),(7,.v .bool)])]
 run:=An rec n
def C_65 (rec:(Int×(List Int)×(List (List Int))×(Bool×Int×(List (List (List Int)))×(List (List (List ByteArray))))×(List Int)×Unit)->Option ((List Int)×(List (List Int))×(Bool×Int×(List (List (List Int)))×(List (List (List ByteArray))))×(List Int)×Bool)):Cx where
 tt:=YaU tt
 T:=Ygp [(31,E_64),(41,E_37),(42,E_32),(2097229,E_65_of rec)]
 L:=Ygo [(10,S_65L10 rec Ad),(4,S_65L4 rec Ad)]
 dep:=λi=>0
 n:=6
 cod:= [(2,.kb 31),(5,.kn 77 1 5)]
def B_65L10:Code:=(Tryz.f77.body.bind (Yag 10)).getD .skip
def B_65L4:Code:=(Tryz.f77.body.bind (Yag 4)).getD .skip
def D_65:Code:=Tryz.f77.body.getD .skip
def N_65 (o:XK [.v .int,.bx (.mv .int 0),.bx (.mv y2 1),.bx (.v (.ptr y1)),.bx (.v y2),.jk 1]) (r:YH [.v .bool]):(List Int)×(List (List Int))×(Bool×Int×(List (List (List Int)))×(List (List (List ByteArray))))×(List Int)×Bool:=(o.2.1,o.2.2.1,o.2.2.2.1,o.2.2.2.2.1,r)
def E_66:Entry where
 params:= [.v (.ptr y1),.v y2,.bx (.mv y2 1)]
 results:= []
 cod:= [(2,.cl 31)]
 B:=(List (List Int))
 run:=λa=>BL a.1 a.2.1 a.2.2
 out:=λb=>((),(),b)
 res:=λb=>()
def C_66:Cx where
 tt:=YaU tt
 T:=Ygp [(2097229,E_65 Ad)]
 L:=Ygo []
 dep:=λi=>0
 n:=3
 cod:= [(2,.cl 31)]
def D_66:Code:=Tryz.f57.body.getD .skip
def N_66 (o:XK E_66.params) (_:YH E_66.results):E_66.B:=o.2.2
def E_67:Entry where
 params:= [.v y3,.bx (.mv y2 1)]
 results:= []
 cod:= [(1,.cl 31)]
 B:=(List (List Int))
 run:=λa=>BP a.1 a.2
 out:=λb=>((),b)
 res:=λb=>()
def C_67:Cx where
 tt:=YaU tt
 T:=Ygp [(56,E_34),(61,E_55),(2097209,E_66)]
 L:=Ygo []
 dep:=λi=>0
 n:=2
 cod:= [(1,.cl 31)]
def D_67:Code:=Tryz.f28.body.getD .skip
def N_67 (o:XK E_67.params) (_:YH E_67.results):E_67.B:=o.2
def E_68:Entry where
 params:= [.v y3]
 results:= [.mv y2 1,.v .bool]
 B:=(List (List Int))×Bool
 run:=λa=>BR a
 out:=λb=>()
 res:=λb=>(b.1,b.2)
def C_68:Cx where
 tt:=YaU tt
 T:=Ygp [(23,E_31),(2097180,E_67)]
 L:=Ygo []
 dep:=λi=>match i with
  |8=>1
  |9=>1
  |16=>1
  |_=>0
 n:=1
def D_68:Code:=Tryz.f11.body.getD .skip
def N_68 (_:XK E_68.params) (r:YH E_68.results):E_68.B:=(r.1,r.2)
def E_69:Entry where
 params:= [.v y3]
 results:= [.mv y2 1,.v .bool]
 B:=(List (List Int))×Bool
 run:=λa=>BW a
 out:=λb=>()
 res:=λb=>(b.1,b.2)
def C_69:Cx where
 tt:=YaU tt
 T:=Ygp [(25,E_46),(27,E_52),(30,E_61)]
 L:=Ygo []
 dep:=λi=>match i with
  |8=>1
  |19=>1
  |20=>1
  |23=>1
  |_=>0
 n:=1
def D_69:Code:=Tryz.f12.body.getD .skip
def N_69 (_:XK E_69.params) (r:YH E_69.results):E_69.B:=(r.1,r.2)
def E_70:Entry where
 params:= [.v y7,.v y7]
 results:= [.v .bool]
 B:=Bool
 run:=λa=>AP a.1 a.2
 out:=λb=>((),())
 res:=λb=>b
def S_70L4 (n:Nat):LoopSpec where
 sh:= [(0,.v y7),(1,.v y7),(5,.v .int)]
 ex:= [(.exit 0,[]),(.ret,[(4,.v .bool)])]
 run:=Cr n
def C_70:Cx:=cx0 tt [(8,E_54)] [(4,S_70L4 Ad)] 2
def B_70L4:Code:=(Tryz.f13.body.bind (Yag 4)).getD .skip
def D_70:Code:=Tryz.f13.body.getD .skip
def N_70 (_:XK E_70.params) (r:YH E_70.results):E_70.B:=r
def E_71:Entry where
 params:= [.v y3,.v y2]
 results:= [.v .bool]
 B:=Bool
 run:=λa=>Cf a.1 a.2
 out:=λb=>((),())
 res:=λb=>b
def C_71:Cx:=cx0 tt [(39,E_27)] [] 2
def D_71:Code:=Tryz.f33.body.getD .skip
def N_71 (_:XK E_71.params) (r:YH E_71.results):E_71.B:=r
def E_72:Entry where
 params:= [.v y2,.v y2]
 results:= [.v .bool]
 B:=Bool
 run:=λa=>DG a.1 a.2
 out:=λb=>((),())
 res:=λb=>b
def S_72L4 (n:Nat):LoopSpec where
 sh:= [(1,.v y2),(12,.v y2),(13,.v .int),(14,.v .int)]
 ex:= [(.exit 0,[]),(.ret,[(4,.v .bool)])]
 run:=Cp n
def C_72:Cx:=cx0 tt [] [(4,S_72L4 Ad)] 2
def B_72L4:Code:=(Tryz.f66.body.bind (Yag 4)).getD .skip
def D_72:Code:=Tryz.f66.body.getD .skip
def N_72 (_:XK E_72.params) (r:YH E_72.results):E_72.B:=r
def E_73:Entry where
 params:= [.v y5,.v y2]
 results:= [.v .bool]
 B:=Bool
 run:=λa=>Di a.1 a.2
 out:=λb=>((),())
 res:=λb=>b
def S_73L2 (n:Nat):LoopSpec where
 sh:= [(1,.v y2),(8,.v y7),(9,.v .int),(10,.v .int)]
 ex:= [(.exit 0,[]),(.ret,[(4,.v .bool)])]
 run:=CK n
def C_73:Cx:=cx0 tt [(66,E_72)] [(2,S_73L2 Ad)] 2
def B_73L2:Code:=(Tryz.f50.body.bind (Yag 2)).getD .skip
def D_73:Code:=Tryz.f50.body.getD .skip
def N_73 (_:XK E_73.params) (r:YH E_73.results):E_73.B:=r
def E_74:Entry where
 params:= [.v y3,.v y2]
 results:= [.v .int]
 B:=Int
 run:=λa=>CS a.1 a.2
 out:=λb=>((),())
 res:=λb=>b
def S_74L2 (n:Nat):LoopSpec where
 sh:= [(1,.v y2),(8,.v y8),(9,.v .int),(10,.v .int)]
 ex:= [(.exit 0,[]),(.ret,[(4,.v .int)])]
 run:=BE n
def C_74:Cx:=cx0 tt [(41,E_37),(50,E_73)] [(2,S_74L2 Ad)] 2
def B_74L2:Code:=(Tryz.f34.body.bind (Yag 2)).getD .skip
def D_74:Code:=Tryz.f34.body.getD .skip
def N_74 (_:XK E_74.params) (r:YH E_74.results):E_74.B:=r
def E_75:Entry where
 params:= [.v y3,.v y2]
 results:= [.v .bool,.v .bool]
 B:=Bool×Bool
 run:=λa=>C1 a.1 a.2
 out:=λb=>((),())
 res:=λb=>(b.1,b.2)
def C_75:Cx:=cx0 tt [(23,E_31),(33,E_71),(34,E_74)] [] 2
def D_75:Code:=Tryz.f14.body.getD .skip
def N_75 (_:XK E_75.params) (r:YH E_75.results):E_75.B:=(r.1,r.2)
def E_76:Entry where
 params:= [.v y9]
 results:= [.v y3,.mv .int 0]
 B:=(Int×Int×(List ((List Int)×Int×(List (List Int)))))×(List Int)
 run:=λa=>Ag a
 out:=λb=>()
 res:=λb=>(b.1,b.2)
def S_76L5 (n:Nat):LoopSpec where
 sh:= [(2,.bx (.pr (.v .int) (.pr (.v .int) (.mv y0 0)))),(4,.bx (.v y4)),(5,.bx (.v y3)),(6,.mv .int 0),(7,.v .int)]
 ex:= [(.exit 0,[(2,.bx (.pr (.v .int) (.pr (.v .int) (.mv y0 0)))),(4,.bx (.v y4)),(5,.bx (.v y3)),(6,.mv .int 0)])]
 run:=AR n
def C_76:Cx:=cx0 tt [(21,E_23),(35,E_7),(36,E_3),(37,E_22),(38,E_4)] [(5,S_76L5 Ad)] 1
def B_76L5:Code:=(Tryz.f15.body.bind (Yag 5)).getD .skip
def D_76:Code:=Tryz.f15.body.getD .skip
def N_76 (_:XK E_76.params) (r:YH E_76.results):E_76.B:=(r.1,r.2)
def E_77:Entry where
 params:= [.v y7]
 results:= [.mv y2 1]
 B:=(List (List Int))
 run:=λa=>Du a
 out:=λb=>()
 res:=λb=>b
def S_77L3 (n:Nat):LoopSpec where
 sh:= [(3,.mv y2 1),(7,.v y7),(8,.v .int),(9,.v .int)]
 ex:= [(.exit 0,[(3,.mv y2 1)])]
 run:=BS n
def C_77:Cx where
 tt:=YaU tt
 T:=Ygp [(32,E_63)]
 L:=Ygo [(3,S_77L3 Ad)]
 dep:=λi=>match i with
  |6=>1
  |16=>1
  |17=>1
  |_=>0
 n:=1
def B_77L3:Code:=(Tryz.f79.body.bind (Yag 3)).getD .skip
def D_77:Code:=Tryz.f79.body.getD .skip
def N_77 (_:XK E_77.params) (r:YH E_77.results):E_77.B:=r
def E_78:Entry where
 params:= [.io y2 1,.v (.fn 81)]
 results:= []
 B:=List (List Int)
 run:=λa=>BJ a.1 a.2
 out:=λb=>(b,())
 res:=λb=>()
def D_78:Code:=Tryz.f80.body.getD .skip
def E_79:Entry where
 params:= [.v y7]
 results:= [.mv y2 1]
 B:=(List (List Int))
 run:=λa=>Db a
 out:=λb=>()
 res:=λb=>b
def C_79:Cx:=cx0 tt [(79,E_77),(5374032,E_78)] [] 1
def D_79:Code:=Tryz.f64.body.getD .skip
def N_79 (_:XK E_79.params) (r:YH E_79.results):E_79.B:=r
def E_80:Entry where
 params:= [.mv y2 1]
 results:= [.mv y2 1]
 B:=List (List Int)
 run:=λa=>Dv a
 out:=λb=>()
 res:=λb=>b
def D_80:Code:=Tryz.f63.body.getD .skip
def E_81:Entry where
 params:= [.v .int,.v y7]
 results:= [.pr (.v .int) (.mv y2 1)]
 B:=(Int×(List (List Int)))
 run:=λa=>Da a.1 a.2
 out:=λb=>((),())
 res:=λb=>b
def C_81:Cx:=cx0 tt [(63,E_80),(64,E_79)] [] 2
def D_81:Code:=Tryz.f43.body.getD .skip
def N_81 (_:XK E_81.params) (r:YH E_81.results):E_81.B:=r
def E_82:Entry where
 params:= [.v y2,.pz y2,.bx ((.mp .sb)),.bx (.mv y2 1)]
 results:= [.v .bool]
 B:=(List ByteArray)×(List (List Int))×Bool
 run:=λa=>BO a.1 a.2.1 a.2.2.1 a.2.2.2
 out:=λb=>((),(),b.1,b.2.1)
 res:=λb=>b.2.2
def C_82:Cx where
 tt:=YaU tt
 T:=Ygp [(41,E_37),(42,E_32)]
 L:=Ygo []
 dep:=λi=>match i with
  |21=>1
  |22=>1
  |_=>0
 n:=4
def D_82:Code:=Tryz.f40.body.getD .skip
def N_82 (o:XK E_82.params) (r:YH E_82.results):E_82.B:=(o.2.2.1,o.2.2.2,r)
def E_83_of (rec:(Int×(List Int)×((List Int)×((List ByteArray)×(List (List Int))))×(Bool×Int×(List (List (List Int)))×(List (List (List ByteArray))))×(List Int)×Unit)->Option ((List Int)×(Unit×((List ByteArray)×(List (List Int))))×(Bool×Int×(List (List (List Int)))×(List (List (List ByteArray))))×(List Int)×Bool)):Entry where
 params:= [.v .int,.bx (.mv .int 0),.pr (.pz y2) (.pr (.bx ((.mp .sb))) (.bx (.mv y2 1))),.bx (.v (.ptr y1)),.bx (.v y2),.jk 1]
 results:= [.v .bool]
 cod:= [(2,.kb 40),(5,.kn 77 1 5)]
 B:=(List Int)×(Unit×((List ByteArray)×(List (List Int))))×(Bool×Int×(List (List (List Int)))×(List (List (List ByteArray))))×(List Int)×Bool
 run:=rec
 out:=λb=>((),b.1,b.2.1,b.2.2.1,b.2.2.2.1,())
 res:=λb=>b.2.2.2.2
def E_83 (d:Nat):Entry:=E_83_of (AE d)
def S_83L10 (rec:(Int×(List Int)×((List Int)×((List ByteArray)×(List (List Int))))×(Bool×Int×(List (List (List Int)))×(List (List (List ByteArray))))×(List Int)×Unit)->Option ((List Int)×(Unit×((List ByteArray)×(List (List Int))))×(Bool×Int×(List (List (List Int)))×(List (List (List ByteArray))))×(List Int)×Bool)) (n:Nat):LoopSpec where
 sh:= [(0,.v .int),(1,.bx (.mv .int 0)),(2,.pr (.pz y2) (.pr (.bx ((.mp .sb))) (.bx (.mv y2 1)))),(3,.bx (.v (.ptr y1))),(4,.bx (.v y2)),(5,.jk 1),(8,.v .int),(9,.v .bool),(50,.v y7),(51,.v .int),(52,.v .int)]
 ex:= [(.exit 2,[(0,.v .int),(1,.bx (.mv .int 0)),(2,.pr (.pz y2) (.pr (.bx ((.mp .sb))) (.bx (.mv y2 1)))),(3,.bx (.v (.ptr y1))),(4,.bx (.v y2)),(5,.jk 1),(8,.v .int),(9,.v .bool)])]
 run:=Ao rec n
def S_83L4 (rec:(Int×(List Int)×((List Int)×((List ByteArray)×(List (List Int))))×(Bool×Int×(List (List (List Int)))×(List (List (List ByteArray))))×(List Int)×Unit)->Option ((List Int)×(Unit×((List ByteArray)×(List (List Int))))×(Bool×Int×(List (List (List Int)))×(List (List (List ByteArray))))×(List Int)×Bool)) (n:Nat):LoopSpec where
 sh:= [(0,.v .int),(1,.bx (.mv .int 0)),(2,.pr (.pz y2) (.pr (.bx ((.mp .sb))) (.bx (.mv y2 1)))),(3,.bx (.v (.ptr y1))),(4,.bx (.v y2)),(5,.jk 1),(8,.v .int)]
 ex:= [(.exit 0,[(1,.bx (.mv .int 0)),(2,.pr (.pz y2) (.pr (.bx ((.mp .sb))) (.bx (.mv y2 1)))),(3,.bx (.v (.ptr y1))),(4,.bx (.v y2)),(5,.jk 1)]),(.ret,[(1,.bx (.mv .int 0)),(2,.pr (.pz y2) (.pr (.bx ((.mp .sb))) (.bx (.mv y2 1)))),(3,.bx (.v (.ptr y1))),(4,.bx (.v y2)),(5,.jk 1),(7,.v .bool)])]
 run:=Af rec n
def C_83 (rec:(Int×(List Int)×((List Int)×((List ByteArray)×(List (List Int))))×(Bool×Int×(List (List (List Int)))×(List (List (List ByteArray))))×(List Int)×Unit)->Option ((List Int)×(Unit×((List ByteArray)×(List (List Int))))×(Bool×Int×(List (List (List Int)))×(List (List (List ByteArray))))×(List Int)×Bool)):Cx where
 tt:=YaU tt
 T:=Ygp [(40,E_82),(41,E_37),(42,E_32),(2687053,E_83_of rec)]
 L:=Ygo [(10,S_83L10 rec Ad),(4,S_83L4 rec Ad)]
 dep:=λi=>0
 n:=6
 cod:= [(2,.kb 40),(5,.kn 77 1 5)]
def B_83L10:Code:=(Tryz.f77.body.bind (Yag 10)).getD .skip
def B_83L4:Code:=(Tryz.f77.body.bind (Yag 4)).getD .skip
def D_83:Code:=Tryz.f77.body.getD .skip
def N_83 (o:XK [.v .int,.bx (.mv .int 0),.pr (.pz y2) (.pr (.bx ((.mp .sb))) (.bx (.mv y2 1))),.bx (.v (.ptr y1)),.bx (.v y2),.jk 1]) (r:YH [.v .bool]):(List Int)×(Unit×((List ByteArray)×(List (List Int))))×(Bool×Int×(List (List (List Int)))×(List (List (List ByteArray))))×(List Int)×Bool:=(o.2.1,o.2.2.1,o.2.2.2.1,o.2.2.2.2.1,r)
def E_84:Entry where
 params:= [.v (.ptr y1),.v y2,.pr (.pz y2) (.pr (.bx ((.mp .sb))) (.bx (.mv y2 1)))]
 results:= []
 cod:= [(2,.cl 40)]
 B:=(Unit×((List ByteArray)×(List (List Int))))
 run:=λa=>Bw a.1 a.2.1 a.2.2
 out:=λb=>((),(),b)
 res:=λb=>()
def C_84:Cx where
 tt:=YaU tt
 T:=Ygp [(2687053,E_83 Ad)]
 L:=Ygo []
 dep:=λi=>0
 n:=3
 cod:= [(2,.cl 40)]
def D_84:Code:=Tryz.f57.body.getD .skip
def N_84 (o:XK E_84.params) (_:YH E_84.results):E_84.B:=o.2.2
def E_85:Entry where
 params:= [.v y3,.pr (.pz y2) (.pr (.bx ((.mp .sb))) (.bx (.mv y2 1)))]
 results:= []
 cod:= [(1,.cl 40)]
 B:=(Unit×((List ByteArray)×(List (List Int))))
 run:=λa=>AW a.1 a.2
 out:=λb=>((),b)
 res:=λb=>()
def C_85:Cx where
 tt:=YaU tt
 T:=Ygp [(56,E_34),(61,E_55),(2687033,E_84)]
 L:=Ygo []
 dep:=λi=>0
 n:=2
 cod:= [(1,.cl 40)]
def D_85:Code:=Tryz.f28.body.getD .skip
def N_85 (o:XK E_85.params) (_:YH E_85.results):E_85.B:=o.2
def E_86:Entry where
 params:= [.v y3,.v y2]
 results:= [.pr (.v .int) (.mv y2 1),.v .bool]
 B:=(Int×(List (List Int)))×Bool
 run:=λa=>Al a.1 a.2
 out:=λb=>((),())
 res:=λb=>(b.1,b.2)
def C_86:Cx where
 tt:=YaU tt
 T:=Ygp [(23,E_31),(39,E_27),(43,E_81),(2687004,E_85)]
 L:=Ygo []
 dep:=λi=>match i with
  |30=>1
  |_=>0
 n:=2
def D_86:Code:=Tryz.f16.body.getD .skip
def N_86 (_:XK E_86.params) (r:YH E_86.results):E_86.B:=(r.1,r.2)
def E_87:Entry where
 params:= [.v y3,.v y2]
 results:= [.pr (.v .int) (.mv y2 0),.v .bool]
 B:=(Int×(List (List Int)))×Bool
 run:=λa=>Am a.1 a.2
 out:=λb=>((),())
 res:=λb=>(b.1,b.2)
def S_87L10 (n:Nat):LoopSpec where
 sh:= [(1,.v y2),(2,.bx (.v y3)),(4,.bx (.pr (.v .int) (.mv y2 0))),(6,.bx (.pr (.v .int) (.mv y2 0))),(7,.v .int),(8,.mv .int 0),(9,.mv .int 0),(10,.v .bool),(11,.v .int)]
 ex:= [(.exit 2,[(1,.v y2),(2,.bx (.v y3)),(4,.bx (.pr (.v .int) (.mv y2 0))),(6,.bx (.pr (.v .int) (.mv y2 0))),(7,.v .int),(8,.mv .int 0),(9,.mv .int 0),(10,.v .bool)])]
 run:=AG n
def S_87L5 (n:Nat):LoopSpec where
 sh:= [(1,.v y2),(2,.bx (.v y3)),(4,.bx (.pr (.v .int) (.mv y2 0))),(6,.bx (.pr (.v .int) (.mv y2 0))),(7,.v .int)]
 ex:= [(.exit 0,[(4,.bx (.pr (.v .int) (.mv y2 0))),(6,.bx (.pr (.v .int) (.mv y2 0)))])]
 run:=AL n
def C_87:Cx:=cx0 tt [(25,E_46),(27,E_52),(30,E_61),(44,E_8),(45,E_42),(46,E_16),(47,E_17)] [(10,S_87L10 Ad),(5,S_87L5 Ad)] 2
def B_87L10:Code:=(Tryz.f17.body.bind (Yag 10)).getD .skip
def B_87L5:Code:=(Tryz.f17.body.bind (Yag 5)).getD .skip
def D_87:Code:=Tryz.f17.body.getD .skip
def N_87 (_:XK E_87.params) (r:YH E_87.results):E_87.B:=(r.1,r.2)
def E_88:Entry where
 params:= [.v y2,.pz y0,.bx (.v .bool)]
 results:= [.v .bool]
 B:=Bool×Bool
 run:=λa=>CI a.1 a.2.1 a.2.2
 out:=λb=>((),(),b.1)
 res:=λb=>b.2
def C_88:Cx:=cx0 tt [(41,E_37),(50,E_73)] [] 3
def D_88:Code:=Tryz.f49.body.getD .skip
def N_88 (o:XK E_88.params) (r:YH E_88.results):E_88.B:=(o.2.2,r)
def E_89_of (rec:(Int×(List Int)×(((List Int)×Int×(List (List Int)))×Bool)×(Bool×Int×(List (List (List Int)))×(List (List (List ByteArray))))×(List Int)×Unit)->Option ((List Int)×(Unit×Bool)×(Bool×Int×(List (List (List Int)))×(List (List (List ByteArray))))×(List Int)×Bool)):Entry where
 params:= [.v .int,.bx (.mv .int 0),.pr (.pz y0) (.bx (.v .bool)),.bx (.v (.ptr y1)),.bx (.v y2),.jk 1]
 results:= [.v .bool]
 cod:= [(2,.kb 49),(5,.kn 77 1 5)]
 B:=(List Int)×(Unit×Bool)×(Bool×Int×(List (List (List Int)))×(List (List (List ByteArray))))×(List Int)×Bool
 run:=rec
 out:=λb=>((),b.1,b.2.1,b.2.2.1,b.2.2.2.1,())
 res:=λb=>b.2.2.2.2
def E_89 (d:Nat):Entry:=E_89_of (AM d)
def S_89L10 (rec:(Int×(List Int)×(((List Int)×Int×(List (List Int)))×Bool)×(Bool×Int×(List (List (List Int)))×(List (List (List ByteArray))))×(List Int)×Unit)->Option ((List Int)×(Unit×Bool)×(Bool×Int×(List (List (List Int)))×(List (List (List ByteArray))))×(List Int)×Bool)) (n:Nat):LoopSpec where
 sh:= [(0,.v .int),(1,.bx (.mv .int 0)),(2,.pr (.pz y0) (.bx (.v .bool))),(3,.bx (.v (.ptr y1))),(4,.bx (.v y2)),(5,.jk 1),(8,.v .int),(9,.v .bool),(50,.v y7),(51,.v .int),(52,.v .int)]
 ex:= [(.exit 2,[(0,.v .int),(1,.bx (.mv .int 0)),(2,.pr (.pz y0) (.bx (.v .bool))),(3,.bx (.v (.ptr y1))),(4,.bx (.v y2)),(5,.jk 1),(8,.v .int),(9,.v .bool)])]
 run:=Ap rec n
def S_89L4 (rec:(Int×(List Int)×(((List Int)×Int×(List (List Int)))×Bool)×(Bool×Int×(List (List (List Int)))×(List (List (List ByteArray))))×(List Int)×Unit)->Option ((List Int)×(Unit×Bool)×(Bool×Int×(List (List (List Int)))×(List (List (List ByteArray))))×(List Int)×Bool)) (n:Nat):LoopSpec where
 sh:= [(0,.v .int),(1,.bx (.mv .int 0)),(2,.pr (.pz y0) (.bx (.v .bool))),(3,.bx (.v (.ptr y1))),(4,.bx (.v y2)),(5,.jk 1),(8,.v .int)]
 ex:= [(.exit 0,[(1,.bx (.mv .int 0)),(2,.pr (.pz y0) (.bx (.v .bool))),(3,.bx (.v (.ptr y1))),(4,.bx (.v y2)),(5,.jk 1)]),(.ret,[(1,.bx (.mv .int 0)),(2,.pr (.pz y0) (.bx (.v .bool))),(3,.bx (.v (.ptr y1))),(4,.bx (.v y2)),(5,.jk 1),(7,.v .bool)])]
 run:=Ai rec n
def C_89 (rec:(Int×(List Int)×(((List Int)×Int×(List (List Int)))×Bool)×(Bool×Int×(List (List (List Int)))×(List (List (List ByteArray))))×(List Int)×Unit)->Option ((List Int)×(Unit×Bool)×(Bool×Int×(List (List (List Int)))×(List (List (List ByteArray))))×(List Int)×Bool)):Cx where
 tt:=YaU tt
 T:=Ygp [(41,E_37),(42,E_32),(49,E_88),(3276877,E_89_of rec)]
 L:=Ygo [(10,S_89L10 rec Ad),(4,S_89L4 rec Ad)]
 dep:=λi=>0
 n:=6
 cod:= [(2,.kb 49),(5,.kn 77 1 5)]
def B_89L10:Code:=(Tryz.f77.body.bind (Yag 10)).getD .skip
def B_89L4:Code:=(Tryz.f77.body.bind (Yag 4)).getD .skip
def D_89:Code:=Tryz.f77.body.getD .skip
def N_89 (o:XK [.v .int,.bx (.mv .int 0),.pr (.pz y0) (.bx (.v .bool)),.bx (.v (.ptr y1)),.bx (.v y2),.jk 1]) (r:YH [.v .bool]):(List Int)×(Unit×Bool)×(Bool×Int×(List (List (List Int)))×(List (List (List ByteArray))))×(List Int)×Bool:=(o.2.1,o.2.2.1,o.2.2.2.1,o.2.2.2.2.1,r)
def E_90:Entry where
 params:= [.v (.ptr y1),.v y2,.pr (.pz y0) (.bx (.v .bool))]
 results:= []
 cod:= [(2,.cl 49)]
 B:=(Unit×Bool)
 run:=λa=>BU a.1 a.2.1 a.2.2
 out:=λb=>((),(),b)
 res:=λb=>()
def C_90:Cx where
 tt:=YaU tt
 T:=Ygp [(3276877,E_89 Ad)]
 L:=Ygo []
 dep:=λi=>0
 n:=3
 cod:= [(2,.cl 49)]
def D_90:Code:=Tryz.f57.body.getD .skip
def N_90 (o:XK E_90.params) (_:YH E_90.results):E_90.B:=o.2.2
def E_91:Entry where
 params:= [.v y3,.pr (.pz y0) (.bx (.v .bool))]
 results:= []
 cod:= [(1,.cl 49)]
 B:=(Unit×Bool)
 run:=λa=>AU a.1 a.2
 out:=λb=>((),b)
 res:=λb=>()
def C_91:Cx where
 tt:=YaU tt
 T:=Ygp [(56,E_34),(61,E_55),(3276857,E_90)]
 L:=Ygo []
 dep:=λi=>0
 n:=2
 cod:= [(1,.cl 49)]
def D_91:Code:=Tryz.f28.body.getD .skip
def N_91 (o:XK E_91.params) (_:YH E_91.results):E_91.B:=o.2
def E_92:Entry where
 params:= [.v y3,.v y0]
 results:= [.v .bool,.v .bool]
 B:=Bool×Bool
 run:=λa=>Aa a.1 a.2
 out:=λb=>((),())
 res:=λb=>(b.1,b.2)
def C_92:Cx:=cx0 tt [(23,E_31),(48,E_30),(3276828,E_91)] [] 2
def D_92:Code:=Tryz.f18.body.getD .skip
def N_92 (_:XK E_92.params) (r:YH E_92.results):E_92.B:=(r.1,r.2)
def E_93:Entry where
 params:= [.v y9]
 results:= [.v y3,.v y0]
 B:=(Int×Int×(List ((List Int)×Int×(List (List Int)))))×((List Int)×Int×(List (List Int)))
 run:=λa=>Ac a
 out:=λb=>()
 res:=λb=>(b.1,b.2)
def S_93L7 (n:Nat):LoopSpec where
 sh:= [(2,.bx (.pr (.v .int) (.pr (.v .int) (.mv y0 0)))),(3,.bx (.pr (.mv .int 0) (.pr (.v .int) (.mv y2 0)))),(4,.bx (.v y4)),(5,.bx (.v y3)),(6,.bx (.pr (.mv .int 0) (.v y5))),(7,.v .int)]
 ex:= [(.exit 0,[(2,.bx (.pr (.v .int) (.pr (.v .int) (.mv y0 0)))),(3,.bx (.pr (.mv .int 0) (.pr (.v .int) (.mv y2 0)))),(4,.bx (.v y4)),(5,.bx (.v y3)),(6,.bx (.pr (.mv .int 0) (.v y5)))])]
 run:=AN n
def C_93:Cx:=cx0 tt [(21,E_23),(35,E_7),(36,E_3),(37,E_22),(38,E_4),(51,E_20)] [(7,S_93L7 Ad)] 1
def B_93L7:Code:=(Tryz.f19.body.bind (Yag 7)).getD .skip
def D_93:Code:=Tryz.f19.body.getD .skip
def N_93 (_:XK E_93.params) (r:YH E_93.results):E_93.B:=(r.1,r.2)
def E_94:Entry where
 params:= [.v y3,.v y0]
 results:= [.v .bool,.v .bool]
 B:=Bool×Bool
 run:=λa=>Ah a.1 a.2
 out:=λb=>((),())
 res:=λb=>(b.1,b.2)
def S_94L9 (n:Nat):LoopSpec where
 sh:= [(2,.bx (.v y3)),(3,.bx (.v y0)),(6,.v .int),(7,.mv .int 0),(8,.mv .int 0),(9,.v .bool),(10,.v .int)]
 ex:= [(.exit 2,[(2,.bx (.v y3)),(3,.bx (.v y0)),(6,.v .int),(8,.mv .int 0),(9,.v .bool)])]
 run:=Bd n
def S_94L4 (n:Nat):LoopSpec where
 sh:= [(2,.bx (.v y3)),(3,.bx (.v y0)),(6,.v .int)]
 ex:= [(.exit 0,[]),(.ret,[(4,.v .bool),(5,.v .bool)])]
 run:=Bc n
def C_94:Cx:=cx0 tt [(25,E_46),(27,E_52),(30,E_61),(46,E_16),(47,E_17),(52,E_45),(53,E_49)] [(9,S_94L9 Ad),(4,S_94L4 Ad)] 2
def B_94L9:Code:=(Tryz.f20.body.bind (Yag 9)).getD .skip
def B_94L4:Code:=(Tryz.f20.body.bind (Yag 4)).getD .skip
def D_94:Code:=Tryz.f20.body.getD .skip
def N_94 (_:XK E_94.params) (r:YH E_94.results):E_94.B:=(r.1,r.2)
def E_95:Entry where
 params:= [.v y9]
 results:= [.v .bool]
 B:=Bool
 run:=λa=>DU a
 out:=λb=>()
 res:=λb=>b
def S_95L27 (n:Nat):LoopSpec where
 sh:= [(0,.v y9),(3,.bx (.v y3)),(4,.v y2),(5,.mv .int 0),(6,.v .bool),(13,.mv y2 1),(19,.v .int),(20,.v .int),(21,.v .bool),(22,.v .int)]
 ex:= [(.exit 2,[(0,.v y9),(3,.bx (.v y3)),(4,.v y2),(5,.mv .int 0),(6,.v .bool),(13,.mv y2 1),(19,.v .int),(20,.v .int),(21,.v .bool)])]
 run:=A8 n
def S_95L23 (n:Nat):LoopSpec where
 sh:= [(0,.v y9),(3,.bx (.v y3)),(4,.v y2),(5,.mv .int 0),(6,.v .bool),(13,.mv y2 1),(19,.v .int),(20,.v .int)]
 ex:= [(.exit 0,[(0,.v y9),(5,.mv .int 0),(6,.v .bool),(13,.mv y2 1),(19,.v .int)])]
 run:=AS n
def C_95:Cx:=cx0 tt [(4,E_1),(5,E_25),(6,E_41),(7,E_53),(8,E_54),(9,E_60),(10,E_62),(11,E_68),(12,E_69),(13,E_70),(14,E_75),(15,E_76),(16,E_86),(17,E_87),(18,E_92),(19,E_93),(20,E_94)] [(27,S_95L27 Ad),(23,S_95L23 Ad)] 1
def B_95L27:Code:=(Tryz.f3.body.bind (Yag 27)).getD .skip
def B_95L23:Code:=(Tryz.f3.body.bind (Yag 23)).getD .skip
def D_95:Code:=Tryz.f3.body.getD .skip
def N_95 (_:XK E_95.params) (r:YH E_95.results):E_95.B:=r
end
end T
