/- Contexts of the typed functions; no conditions. -/
import Derived.Test.YtdjeihpjpaaoeabGreatV5
import Derived.Test.YtdjeihpjpaaoeabGreatProg
import Derived.Test.YtdjeihpjpaaoeabGreatPFnSolutionsKept
import Derived.KernelRfl
set_option linter.all false
set_option linter.unusedVariables false
set_option maxRecDepth 10000
open Go Go.Va Go.Proofs
namespace T
noncomputable section
def tt:List (Nat×TI):= [
 (2,{ ty:= .int }),
 (3,{ ty:= .int }),
 (4,{ ty:= .bool }),
 (5,{ ty:=(.num .u8) }),
 (6,{ ty:=(.num .u8) }),
 (7,{ ty:=(.pair .int (.pair .int (.pair .bool (.num .u8)))),fields:= [2,3,4,6] }),
 (8,{ ty:=(.pair .int (.pair .int (.pair .bool (.num .u8)))),fields:= [2,3,4,6] }),
 (9,{ ty:= .str }),
 (22,{ ty:=(.slice (.num .u8)),elem:=5 }),
 (24,{ ty:=(.slice (.pair (.slice .int) (.pair .int (.slice (.slice .int))))),elem:=40 }),
 (26,{ ty:=(.pair .int (.pair .int (.slice (.pair (.slice .int) (.pair .int (.slice (.slice .int))))))),fields:= [3,3,24] }),
 (27,{ ty:=(.slice .int),elem:=3 }),
 (29,{ ty:=(.pair .int (.slice .int)),fields:= [3,27] }),
 (35,{ ty:=(.slice (.pair .int (.slice (.slice .int)))),elem:=38 }),
 (36,{ ty:=(.slice (.slice .int)),elem:=27 }),
 (38,{ ty:=(.pair .int (.slice (.slice .int))),fields:= [3,36] }),
 (40,{ ty:=(.pair (.slice .int) (.pair .int (.slice (.slice .int)))),fields:= [27,38] }),
 (55,{ ty:=(.slice (.pair .int (.slice .int))),elem:=29 }),
 (81,{ ty:=(.num .u64) }),
 (83,{ ty:=(.pair (.slice (.num .u8)) (.pair .int (.num .u64))),fields:= [22,3,81] }),
 (85,{ ty:=(.op false) }),
 (104,{ ty:=(.op false) }),
 (106,{ ty:=(.pair (.slice (.slice .int)) (.pair .int .int)),fields:= [36,3,3] }),
 (123,{ ty:=(.pair (.slice (.slice .int)) (.pair .int (.pair .int .bool))),fields:= [36,3,3,4] }),
 (165,{ ty:=(.op false) }),
 (178,{ ty:=(.op true) }),
 (182,{ ty:=(.slice (.slice (.pair (.slice .int) (.pair .int (.slice (.slice .int)))))),elem:=225 }),
 (190,{ ty:=(.op true) }),
 (193,{ ty:=(.slice (.slice (.pair (.slice .int) (.pair .int (.slice (.slice .int)))))),elem:=24 }),
 (207,{ ty:= .smap }),
 (215,{ ty:=(.num .u64) }),
 (218,{ ty:=(.slice (.slice (.pair (.slice .int) .smap))),elem:=221 }),
 (220,{ ty:=(.pair .int (.pair .int (.slice (.slice (.pair (.slice .int) .smap))))),fields:= [3,3,218] }),
 (221,{ ty:=(.slice (.pair (.slice .int) .smap)),elem:=223 }),
 (223,{ ty:=(.pair (.slice .int) .smap),fields:= [27,207] }),
 (225,{ ty:=(.slice (.pair (.slice .int) (.pair .int (.slice (.slice .int))))),elem:=227 }),
 (227,{ ty:=(.pair (.slice .int) (.pair .int (.slice (.slice .int)))),fields:= [27,38] }),
 (229,{ ty:=(.slice (.slice (.slice .int))),elem:=36 }),
 (230,{ ty:=(.slice (.slice .smap)),elem:=233 }),
 (232,{ ty:=(.pair .int (.pair (.slice (.slice (.slice .int))) (.slice (.slice .smap)))),fields:= [3,229,230] }),
 (233,{ ty:=(.slice .smap),elem:=207 })]
theorem tabT:YhD Tryz.prog tt=true:=by kernel_rfl
theorem mixT:Tryz.prog.follows .mixedOrders=true:=by kernel_rfl
def E_1:Entry where
 params:= [.v (.slice (.num .u8))]
 results:= [.v .bool]
 B:=Bool
 run:=fun a=>GY a
 out:=fun b=>()
 res:=fun b=>b
def C_1:Cx where
 tt:=Ybr tt
 T:=YgH []
 L:=Yhe []
 dep:=fun i=>0
 n:=1
def D_1:Code:=Tryz.f7.body.getD .skip
def N_1 (_:X6 [.v (.slice (.num .u8))]) (r:YG [.v .bool]):Bool:=r
def E_2:Entry where
 params:= [.bx (.v (.pair (.slice (.num .u8)) (.pair .int (.num .u64))))]
 results:= [.v .int]
 B:=((List Int)×Int×Int)×Int
 run:=fun a=>Cf a
 out:=fun b=>b.1
 res:=fun b=>b.2
def C_2:Cx where
 tt:=Ybr tt
 T:=YgH []
 L:=Yhe []
 dep:=fun i=>0
 n:=1
def D_2:Code:=Tryz.f153.body.getD .skip
def N_2 (o:X6 [.bx (.v (.pair (.slice (.num .u8)) (.pair .int (.num .u64))))]) (r:YG [.v .int]):((List Int)×Int×Int)×Int:=(o,r)
def E_3:Entry where
 params:= [.bx (.v (.pair (.slice (.num .u8)) (.pair .int (.num .u64)))),.v .int]
 results:= [.v .int]
 B:=((List Int)×Int×Int)×Int
 run:=fun a=>Ad a.1 a.2
 out:=fun b=>(b.1,())
 res:=fun b=>b.2
def C_3:Cx where
 tt:=Ybr tt
 T:=YgH [(153,E_2)]
 L:=Yhe []
 dep:=fun i=>0
 n:=2
def D_3:Code:=Tryz.f61.body.getD .skip
def N_3 (o:X6 [.bx (.v (.pair (.slice (.num .u8)) (.pair .int (.num .u64)))),.v .int]) (r:YG [.v .int]):((List Int)×Int×Int)×Int:=(o.1,r)
def E_4:Entry where
 params:= [.bx (.v (.pair (.slice (.num .u8)) (.pair .int (.num .u64)))),.v .int]
 results:= [.v .bool]
 B:=((List Int)×Int×Int)×Bool
 run:=fun a=>Az a.1 a.2
 out:=fun b=>(b.1,())
 res:=fun b=>b.2
def C_4:Cx where
 tt:=Ybr tt
 T:=YgH [(61,E_3)]
 L:=Yhe []
 dep:=fun i=>0
 n:=2
def D_4:Code:=Tryz.f60.body.getD .skip
def N_4 (o:X6 [.bx (.v (.pair (.slice (.num .u8)) (.pair .int (.num .u64)))),.v .int]) (r:YG [.v .bool]):((List Int)×Int×Int)×Bool:=(o.1,r)
def E_5:Entry where
 params:= [.v .int]
 results:= [.v .int,.mv (.pair .int (.slice (.slice .int))) 0]
 B:=Int×(List (Int×(List (List Int))))
 run:=fun a=>DH a
 out:=fun b=>()
 res:=fun b=>(b.1,b.2)
def C_5:Cx where
 tt:=Ybr tt
 T:=YgH []
 L:=Yhe []
 dep:=fun i=>0
 n:=1
def D_5:Code:=Tryz.f210.body.getD .skip
def N_5 (_:X6 [.v .int]) (r:YG [.v .int,.mv (.pair .int (.slice (.slice .int))) 0]):Int×(List (Int×(List (List Int)))):=(r.1,r.2)
def E_6:Entry where
 params:= [.v (.slice .int)]
 results:= [.mv .int 0]
 B:=(List Int)
 run:=fun a=>Bh a
 out:=fun b=>()
 res:=fun b=>b
def C_6:Cx where
 tt:=Ybr tt
 T:=YgH []
 L:=Yhe []
 dep:=fun i=>0
 n:=1
def D_6:Code:=Tryz.f127.body.getD .skip
def N_6 (_:X6 [.v (.slice .int)]) (r:YG [.mv .int 0]):(List Int):=r
def E_7:Entry where
 params:= [.bx (.v (.pair (.slice (.num .u8)) (.pair .int (.num .u64)))),.v (.slice .int)]
 results:= [.v .int]
 B:=((List Int)×Int×Int)×Int
 run:=fun a=>Ab a.1 a.2
 out:=fun b=>(b.1,())
 res:=fun b=>b.2
def C_7:Cx where
 tt:=Ybr tt
 T:=YgH [(61,E_3)]
 L:=Yhe []
 dep:=fun i=>0
 n:=2
def D_7:Code:=Tryz.f62.body.getD .skip
def N_7 (o:X6 [.bx (.v (.pair (.slice (.num .u8)) (.pair .int (.num .u64)))),.v (.slice .int)]) (r:YG [.v .int]):((List Int)×Int×Int)×Int:=(o.1,r)
def E_8:Entry where
 params:= [.v .int,.v .int,.v .int]
 results:= [.v .bool]
 B:=Bool
 run:=fun a=>Cg a.1 a.2.1 a.2.2
 out:=fun b=>((),(),())
 res:=fun b=>b
def C_8:Cx where
 tt:=Ybr tt
 T:=YgH []
 L:=Yhe []
 dep:=fun i=>0
 n:=3
def D_8:Code:=Tryz.f151.body.getD .skip
def N_8 (_:X6 [.v .int,.v .int,.v .int]) (r:YG [.v .bool]):Bool:=r
def E_9:Entry where
 params:= [.v .int]
 results:= [.v .bool]
 B:=Bool
 run:=fun a=>EZ a
 out:=fun b=>()
 res:=fun b=>b
def C_9:Cx where
 tt:=Ybr tt
 T:=YgH [(151,E_8)]
 L:=Yhe []
 dep:=fun i=>0
 n:=1
def D_9:Code:=Tryz.f134.body.getD .skip
def N_9 (_:X6 [.v .int]) (r:YG [.v .bool]):Bool:=r
def E_10:Entry where
 params:= [.v (.slice .int),.v (.slice .int)]
 results:= [.v .bool]
 B:=Bool
 run:=fun a=>EX a.1 a.2
 out:=fun b=>((),())
 res:=fun b=>b
def S_10L2 (n:Nat):LoopSpec where
 sh:= [(0,.v (.slice .int)),(1,.v (.slice .int)),(5,.v .int)]
 ex:= [(.exit 0,[]),(.ret,[(4,.v .bool)])]
 run:=CZ n
def C_10:Cx where
 tt:=Ybr tt
 T:=YgH []
 L:=Yhe [(2,S_10L2 Aa)]
 dep:=fun i=>0
 n:=2
def B_10L2:Code:=(Tryz.f197.body.bind (X9 2)).getD .skip
def D_10:Code:=Tryz.f197.body.getD .skip
def N_10 (_:X6 [.v (.slice .int),.v (.slice .int)]) (r:YG [.v .bool]):Bool:=r
def E_11:Entry where
 params:= [.v (.slice .int),.v (.slice .int)]
 results:= [.v .bool]
 B:=Bool
 run:=fun a=>Ee a.1 a.2
 out:=fun b=>((),())
 res:=fun b=>b
def S_11L4 (n:Nat):LoopSpec where
 sh:= [(0,.v (.slice .int)),(1,.v (.slice .int)),(5,.v .int)]
 ex:= [(.exit 0,[]),(.ret,[(4,.v .bool)])]
 run:=CX n
def C_11:Cx where
 tt:=Ybr tt
 T:=YgH []
 L:=Yhe [(4,S_11L4 Aa)]
 dep:=fun i=>0
 n:=2
def B_11L4:Code:=(Tryz.f185.body.bind (X9 4)).getD .skip
def D_11:Code:=Tryz.f185.body.getD .skip
def N_11 (_:X6 [.v (.slice .int),.v (.slice .int)]) (r:YG [.v .bool]):Bool:=r
def E_12:Entry where
 params:= [.v (.slice (.slice .int)),.v (.slice .int)]
 results:= [.v .int,.v .bool]
 B:=Int×Bool
 run:=fun a=>DO a.1 a.2
 out:=fun b=>((),())
 res:=fun b=>(b.1,b.2)
def S_12L2 (n:Nat):LoopSpec where
 sh:= [(0,.v (.slice (.slice .int))),(1,.v (.slice .int)),(6,.v .int),(7,.v .int)]
 ex:= [(.exit 0,[(0,.v (.slice (.slice .int))),(1,.v (.slice .int)),(6,.v .int)])]
 run:=Cz n
def C_12:Cx where
 tt:=Ybr tt
 T:=YgH [(185,E_11),(197,E_10)]
 L:=Yhe [(2,S_12L2 Aa)]
 dep:=fun i=>0
 n:=2
def B_12L2:Code:=(Tryz.f198.body.bind (X9 2)).getD .skip
def D_12:Code:=Tryz.f198.body.getD .skip
def N_12 (_:X6 [.v (.slice (.slice .int)),.v (.slice .int)]) (r:YG [.v .int,.v .bool]):Int×Bool:=(r.1,r.2)
def E_13:Entry where
 params:= [.v (.slice (.slice .int)),.v (.slice .int)]
 results:= [.v (.slice (.slice .int))]
 B:=(List (List Int))
 run:=fun a=>Fi a.1 a.2
 out:=fun b=>((),())
 res:=fun b=>b
def C_13:Cx where
 tt:=Ybr tt
 T:=YgH [(198,E_12)]
 L:=Yhe []
 dep:=fun i=>0
 n:=2
def D_13:Code:=Tryz.f177.body.getD .skip
def N_13 (_:X6 [.v (.slice (.slice .int)),.v (.slice .int)]) (r:YG [.v (.slice (.slice .int))]):(List (List Int)):=r
def E_14:Entry where
 params:= [.bx (.v (.pair (.slice (.num .u8)) (.pair .int (.num .u64)))),.v .int]
 results:= [.mv .int 0]
 B:=((List Int)×Int×Int)×(List Int)
 run:=fun a=>BT a.1 a.2
 out:=fun b=>(b.1,())
 res:=fun b=>b.2
def S_14L3 (n:Nat):LoopSpec where
 sh:= [(0,.bx (.v (.pair (.slice (.num .u8)) (.pair .int (.num .u64))))),(1,.v .int),(5,.mv .int 0),(6,.v .int)]
 ex:= [(.exit 0,[(0,.bx (.v (.pair (.slice (.num .u8)) (.pair .int (.num .u64))))),(5,.mv .int 0)])]
 run:=AB n
def C_14:Cx where
 tt:=Ybr tt
 T:=YgH [(61,E_3)]
 L:=Yhe [(3,S_14L3 Aa)]
 dep:=fun i=>0
 n:=2
def B_14L3:Code:=(Tryz.f212.body.bind (X9 3)).getD .skip
def D_14:Code:=Tryz.f212.body.getD .skip
def N_14 (o:X6 [.bx (.v (.pair (.slice (.num .u8)) (.pair .int (.num .u64)))),.v .int]) (r:YG [.mv .int 0]):((List Int)×Int×Int)×(List Int):=(o.1,r)
def E_15:Entry where
 params:= [.v (.slice .int)]
 results:= [.pr (.v .int) (.mv (.slice .int) 0)]
 B:=(Int×(List (List Int)))
 run:=fun a=>C7 a
 out:=fun b=>()
 res:=fun b=>b
def S_15L6 (n:Nat):LoopSpec where
 sh:= [(0,.v (.slice .int)),(2,.bx (.pr (.v .int) (.mv (.slice .int) 0))),(3,.bx (.pr (.v .int) (.mv (.slice .int) 0))),(4,.v .int),(5,.v .int)]
 ex:= [(.exit 2,[(0,.v (.slice .int)),(2,.bx (.pr (.v .int) (.mv (.slice .int) 0))),(3,.bx (.pr (.v .int) (.mv (.slice .int) 0))),(4,.v .int)])]
 run:=AN n
def S_15L3 (n:Nat):LoopSpec where
 sh:= [(0,.v (.slice .int)),(2,.bx (.pr (.v .int) (.mv (.slice .int) 0))),(3,.bx (.pr (.v .int) (.mv (.slice .int) 0))),(4,.v .int)]
 ex:= [(.exit 0,[(2,.bx (.pr (.v .int) (.mv (.slice .int) 0))),(3,.bx (.pr (.v .int) (.mv (.slice .int) 0)))])]
 run:=Bc n
def C_15:Cx where
 tt:=Ybr tt
 T:=YgH []
 L:=Yhe [(6,S_15L6 Aa),(3,S_15L3 Aa)]
 dep:=fun i=>0
 n:=1
def B_15L6:Code:=(Tryz.f211.body.bind (X9 6)).getD .skip
def B_15L3:Code:=(Tryz.f211.body.bind (X9 3)).getD .skip
def D_15:Code:=Tryz.f211.body.getD .skip
def N_15 (_:X6 [.v (.slice .int)]) (r:YG [.pr (.v .int) (.mv (.slice .int) 0)]):(Int×(List (List Int))):=r
def E_16:Entry where
 params:= [.v .int,.v .int]
 results:= [.v .int]
 B:=Int
 run:=fun a=>BD a.1 a.2
 out:=fun b=>((),())
 res:=fun b=>b
def S_16L2 (n:Nat):LoopSpec where
 sh:= [(0,.v .int),(1,.v .int),(5,.v .int)]
 ex:= [(.exit 0,[(5,.v .int)])]
 run:=Cn n
def C_16:Cx where
 tt:=Ybr tt
 T:=YgH []
 L:=Yhe [(2,S_16L2 Aa)]
 dep:=fun i=>0
 n:=2
def B_16L2:Code:=(Tryz.f104.body.bind (X9 2)).getD .skip
def D_16:Code:=Tryz.f104.body.getD .skip
def N_16 (_:X6 [.v .int,.v .int]) (r:YG [.v .int]):Int:=r
def E_17:Entry where
 params:= [.v .int,.v .int,.v .int]
 results:= [.mv .int 0]
 B:=(List Int)
 run:=fun a=>Ef a.1 a.2.1 a.2.2
 out:=fun b=>((),(),())
 res:=fun b=>b
def S_17L3 (n:Nat):LoopSpec where
 sh:= [(0,.v .int),(2,.v .int),(7,.mv .int 0),(8,.v .int)]
 ex:= [(.exit 0,[(7,.mv .int 0)])]
 run:=CY n
def C_17:Cx where
 tt:=Ybr tt
 T:=YgH []
 L:=Yhe [(3,S_17L3 Aa)]
 dep:=fun i=>0
 n:=3
def B_17L3:Code:=(Tryz.f222.body.bind (X9 3)).getD .skip
def D_17:Code:=Tryz.f222.body.getD .skip
def N_17 (_:X6 [.v .int,.v .int,.v .int]) (r:YG [.mv .int 0]):(List Int):=r
def E_18:Entry where
 params:= [.v .int,.v .int]
 results:= [.pr (.v .int) (.mv (.slice .int) 0)]
 B:=(Int×(List (List Int)))
 run:=fun a=>C5 a.1 a.2
 out:=fun b=>((),())
 res:=fun b=>b
def S_18L3 (n:Nat):LoopSpec where
 sh:= [(0,.v .int),(1,.v .int),(4,.bx (.pr (.v .int) (.mv (.slice .int) 0))),(5,.bx (.pr (.v .int) (.mv (.slice .int) 0))),(6,.v .int)]
 ex:= [(.exit 0,[(4,.bx (.pr (.v .int) (.mv (.slice .int) 0))),(5,.bx (.pr (.v .int) (.mv (.slice .int) 0)))])]
 run:=B8 n
def C_18:Cx where
 tt:=Ybr tt
 T:=YgH [(104,E_16),(222,E_17)]
 L:=Yhe [(3,S_18L3 Aa)]
 dep:=fun i=>0
 n:=2
def B_18L3:Code:=(Tryz.f213.body.bind (X9 3)).getD .skip
def D_18:Code:=Tryz.f213.body.getD .skip
def N_18 (_:X6 [.v .int,.v .int]) (r:YG [.pr (.v .int) (.mv (.slice .int) 0)]):(Int×(List (List Int))):=r
def E_19:Entry where
 params:= [.mv (.slice .int) 0,.v (.slice .int)]
 results:= [.mv (.slice .int) 0]
 B:=(List (List Int))
 run:=fun a=>Fq a.1 a.2
 out:=fun b=>((),())
 res:=fun b=>b
def C_19:Cx where
 tt:=Ybr tt
 T:=YgH [(198,E_12)]
 L:=Yhe []
 dep:=fun i=>0
 n:=2
 pre:=fun i=>match i with
  |4=> [0]
  |_=> []
def D_19:Code:=Tryz.f177.body.getD .skip
def N_19 (_:X6 [.mv (.slice .int) 0,.v (.slice .int)]) (r:YG [.mv (.slice .int) 0]):(List (List Int)):=r
def E_20:Entry where
 params:= [.bx (.v (.pair (.slice (.num .u8)) (.pair .int (.num .u64)))),.v .int,.v .int]
 results:= [.v (.pair .int (.slice (.slice .int)))]
 B:=((List Int)×Int×Int)×(Int×(List (List Int)))
 run:=fun a=>Bw a.1 a.2.1 a.2.2
 out:=fun b=>(b.1,(),())
 res:=fun b=>b.2
def S_20L9 (n:Nat):LoopSpec where
 sh:= [(0,.bx (.v (.pair (.slice (.num .u8)) (.pair .int (.num .u64))))),(1,.v .int),(2,.v .int),(6,.bx (.pr (.v .int) (.mv (.slice .int) 0))),(7,.bx (.pr (.v .int) (.mv (.slice .int) 0))),(8,.v .int),(9,.mv .int 0),(10,.v .int)]
 ex:= [(.exit 2,[(0,.bx (.v (.pair (.slice (.num .u8)) (.pair .int (.num .u64))))),(1,.v .int),(2,.v .int),(6,.bx (.pr (.v .int) (.mv (.slice .int) 0))),(7,.bx (.pr (.v .int) (.mv (.slice .int) 0))),(8,.v .int),(9,.mv .int 0)])]
 run:=Bf n
def S_20L5 (n:Nat):LoopSpec where
 sh:= [(0,.bx (.v (.pair (.slice (.num .u8)) (.pair .int (.num .u64))))),(1,.v .int),(2,.v .int),(6,.bx (.pr (.v .int) (.mv (.slice .int) 0))),(7,.bx (.pr (.v .int) (.mv (.slice .int) 0))),(8,.v .int)]
 ex:= [(.exit 0,[(0,.bx (.v (.pair (.slice (.num .u8)) (.pair .int (.num .u64))))),(1,.v .int),(2,.v .int),(6,.bx (.pr (.v .int) (.mv (.slice .int) 0))),(7,.bx (.pr (.v .int) (.mv (.slice .int) 0)))])]
 run:=Be n
def C_20:Cx where
 tt:=Ybr tt
 T:=YgH [(60,E_4),(61,E_3),(62,E_7),(134,E_9),(151,E_8),(177,E_19),(211,E_15),(212,E_14),(213,E_18)]
 L:=Yhe [(9,S_20L9 Aa),(5,S_20L5 Aa)]
 dep:=fun i=>0
 n:=3
def B_20L9:Code:=(Tryz.f149.body.bind (X9 9)).getD .skip
def B_20L5:Code:=(Tryz.f149.body.bind (X9 5)).getD .skip
def D_20:Code:=Tryz.f149.body.getD .skip
def N_20 (o:X6 [.bx (.v (.pair (.slice (.num .u8)) (.pair .int (.num .u64)))),.v .int,.v .int]) (r:YG [.v (.pair .int (.slice (.slice .int)))]):((List Int)×Int×Int)×(Int×(List (List Int))):=(o.1,r)
def E_21:Entry where
 params:= [.bx (.v (.pair (.slice (.num .u8)) (.pair .int (.num .u64))))]
 results:= [.v .int,.mv (.pair .int (.slice (.slice .int))) 0]
 B:=((List Int)×Int×Int)×Int×(List (Int×(List (List Int))))
 run:=fun a=>Cp a
 out:=fun b=>b.1
 res:=fun b=>(b.2.1,b.2.2)
def S_21L9 (n:Nat):LoopSpec where
 sh:= [(0,.bx (.v (.pair (.slice (.num .u8)) (.pair .int (.num .u64))))),(4,.v .int),(5,.mv (.pair .int (.slice (.slice .int))) 0),(6,.mv (.pair .int (.slice (.slice .int))) 0),(7,.v .int),(8,.bx (.pr (.v .int) (.mv (.slice .int) 0))),(9,.v .int)]
 ex:= [(.exit 2,[(0,.bx (.v (.pair (.slice (.num .u8)) (.pair .int (.num .u64))))),(4,.v .int),(5,.mv (.pair .int (.slice (.slice .int))) 0),(6,.mv (.pair .int (.slice (.slice .int))) 0),(7,.v .int),(8,.bx (.pr (.v .int) (.mv (.slice .int) 0)))])]
 run:=AP n
def S_21L5 (n:Nat):LoopSpec where
 sh:= [(0,.bx (.v (.pair (.slice (.num .u8)) (.pair .int (.num .u64))))),(4,.v .int),(5,.mv (.pair .int (.slice (.slice .int))) 0),(6,.mv (.pair .int (.slice (.slice .int))) 0),(7,.v .int)]
 ex:= [(.exit 0,[(0,.bx (.v (.pair (.slice (.num .u8)) (.pair .int (.num .u64))))),(4,.v .int),(6,.mv (.pair .int (.slice (.slice .int))) 0)])]
 run:=AO n
def S_21L17 (n:Nat):LoopSpec where
 sh:= [(0,.bx (.v (.pair (.slice (.num .u8)) (.pair .int (.num .u64))))),(10,.v .int),(11,.mv (.pair .int (.slice (.slice .int))) 0),(12,.v .int)]
 ex:= [(.exit 4,[(0,.bx (.v (.pair (.slice (.num .u8)) (.pair .int (.num .u64))))),(10,.v .int),(11,.mv (.pair .int (.slice (.slice .int))) 0)])]
 run:=AZ n
def C_21:Cx where
 tt:=Ybr tt
 T:=YgH [(60,E_4),(61,E_3),(62,E_7),(127,E_6),(149,E_20),(210,E_5)]
 L:=Yhe [(9,S_21L9 Aa),(5,S_21L5 Aa),(17,S_21L17 Aa)]
 dep:=fun i=>0
 n:=1
def B_21L9:Code:=(Tryz.f148.body.bind (X9 9)).getD .skip
def B_21L5:Code:=(Tryz.f148.body.bind (X9 5)).getD .skip
def B_21L17:Code:=(Tryz.f148.body.bind (X9 17)).getD .skip
def D_21:Code:=Tryz.f148.body.getD .skip
def N_21 (o:X6 [.bx (.v (.pair (.slice (.num .u8)) (.pair .int (.num .u64))))]) (r:YG [.v .int,.mv (.pair .int (.slice (.slice .int))) 0]):((List Int)×Int×Int)×Int×(List (Int×(List (List Int)))):=(o,r.1,r.2)
def E_22:Entry where
 params:= [.v .int,.v .int]
 results:= [.v .int]
 B:=Int
 run:=fun a=>Cl a.1 a.2
 out:=fun b=>((),())
 res:=fun b=>b
def C_22:Cx where
 tt:=Ybr tt
 T:=YgH []
 L:=Yhe []
 dep:=fun i=>0
 n:=2
def D_22:Code:=Tryz.f150.body.getD .skip
def N_22 (_:X6 [.v .int,.v .int]) (r:YG [.v .int]):Int:=r
def E_23:Entry where
 params:= [.bx (.v (.pair (.slice (.num .u8)) (.pair .int (.num .u64))))]
 results:= [.v (.pair .int (.pair .int (.slice (.pair (.slice .int) (.pair .int (.slice (.slice .int)))))))]
 B:=((List Int)×Int×Int)×(Int×Int×(List ((List Int)×Int×(List (List Int)))))
 run:=fun a=>CC a
 out:=fun b=>b.1
 res:=fun b=>b.2
def S_23L11 (n:Nat):LoopSpec where
 sh:= [(0,.bx (.v (.pair (.slice (.num .u8)) (.pair .int (.num .u64))))),(2,.bx (.pr (.v .int) (.pr (.v .int) (.mv (.pair (.slice .int) (.pair .int (.slice (.slice .int)))) 2001)))),(3,.v .int),(4,.mv (.pair .int (.slice (.slice .int))) 0),(5,.bx (.pr (.v .int) (.pr (.v .int) (.mv (.pair (.slice .int) (.pair .int (.slice (.slice .int)))) 2001)))),(6,.v .int),(7,.bx (.v (.pair .int (.slice (.slice .int))))),(8,.bx (.pr (.mv .int 0) (.v (.pair .int (.slice (.slice .int)))))),(9,.v .int)]
 ex:= [(.exit 2,[(0,.bx (.v (.pair (.slice (.num .u8)) (.pair .int (.num .u64))))),(2,.bx (.pr (.v .int) (.pr (.v .int) (.mv (.pair (.slice .int) (.pair .int (.slice (.slice .int)))) 2001)))),(3,.v .int),(4,.mv (.pair .int (.slice (.slice .int))) 0),(5,.bx (.pr (.v .int) (.pr (.v .int) (.mv (.pair (.slice .int) (.pair .int (.slice (.slice .int)))) 2001)))),(6,.v .int),(8,.bx (.pr (.mv .int 0) (.v (.pair .int (.slice (.slice .int))))))])]
 run:=Aw n
def S_23L4 (n:Nat):LoopSpec where
 sh:= [(0,.bx (.v (.pair (.slice (.num .u8)) (.pair .int (.num .u64))))),(2,.bx (.pr (.v .int) (.pr (.v .int) (.mv (.pair (.slice .int) (.pair .int (.slice (.slice .int)))) 2001)))),(3,.v .int),(4,.mv (.pair .int (.slice (.slice .int))) 0),(5,.bx (.pr (.v .int) (.pr (.v .int) (.mv (.pair (.slice .int) (.pair .int (.slice (.slice .int)))) 2001)))),(6,.v .int)]
 ex:= [(.exit 0,[(0,.bx (.v (.pair (.slice (.num .u8)) (.pair .int (.num .u64))))),(2,.bx (.pr (.v .int) (.pr (.v .int) (.mv (.pair (.slice .int) (.pair .int (.slice (.slice .int)))) 2001)))),(5,.bx (.pr (.v .int) (.pr (.v .int) (.mv (.pair (.slice .int) (.pair .int (.slice (.slice .int)))) 2001))))])]
 run:=AA n
def S_23L23 (n:Nat):LoopSpec where
 sh:= [(0,.bx (.v (.pair (.slice (.num .u8)) (.pair .int (.num .u64))))),(2,.bx (.pr (.v .int) (.pr (.v .int) (.mv (.pair (.slice .int) (.pair .int (.slice (.slice .int)))) 2001)))),(5,.bx (.pr (.v .int) (.pr (.v .int) (.mv (.pair (.slice .int) (.pair .int (.slice (.slice .int)))) 0)))),(10,.v .int)]
 ex:= [(.exit 5,[(0,.bx (.v (.pair (.slice (.num .u8)) (.pair .int (.num .u64))))),(2,.bx (.pr (.v .int) (.pr (.v .int) (.mv (.pair (.slice .int) (.pair .int (.slice (.slice .int)))) 2001)))),(5,.bx (.pr (.v .int) (.pr (.v .int) (.mv (.pair (.slice .int) (.pair .int (.slice (.slice .int)))) 0))))])]
 run:=Bd n
def C_23:Cx where
 tt:=Ybr tt
 T:=YgH [(60,E_4),(61,E_3),(62,E_7),(148,E_21),(149,E_20),(150,E_22)]
 L:=Yhe [(11,S_23L11 Aa),(4,S_23L4 Aa),(23,S_23L23 Aa)]
 dep:=fun i=>match i with
  |76=>2001
  |77=>2001
  |_=>0
 n:=1
 fine:=true
def B_23L11:Code:=(Tryz.f57.body.bind (X9 11)).getD .skip
def B_23L4:Code:=(Tryz.f57.body.bind (X9 4)).getD .skip
def B_23L23:Code:=(Tryz.f57.body.bind (X9 23)).getD .skip
def D_23:Code:=Tryz.f57.body.getD .skip
def N_23 (o:X6 [.bx (.v (.pair (.slice (.num .u8)) (.pair .int (.num .u64))))]) (r:YG [.v (.pair .int (.pair .int (.slice (.pair (.slice .int) (.pair .int (.slice (.slice .int)))))))]):((List Int)×Int×Int)×(Int×Int×(List ((List Int)×Int×(List (List Int))))):=(o,r)
def E_24:Entry where
 params:= [.v (.slice (.num .u8))]
 results:= [.v (.pair .int (.pair .int (.slice (.pair (.slice .int) (.pair .int (.slice (.slice .int)))))))]
 B:=(Int×Int×(List ((List Int)×Int×(List (List Int)))))
 run:=fun a=>D5 a
 out:=fun b=>()
 res:=fun b=>b
def C_24:Cx where
 tt:=Ybr tt
 T:=YgH [(57,E_23)]
 L:=Yhe []
 dep:=fun i=>0
 n:=1
def D_24:Code:=Tryz.f86.body.getD .skip
def N_24 (_:X6 [.v (.slice (.num .u8))]) (r:YG [.v (.pair .int (.pair .int (.slice (.pair (.slice .int) (.pair .int (.slice (.slice .int)))))))]):(Int×Int×(List ((List Int)×Int×(List (List Int))))):=r
def E_25:Entry where
 params:= [.v (.slice (.num .u8))]
 results:= [.v (.pair .int (.pair .int (.slice (.pair (.slice .int) (.pair .int (.slice (.slice .int)))))))]
 B:=(Int×Int×(List ((List Int)×Int×(List (List Int)))))
 run:=fun a=>CL a
 out:=fun b=>()
 res:=fun b=>b
def C_25:Cx where
 tt:=Ybr tt
 T:=YgH [(86,E_24)]
 L:=Yhe []
 dep:=fun i=>0
 n:=1
def D_25:Code:=Tryz.f24.body.getD .skip
def N_25 (_:X6 [.v (.slice (.num .u8))]) (r:YG [.v (.pair .int (.pair .int (.slice (.pair (.slice .int) (.pair .int (.slice (.slice .int)))))))]):(Int×Int×(List ((List Int)×Int×(List (List Int))))):=r
def E_26:Entry where
 params:= [.v .int]
 results:= [.v .bool]
 B:=Bool
 run:=fun a=>Co a
 out:=fun b=>()
 res:=fun b=>b
def C_26:Cx where
 tt:=Ybr tt
 T:=YgH []
 L:=Yhe []
 dep:=fun i=>0
 n:=1
def D_26:Code:=Tryz.f70.body.getD .skip
def N_26 (_:X6 [.v .int]) (r:YG [.v .bool]):Bool:=r
def E_27:Entry where
 params:= [.v (.slice .int),.v .int]
 results:= [.v .bool]
 B:=Bool
 run:=fun a=>Dk a.1 a.2
 out:=fun b=>((),())
 res:=fun b=>b
def S_27L2 (n:Nat):LoopSpec where
 sh:= [(1,.v .int),(7,.v (.slice .int)),(8,.v .int),(9,.v .int)]
 ex:= [(.exit 0,[]),(.ret,[(4,.v .bool)])]
 run:=CU n
def C_27:Cx where
 tt:=Ybr tt
 T:=YgH []
 L:=Yhe [(2,S_27L2 Aa)]
 dep:=fun i=>0
 n:=2
def B_27L2:Code:=(Tryz.f137.body.bind (X9 2)).getD .skip
def D_27:Code:=Tryz.f137.body.getD .skip
def N_27 (_:X6 [.v (.slice .int),.v .int]) (r:YG [.v .bool]):Bool:=r
def E_28:Entry where
 params:= [.v (.slice .int),.v (.slice .int)]
 results:= [.v .int]
 B:=Int
 run:=fun a=>D8 a.1 a.2
 out:=fun b=>((),())
 res:=fun b=>b
def S_28L2 (n:Nat):LoopSpec where
 sh:= [(0,.v (.slice .int)),(1,.v (.slice .int)),(5,.v .int)]
 ex:= [(.exit 0,[(0,.v (.slice .int)),(1,.v (.slice .int))]),(.ret,[(4,.v .int)])]
 run:=Bp n
def C_28:Cx where
 tt:=Ybr tt
 T:=YgH []
 L:=Yhe [(2,S_28L2 Aa)]
 dep:=fun i=>0
 n:=2
def B_28L2:Code:=(Tryz.f145.body.bind (X9 2)).getD .skip
def D_28:Code:=Tryz.f145.body.getD .skip
def N_28 (_:X6 [.v (.slice .int),.v (.slice .int)]) (r:YG [.v .int]):Int:=r
def E_29:Entry where
 params:= [.v .int,.v (.pair .int (.slice (.slice .int)))]
 results:= [.v .bool]
 B:=Bool
 run:=fun a=>Dc a.1 a.2
 out:=fun b=>((),())
 res:=fun b=>b
def S_29L4 (n:Nat):LoopSpec where
 sh:= [(0,.v .int),(3,.bx (.v (.pair .int (.slice (.slice .int))))),(16,.v (.slice (.slice .int))),(17,.v .int),(18,.v .int)]
 ex:= [(.exit 0,[]),(.ret,[(4,.v .bool)])]
 run:=BB n
def C_29:Cx where
 tt:=Ybr tt
 T:=YgH [(137,E_27),(145,E_28)]
 L:=Yhe [(4,S_29L4 Aa)]
 dep:=fun i=>0
 n:=2
def B_29L4:Code:=(Tryz.f160.body.bind (X9 4)).getD .skip
def D_29:Code:=Tryz.f160.body.getD .skip
def N_29 (_:X6 [.v .int,.v (.pair .int (.slice (.slice .int)))]) (r:YG [.v .bool]):Bool:=r
def E_30:Entry where
 params:= [.v .int,.v .int,.v (.pair (.slice .int) (.pair .int (.slice (.slice .int))))]
 results:= [.v .bool]
 B:=Bool
 run:=fun a=>Dq a.1 a.2.1 a.2.2
 out:=fun b=>((),(),())
 res:=fun b=>b
def C_30:Cx where
 tt:=Ybr tt
 T:=YgH [(137,E_27),(160,E_29)]
 L:=Yhe []
 dep:=fun i=>0
 n:=3
def D_30:Code:=Tryz.f71.body.getD .skip
def N_30 (_:X6 [.v .int,.v .int,.v (.pair (.slice .int) (.pair .int (.slice (.slice .int))))]) (r:YG [.v .bool]):Bool:=r
def E_31:Entry where
 params:= [.v (.pair .int (.pair .int (.slice (.pair (.slice .int) (.pair .int (.slice (.slice .int)))))))]
 results:= [.v .bool]
 B:=Bool
 run:=fun a=>B2 a
 out:=fun b=>()
 res:=fun b=>b
def S_31L4 (n:Nat):LoopSpec where
 sh:= [(1,.bx (.v (.pair .int (.pair .int (.slice (.pair (.slice .int) (.pair .int (.slice (.slice .int))))))))),(26,.v (.slice (.pair (.slice .int) (.pair .int (.slice (.slice .int)))))),(27,.v .int),(28,.v .int)]
 ex:= [(.exit 0,[]),(.ret,[(2,.v .bool)])]
 run:=Ci n
def C_31:Cx where
 tt:=Ybr tt
 T:=YgH [(70,E_26),(71,E_30)]
 L:=Yhe [(4,S_31L4 Aa)]
 dep:=fun i=>0
 n:=1
def B_31L4:Code:=(Tryz.f13.body.bind (X9 4)).getD .skip
def D_31:Code:=Tryz.f13.body.getD .skip
def N_31 (_:X6 [.v (.pair .int (.pair .int (.slice (.pair (.slice .int) (.pair .int (.slice (.slice .int)))))))]) (r:YG [.v .bool]):Bool:=r
def E_32:Entry where
 params:= [.v (.slice .int)]
 results:= [.v .str]
 B:=ByteArray
 run:=fun a=>CB a
 out:=fun b=>()
 res:=fun b=>b
def S_32L3 (n:Nat):LoopSpec where
 sh:= [(3,.mv (.num .u8) 0),(10,.v (.slice .int)),(11,.v .int),(12,.v .int)]
 ex:= [(.exit 0,[(3,.mv (.num .u8) 0)])]
 run:=CJ n
def C_32:Cx where
 tt:=Ybr tt
 T:=YgH []
 L:=Yhe [(3,S_32L3 Aa)]
 dep:=fun i=>0
 n:=1
def B_32L3:Code:=(Tryz.f205.body.bind (X9 3)).getD .skip
def D_32:Code:=Tryz.f205.body.getD .skip
def N_32 (_:X6 [.v (.slice .int)]) (r:YG [.v .str]):ByteArray:=r
def E_33:Entry where
 params:= [.v (.pair .int (.slice (.slice .int)))]
 results:= [.v .smap]
 B:=(List ByteArray)
 run:=fun a=>C9 a
 out:=fun b=>()
 res:=fun b=>b
def S_33L3 (n:Nat):LoopSpec where
 sh:= [(3,.mp),(8,.v (.slice (.slice .int))),(9,.v .int),(10,.v .int)]
 ex:= [(.exit 0,[(3,.mp)])]
 run:=Ct n
def C_33:Cx where
 tt:=Ybr tt
 T:=YgH [(205,E_32)]
 L:=Yhe [(3,S_33L3 Aa)]
 dep:=fun i=>0
 n:=1
def B_33L3:Code:=(Tryz.f204.body.bind (X9 3)).getD .skip
def D_33:Code:=Tryz.f204.body.getD .skip
def N_33 (_:X6 [.v (.pair .int (.slice (.slice .int)))]) (r:YG [.v .smap]):(List ByteArray):=r
def E_34:Entry where
 params:= [.v (.pair .int (.pair .int (.slice (.pair (.slice .int) (.pair .int (.slice (.slice .int)))))))]
 results:= [.v (.ptr (.pair .int (.pair (.slice (.slice (.slice .int))) (.slice (.slice .smap)))))]
 B:=(Bool×Int×(List (List (List Int)))×(List (List (List ByteArray))))
 run:=fun a=>CN a
 out:=fun b=>()
 res:=fun b=>b
def S_34L7 (n:Nat):LoopSpec where
 sh:= [(3,.bx (.pr (.v .int) (.pr (.mv (.slice (.slice .int)) 1) (.mv (.slice .smap) 1)))),(5,.bx (.v (.pair (.slice .int) (.pair .int (.slice (.slice .int)))))),(6,.v .int),(20,.v (.slice (.pair (.slice .int) (.pair .int (.slice (.slice .int)))))),(21,.v .int),(22,.v .int),(27,.v (.slice .int)),(28,.v .int),(29,.v .int)]
 ex:= [(.exit 2,[(3,.bx (.pr (.v .int) (.pr (.mv (.slice (.slice .int)) 1) (.mv (.slice .smap) 1)))),(5,.bx (.v (.pair (.slice .int) (.pair .int (.slice (.slice .int)))))),(6,.v .int),(20,.v (.slice (.pair (.slice .int) (.pair .int (.slice (.slice .int)))))),(21,.v .int),(22,.v .int)])]
 run:=Bs n
def S_34L3 (n:Nat):LoopSpec where
 sh:= [(3,.bx (.pr (.v .int) (.pr (.mv (.slice (.slice .int)) 1) (.mv (.slice .smap) 1)))),(20,.v (.slice (.pair (.slice .int) (.pair .int (.slice (.slice .int)))))),(21,.v .int),(22,.v .int)]
 ex:= [(.exit 0,[(3,.bx (.pr (.v .int) (.pr (.mv (.slice (.slice .int)) 1) (.mv (.slice .smap) 1))))])]
 run:=Bq n
def C_34:Cx where
 tt:=Ybr tt
 T:=YgH [(204,E_33)]
 L:=Yhe [(7,S_34L7 Aa),(3,S_34L3 Aa)]
 dep:=fun i=>match i with
  |13=>1
  |16=>1
  |_=>0
 n:=1
 fine:=true
def B_34L7:Code:=(Tryz.f179.body.bind (X9 7)).getD .skip
def B_34L3:Code:=(Tryz.f179.body.bind (X9 3)).getD .skip
def D_34:Code:=Tryz.f179.body.getD .skip
def N_34 (_:X6 [.v (.pair .int (.pair .int (.slice (.pair (.slice .int) (.pair .int (.slice (.slice .int)))))))]) (r:YG [.v (.ptr (.pair .int (.pair (.slice (.slice (.slice .int))) (.slice (.slice .smap)))))]):(Bool×Int×(List (List (List Int)))×(List (List (List ByteArray)))):=r
def E_35:Entry where
 params:= [.v .int]
 results:= [.mv .int 0]
 B:=(List Int)
 run:=fun a=>Do a
 out:=fun b=>()
 res:=fun b=>b
def S_35L3 (n:Nat):LoopSpec where
 sh:= [(3,.mv .int 0),(8,.v .int),(9,.v .int)]
 ex:= [(.exit 0,[(3,.mv .int 0)])]
 run:=BL n
def C_35:Cx where
 tt:=Ybr tt
 T:=YgH []
 L:=Yhe [(3,S_35L3 Aa)]
 dep:=fun i=>0
 n:=1
def B_35L3:Code:=(Tryz.f101.body.bind (X9 3)).getD .skip
def D_35:Code:=Tryz.f101.body.getD .skip
def N_35 (_:X6 [.v .int]) (r:YG [.mv .int 0]):(List Int):=r
def E_36:Entry where
 params:= [.v (.slice .int)]
 results:= [.mv .int 0]
 B:=(List Int)
 run:=fun a=>B3 a
 out:=fun b=>()
 res:=fun b=>b
def C_36:Cx where
 tt:=Ybr tt
 T:=YgH []
 L:=Yhe []
 dep:=fun i=>0
 n:=1
def D_36:Code:=Tryz.f96.body.getD .skip
def N_36 (_:X6 [.v (.slice .int)]) (r:YG [.mv .int 0]):(List Int):=r
def E_37:Entry where
 params:= [.v (.slice .int),.bx (.mv (.slice .int) 1)]
 results:= [.v .bool]
 B:=(List (List Int))×Bool
 run:=fun a=>Ch a.1 a.2
 out:=fun b=>((),b.1)
 res:=fun b=>b.2
def C_37:Cx where
 tt:=Ybr tt
 T:=YgH [(96,E_36)]
 L:=Yhe []
 dep:=fun i=>match i with
  |7=>1
  |8=>1
  |_=>0
 n:=2
def D_37:Code:=Tryz.f95.body.getD .skip
def N_37 (o:X6 [.v (.slice .int),.bx (.mv (.slice .int) 1)]) (r:YG [.v .bool]):(List (List Int))×Bool:=(o.2,r)
def E_38:Entry where
 params:= [.v (.slice .int),.v (.slice .int)]
 results:= [.mv .int 0]
 B:=(List Int)
 run:=fun a=>BR a.1 a.2
 out:=fun b=>((),())
 res:=fun b=>b
def S_38L3 (n:Nat):LoopSpec where
 sh:= [(1,.v (.slice .int)),(5,.mv .int 0),(11,.v (.slice .int)),(12,.v .int),(13,.v .int)]
 ex:= [(.exit 0,[(5,.mv .int 0)])]
 run:=CE n
def C_38:Cx where
 tt:=Ybr tt
 T:=YgH []
 L:=Yhe [(3,S_38L3 Aa)]
 dep:=fun i=>0
 n:=2
def B_38L3:Code:=(Tryz.f173.body.bind (X9 3)).getD .skip
def D_38:Code:=Tryz.f173.body.getD .skip
def N_38 (_:X6 [.v (.slice .int),.v (.slice .int)]) (r:YG [.mv .int 0]):(List Int):=r
def E_39_of (rec:(Int×(List Int)×(List (List Int))×(Bool×Int×(List (List (List Int)))×(List (List (List ByteArray))))×(List Int)×Unit)→Option ((List Int)×(List (List Int))×(Bool×Int×(List (List (List Int)))×(List (List (List ByteArray))))×(List Int)×Bool)):Entry where
 params:= [.v .int,.bx (.mv .int 0),.bx (.mv (.slice .int) 1),.bx (.v (.ptr (.pair .int (.pair (.slice (.slice (.slice .int))) (.slice (.slice .smap)))))),.bx (.v (.slice .int)),.jk 1]
 results:= [.v .bool]
 cod:= [(2,.kb 95),(5,.kn 225 1 5)]
 B:=(List Int)×(List (List Int))×(Bool×Int×(List (List (List Int)))×(List (List (List ByteArray))))×(List Int)×Bool
 run:=rec
 out:=fun b=>((),b.1,b.2.1,b.2.2.1,b.2.2.2.1,())
 res:=fun b=>b.2.2.2.2
def E_39 (d:Nat):Entry:=E_39_of (An d)
def S_39L10 (rec:(Int×(List Int)×(List (List Int))×(Bool×Int×(List (List (List Int)))×(List (List (List ByteArray))))×(List Int)×Unit)→Option ((List Int)×(List (List Int))×(Bool×Int×(List (List (List Int)))×(List (List (List ByteArray))))×(List Int)×Bool)) (n:Nat):LoopSpec where
 sh:= [(0,.v .int),(1,.bx (.mv .int 0)),(2,.bx (.mv (.slice .int) 1)),(3,.bx (.v (.ptr (.pair .int (.pair (.slice (.slice (.slice .int))) (.slice (.slice .smap))))))),(4,.bx (.v (.slice .int))),(5,.jk 1),(8,.v .int),(9,.v .bool),(50,.v (.slice (.slice .int))),(51,.v .int),(52,.v .int)]
 ex:= [(.exit 2,[(0,.v .int),(1,.bx (.mv .int 0)),(2,.bx (.mv (.slice .int) 1)),(3,.bx (.v (.ptr (.pair .int (.pair (.slice (.slice (.slice .int))) (.slice (.slice .smap))))))),(4,.bx (.v (.slice .int))),(5,.jk 1),(8,.v .int),(9,.v .bool)])]
 run:=Al rec n
def S_39L4 (rec:(Int×(List Int)×(List (List Int))×(Bool×Int×(List (List (List Int)))×(List (List (List ByteArray))))×(List Int)×Unit)→Option ((List Int)×(List (List Int))×(Bool×Int×(List (List (List Int)))×(List (List (List ByteArray))))×(List Int)×Bool)) (n:Nat):LoopSpec where
 sh:= [(0,.v .int),(1,.bx (.mv .int 0)),(2,.bx (.mv (.slice .int) 1)),(3,.bx (.v (.ptr (.pair .int (.pair (.slice (.slice (.slice .int))) (.slice (.slice .smap))))))),(4,.bx (.v (.slice .int))),(5,.jk 1),(8,.v .int)]
 ex:= [(.exit 0,[(1,.bx (.mv .int 0)),(2,.bx (.mv (.slice .int) 1)),(3,.bx (.v (.ptr (.pair .int (.pair (.slice (.slice (.slice .int))) (.slice (.slice .smap))))))),(4,.bx (.v (.slice .int))),(5,.jk 1)]),(.ret,[(1,.bx (.mv .int 0)),(2,.bx (.mv (.slice .int) 1)),(3,.bx (.v (.ptr (.pair .int (.pair (.slice (.slice (.slice .int))) (.slice (.slice .smap))))))),(4,.bx (.v (.slice .int))),(5,.jk 1),(7,.v .bool)])]
 run:=Ag rec n
def C_39 (rec:(Int×(List Int)×(List (List Int))×(Bool×Int×(List (List (List Int)))×(List (List (List ByteArray))))×(List Int)×Unit)→Option ((List Int)×(List (List Int))×(Bool×Int×(List (List (List Int)))×(List (List (List ByteArray))))×(List Int)×Bool)):Cx where
 tt:=Ybr tt
 T:=YgH [(95,E_37),(173,E_38),(205,E_32),(6291681,E_39_of rec)]
 L:=Yhe [(10,S_39L10 rec Aa),(4,S_39L4 rec Aa)]
 dep:=fun i=>0
 n:=6
 cod:= [(2,.kb 95),(5,.kn 225 1 5)]
def B_39L10:Code:=(Tryz.f225.body.bind (X9 10)).getD .skip
def B_39L4:Code:=(Tryz.f225.body.bind (X9 4)).getD .skip
def D_39:Code:=Tryz.f225.body.getD .skip
def N_39 (o:X6 [.v .int,.bx (.mv .int 0),.bx (.mv (.slice .int) 1),.bx (.v (.ptr (.pair .int (.pair (.slice (.slice (.slice .int))) (.slice (.slice .smap)))))),.bx (.v (.slice .int)),.jk 1]) (r:YG [.v .bool]):(List Int)×(List (List Int))×(Bool×Int×(List (List (List Int)))×(List (List (List ByteArray))))×(List Int)×Bool:=(o.2.1,o.2.2.1,o.2.2.2.1,o.2.2.2.2.1,r)
def E_40:Entry where
 params:= [.v (.ptr (.pair .int (.pair (.slice (.slice (.slice .int))) (.slice (.slice .smap))))),.v (.slice .int),.bx (.mv (.slice .int) 1)]
 results:= []
 cod:= [(2,.cl 95)]
 B:=(List (List Int))
 run:=fun a=>BA a.1 a.2.1 a.2.2
 out:=fun b=>((),(),b)
 res:=fun b=>()
def C_40:Cx where
 tt:=Ybr tt
 T:=YgH [(6291681,E_39 Aa)]
 L:=Yhe []
 dep:=fun i=>0
 n:=3
 cod:= [(2,.cl 95)]
def D_40:Code:=Tryz.f180.body.getD .skip
def N_40 (o:X6 [.v (.ptr (.pair .int (.pair (.slice (.slice (.slice .int))) (.slice (.slice .smap))))),.v (.slice .int),.bx (.mv (.slice .int) 1)]) (_:YG []):(List (List Int)):=o.2.2
def E_41:Entry where
 params:= [.v (.pair .int (.pair .int (.slice (.pair (.slice .int) (.pair .int (.slice (.slice .int))))))),.bx (.mv (.slice .int) 1)]
 results:= []
 cod:= [(1,.cl 95)]
 B:=(List (List Int))
 run:=fun a=>BF a.1 a.2
 out:=fun b=>((),b)
 res:=fun b=>()
def C_41:Cx where
 tt:=Ybr tt
 T:=YgH [(101,E_35),(179,E_34),(6291636,E_40)]
 L:=Yhe []
 dep:=fun i=>0
 n:=2
 cod:= [(1,.cl 95)]
def D_41:Code:=Tryz.f94.body.getD .skip
def N_41 (o:X6 [.v (.pair .int (.pair .int (.slice (.pair (.slice .int) (.pair .int (.slice (.slice .int))))))),.bx (.mv (.slice .int) 1)]) (_:YG []):(List (List Int)):=o.2
def E_42:Entry where
 params:= [.v (.pair .int (.pair .int (.slice (.pair (.slice .int) (.pair .int (.slice (.slice .int)))))))]
 results:= [.mv (.slice .int) 1,.v .bool]
 B:=(List (List Int))×Bool
 run:=fun a=>BJ a
 out:=fun b=>()
 res:=fun b=>(b.1,b.2)
def C_42:Cx where
 tt:=Ybr tt
 T:=YgH [(13,E_31),(6291550,E_41)]
 L:=Yhe []
 dep:=fun i=>match i with
  |8=>1
  |9=>1
  |16=>1
  |_=>0
 n:=1
def D_42:Code:=Tryz.f25.body.getD .skip
def N_42 (_:X6 [.v (.pair .int (.pair .int (.slice (.pair (.slice .int) (.pair .int (.slice (.slice .int)))))))]) (r:YG [.mv (.slice .int) 1,.v .bool]):(List (List Int))×Bool:=(r.1,r.2)
def E_43:Entry where
 params:= [.v .int,.v (.slice .int)]
 results:= [.v .bool]
 B:=Bool
 run:=fun a=>CI a.1 a.2
 out:=fun b=>((),())
 res:=fun b=>b
def S_43L2 (n:Nat):LoopSpec where
 sh:= [(0,.v .int),(1,.v (.slice .int)),(5,.v .int)]
 ex:= [(.exit 0,[]),(.ret,[(4,.v .bool)])]
 run:=B6 n
def C_43:Cx where
 tt:=Ybr tt
 T:=YgH [(151,E_8)]
 L:=Yhe [(2,S_43L2 Aa)]
 dep:=fun i=>0
 n:=2
def B_43L2:Code:=(Tryz.f215.body.bind (X9 2)).getD .skip
def D_43:Code:=Tryz.f215.body.getD .skip
def N_43 (_:X6 [.v .int,.v (.slice .int)]) (r:YG [.v .bool]):Bool:=r
def E_44:Entry where
 params:= [.v .int,.v .int,.v (.slice .int)]
 results:= [.v .bool]
 B:=Bool
 run:=fun a=>EB a.1 a.2.1 a.2.2
 out:=fun b=>((),(),())
 res:=fun b=>b
def C_44:Cx where
 tt:=Ybr tt
 T:=YgH [(215,E_43)]
 L:=Yhe []
 dep:=fun i=>0
 n:=3
def D_44:Code:=Tryz.f196.body.getD .skip
def N_44 (_:X6 [.v .int,.v .int,.v (.slice .int)]) (r:YG [.v .bool]):Bool:=r
def E_45:Entry where
 params:= [.v .int,.v (.pair .int (.slice (.slice .int)))]
 results:= [.v .bool]
 B:=Bool
 run:=fun a=>DY a.1 a.2
 out:=fun b=>((),())
 res:=fun b=>b
def S_45L4 (n:Nat):LoopSpec where
 sh:= [(0,.v .int),(3,.bx (.v (.pair .int (.slice (.slice .int))))),(5,.v .int)]
 ex:= [(.exit 0,[]),(.ret,[(4,.v .bool)])]
 run:=B9 n
def C_45:Cx where
 tt:=Ybr tt
 T:=YgH [(104,E_16),(151,E_8),(196,E_44),(197,E_10)]
 L:=Yhe [(4,S_45L4 Aa)]
 dep:=fun i=>0
 n:=2
def B_45L4:Code:=(Tryz.f152.body.bind (X9 4)).getD .skip
def D_45:Code:=Tryz.f152.body.getD .skip
def N_45 (_:X6 [.v .int,.v (.pair .int (.slice (.slice .int)))]) (r:YG [.v .bool]):Bool:=r
def E_46:Entry where
 params:= [.v .int,.v .int,.v (.pair (.slice .int) (.pair .int (.slice (.slice .int))))]
 results:= [.v .bool]
 B:=Bool
 run:=fun a=>Fh a.1 a.2.1 a.2.2
 out:=fun b=>((),(),())
 res:=fun b=>b
def C_46:Cx where
 tt:=Ybr tt
 T:=YgH [(152,E_45),(215,E_43)]
 L:=Yhe []
 dep:=fun i=>0
 n:=3
def D_46:Code:=Tryz.f156.body.getD .skip
def N_46 (_:X6 [.v .int,.v .int,.v (.pair (.slice .int) (.pair .int (.slice (.slice .int))))]) (r:YG [.v .bool]):Bool:=r
def E_47:Entry where
 params:= [.v (.pair .int (.pair .int (.slice (.pair (.slice .int) (.pair .int (.slice (.slice .int)))))))]
 results:= [.v .bool]
 B:=Bool
 run:=fun a=>C6 a
 out:=fun b=>()
 res:=fun b=>b
def S_47L4 (n:Nat):LoopSpec where
 sh:= [(1,.bx (.v (.pair .int (.pair .int (.slice (.pair (.slice .int) (.pair .int (.slice (.slice .int))))))))),(3,.v .int)]
 ex:= [(.exit 0,[]),(.ret,[(2,.v .bool)])]
 run:=CH n
def C_47:Cx where
 tt:=Ybr tt
 T:=YgH [(151,E_8),(156,E_46)]
 L:=Yhe [(4,S_47L4 Aa)]
 dep:=fun i=>0
 n:=1
def B_47L4:Code:=(Tryz.f66.body.bind (X9 4)).getD .skip
def D_47:Code:=Tryz.f66.body.getD .skip
def N_47 (_:X6 [.v (.pair .int (.pair .int (.slice (.pair (.slice .int) (.pair .int (.slice (.slice .int)))))))]) (r:YG [.v .bool]):Bool:=r
def E_48:Entry where
 params:= [.v .int]
 results:= [.mv .int 0]
 B:=(List Int)
 run:=fun a=>DZ a
 out:=fun b=>()
 res:=fun b=>b
def S_48L3 (n:Nat):LoopSpec where
 sh:= [(0,.v .int),(3,.mv .int 0),(4,.v .int)]
 ex:= [(.exit 0,[(3,.mv .int 0)])]
 run:=Ca n
def C_48:Cx where
 tt:=Ybr tt
 T:=YgH []
 L:=Yhe [(3,S_48L3 Aa)]
 dep:=fun i=>0
 n:=1
def B_48L3:Code:=(Tryz.f98.body.bind (X9 3)).getD .skip
def D_48:Code:=Tryz.f98.body.getD .skip
def N_48 (_:X6 [.v .int]) (r:YG [.mv .int 0]):(List Int):=r
def E_49:Entry where
 params:= [.v .int,.v (.slice (.pair (.slice .int) (.pair .int (.slice (.slice .int)))))]
 results:= [.mv (.slice (.pair (.slice .int) (.pair .int (.slice (.slice .int))))) 1]
 B:=(List (List ((List Int)×Int×(List (List Int)))))
 run:=fun a=>EA a.1 a.2
 out:=fun b=>((),())
 res:=fun b=>b
def S_49L7 (n:Nat):LoopSpec where
 sh:= [(1,.v (.slice (.pair (.slice .int) (.pair .int (.slice (.slice .int)))))),(5,.mv (.slice (.pair (.slice .int) (.pair .int (.slice (.slice .int))))) 1),(6,.v .int),(7,.v .int),(8,.v .int)]
 ex:= [(.exit 2,[(1,.v (.slice (.pair (.slice .int) (.pair .int (.slice (.slice .int)))))),(5,.mv (.slice (.pair (.slice .int) (.pair .int (.slice (.slice .int))))) 1),(6,.v .int),(7,.v .int)])]
 run:=Ce n
def S_49L3 (n:Nat):LoopSpec where
 sh:= [(1,.v (.slice (.pair (.slice .int) (.pair .int (.slice (.slice .int)))))),(5,.mv (.slice (.pair (.slice .int) (.pair .int (.slice (.slice .int))))) 1),(6,.v .int)]
 ex:= [(.exit 0,[(5,.mv (.slice (.pair (.slice .int) (.pair .int (.slice (.slice .int))))) 1)])]
 run:=Cd n
def C_49:Cx where
 tt:=Ybr tt
 T:=YgH [(150,E_22)]
 L:=Yhe [(7,S_49L7 Aa),(3,S_49L3 Aa)]
 dep:=fun i=>match i with
  |10=>1
  |_=>0
 n:=2
 fine:=true
def B_49L7:Code:=(Tryz.f183.body.bind (X9 7)).getD .skip
def B_49L3:Code:=(Tryz.f183.body.bind (X9 3)).getD .skip
def D_49:Code:=Tryz.f183.body.getD .skip
def N_49 (_:X6 [.v .int,.v (.slice (.pair (.slice .int) (.pair .int (.slice (.slice .int)))))]) (r:YG [.mv (.slice (.pair (.slice .int) (.pair .int (.slice (.slice .int))))) 1]):(List (List ((List Int)×Int×(List (List Int))))):=r
def E_50:Entry where
 params:= [.v (.pair .int (.slice (.slice .int))),.v (.slice .int)]
 results:= [.v .bool]
 B:=Bool
 run:=fun a=>Dl a.1 a.2
 out:=fun b=>((),())
 res:=fun b=>b
def C_50:Cx where
 tt:=Ybr tt
 T:=YgH [(198,E_12)]
 L:=Yhe []
 dep:=fun i=>0
 n:=2
def D_50:Code:=Tryz.f239.body.getD .skip
def N_50 (_:X6 [.v (.pair .int (.slice (.slice .int))),.v (.slice .int)]) (r:YG [.v .bool]):Bool:=r
def E_51:Entry where
 params:= [.v (.pair (.slice .int) (.pair .int (.slice (.slice .int)))),.v (.slice .int)]
 results:= [.v .bool]
 B:=Bool
 run:=fun a=>CO a.1 a.2
 out:=fun b=>((),())
 res:=fun b=>b
def S_51L3 (n:Nat):LoopSpec where
 sh:= [(1,.v (.slice .int)),(2,.bx (.v (.pair (.slice .int) (.pair .int (.slice (.slice .int)))))),(5,.mv .int 0),(6,.v .int)]
 ex:= [(.exit 0,[(2,.bx (.v (.pair (.slice .int) (.pair .int (.slice (.slice .int)))))),(5,.mv .int 0)])]
 run:=BI n
def C_51:Cx where
 tt:=Ybr tt
 T:=YgH [(239,E_50)]
 L:=Yhe [(3,S_51L3 Aa)]
 dep:=fun i=>0
 n:=2
def B_51L3:Code:=(Tryz.f226.body.bind (X9 3)).getD .skip
def D_51:Code:=Tryz.f226.body.getD .skip
def N_51 (_:X6 [.v (.pair (.slice .int) (.pair .int (.slice (.slice .int)))),.v (.slice .int)]) (r:YG [.v .bool]):Bool:=r
def E_52_of (rec:(Int×(List (List ((List Int)×Int×(List (List Int)))))×(List Int)×(List Int)×((List (List Int))×(Int×Int×Bool)))→Option (((List (List Int))×(Int×Int×Bool)))):Entry where
 params:= [.v .int,.v (.slice (.slice (.pair (.slice .int) (.pair .int (.slice (.slice .int)))))),.v (.slice .int),.v (.slice .int),.pr (.mv (.slice .int) 1) (.v (.pair .int (.pair .int .bool)))]
 results:= [.pr (.mv (.slice .int) 1) (.v (.pair .int (.pair .int .bool)))]
 B:=((List (List Int))×(Int×Int×Bool))
 run:=rec
 out:=fun b=>((),(),(),(),((),()))
 res:=fun b=>b
def E_52 (d:Nat):Entry:=E_52_of (Av d)
def S_52L14 (rec:(Int×(List (List ((List Int)×Int×(List (List Int)))))×(List Int)×(List Int)×((List (List Int))×(Int×Int×Bool)))→Option (((List (List Int))×(Int×Int×Bool)))) (n:Nat):LoopSpec where
 sh:= [(0,.v .int),(1,.v (.slice (.slice (.pair (.slice .int) (.pair .int (.slice (.slice .int))))))),(2,.v (.slice .int)),(3,.v (.slice .int)),(9,.bx (.pr (.mv (.slice .int) 1) (.v (.pair .int (.pair .int .bool))))),(10,.bx (.pr (.mv (.slice .int) 1) (.v (.pair .int (.pair .int .bool))))),(11,.v .int),(12,.v .int),(13,.mv .int 0),(14,.v .bool),(15,.v .int)]
 ex:= [(.exit 2,[(0,.v .int),(1,.v (.slice (.slice (.pair (.slice .int) (.pair .int (.slice (.slice .int))))))),(2,.v (.slice .int)),(3,.v (.slice .int)),(9,.bx (.pr (.mv (.slice .int) 1) (.v (.pair .int (.pair .int .bool))))),(10,.bx (.pr (.mv (.slice .int) 1) (.v (.pair .int (.pair .int .bool))))),(11,.v .int),(12,.v .int),(13,.mv .int 0),(14,.v .bool)])]
 run:=AI rec n
def S_52L8 (rec:(Int×(List (List ((List Int)×Int×(List (List Int)))))×(List Int)×(List Int)×((List (List Int))×(Int×Int×Bool)))→Option (((List (List Int))×(Int×Int×Bool)))) (n:Nat):LoopSpec where
 sh:= [(0,.v .int),(1,.v (.slice (.slice (.pair (.slice .int) (.pair .int (.slice (.slice .int))))))),(2,.v (.slice .int)),(3,.v (.slice .int)),(9,.bx (.pr (.mv (.slice .int) 1) (.v (.pair .int (.pair .int .bool))))),(10,.bx (.pr (.mv (.slice .int) 1) (.v (.pair .int (.pair .int .bool))))),(11,.v .int),(12,.v .int)]
 ex:= [(.exit 0,[(9,.bx (.pr (.mv (.slice .int) 1) (.v (.pair .int (.pair .int .bool))))),(10,.bx (.pr (.mv (.slice .int) 1) (.v (.pair .int (.pair .int .bool)))))])]
 run:=Ao rec n
def C_52 (rec:(Int×(List (List ((List Int)×Int×(List (List Int)))))×(List Int)×(List Int)×((List (List Int))×(Int×Int×Bool)))→Option (((List (List Int))×(Int×Int×Bool)))):Cx where
 tt:=Ybr tt
 T:=YgH [(127,E_6),(182,E_52_of rec),(226,E_51)]
 L:=Yhe [(14,S_52L14 rec Aa),(8,S_52L8 rec Aa)]
 dep:=fun i=>match i with
  |36=>1
  |37=>1
  |_=>0
 n:=5
def B_52L14:Code:=(Tryz.f182.body.bind (X9 14)).getD .skip
def B_52L8:Code:=(Tryz.f182.body.bind (X9 8)).getD .skip
def D_52:Code:=Tryz.f182.body.getD .skip
def N_52 (_:X6 [.v .int,.v (.slice (.slice (.pair (.slice .int) (.pair .int (.slice (.slice .int)))))),.v (.slice .int),.v (.slice .int),.pr (.mv (.slice .int) 1) (.v (.pair .int (.pair .int .bool)))]) (r:YG [.pr (.mv (.slice .int) 1) (.v (.pair .int (.pair .int .bool)))]):((List (List Int))×(Int×Int×Bool)):=r
def E_53:Entry where
 params:= [.v (.pair .int (.pair .int (.slice (.pair (.slice .int) (.pair .int (.slice (.slice .int))))))),.v (.slice (.pair (.slice .int) (.pair .int (.slice (.slice .int))))),.v (.slice .int),.v .int,.v .bool]
 results:= [.pr (.mv (.slice .int) 1) (.v (.pair .int (.pair .int .bool)))]
 B:=((List (List Int))×(Int×Int×Bool))
 run:=fun a=>Ez a.1 a.2.1 a.2.2.1 a.2.2.2.1 a.2.2.2.2
 out:=fun b=>((),(),(),(),())
 res:=fun b=>b
def C_53:Cx where
 tt:=Ybr tt
 T:=YgH [(182,E_52 Aa),(183,E_49)]
 L:=Yhe []
 dep:=fun i=>0
 n:=5
def D_53:Code:=Tryz.f97.body.getD .skip
def N_53 (_:X6 [.v (.pair .int (.pair .int (.slice (.pair (.slice .int) (.pair .int (.slice (.slice .int))))))),.v (.slice (.pair (.slice .int) (.pair .int (.slice (.slice .int))))),.v (.slice .int),.v .int,.v .bool]) (r:YG [.pr (.mv (.slice .int) 1) (.v (.pair .int (.pair .int .bool)))]):((List (List Int))×(Int×Int×Bool)):=r
def E_54:Entry where
 params:= [.v (.pair .int (.pair .int (.slice (.pair (.slice .int) (.pair .int (.slice (.slice .int)))))))]
 results:= [.mv (.slice .int) 1,.v .bool]
 B:=(List (List Int))×Bool
 run:=fun a=>BN a
 out:=fun b=>()
 res:=fun b=>(b.1,b.2)
def C_54:Cx where
 tt:=Ybr tt
 T:=YgH [(66,E_47),(97,E_53),(98,E_48)]
 L:=Yhe []
 dep:=fun i=>match i with
  |8=>1
  |19=>1
  |20=>1
  |23=>1
  |_=>0
 n:=1
def D_54:Code:=Tryz.f26.body.getD .skip
def N_54 (_:X6 [.v (.pair .int (.pair .int (.slice (.pair (.slice .int) (.pair .int (.slice (.slice .int)))))))]) (r:YG [.mv (.slice .int) 1,.v .bool]):(List (List Int))×Bool:=(r.1,r.2)
def E_55:Entry where
 params:= [.v (.slice .int),.v (.slice .int)]
 results:= [.v .bool]
 B:=Bool
 run:=fun a=>Eu a.1 a.2
 out:=fun b=>((),())
 res:=fun b=>b
def S_55L4 (n:Nat):LoopSpec where
 sh:= [(0,.v (.slice .int)),(1,.v (.slice .int)),(5,.v .int)]
 ex:= [(.exit 0,[]),(.ret,[(4,.v .bool)])]
 run:=CK n
def C_55:Cx where
 tt:=Ybr tt
 T:=YgH []
 L:=Yhe [(4,S_55L4 Aa)]
 dep:=fun i=>0
 n:=2
def B_55L4:Code:=(Tryz.f11.body.bind (X9 4)).getD .skip
def D_55:Code:=Tryz.f11.body.getD .skip
def N_55 (_:X6 [.v (.slice .int),.v (.slice .int)]) (r:YG [.v .bool]):Bool:=r
def E_56:Entry where
 params:= [.v (.slice (.slice .int)),.v (.slice (.slice .int))]
 results:= [.v .bool]
 B:=Bool
 run:=fun a=>Eb a.1 a.2
 out:=fun b=>((),())
 res:=fun b=>b
def S_56L4 (n:Nat):LoopSpec where
 sh:= [(0,.v (.slice (.slice .int))),(1,.v (.slice (.slice .int))),(5,.v .int)]
 ex:= [(.exit 0,[]),(.ret,[(4,.v .bool)])]
 run:=Cu n
def C_56:Cx where
 tt:=Ybr tt
 T:=YgH [(11,E_55)]
 L:=Yhe [(4,S_56L4 Aa)]
 dep:=fun i=>0
 n:=2
def B_56L4:Code:=(Tryz.f12.body.bind (X9 4)).getD .skip
def D_56:Code:=Tryz.f12.body.getD .skip
def N_56 (_:X6 [.v (.slice (.slice .int)),.v (.slice (.slice .int))]) (r:YG [.v .bool]):Bool:=r
def E_57:Entry where
 params:= [.v .int,.v (.slice (.pair .int (.slice (.slice .int))))]
 results:= [.v .bool]
 B:=Bool
 run:=fun a=>EC a.1 a.2
 out:=fun b=>((),())
 res:=fun b=>b
def S_57L4 (n:Nat):LoopSpec where
 sh:= [(0,.v .int),(10,.v (.slice (.pair .int (.slice (.slice .int))))),(11,.v .int),(12,.v .int)]
 ex:= [(.exit 0,[]),(.ret,[(4,.v .bool)])]
 run:=B4 n
def C_57:Cx where
 tt:=Ybr tt
 T:=YgH [(160,E_29)]
 L:=Yhe [(4,S_57L4 Aa)]
 dep:=fun i=>0
 n:=2
def B_57L4:Code:=(Tryz.f161.body.bind (X9 4)).getD .skip
def D_57:Code:=Tryz.f161.body.getD .skip
def N_57 (_:X6 [.v .int,.v (.slice (.pair .int (.slice (.slice .int))))]) (r:YG [.v .bool]):Bool:=r
def E_58:Entry where
 params:= [.v .int,.v (.slice (.pair .int (.slice (.slice .int)))),.v .int]
 results:= [.v .bool]
 B:=Bool
 run:=fun a=>EL a.1 a.2.1 a.2.2
 out:=fun b=>((),(),())
 res:=fun b=>b
def S_58L4 (n:Nat):LoopSpec where
 sh:= [(2,.v .int),(18,.v (.slice (.pair .int (.slice (.slice .int))))),(19,.v .int),(20,.v .int)]
 ex:= [(.exit 0,[]),(.ret,[(6,.v .bool)])]
 run:=Cr n
def C_58:Cx where
 tt:=Ybr tt
 T:=YgH [(70,E_26),(161,E_57)]
 L:=Yhe [(4,S_58L4 Aa)]
 dep:=fun i=>0
 n:=3
def B_58L4:Code:=(Tryz.f72.body.bind (X9 4)).getD .skip
def D_58:Code:=Tryz.f72.body.getD .skip
def N_58 (_:X6 [.v .int,.v (.slice (.pair .int (.slice (.slice .int)))),.v .int]) (r:YG [.v .bool]):Bool:=r
def E_59:Entry where
 params:= [.v .int,.v .int]
 results:= [.v .int]
 B:=Int
 run:=fun a=>B5 a.1 a.2
 out:=fun b=>((),())
 res:=fun b=>b
def S_59L2 (n:Nat):LoopSpec where
 sh:= [(0,.v .int),(1,.v .int),(5,.v .int)]
 ex:= [(.exit 0,[(5,.v .int)])]
 run:=Cm n
def C_59:Cx where
 tt:=Ybr tt
 T:=YgH []
 L:=Yhe [(2,S_59L2 Aa)]
 dep:=fun i=>0
 n:=2
def B_59L2:Code:=(Tryz.f102.body.bind (X9 2)).getD .skip
def D_59:Code:=Tryz.f102.body.getD .skip
def N_59 (_:X6 [.v .int,.v .int]) (r:YG [.v .int]):Int:=r
def E_60:Entry where
 params:= [.v .int,.v .int]
 results:= [.v .bool]
 B:=Bool
 run:=fun a=>DB a.1 a.2
 out:=fun b=>((),())
 res:=fun b=>b
def C_60:Cx where
 tt:=Ybr tt
 T:=YgH [(102,E_59)]
 L:=Yhe []
 dep:=fun i=>0
 n:=2
def D_60:Code:=Tryz.f99.body.getD .skip
def N_60 (_:X6 [.v .int,.v .int]) (r:YG [.v .bool]):Bool:=r
def E_61:Entry where
 params:= [.v .int,.v .int,.v .int]
 results:= [.mv .int 0]
 B:=(List Int)
 run:=fun a=>EK a.1 a.2.1 a.2.2
 out:=fun b=>((),(),())
 res:=fun b=>b
def S_61L3 (n:Nat):LoopSpec where
 sh:= [(0,.v .int),(2,.v .int),(7,.mv .int 0),(8,.v .int)]
 ex:= [(.exit 0,[(7,.mv .int 0)])]
 run:=CS n
def C_61:Cx where
 tt:=Ybr tt
 T:=YgH []
 L:=Yhe [(3,S_61L3 Aa)]
 dep:=fun i=>0
 n:=3
def B_61L3:Code:=(Tryz.f116.body.bind (X9 3)).getD .skip
def D_61:Code:=Tryz.f116.body.getD .skip
def N_61 (_:X6 [.v .int,.v .int,.v .int]) (r:YG [.mv .int 0]):(List Int):=r
def E_62:Entry where
 params:= [.v .int,.v (.slice (.pair .int (.slice (.slice .int)))),.v .int]
 results:= [.v (.ptr (.pair .int (.pair .int (.slice (.slice (.pair (.slice .int) .smap))))))]
 B:=(Bool×Int×Int×(List (List ((List Int)×(List ByteArray)))))
 run:=fun a=>Di a.1 a.2.1 a.2.2
 out:=fun b=>((),(),())
 res:=fun b=>b
def S_62L17 (n:Nat):LoopSpec where
 sh:= [(917564,.jk 1),(0,.v .int),(2,.v .int),(7,.bx (.pr (.v .int) (.pr (.v .int) (.mv (.slice (.pair (.slice .int) .smap)) 1)))),(9,.bx (.v (.pair .int (.slice (.slice .int))))),(10,.v .smap),(11,.mp),(12,.v .int),(13,.mv .int 0),(14,.mv .int 0),(15,.v .int),(16,.v .int),(28,.v (.slice (.pair .int (.slice (.slice .int))))),(29,.v .int),(30,.v .int),(56,.v .int),(57,.v .int),(61,.v .int),(62,.v .int)]
 ex:= [(.exit 6,[(0,.v .int),(2,.v .int),(7,.bx (.pr (.v .int) (.pr (.v .int) (.mv (.slice (.pair (.slice .int) .smap)) 1)))),(9,.bx (.v (.pair .int (.slice (.slice .int))))),(10,.v .smap),(11,.mp),(12,.v .int),(13,.mv .int 0),(14,.mv .int 0),(15,.v .int),(16,.v .int),(28,.v (.slice (.pair .int (.slice (.slice .int))))),(29,.v .int),(30,.v .int),(56,.v .int),(57,.v .int)])]
 run:=Ba n
def S_62L14 (n:Nat):LoopSpec where
 sh:= [(0,.v .int),(2,.v .int),(7,.bx (.pr (.v .int) (.pr (.v .int) (.mv (.slice (.pair (.slice .int) .smap)) 1)))),(9,.bx (.v (.pair .int (.slice (.slice .int))))),(10,.v .smap),(11,.mp),(12,.v .int),(13,.mv .int 0),(14,.mv .int 0),(15,.v .int),(28,.v (.slice (.pair .int (.slice (.slice .int))))),(29,.v .int),(30,.v .int),(56,.v .int),(57,.v .int)]
 ex:= [(.exit 4,[(0,.v .int),(2,.v .int),(7,.bx (.pr (.v .int) (.pr (.v .int) (.mv (.slice (.pair (.slice .int) .smap)) 1)))),(9,.bx (.v (.pair .int (.slice (.slice .int))))),(10,.v .smap),(11,.mp),(12,.v .int),(14,.mv .int 0),(15,.v .int),(28,.v (.slice (.pair .int (.slice (.slice .int))))),(29,.v .int),(30,.v .int)])]
 run:=A9 n
def S_62L8 (n:Nat):LoopSpec where
 sh:= [(0,.v .int),(2,.v .int),(7,.bx (.pr (.v .int) (.pr (.v .int) (.mv (.slice (.pair (.slice .int) .smap)) 1)))),(9,.bx (.v (.pair .int (.slice (.slice .int))))),(10,.v .smap),(11,.mp),(12,.v .int),(28,.v (.slice (.pair .int (.slice (.slice .int))))),(29,.v .int),(30,.v .int)]
 ex:= [(.exit 2,[(0,.v .int),(2,.v .int),(7,.bx (.pr (.v .int) (.pr (.v .int) (.mv (.slice (.pair (.slice .int) .smap)) 1)))),(28,.v (.slice (.pair .int (.slice (.slice .int))))),(29,.v .int),(30,.v .int)])]
 run:=AU n
def S_62L3 (n:Nat):LoopSpec where
 sh:= [(0,.v .int),(2,.v .int),(7,.bx (.pr (.v .int) (.pr (.v .int) (.mv (.slice (.pair (.slice .int) .smap)) 1)))),(28,.v (.slice (.pair .int (.slice (.slice .int))))),(29,.v .int),(30,.v .int)]
 ex:= [(.exit 0,[(7,.bx (.pr (.v .int) (.pr (.v .int) (.mv (.slice (.pair (.slice .int) .smap)) 1))))])]
 run:=Bk n
def C_62:Cx where
 tt:=Ybr tt
 T:=YgH [(102,E_59),(116,E_61),(204,E_33),(205,E_32)]
 L:=Yhe [(17,S_62L17 Aa),(14,S_62L14 Aa),(8,S_62L8 Aa),(3,S_62L3 Aa)]
 dep:=fun i=>match i with
  |25=>1
  |_=>0
 n:=3
 fine:=true
def B_62L17:Code:=(Tryz.f162.body.bind (X9 17)).getD .skip
def B_62L14:Code:=(Tryz.f162.body.bind (X9 14)).getD .skip
def B_62L8:Code:=(Tryz.f162.body.bind (X9 8)).getD .skip
def B_62L3:Code:=(Tryz.f162.body.bind (X9 3)).getD .skip
def D_62:Code:=Tryz.f162.body.getD .skip
def N_62 (_:X6 [.v .int,.v (.slice (.pair .int (.slice (.slice .int)))),.v .int]) (r:YG [.v (.ptr (.pair .int (.pair .int (.slice (.slice (.pair (.slice .int) .smap))))))]):(Bool×Int×Int×(List (List ((List Int)×(List ByteArray))))):=r
def E_63:Entry where
 params:= [.v (.slice .int),.bx (.mv (.pair .int (.slice .int)) 1),.bx (.v .int)]
 results:= [.v .bool]
 B:=(List (Int×(List Int)))×Int×Bool
 run:=fun a=>CM a.1 a.2.1 a.2.2
 out:=fun b=>((),b.1,b.2.1)
 res:=fun b=>b.2.2
def C_63:Cx where
 tt:=Ybr tt
 T:=YgH [(96,E_36)]
 L:=Yhe []
 dep:=fun i=>match i with
  |10=>1
  |11=>1
  |_=>0
 n:=3
def D_63:Code:=Tryz.f184.body.getD .skip
def N_63 (o:X6 [.v (.slice .int),.bx (.mv (.pair .int (.slice .int)) 1),.bx (.v .int)]) (r:YG [.v .bool]):(List (Int×(List Int)))×Int×Bool:=(o.2.1,o.2.2,r)
def E_64:Entry where
 params:= [.v (.ptr (.pair .int (.pair .int (.slice (.slice (.pair (.slice .int) .smap)))))),.v (.slice .int),.v .int]
 results:= [.v .bool]
 B:=Bool
 run:=fun a=>AL a.1 a.2.1 a.2.2
 out:=fun b=>((),(),())
 res:=fun b=>b
def S_64L2 (n:Nat):LoopSpec where
 sh:= [(1,.v (.slice .int)),(15,.v (.slice (.pair (.slice .int) .smap))),(16,.v .int),(17,.v .int)]
 ex:= [(.exit 0,[]),(.ret,[(6,.v .bool)])]
 run:=AJ n
def C_64:Cx where
 tt:=Ybr tt
 T:=YgH [(173,E_38),(205,E_32)]
 L:=Yhe [(2,S_64L2 Aa)]
 dep:=fun i=>0
 n:=3
def B_64L2:Code:=(Tryz.f218.body.bind (X9 2)).getD .skip
def D_64:Code:=Tryz.f218.body.getD .skip
def N_64 (_:X6 [.v (.ptr (.pair .int (.pair .int (.slice (.slice (.pair (.slice .int) .smap)))))),.v (.slice .int),.v .int]) (r:YG [.v .bool]):Bool:=r
def E_65_of (rec:(Int×(List Int)×((List (Int×(List Int)))×Int)×(Bool×Int×Int×(List (List ((List Int)×(List ByteArray)))))×(List Int)×Unit)→Option ((List Int)×((List (Int×(List Int)))×Int)×(Bool×Int×Int×(List (List ((List Int)×(List ByteArray)))))×(List Int)×Bool)):Entry where
 params:= [.v .int,.bx (.mv .int 0),.pr (.bx (.mv (.pair .int (.slice .int)) 1)) (.bx (.v .int)),.bx (.v (.ptr (.pair .int (.pair .int (.slice (.slice (.pair (.slice .int) .smap))))))),.bx (.v (.slice .int)),.jk 1]
 results:= [.v .bool]
 cod:= [(2,.kb 184),(5,.kn 217 1 5)]
 B:=(List Int)×((List (Int×(List Int)))×Int)×(Bool×Int×Int×(List (List ((List Int)×(List ByteArray)))))×(List Int)×Bool
 run:=rec
 out:=fun b=>((),b.1,b.2.1,b.2.2.1,b.2.2.2.1,())
 res:=fun b=>b.2.2.2.2
def E_65 (d:Nat):Entry:=E_65_of (Ar d)
def S_65L4 (rec:(Int×(List Int)×((List (Int×(List Int)))×Int)×(Bool×Int×Int×(List (List ((List Int)×(List ByteArray)))))×(List Int)×Unit)→Option ((List Int)×((List (Int×(List Int)))×Int)×(Bool×Int×Int×(List (List ((List Int)×(List ByteArray)))))×(List Int)×Bool)) (n:Nat):LoopSpec where
 sh:= [(0,.v .int),(1,.bx (.mv .int 0)),(2,.pr (.bx (.mv (.pair .int (.slice .int)) 1)) (.bx (.v .int))),(3,.bx (.v (.ptr (.pair .int (.pair .int (.slice (.slice (.pair (.slice .int) .smap)))))))),(4,.bx (.v (.slice .int))),(5,.jk 1),(8,.v .int)]
 ex:= [(.exit 0,[(1,.bx (.mv .int 0)),(2,.pr (.bx (.mv (.pair .int (.slice .int)) 1)) (.bx (.v .int))),(3,.bx (.v (.ptr (.pair .int (.pair .int (.slice (.slice (.pair (.slice .int) .smap)))))))),(4,.bx (.v (.slice .int))),(5,.jk 1)]),(.ret,[(1,.bx (.mv .int 0)),(2,.pr (.bx (.mv (.pair .int (.slice .int)) 1)) (.bx (.v .int))),(3,.bx (.v (.ptr (.pair .int (.pair .int (.slice (.slice (.pair (.slice .int) .smap)))))))),(4,.bx (.v (.slice .int))),(5,.jk 1),(7,.v .bool)])]
 run:=Ah rec n
def C_65 (rec:(Int×(List Int)×((List (Int×(List Int)))×Int)×(Bool×Int×Int×(List (List ((List Int)×(List ByteArray)))))×(List Int)×Unit)→Option ((List Int)×((List (Int×(List Int)))×Int)×(Bool×Int×Int×(List (List ((List Int)×(List ByteArray)))))×(List Int)×Bool)):Cx where
 tt:=Ybr tt
 T:=YgH [(184,E_63),(218,E_64),(12124377,E_65_of rec)]
 L:=Yhe [(4,S_65L4 rec Aa)]
 dep:=fun i=>0
 n:=6
 cod:= [(2,.kb 184),(5,.kn 217 1 5)]
def B_65L4:Code:=(Tryz.f217.body.bind (X9 4)).getD .skip
def D_65:Code:=Tryz.f217.body.getD .skip
def N_65 (o:X6 [.v .int,.bx (.mv .int 0),.pr (.bx (.mv (.pair .int (.slice .int)) 1)) (.bx (.v .int)),.bx (.v (.ptr (.pair .int (.pair .int (.slice (.slice (.pair (.slice .int) .smap))))))),.bx (.v (.slice .int)),.jk 1]) (r:YG [.v .bool]):(List Int)×((List (Int×(List Int)))×Int)×(Bool×Int×Int×(List (List ((List Int)×(List ByteArray)))))×(List Int)×Bool:=(o.2.1,o.2.2.1,o.2.2.2.1,o.2.2.2.2.1,r)
def E_66:Entry where
 params:= [.v (.ptr (.pair .int (.pair .int (.slice (.slice (.pair (.slice .int) .smap)))))),.v (.slice .int),.pr (.bx (.mv (.pair .int (.slice .int)) 1)) (.bx (.v .int))]
 results:= []
 cod:= [(2,.cl 184)]
 B:=((List (Int×(List Int)))×Int)
 run:=fun a=>BG a.1 a.2.1 a.2.2
 out:=fun b=>((),(),b)
 res:=fun b=>()
def C_66:Cx where
 tt:=Ybr tt
 T:=YgH [(12124377,E_65 Aa)]
 L:=Yhe []
 dep:=fun i=>0
 n:=3
 cod:= [(2,.cl 184)]
def D_66:Code:=Tryz.f163.body.getD .skip
def N_66 (o:X6 [.v (.ptr (.pair .int (.pair .int (.slice (.slice (.pair (.slice .int) .smap)))))),.v (.slice .int),.pr (.bx (.mv (.pair .int (.slice .int)) 1)) (.bx (.v .int))]) (_:YG []):((List (Int×(List Int)))×Int):=o.2.2
def E_67:Entry where
 params:= [.v .int,.v (.slice (.pair .int (.slice (.slice .int)))),.v .int,.v (.slice .int)]
 results:= [.mv (.pair .int (.slice .int)) 1,.v .bool]
 B:=(List (Int×(List Int)))×Bool
 run:=fun a=>Dr a.1 a.2.1 a.2.2.1 a.2.2.2
 out:=fun b=>((),(),(),())
 res:=fun b=>(b.1,b.2)
def C_67:Cx where
 tt:=Ybr tt
 T:=YgH [(162,E_62),(12124323,E_66)]
 L:=Yhe []
 dep:=fun i=>match i with
  |11=>1
  |22=>1
  |_=>0
 n:=4
def D_67:Code:=Tryz.f100.body.getD .skip
def N_67 (_:X6 [.v .int,.v (.slice (.pair .int (.slice (.slice .int)))),.v .int,.v (.slice .int)]) (r:YG [.mv (.pair .int (.slice .int)) 1,.v .bool]):(List (Int×(List Int)))×Bool:=(r.1,r.2)
def E_68:Entry where
 params:= [.v .int,.v (.slice (.pair .int (.slice (.slice .int)))),.v .int]
 results:= [.mv (.pair .int (.slice .int)) 1,.v .bool]
 B:=(List (Int×(List Int)))×Bool
 run:=fun a=>A7 a.1 a.2.1 a.2.2
 out:=fun b=>((),(),())
 res:=fun b=>(b.1,b.2)
def C_68:Cx where
 tt:=Ybr tt
 T:=YgH [(72,E_58),(99,E_60),(100,E_67),(101,E_35),(102,E_59)]
 L:=Yhe []
 dep:=fun i=>match i with
  |19=>1
  |_=>0
 n:=3
def D_68:Code:=Tryz.f27.body.getD .skip
def N_68 (_:X6 [.v .int,.v (.slice (.pair .int (.slice (.slice .int)))),.v .int]) (r:YG [.mv (.pair .int (.slice .int)) 1,.v .bool]):(List (Int×(List Int)))×Bool:=(r.1,r.2)
def E_69:Entry where
 params:= [.v .int]
 results:= [.v .bool]
 B:=Bool
 run:=fun a=>Fo a
 out:=fun b=>()
 res:=fun b=>b
def C_69:Cx where
 tt:=Ybr tt
 T:=YgH [(151,E_8)]
 L:=Yhe []
 dep:=fun i=>0
 n:=1
def D_69:Code:=Tryz.f58.body.getD .skip
def N_69 (_:X6 [.v .int]) (r:YG [.v .bool]):Bool:=r
def E_70:Entry where
 params:= [.v .int,.v (.slice (.pair .int (.slice (.slice .int))))]
 results:= [.v .bool]
 B:=Bool
 run:=fun a=>Fm a.1 a.2
 out:=fun b=>((),())
 res:=fun b=>b
def S_70L4 (n:Nat):LoopSpec where
 sh:= [(0,.v .int),(1,.v (.slice (.pair .int (.slice (.slice .int))))),(5,.v .int)]
 ex:= [(.exit 0,[]),(.ret,[(4,.v .bool)])]
 run:=CG n
def C_70:Cx where
 tt:=Ybr tt
 T:=YgH [(152,E_45)]
 L:=Yhe [(4,S_70L4 Aa)]
 dep:=fun i=>0
 n:=2
def B_70L4:Code:=(Tryz.f59.body.bind (X9 4)).getD .skip
def D_70:Code:=Tryz.f59.body.getD .skip
def N_70 (_:X6 [.v .int,.v (.slice (.pair .int (.slice (.slice .int))))]) (r:YG [.v .bool]):Bool:=r
def E_71:Entry where
 params:= [.v .int,.v (.slice (.pair .int (.slice (.slice .int)))),.v .int]
 results:= [.v .bool]
 B:=Bool
 run:=fun a=>Em a.1 a.2.1 a.2.2
 out:=fun b=>((),(),())
 res:=fun b=>b
def S_71L4 (n:Nat):LoopSpec where
 sh:= [(1,.v (.slice (.pair .int (.slice (.slice .int))))),(2,.v .int),(7,.v .int)]
 ex:= [(.exit 0,[]),(.ret,[(6,.v .bool)])]
 run:=B0 n
def C_71:Cx where
 tt:=Ybr tt
 T:=YgH [(58,E_69),(59,E_70),(151,E_8)]
 L:=Yhe [(4,S_71L4 Aa)]
 dep:=fun i=>0
 n:=3
def B_71L4:Code:=(Tryz.f77.body.bind (X9 4)).getD .skip
def D_71:Code:=Tryz.f77.body.getD .skip
def N_71 (_:X6 [.v .int,.v (.slice (.pair .int (.slice (.slice .int)))),.v .int]) (r:YG [.v .bool]):Bool:=r
def E_72:Entry where
 params:= [.v .int,.v (.slice (.pair .int (.slice (.slice .int)))),.v .int]
 results:= [.v .bool]
 B:=Bool
 run:=fun a=>El a.1 a.2.1 a.2.2
 out:=fun b=>((),(),())
 res:=fun b=>b
def C_72:Cx where
 tt:=Ybr tt
 T:=YgH [(77,E_71),(104,E_16)]
 L:=Yhe []
 dep:=fun i=>0
 n:=3
def D_72:Code:=Tryz.f103.body.getD .skip
def N_72 (_:X6 [.v .int,.v (.slice (.pair .int (.slice (.slice .int)))),.v .int]) (r:YG [.v .bool]):Bool:=r
def E_73:Entry where
 params:= [.v .int,.v (.slice (.pair .int (.slice (.slice .int)))),.v .int]
 results:= [.mv (.slice (.pair (.slice .int) (.pair .int (.slice (.slice .int))))) 1]
 B:=(List (List ((List Int)×Int×(List (List Int)))))
 run:=fun a=>Ek a.1 a.2.1 a.2.2
 out:=fun b=>((),(),())
 res:=fun b=>b
def S_73L3 (n:Nat):LoopSpec where
 sh:= [(0,.v .int),(1,.v (.slice (.pair .int (.slice (.slice .int))))),(2,.v .int),(7,.mv (.slice (.pair (.slice .int) (.pair .int (.slice (.slice .int))))) 1),(8,.v .int)]
 ex:= [(.exit 0,[(0,.v .int),(1,.v (.slice (.pair .int (.slice (.slice .int))))),(2,.v .int),(7,.mv (.slice (.pair (.slice .int) (.pair .int (.slice (.slice .int))))) 1)])]
 run:=BY n
def S_73L21 (n:Nat):LoopSpec where
 sh:= [(0,.v .int),(1,.v (.slice (.pair .int (.slice (.slice .int))))),(2,.v .int),(7,.mv (.slice (.pair (.slice .int) (.pair .int (.slice (.slice .int))))) 1),(9,.v .int),(10,.v .int),(11,.v .int),(12,.mv .int 0),(13,.bx (.pr (.mv .int 0) (.v (.pair .int (.slice (.slice .int)))))),(14,.v .int),(15,.v .int),(16,.v .int),(17,.v .int)]
 ex:= [(.exit 8,[(0,.v .int),(1,.v (.slice (.pair .int (.slice (.slice .int))))),(2,.v .int),(7,.mv (.slice (.pair (.slice .int) (.pair .int (.slice (.slice .int))))) 1),(9,.v .int),(10,.v .int),(11,.v .int),(12,.mv .int 0),(13,.bx (.pr (.mv .int 0) (.v (.pair .int (.slice (.slice .int)))))),(14,.v .int),(15,.v .int),(16,.v .int)])]
 run:=BQ n
def S_73L17 (n:Nat):LoopSpec where
 sh:= [(0,.v .int),(1,.v (.slice (.pair .int (.slice (.slice .int))))),(2,.v .int),(7,.mv (.slice (.pair (.slice .int) (.pair .int (.slice (.slice .int))))) 1),(9,.v .int),(10,.v .int),(11,.v .int),(12,.mv .int 0),(13,.bx (.pr (.mv .int 0) (.v (.pair .int (.slice (.slice .int)))))),(14,.v .int),(15,.v .int)]
 ex:= [(.exit 6,[(0,.v .int),(1,.v (.slice (.pair .int (.slice (.slice .int))))),(2,.v .int),(7,.mv (.slice (.pair (.slice .int) (.pair .int (.slice (.slice .int))))) 1),(9,.v .int),(10,.v .int),(11,.v .int),(13,.bx (.pr (.mv .int 0) (.v (.pair .int (.slice (.slice .int)))))),(14,.v .int)])]
 run:=BP n
def S_73L11 (n:Nat):LoopSpec where
 sh:= [(0,.v .int),(1,.v (.slice (.pair .int (.slice (.slice .int))))),(2,.v .int),(7,.mv (.slice (.pair (.slice .int) (.pair .int (.slice (.slice .int))))) 1),(9,.v .int),(10,.v .int),(11,.v .int)]
 ex:= [(.exit 4,[(0,.v .int),(1,.v (.slice (.pair .int (.slice (.slice .int))))),(2,.v .int),(7,.mv (.slice (.pair (.slice .int) (.pair .int (.slice (.slice .int))))) 1),(9,.v .int)])]
 run:=BO n
def S_73L7 (n:Nat):LoopSpec where
 sh:= [(0,.v .int),(1,.v (.slice (.pair .int (.slice (.slice .int))))),(2,.v .int),(7,.mv (.slice (.pair (.slice .int) (.pair .int (.slice (.slice .int))))) 1),(9,.v .int)]
 ex:= [(.exit 2,[(7,.mv (.slice (.pair (.slice .int) (.pair .int (.slice (.slice .int))))) 1)])]
 run:=BZ n
def C_73:Cx where
 tt:=Ybr tt
 T:=YgH [(104,E_16),(150,E_22),(222,E_17)]
 L:=Yhe [(3,S_73L3 Aa),(21,S_73L21 Aa),(17,S_73L17 Aa),(11,S_73L11 Aa),(7,S_73L7 Aa)]
 dep:=fun i=>match i with
  |18=>1
  |28=>1
  |29=>1
  |_=>0
 n:=3
 fine:=true
def B_73L3:Code:=(Tryz.f169.body.bind (X9 3)).getD .skip
def B_73L21:Code:=(Tryz.f169.body.bind (X9 21)).getD .skip
def B_73L17:Code:=(Tryz.f169.body.bind (X9 17)).getD .skip
def B_73L11:Code:=(Tryz.f169.body.bind (X9 11)).getD .skip
def B_73L7:Code:=(Tryz.f169.body.bind (X9 7)).getD .skip
def D_73:Code:=Tryz.f169.body.getD .skip
def N_73 (_:X6 [.v .int,.v (.slice (.pair .int (.slice (.slice .int)))),.v .int]) (r:YG [.mv (.slice (.pair (.slice .int) (.pair .int (.slice (.slice .int))))) 1]):(List (List ((List Int)×Int×(List (List Int))))):=r
def E_74:Entry where
 params:= [.v (.slice (.pair (.slice .int) (.pair .int (.slice (.slice .int))))),.v (.slice .int)]
 results:= [.v .bool]
 B:=Bool
 run:=fun a=>Da a.1 a.2
 out:=fun b=>((),())
 res:=fun b=>b
def S_74L6 (n:Nat):LoopSpec where
 sh:= [(0,.v (.slice (.pair (.slice .int) (.pair .int (.slice (.slice .int)))))),(1,.v (.slice .int)),(5,.v .int),(6,.mv .int 0),(7,.v .int)]
 ex:= [(.exit 2,[(0,.v (.slice (.pair (.slice .int) (.pair .int (.slice (.slice .int)))))),(1,.v (.slice .int)),(5,.v .int),(6,.mv .int 0)])]
 run:=BX n
def S_74L2 (n:Nat):LoopSpec where
 sh:= [(0,.v (.slice (.pair (.slice .int) (.pair .int (.slice (.slice .int)))))),(1,.v (.slice .int)),(5,.v .int)]
 ex:= [(.exit 0,[]),(.ret,[(4,.v .bool)])]
 run:=BW n
def C_74:Cx where
 tt:=Ybr tt
 T:=YgH [(239,E_50)]
 L:=Yhe [(6,S_74L6 Aa),(2,S_74L2 Aa)]
 dep:=fun i=>0
 n:=2
def B_74L6:Code:=(Tryz.f221.body.bind (X9 6)).getD .skip
def B_74L2:Code:=(Tryz.f221.body.bind (X9 2)).getD .skip
def D_74:Code:=Tryz.f221.body.getD .skip
def N_74 (_:X6 [.v (.slice (.pair (.slice .int) (.pair .int (.slice (.slice .int))))),.v (.slice .int)]) (r:YG [.v .bool]):Bool:=r
def E_75_of (rec:(Int×(List (List ((List Int)×Int×(List (List Int)))))×(List Int)×(List Int)×((List (List Int))×(Int×Int)))→Option (((List (List Int))×(Int×Int)))):Entry where
 params:= [.v .int,.v (.slice (.slice (.pair (.slice .int) (.pair .int (.slice (.slice .int)))))),.v (.slice .int),.v (.slice .int),.pr (.mv (.slice .int) 1) (.v (.pair .int .int))]
 results:= [.pr (.mv (.slice .int) 1) (.v (.pair .int .int))]
 B:=((List (List Int))×(Int×Int))
 run:=rec
 out:=fun b=>((),(),(),(),((),()))
 res:=fun b=>b
def E_75 (d:Nat):Entry:=E_75_of (BC d)
def S_75L8 (rec:(Int×(List (List ((List Int)×Int×(List (List Int)))))×(List Int)×(List Int)×((List (List Int))×(Int×Int)))→Option (((List (List Int))×(Int×Int)))) (n:Nat):LoopSpec where
 sh:= [(0,.v .int),(1,.v (.slice (.slice (.pair (.slice .int) (.pair .int (.slice (.slice .int))))))),(2,.v (.slice .int)),(3,.v (.slice .int)),(9,.bx (.pr (.mv (.slice .int) 1) (.v (.pair .int .int)))),(10,.bx (.pr (.mv (.slice .int) 1) (.v (.pair .int .int)))),(11,.v .int),(12,.v .int)]
 ex:= [(.exit 0,[(9,.bx (.pr (.mv (.slice .int) 1) (.v (.pair .int .int)))),(10,.bx (.pr (.mv (.slice .int) 1) (.v (.pair .int .int))))]),(.ret,[(10,.bx (.pr (.mv (.slice .int) 1) (.v (.pair .int .int))))])]
 run:=Au rec n
def C_75 (rec:(Int×(List (List ((List Int)×Int×(List (List Int)))))×(List Int)×(List Int)×((List (List Int))×(Int×Int)))→Option (((List (List Int))×(Int×Int)))):Cx where
 tt:=Ybr tt
 T:=YgH [(127,E_6),(168,E_75_of rec),(221,E_74)]
 L:=Yhe [(8,S_75L8 rec Aa)]
 dep:=fun i=>match i with
  |34=>1
  |35=>1
  |_=>0
 n:=5
def B_75L8:Code:=(Tryz.f168.body.bind (X9 8)).getD .skip
def D_75:Code:=Tryz.f168.body.getD .skip
def N_75 (_:X6 [.v .int,.v (.slice (.slice (.pair (.slice .int) (.pair .int (.slice (.slice .int)))))),.v (.slice .int),.v (.slice .int),.pr (.mv (.slice .int) 1) (.v (.pair .int .int))]) (r:YG [.pr (.mv (.slice .int) 1) (.v (.pair .int .int))]):((List (List Int))×(Int×Int)):=r
def E_76:Entry where
 params:= [.v .int,.v (.slice (.pair .int (.slice (.slice .int)))),.v .int,.v (.slice .int),.v .int]
 results:= [.pr (.mv (.slice .int) 1) (.v (.pair .int .int))]
 B:=((List (List Int))×(Int×Int))
 run:=fun a=>DM a.1 a.2.1 a.2.2.1 a.2.2.2.1 a.2.2.2.2
 out:=fun b=>((),(),(),(),())
 res:=fun b=>b
def C_76:Cx where
 tt:=Ybr tt
 T:=YgH [(168,E_75 Aa),(169,E_73)]
 L:=Yhe []
 dep:=fun i=>0
 n:=5
def D_76:Code:=Tryz.f78.body.getD .skip
def N_76 (_:X6 [.v .int,.v (.slice (.pair .int (.slice (.slice .int)))),.v .int,.v (.slice .int),.v .int]) (r:YG [.pr (.mv (.slice .int) 1) (.v (.pair .int .int))]):((List (List Int))×(Int×Int)):=r
def E_77:Entry where
 params:= [.v .int,.v (.slice (.slice .int))]
 results:= [.mv (.pair .int (.slice .int)) 0]
 B:=(List (Int×(List Int)))
 run:=fun a=>Ed a.1 a.2
 out:=fun b=>((),())
 res:=fun b=>b
def S_77L3 (n:Nat):LoopSpec where
 sh:= [(0,.v .int),(1,.v (.slice (.slice .int))),(5,.mv (.pair .int (.slice .int)) 0),(6,.v .int)]
 ex:= [(.exit 0,[(5,.mv (.pair .int (.slice .int)) 0)])]
 run:=Cv n
def C_77:Cx where
 tt:=Ybr tt
 T:=YgH [(127,E_6)]
 L:=Yhe [(3,S_77L3 Aa)]
 dep:=fun i=>0
 n:=2
def B_77L3:Code:=(Tryz.f105.body.bind (X9 3)).getD .skip
def D_77:Code:=Tryz.f105.body.getD .skip
def N_77 (_:X6 [.v .int,.v (.slice (.slice .int))]) (r:YG [.mv (.pair .int (.slice .int)) 0]):(List (Int×(List Int))):=r
def E_78:Entry where
 params:= [.v .int,.v (.slice (.pair .int (.slice (.slice .int)))),.v .int]
 results:= [.mv (.pair .int (.slice .int)) 0,.v .bool]
 B:=(List (Int×(List Int)))×Bool
 run:=fun a=>CV a.1 a.2.1 a.2.2
 out:=fun b=>((),(),())
 res:=fun b=>(b.1,b.2)
def C_78:Cx where
 tt:=Ybr tt
 T:=YgH [(78,E_76),(98,E_48),(103,E_72),(104,E_16),(105,E_77)]
 L:=Yhe []
 dep:=fun i=>0
 n:=3
def D_78:Code:=Tryz.f28.body.getD .skip
def N_78 (_:X6 [.v .int,.v (.slice (.pair .int (.slice (.slice .int)))),.v .int]) (r:YG [.mv (.pair .int (.slice .int)) 0,.v .bool]):(List (Int×(List Int)))×Bool:=(r.1,r.2)
def E_79:Entry where
 params:= [.v (.pair .int (.slice .int)),.v (.pair .int (.slice .int))]
 results:= [.v .bool]
 B:=Bool
 run:=fun a=>Gj a.1 a.2
 out:=fun b=>((),())
 res:=fun b=>b
def C_79:Cx where
 tt:=Ybr tt
 T:=YgH [(11,E_55)]
 L:=Yhe []
 dep:=fun i=>0
 n:=2
def D_79:Code:=Tryz.f16.body.getD .skip
def N_79 (_:X6 [.v (.pair .int (.slice .int)),.v (.pair .int (.slice .int))]) (r:YG [.v .bool]):Bool:=r
def E_80:Entry where
 params:= [.v (.slice (.pair .int (.slice .int))),.v (.slice (.pair .int (.slice .int)))]
 results:= [.v .bool]
 B:=Bool
 run:=fun a=>FC a.1 a.2
 out:=fun b=>((),())
 res:=fun b=>b
def S_80L4 (n:Nat):LoopSpec where
 sh:= [(0,.v (.slice (.pair .int (.slice .int)))),(1,.v (.slice (.pair .int (.slice .int)))),(5,.v .int)]
 ex:= [(.exit 0,[]),(.ret,[(4,.v .bool)])]
 run:=C3 n
def C_80:Cx where
 tt:=Ybr tt
 T:=YgH [(16,E_79)]
 L:=Yhe [(4,S_80L4 Aa)]
 dep:=fun i=>0
 n:=2
def B_80L4:Code:=(Tryz.f29.body.bind (X9 4)).getD .skip
def D_80:Code:=Tryz.f29.body.getD .skip
def N_80 (_:X6 [.v (.slice (.pair .int (.slice .int))),.v (.slice (.pair .int (.slice .int)))]) (r:YG [.v .bool]):Bool:=r
def E_81:Entry where
 params:= [.v (.pair .int (.pair .int (.slice (.pair (.slice .int) (.pair .int (.slice (.slice .int))))))),.v (.slice .int)]
 results:= [.v .bool]
 B:=Bool
 run:=fun a=>Ck a.1 a.2
 out:=fun b=>((),())
 res:=fun b=>b
def C_81:Cx where
 tt:=Ybr tt
 T:=YgH [(137,E_27)]
 L:=Yhe []
 dep:=fun i=>0
 n:=2
def D_81:Code:=Tryz.f84.body.getD .skip
def N_81 (_:X6 [.v (.pair .int (.pair .int (.slice (.pair (.slice .int) (.pair .int (.slice (.slice .int))))))),.v (.slice .int)]) (r:YG [.v .bool]):Bool:=r
def E_82:Entry where
 params:= [.v (.slice .int),.v (.slice .int)]
 results:= [.v .bool]
 B:=Bool
 run:=fun a=>Ei a.1 a.2
 out:=fun b=>((),())
 res:=fun b=>b
def S_82L4 (n:Nat):LoopSpec where
 sh:= [(1,.v (.slice .int)),(12,.v (.slice .int)),(13,.v .int),(14,.v .int)]
 ex:= [(.exit 0,[]),(.ret,[(4,.v .bool)])]
 run:=Cs n
def C_82:Cx where
 tt:=Ybr tt
 T:=YgH []
 L:=Yhe [(4,S_82L4 Aa)]
 dep:=fun i=>0
 n:=2
def B_82L4:Code:=(Tryz.f224.body.bind (X9 4)).getD .skip
def D_82:Code:=Tryz.f224.body.getD .skip
def N_82 (_:X6 [.v (.slice .int),.v (.slice .int)]) (r:YG [.v .bool]):Bool:=r
def E_83:Entry where
 params:= [.v (.pair .int (.slice (.slice .int))),.v (.slice .int)]
 results:= [.v .bool]
 B:=Bool
 run:=fun a=>D9 a.1 a.2
 out:=fun b=>((),())
 res:=fun b=>b
def S_83L2 (n:Nat):LoopSpec where
 sh:= [(1,.v (.slice .int)),(8,.v (.slice (.slice .int))),(9,.v .int),(10,.v .int)]
 ex:= [(.exit 0,[]),(.ret,[(4,.v .bool)])]
 run:=CT n
def C_83:Cx where
 tt:=Ybr tt
 T:=YgH [(224,E_82)]
 L:=Yhe [(2,S_83L2 Aa)]
 dep:=fun i=>0
 n:=2
def B_83L2:Code:=(Tryz.f172.body.bind (X9 2)).getD .skip
def D_83:Code:=Tryz.f172.body.getD .skip
def N_83 (_:X6 [.v (.pair .int (.slice (.slice .int))),.v (.slice .int)]) (r:YG [.v .bool]):Bool:=r
def E_84:Entry where
 params:= [.v (.pair .int (.pair .int (.slice (.pair (.slice .int) (.pair .int (.slice (.slice .int))))))),.v (.slice .int)]
 results:= [.v .int]
 B:=Int
 run:=fun a=>C1 a.1 a.2
 out:=fun b=>((),())
 res:=fun b=>b
def S_84L2 (n:Nat):LoopSpec where
 sh:= [(1,.v (.slice .int)),(8,.v (.slice (.pair (.slice .int) (.pair .int (.slice (.slice .int)))))),(9,.v .int),(10,.v .int)]
 ex:= [(.exit 0,[]),(.ret,[(4,.v .int)])]
 run:=Bv n
def C_84:Cx where
 tt:=Ybr tt
 T:=YgH [(172,E_83),(173,E_38)]
 L:=Yhe [(2,S_84L2 Aa)]
 dep:=fun i=>0
 n:=2
def B_84L2:Code:=(Tryz.f85.body.bind (X9 2)).getD .skip
def D_84:Code:=Tryz.f85.body.getD .skip
def N_84 (_:X6 [.v (.pair .int (.pair .int (.slice (.pair (.slice .int) (.pair .int (.slice (.slice .int))))))),.v (.slice .int)]) (r:YG [.v .int]):Int:=r
def E_85:Entry where
 params:= [.v (.pair .int (.pair .int (.slice (.pair (.slice .int) (.pair .int (.slice (.slice .int))))))),.v (.slice .int)]
 results:= [.v .bool,.v .bool]
 B:=Bool×Bool
 run:=fun a=>Bx a.1 a.2
 out:=fun b=>((),())
 res:=fun b=>(b.1,b.2)
def C_85:Cx where
 tt:=Ybr tt
 T:=YgH [(13,E_31),(84,E_81),(85,E_84)]
 L:=Yhe []
 dep:=fun i=>0
 n:=2
def D_85:Code:=Tryz.f19.body.getD .skip
def N_85 (_:X6 [.v (.pair .int (.pair .int (.slice (.pair (.slice .int) (.pair .int (.slice (.slice .int))))))),.v (.slice .int)]) (r:YG [.v .bool,.v .bool]):Bool×Bool:=(r.1,r.2)
def E_86:Entry where
 params:= [.v (.slice (.num .u8))]
 results:= [.v (.pair .int (.pair .int (.slice (.pair (.slice .int) (.pair .int (.slice (.slice .int))))))),.pr (.v .int) (.mv .int 0)]
 B:=(Int×Int×(List ((List Int)×Int×(List (List Int)))))×(Int×(List Int))
 run:=fun a=>AG a
 out:=fun b=>()
 res:=fun b=>(b.1,b.2)
def S_86L5 (n:Nat):LoopSpec where
 sh:= [(2,.bx (.pr (.v .int) (.pr (.v .int) (.mv (.pair (.slice .int) (.pair .int (.slice (.slice .int)))) 0)))),(3,.bx (.pr (.v .int) (.mv .int 0))),(4,.bx (.v (.pair (.slice (.num .u8)) (.pair .int (.num .u64))))),(5,.bx (.v (.pair .int (.pair .int (.slice (.pair (.slice .int) (.pair .int (.slice (.slice .int))))))))),(6,.bx (.pr (.v .int) (.mv .int 0))),(7,.v .int)]
 ex:= [(.exit 0,[(2,.bx (.pr (.v .int) (.pr (.v .int) (.mv (.pair (.slice .int) (.pair .int (.slice (.slice .int)))) 0)))),(3,.bx (.pr (.v .int) (.mv .int 0))),(4,.bx (.v (.pair (.slice (.num .u8)) (.pair .int (.num .u64))))),(5,.bx (.v (.pair .int (.pair .int (.slice (.pair (.slice .int) (.pair .int (.slice (.slice .int))))))))),(6,.bx (.pr (.v .int) (.mv .int 0)))])]
 run:=AH n
def C_86:Cx where
 tt:=Ybr tt
 T:=YgH [(57,E_23),(60,E_4),(61,E_3),(62,E_7)]
 L:=Yhe [(5,S_86L5 Aa)]
 dep:=fun i=>0
 n:=1
def B_86L5:Code:=(Tryz.f30.body.bind (X9 5)).getD .skip
def D_86:Code:=Tryz.f30.body.getD .skip
def N_86 (_:X6 [.v (.slice (.num .u8))]) (r:YG [.v (.pair .int (.pair .int (.slice (.pair (.slice .int) (.pair .int (.slice (.slice .int))))))),.pr (.v .int) (.mv .int 0)]):(Int×Int×(List ((List Int)×Int×(List (List Int)))))×(Int×(List Int)):=(r.1,r.2)
def E_87:Entry where
 params:= [.v (.pair .int (.slice .int)),.v .int]
 results:= [.v .bool]
 B:=Bool
 run:=fun a=>Fz a.1 a.2
 out:=fun b=>((),())
 res:=fun b=>b
def C_87:Cx where
 tt:=Ybr tt
 T:=YgH [(102,E_59),(137,E_27)]
 L:=Yhe []
 dep:=fun i=>0
 n:=2
def D_87:Code:=Tryz.f63.body.getD .skip
def N_87 (_:X6 [.v (.pair .int (.slice .int)),.v .int]) (r:YG [.v .bool]):Bool:=r
def E_88:Entry where
 params:= [.v (.slice (.slice .int))]
 results:= [.mv (.slice .int) 1]
 B:=(List (List Int))
 run:=fun a=>D2 a
 out:=fun b=>()
 res:=fun b=>b
def S_88L3 (n:Nat):LoopSpec where
 sh:= [(3,.mv (.slice .int) 1),(7,.v (.slice (.slice .int))),(8,.v .int),(9,.v .int)]
 ex:= [(.exit 0,[(3,.mv (.slice .int) 1)])]
 run:=BK n
def C_88:Cx where
 tt:=Ybr tt
 T:=YgH [(96,E_36)]
 L:=Yhe [(3,S_88L3 Aa)]
 dep:=fun i=>match i with
  |6=>1
  |16=>1
  |17=>1
  |_=>0
 n:=1
def B_88L3:Code:=(Tryz.f209.body.bind (X9 3)).getD .skip
def D_88:Code:=Tryz.f209.body.getD .skip
def N_88 (_:X6 [.v (.slice (.slice .int))]) (r:YG [.mv (.slice .int) 1]):(List (List Int)):=r
def E_89:Entry where
 params:= [.io (.slice .int) 1,.v (.fn 145)]
 results:= []
 B:=List (List Int)
 run:=fun a=>Bz a.1 a.2
 out:=fun b=>(b,())
 res:=fun b=>()
def D_89:Code:=Tryz.f144.body.getD .skip
def E_90:Entry where
 params:= [.v (.slice (.slice .int))]
 results:= [.mv (.slice .int) 1]
 B:=(List (List Int))
 run:=fun a=>Du a
 out:=fun b=>()
 res:=fun b=>b
def C_90:Cx where
 tt:=Ybr tt
 T:=YgH [(209,E_88),(9568400,E_89)]
 L:=Yhe []
 dep:=fun i=>0
 n:=1
def D_90:Code:=Tryz.f176.body.getD .skip
def N_90 (_:X6 [.v (.slice (.slice .int))]) (r:YG [.mv (.slice .int) 1]):(List (List Int)):=r
def E_91:Entry where
 params:= [.mv (.slice .int) 1]
 results:= [.mv (.slice .int) 1]
 B:=List (List Int)
 run:=fun a=>D3 a
 out:=fun b=>()
 res:=fun b=>b
def D_91:Code:=Tryz.f175.body.getD .skip
def E_92:Entry where
 params:= [.v .int,.v (.slice (.slice .int))]
 results:= [.pr (.v .int) (.mv (.slice .int) 1)]
 B:=(Int×(List (List Int)))
 run:=fun a=>Ds a.1 a.2
 out:=fun b=>((),())
 res:=fun b=>b
def C_92:Cx where
 tt:=Ybr tt
 T:=YgH [(175,E_91),(176,E_90)]
 L:=Yhe []
 dep:=fun i=>0
 n:=2
def D_92:Code:=Tryz.f88.body.getD .skip
def N_92 (_:X6 [.v .int,.v (.slice (.slice .int))]) (r:YG [.pr (.v .int) (.mv (.slice .int) 1)]):(Int×(List (List Int))):=r
def E_93:Entry where
 params:= [.v (.pair .int (.slice (.slice .int))),.v (.slice .int)]
 results:= [.pr (.v .int) (.mv (.slice .int) 1)]
 B:=(Int×(List (List Int)))
 run:=fun a=>CA a.1 a.2
 out:=fun b=>((),())
 res:=fun b=>b
def S_93L3 (n:Nat):LoopSpec where
 sh:= [(1,.v (.slice .int)),(2,.bx (.v (.pair .int (.slice (.slice .int))))),(4,.bx (.pr (.v .int) (.mv (.slice .int) 1))),(5,.mv (.slice .int) 1),(10,.v (.slice (.slice .int))),(11,.v .int),(12,.v .int)]
 ex:= [(.exit 0,[(2,.bx (.v (.pair .int (.slice (.slice .int))))),(4,.bx (.pr (.v .int) (.mv (.slice .int) 1))),(5,.mv (.slice .int) 1)])]
 run:=Bj n
def C_93:Cx where
 tt:=Ybr tt
 T:=YgH [(88,E_92),(173,E_38)]
 L:=Yhe [(3,S_93L3 Aa)]
 dep:=fun i=>match i with
  |8=>1
  |20=>1
  |21=>1
  |_=>0
 n:=2
def B_93L3:Code:=(Tryz.f106.body.bind (X9 3)).getD .skip
def D_93:Code:=Tryz.f106.body.getD .skip
def N_93 (_:X6 [.v (.pair .int (.slice (.slice .int))),.v (.slice .int)]) (r:YG [.pr (.v .int) (.mv (.slice .int) 1)]):(Int×(List (List Int))):=r
def E_94:Entry where
 params:= [.v (.pair .int (.pair .int (.slice (.pair (.slice .int) (.pair .int (.slice (.slice .int))))))),.mv (.pair (.slice .int) (.pair .int (.slice (.slice .int)))) 2]
 results:= [.pr (.v .int) (.pr (.v .int) (.mv (.pair (.slice .int) (.pair .int (.slice (.slice .int)))) 2)),.v .bool]
 B:=(Int×(Int×(List ((List Int)×Int×(List (List Int))))))×Bool
 run:=fun a=>DJ a.1 a.2
 out:=fun b=>((),())
 res:=fun b=>(b.1,b.2)
def C_94:Cx where
 tt:=Ybr tt
 T:=YgH []
 L:=Yhe []
 dep:=fun i=>0
 n:=2
def D_94:Code:=Tryz.f89.body.getD .skip
def N_94 (_:X6 [.v (.pair .int (.pair .int (.slice (.pair (.slice .int) (.pair .int (.slice (.slice .int))))))),.mv (.pair (.slice .int) (.pair .int (.slice (.slice .int)))) 2]) (r:YG [.pr (.v .int) (.pr (.v .int) (.mv (.pair (.slice .int) (.pair .int (.slice (.slice .int)))) 2)),.v .bool]):(Int×(Int×(List ((List Int)×Int×(List (List Int))))))×Bool:=(r.1,r.2)
def E_95:Entry where
 params:= [.v (.pair .int (.pair .int (.slice (.pair (.slice .int) (.pair .int (.slice (.slice .int))))))),.v (.pair .int (.slice .int))]
 results:= [.pr (.v .int) (.pr (.v .int) (.mv (.pair (.slice .int) (.pair .int (.slice (.slice .int)))) 2)),.v .bool]
 B:=(Int×(Int×(List ((List Int)×Int×(List (List Int))))))×Bool
 run:=fun a=>AS a.1 a.2
 out:=fun b=>((),())
 res:=fun b=>(b.1,b.2)
def S_95L5 (n:Nat):LoopSpec where
 sh:= [(2,.bx (.v (.pair .int (.pair .int (.slice (.pair (.slice .int) (.pair .int (.slice (.slice .int))))))))),(3,.bx (.v (.pair .int (.slice .int)))),(4,.bx (.pr (.v .int) (.pr (.v .int) (.mv (.pair (.slice .int) (.pair .int (.slice (.slice .int)))) 2)))),(6,.mv (.pair (.slice .int) (.pair .int (.slice (.slice .int)))) 2),(27,.v (.slice (.pair (.slice .int) (.pair .int (.slice (.slice .int)))))),(28,.v .int),(29,.v .int)]
 ex:= [(.exit 0,[(2,.bx (.v (.pair .int (.pair .int (.slice (.pair (.slice .int) (.pair .int (.slice (.slice .int))))))))),(4,.bx (.pr (.v .int) (.pr (.v .int) (.mv (.pair (.slice .int) (.pair .int (.slice (.slice .int)))) 2)))),(6,.mv (.pair (.slice .int) (.pair .int (.slice (.slice .int)))) 2)])]
 run:=AK n
def C_95:Cx where
 tt:=Ybr tt
 T:=YgH [(13,E_31),(63,E_87),(89,E_94),(96,E_36),(106,E_93)]
 L:=Yhe [(5,S_95L5 Aa)]
 dep:=fun i=>match i with
  |25=>2
  |43=>2
  |44=>2
  |_=>0
 n:=2
def B_95L5:Code:=(Tryz.f31.body.bind (X9 5)).getD .skip
def D_95:Code:=Tryz.f31.body.getD .skip
def N_95 (_:X6 [.v (.pair .int (.pair .int (.slice (.pair (.slice .int) (.pair .int (.slice (.slice .int))))))),.v (.pair .int (.slice .int))]) (r:YG [.pr (.v .int) (.pr (.v .int) (.mv (.pair (.slice .int) (.pair .int (.slice (.slice .int)))) 2)),.v .bool]):(Int×(Int×(List ((List Int)×Int×(List (List Int))))))×Bool:=(r.1,r.2)
def E_96:Entry where
 params:= [.v .int,.v (.pair .int (.slice .int))]
 results:= [.v .bool]
 B:=Bool
 run:=fun a=>FO a.1 a.2
 out:=fun b=>((),())
 res:=fun b=>b
def S_96L4 (n:Nat):LoopSpec where
 sh:= [(0,.v .int),(3,.bx (.v (.pair .int (.slice .int)))),(5,.v .int)]
 ex:= [(.exit 0,[]),(.ret,[(4,.v .bool)])]
 run:=Dw n
def C_96:Cx where
 tt:=Ybr tt
 T:=YgH [(104,E_16),(151,E_8)]
 L:=Yhe [(4,S_96L4 Aa)]
 dep:=fun i=>0
 n:=2
def B_96L4:Code:=(Tryz.f67.body.bind (X9 4)).getD .skip
def D_96:Code:=Tryz.f67.body.getD .skip
def N_96 (_:X6 [.v .int,.v (.pair .int (.slice .int))]) (r:YG [.v .bool]):Bool:=r
def E_97:Entry where
 params:= [.v (.slice (.pair (.slice .int) (.pair .int (.slice (.slice .int)))))]
 results:= [.mv (.pair (.slice .int) (.pair .int (.slice (.slice .int)))) 0]
 B:=(List ((List Int)×Int×(List (List Int))))
 run:=fun a=>Ey a
 out:=fun b=>()
 res:=fun b=>b
def S_97L7 (n:Nat):LoopSpec where
 sh:= [(0,.v (.slice (.pair (.slice .int) (.pair .int (.slice (.slice .int)))))),(3,.mv (.pair (.slice .int) (.pair .int (.slice (.slice .int)))) 0),(4,.v .int),(5,.bx (.pr (.mv .int 0) (.pr (.v .int) (.mv (.slice .int) 0)))),(6,.v .int)]
 ex:= [(.exit 2,[(0,.v (.slice (.pair (.slice .int) (.pair .int (.slice (.slice .int)))))),(3,.mv (.pair (.slice .int) (.pair .int (.slice (.slice .int)))) 0),(4,.v .int),(5,.bx (.pr (.mv .int 0) (.pr (.v .int) (.mv (.slice .int) 0))))])]
 run:=Cc n
def S_97L3 (n:Nat):LoopSpec where
 sh:= [(0,.v (.slice (.pair (.slice .int) (.pair .int (.slice (.slice .int)))))),(3,.mv (.pair (.slice .int) (.pair .int (.slice (.slice .int)))) 0),(4,.v .int)]
 ex:= [(.exit 0,[(3,.mv (.pair (.slice .int) (.pair .int (.slice (.slice .int)))) 0)])]
 run:=Cb n
def C_97:Cx where
 tt:=Ybr tt
 T:=YgH [(127,E_6)]
 L:=Yhe [(7,S_97L7 Aa),(3,S_97L3 Aa)]
 dep:=fun i=>0
 n:=1
def B_97L7:Code:=(Tryz.f90.body.bind (X9 7)).getD .skip
def B_97L3:Code:=(Tryz.f90.body.bind (X9 3)).getD .skip
def D_97:Code:=Tryz.f90.body.getD .skip
def N_97 (_:X6 [.v (.slice (.pair (.slice .int) (.pair .int (.slice (.slice .int)))))]) (r:YG [.mv (.pair (.slice .int) (.pair .int (.slice (.slice .int)))) 0]):(List ((List Int)×Int×(List (List Int)))):=r
def E_98:Entry where
 params:= [.v (.slice (.slice .int)),.v (.slice .int)]
 results:= [.v .int]
 B:=Int
 run:=fun a=>DG a.1 a.2
 out:=fun b=>((),())
 res:=fun b=>b
def S_98L2 (n:Nat):LoopSpec where
 sh:= [(0,.v (.slice (.slice .int))),(1,.v (.slice .int)),(5,.v .int)]
 ex:= [(.exit 0,[]),(.ret,[(4,.v .int)])]
 run:=BV n
def C_98:Cx where
 tt:=Ybr tt
 T:=YgH [(185,E_11)]
 L:=Yhe [(2,S_98L2 Aa)]
 dep:=fun i=>0
 n:=2
def B_98L2:Code:=(Tryz.f107.body.bind (X9 2)).getD .skip
def D_98:Code:=Tryz.f107.body.getD .skip
def N_98 (_:X6 [.v (.slice (.slice .int)),.v (.slice .int)]) (r:YG [.v .int]):Int:=r
def E_99:Entry where
 params:= [.v (.slice .int),.v (.slice .int)]
 results:= [.v .bool]
 B:=Bool
 run:=fun a=>FS a.1 a.2
 out:=fun b=>((),())
 res:=fun b=>b
def S_99L2 (n:Nat):LoopSpec where
 sh:= [(0,.v (.slice .int)),(1,.v (.slice .int)),(5,.v .int)]
 ex:= [(.exit 0,[]),(.ret,[(4,.v .bool)])]
 run:=C0 n
def C_99:Cx where
 tt:=Ybr tt
 T:=YgH []
 L:=Yhe [(2,S_99L2 Aa)]
 dep:=fun i=>0
 n:=2
def B_99L2:Code:=(Tryz.f186.body.bind (X9 2)).getD .skip
def D_99:Code:=Tryz.f186.body.getD .skip
def N_99 (_:X6 [.v (.slice .int),.v (.slice .int)]) (r:YG [.v .bool]):Bool:=r
def E_100:Entry where
 params:= [.v (.slice (.slice .int)),.v (.slice .int)]
 results:= [.mv (.slice .int) 0]
 B:=(List (List Int))
 run:=fun a=>Eg a.1 a.2
 out:=fun b=>((),())
 res:=fun b=>b
def S_100L2 (n:Nat):LoopSpec where
 sh:= [(0,.v (.slice (.slice .int))),(1,.v (.slice .int)),(5,.v .int)]
 ex:= [(.exit 0,[(0,.v (.slice (.slice .int))),(1,.v (.slice .int)),(5,.v .int)])]
 run:=Cy n
def C_100:Cx where
 tt:=Ybr tt
 T:=YgH [(186,E_99)]
 L:=Yhe [(2,S_100L2 Aa)]
 dep:=fun i=>0
 n:=2
def B_100L2:Code:=(Tryz.f108.body.bind (X9 2)).getD .skip
def D_100:Code:=Tryz.f108.body.getD .skip
def N_100 (_:X6 [.v (.slice (.slice .int)),.v (.slice .int)]) (r:YG [.mv (.slice .int) 0]):(List (List Int)):=r
def E_101:Entry where
 params:= [.v (.pair .int (.pair .int (.slice (.pair (.slice .int) (.pair .int (.slice (.slice .int))))))),.v (.pair .int (.slice .int))]
 results:= [.pr (.v .int) (.pr (.v .int) (.mv (.pair (.slice .int) (.pair .int (.slice (.slice .int)))) 0)),.v .bool]
 B:=(Int×(Int×(List ((List Int)×Int×(List (List Int))))))×Bool
 run:=fun a=>AT a.1 a.2
 out:=fun b=>((),())
 res:=fun b=>(b.1,b.2)
def S_101L13 (n:Nat):LoopSpec where
 sh:= [(3,.bx (.v (.pair .int (.slice .int)))),(4,.bx (.pr (.v .int) (.pr (.v .int) (.mv (.pair (.slice .int) (.pair .int (.slice (.slice .int)))) 0)))),(6,.bx (.pr (.v .int) (.pr (.v .int) (.mv (.pair (.slice .int) (.pair .int (.slice (.slice .int)))) 0)))),(7,.v .int),(8,.mv (.slice .int) 0),(9,.v .int),(10,.mv .int 0),(11,.v .int)]
 ex:= [(.exit 4,[(3,.bx (.v (.pair .int (.slice .int)))),(4,.bx (.pr (.v .int) (.pr (.v .int) (.mv (.pair (.slice .int) (.pair .int (.slice (.slice .int)))) 0)))),(6,.bx (.pr (.v .int) (.pr (.v .int) (.mv (.pair (.slice .int) (.pair .int (.slice (.slice .int)))) 0)))),(7,.v .int),(8,.mv (.slice .int) 0),(9,.v .int),(10,.mv .int 0)])]
 run:=AY n
def S_101L9 (n:Nat):LoopSpec where
 sh:= [(3,.bx (.v (.pair .int (.slice .int)))),(4,.bx (.pr (.v .int) (.pr (.v .int) (.mv (.pair (.slice .int) (.pair .int (.slice (.slice .int)))) 0)))),(6,.bx (.pr (.v .int) (.pr (.v .int) (.mv (.pair (.slice .int) (.pair .int (.slice (.slice .int)))) 0)))),(7,.v .int),(8,.mv (.slice .int) 0),(9,.v .int)]
 ex:= [(.exit 2,[(3,.bx (.v (.pair .int (.slice .int)))),(4,.bx (.pr (.v .int) (.pr (.v .int) (.mv (.pair (.slice .int) (.pair .int (.slice (.slice .int)))) 0)))),(6,.bx (.pr (.v .int) (.pr (.v .int) (.mv (.pair (.slice .int) (.pair .int (.slice (.slice .int)))) 0)))),(7,.v .int),(8,.mv (.slice .int) 0)])]
 run:=AM n
def S_101L5 (n:Nat):LoopSpec where
 sh:= [(3,.bx (.v (.pair .int (.slice .int)))),(4,.bx (.pr (.v .int) (.pr (.v .int) (.mv (.pair (.slice .int) (.pair .int (.slice (.slice .int)))) 0)))),(6,.bx (.pr (.v .int) (.pr (.v .int) (.mv (.pair (.slice .int) (.pair .int (.slice (.slice .int)))) 0)))),(7,.v .int)]
 ex:= [(.exit 0,[(4,.bx (.pr (.v .int) (.pr (.v .int) (.mv (.pair (.slice .int) (.pair .int (.slice (.slice .int)))) 0)))),(6,.bx (.pr (.v .int) (.pr (.v .int) (.mv (.pair (.slice .int) (.pair .int (.slice (.slice .int)))) 0))))])]
 run:=Bb n
def C_101:Cx where
 tt:=Ybr tt
 T:=YgH [(66,E_47),(67,E_96),(90,E_97),(107,E_98),(108,E_100)]
 L:=Yhe [(13,S_101L13 Aa),(9,S_101L9 Aa),(5,S_101L5 Aa)]
 dep:=fun i=>0
 n:=2
def B_101L13:Code:=(Tryz.f32.body.bind (X9 13)).getD .skip
def B_101L9:Code:=(Tryz.f32.body.bind (X9 9)).getD .skip
def B_101L5:Code:=(Tryz.f32.body.bind (X9 5)).getD .skip
def D_101:Code:=Tryz.f32.body.getD .skip
def N_101 (_:X6 [.v (.pair .int (.pair .int (.slice (.pair (.slice .int) (.pair .int (.slice (.slice .int))))))),.v (.pair .int (.slice .int))]) (r:YG [.pr (.v .int) (.pr (.v .int) (.mv (.pair (.slice .int) (.pair .int (.slice (.slice .int)))) 0)),.v .bool]):(Int×(Int×(List ((List Int)×Int×(List (List Int))))))×Bool:=(r.1,r.2)
def E_102:Entry where
 params:= [.v (.slice .int)]
 results:= [.nv .int 0]
 B:=(Bool×(List Int))
 run:=fun a=>Fj a
 out:=fun b=>()
 res:=fun b=>b
def C_102:Cx where
 tt:=Ybr tt
 T:=YgH []
 L:=Yhe []
 dep:=fun i=>0
 n:=1
def D_102:Code:=Tryz.f96.body.getD .skip
def N_102 (_:X6 [.v (.slice .int)]) (r:YG [.nv .int 0]):(Bool×(List Int)):=r
def E_103:Entry where
 params:= [.v (.slice .int),.bx (.nv .int 0)]
 results:= [.v .bool]
 B:=(Bool×(List Int))×Bool
 run:=fun a=>B7 a.1 a.2
 out:=fun b=>((),b.1)
 res:=fun b=>b.2
def C_103:Cx where
 tt:=Ybr tt
 T:=YgH [(96,E_102)]
 L:=Yhe []
 dep:=fun i=>0
 n:=2
def D_103:Code:=Tryz.f181.body.getD .skip
def N_103 (o:X6 [.v (.slice .int),.bx (.nv .int 0)]) (r:YG [.v .bool]):(Bool×(List Int))×Bool:=(o.2,r)
def E_104_of (rec:(Int×(List Int)×(Bool×(List Int))×(Bool×Int×(List (List (List Int)))×(List (List (List ByteArray))))×(List Int)×Unit)→Option ((List Int)×(Bool×(List Int))×(Bool×Int×(List (List (List Int)))×(List (List (List ByteArray))))×(List Int)×Bool)):Entry where
 params:= [.v .int,.bx (.mv .int 0),.bx (.nv .int 0),.bx (.v (.ptr (.pair .int (.pair (.slice (.slice (.slice .int))) (.slice (.slice .smap)))))),.bx (.v (.slice .int)),.jk 1]
 results:= [.v .bool]
 cod:= [(2,.kb 181),(5,.kn 225 1 5)]
 B:=(List Int)×(Bool×(List Int))×(Bool×Int×(List (List (List Int)))×(List (List (List ByteArray))))×(List Int)×Bool
 run:=rec
 out:=fun b=>((),b.1,b.2.1,b.2.2.1,b.2.2.2.1,())
 res:=fun b=>b.2.2.2.2
def E_104 (d:Nat):Entry:=E_104_of (Am d)
def S_104L10 (rec:(Int×(List Int)×(Bool×(List Int))×(Bool×Int×(List (List (List Int)))×(List (List (List ByteArray))))×(List Int)×Unit)→Option ((List Int)×(Bool×(List Int))×(Bool×Int×(List (List (List Int)))×(List (List (List ByteArray))))×(List Int)×Bool)) (n:Nat):LoopSpec where
 sh:= [(0,.v .int),(1,.bx (.mv .int 0)),(2,.bx (.nv .int 0)),(3,.bx (.v (.ptr (.pair .int (.pair (.slice (.slice (.slice .int))) (.slice (.slice .smap))))))),(4,.bx (.v (.slice .int))),(5,.jk 1),(8,.v .int),(9,.v .bool),(50,.v (.slice (.slice .int))),(51,.v .int),(52,.v .int)]
 ex:= [(.exit 2,[(0,.v .int),(1,.bx (.mv .int 0)),(2,.bx (.nv .int 0)),(3,.bx (.v (.ptr (.pair .int (.pair (.slice (.slice (.slice .int))) (.slice (.slice .smap))))))),(4,.bx (.v (.slice .int))),(5,.jk 1),(8,.v .int),(9,.v .bool)])]
 run:=Ak rec n
def S_104L4 (rec:(Int×(List Int)×(Bool×(List Int))×(Bool×Int×(List (List (List Int)))×(List (List (List ByteArray))))×(List Int)×Unit)→Option ((List Int)×(Bool×(List Int))×(Bool×Int×(List (List (List Int)))×(List (List (List ByteArray))))×(List Int)×Bool)) (n:Nat):LoopSpec where
 sh:= [(0,.v .int),(1,.bx (.mv .int 0)),(2,.bx (.nv .int 0)),(3,.bx (.v (.ptr (.pair .int (.pair (.slice (.slice (.slice .int))) (.slice (.slice .smap))))))),(4,.bx (.v (.slice .int))),(5,.jk 1),(8,.v .int)]
 ex:= [(.exit 0,[(1,.bx (.mv .int 0)),(2,.bx (.nv .int 0)),(3,.bx (.v (.ptr (.pair .int (.pair (.slice (.slice (.slice .int))) (.slice (.slice .smap))))))),(4,.bx (.v (.slice .int))),(5,.jk 1)]),(.ret,[(1,.bx (.mv .int 0)),(2,.bx (.nv .int 0)),(3,.bx (.v (.ptr (.pair .int (.pair (.slice (.slice (.slice .int))) (.slice (.slice .smap))))))),(4,.bx (.v (.slice .int))),(5,.jk 1),(7,.v .bool)])]
 run:=Af rec n
def C_104 (rec:(Int×(List Int)×(Bool×(List Int))×(Bool×Int×(List (List (List Int)))×(List (List (List ByteArray))))×(List Int)×Unit)→Option ((List Int)×(Bool×(List Int))×(Bool×Int×(List (List (List Int)))×(List (List (List ByteArray))))×(List Int)×Bool)):Cx where
 tt:=Ybr tt
 T:=YgH [(173,E_38),(181,E_103),(205,E_32),(11927777,E_104_of rec)]
 L:=Yhe [(10,S_104L10 rec Aa),(4,S_104L4 rec Aa)]
 dep:=fun i=>0
 n:=6
 cod:= [(2,.kb 181),(5,.kn 225 1 5)]
def B_104L10:Code:=(Tryz.f225.body.bind (X9 10)).getD .skip
def B_104L4:Code:=(Tryz.f225.body.bind (X9 4)).getD .skip
def D_104:Code:=Tryz.f225.body.getD .skip
def N_104 (o:X6 [.v .int,.bx (.mv .int 0),.bx (.nv .int 0),.bx (.v (.ptr (.pair .int (.pair (.slice (.slice (.slice .int))) (.slice (.slice .smap)))))),.bx (.v (.slice .int)),.jk 1]) (r:YG [.v .bool]):(List Int)×(Bool×(List Int))×(Bool×Int×(List (List (List Int)))×(List (List (List ByteArray))))×(List Int)×Bool:=(o.2.1,o.2.2.1,o.2.2.2.1,o.2.2.2.2.1,r)
def E_105:Entry where
 params:= [.v (.ptr (.pair .int (.pair (.slice (.slice (.slice .int))) (.slice (.slice .smap))))),.v (.slice .int),.bx (.nv .int 0)]
 results:= []
 cod:= [(2,.cl 181)]
 B:=(Bool×(List Int))
 run:=fun a=>By a.1 a.2.1 a.2.2
 out:=fun b=>((),(),b)
 res:=fun b=>()
def C_105:Cx where
 tt:=Ybr tt
 T:=YgH [(11927777,E_104 Aa)]
 L:=Yhe []
 dep:=fun i=>0
 n:=3
 cod:= [(2,.cl 181)]
def D_105:Code:=Tryz.f180.body.getD .skip
def N_105 (o:X6 [.v (.ptr (.pair .int (.pair (.slice (.slice (.slice .int))) (.slice (.slice .smap))))),.v (.slice .int),.bx (.nv .int 0)]) (_:YG []):(Bool×(List Int)):=o.2.2
def E_106:Entry where
 params:= [.v (.pair .int (.pair .int (.slice (.pair (.slice .int) (.pair .int (.slice (.slice .int))))))),.v (.slice .int)]
 results:= [.nv .int 0]
 B:=(Bool×(List Int))
 run:=fun a=>Dh a.1 a.2
 out:=fun b=>((),())
 res:=fun b=>b
def C_106:Cx where
 tt:=Ybr tt
 T:=YgH [(179,E_34),(11927732,E_105)]
 L:=Yhe []
 dep:=fun i=>0
 n:=2
def D_106:Code:=Tryz.f93.body.getD .skip
def N_106 (_:X6 [.v (.pair .int (.pair .int (.slice (.pair (.slice .int) (.pair .int (.slice (.slice .int))))))),.v (.slice .int)]) (r:YG [.nv .int 0]):(Bool×(List Int)):=r
def E_107:Entry where
 params:= [.v (.pair .int (.pair .int (.slice (.pair (.slice .int) (.pair .int (.slice (.slice .int))))))),.v (.slice .int)]
 results:= [.mv .int 0,.v .bool]
 B:=(List Int)×Bool
 run:=fun a=>Bn a.1 a.2
 out:=fun b=>((),())
 res:=fun b=>(b.1,b.2)
def S_107L4 (n:Nat):LoopSpec where
 sh:= [(1,.v (.slice .int)),(2,.bx (.v (.pair .int (.pair .int (.slice (.pair (.slice .int) (.pair .int (.slice (.slice .int))))))))),(20,.v (.slice .int)),(21,.v .int),(22,.v .int)]
 ex:= [(.exit 0,[(1,.v (.slice .int)),(2,.bx (.v (.pair .int (.pair .int (.slice (.pair (.slice .int) (.pair .int (.slice (.slice .int)))))))))]),(.ret,[(4,.mv .int 0),(5,.v .bool)])]
 run:=Bi n
def C_107:Cx where
 tt:=Ybr tt
 T:=YgH [(13,E_31),(93,E_106)]
 L:=Yhe [(4,S_107L4 Aa)]
 dep:=fun i=>0
 n:=2
def B_107L4:Code:=(Tryz.f23.body.bind (X9 4)).getD .skip
def D_107:Code:=Tryz.f23.body.getD .skip
def N_107 (_:X6 [.v (.pair .int (.pair .int (.slice (.pair (.slice .int) (.pair .int (.slice (.slice .int))))))),.v (.slice .int)]) (r:YG [.mv .int 0,.v .bool]):(List Int)×Bool:=(r.1,r.2)
def E_108:Entry where
 params:= [.v (.slice (.num .u8))]
 results:= [.v .bool]
 B:=Bool
 run:=fun a=>DK a
 out:=fun b=>()
 res:=fun b=>b
def S_108L14 (n:Nat):LoopSpec where
 sh:= [(0,.v (.slice (.num .u8))),(3,.bx (.v (.pair .int (.pair .int (.slice (.pair (.slice .int) (.pair .int (.slice (.slice .int))))))))),(4,.v (.slice (.slice .int))),(5,.v .bool),(8,.mv (.pair .int (.slice (.slice .int))) 0),(9,.v .int),(10,.v .bool),(11,.v .int)]
 ex:= [(.exit 2,[(0,.v (.slice (.num .u8))),(3,.bx (.v (.pair .int (.pair .int (.slice (.pair (.slice .int) (.pair .int (.slice (.slice .int))))))))),(4,.v (.slice (.slice .int))),(5,.v .bool),(8,.mv (.pair .int (.slice (.slice .int))) 0),(9,.v .int),(10,.v .bool)])]
 run:=As n
def S_108L10 (n:Nat):LoopSpec where
 sh:= [(0,.v (.slice (.num .u8))),(3,.bx (.v (.pair .int (.pair .int (.slice (.pair (.slice .int) (.pair .int (.slice (.slice .int))))))))),(4,.v (.slice (.slice .int))),(5,.v .bool),(8,.mv (.pair .int (.slice (.slice .int))) 0),(9,.v .int)]
 ex:= [(.exit 0,[(0,.v (.slice (.num .u8))),(3,.bx (.v (.pair .int (.pair .int (.slice (.pair (.slice .int) (.pair .int (.slice (.slice .int))))))))),(4,.v (.slice (.slice .int))),(5,.v .bool),(8,.mv (.pair .int (.slice (.slice .int))) 0)])]
 run:=Ay n
def S_108L30 (n:Nat):LoopSpec where
 sh:= [(0,.v (.slice (.num .u8))),(3,.bx (.v (.pair .int (.pair .int (.slice (.pair (.slice .int) (.pair .int (.slice (.slice .int))))))))),(4,.v (.slice (.slice .int))),(12,.mv (.pair .int (.slice .int)) 1),(16,.v .int),(17,.v (.slice .int)),(18,.v (.slice .int)),(19,.mv .int 0),(20,.v .int)]
 ex:= [(.exit 6,[(0,.v (.slice (.num .u8))),(3,.bx (.v (.pair .int (.pair .int (.slice (.pair (.slice .int) (.pair .int (.slice (.slice .int))))))))),(4,.v (.slice (.slice .int))),(12,.mv (.pair .int (.slice .int)) 1),(16,.v .int),(19,.mv .int 0)])]
 run:=AQ n
def S_108L25 (n:Nat):LoopSpec where
 sh:= [(0,.v (.slice (.num .u8))),(3,.bx (.v (.pair .int (.pair .int (.slice (.pair (.slice .int) (.pair .int (.slice (.slice .int))))))))),(4,.v (.slice (.slice .int))),(12,.mv (.pair .int (.slice .int)) 1),(16,.v .int)]
 ex:= [(.exit 4,[(0,.v (.slice (.num .u8)))]),(.ret,[(2,.v .bool)])]
 run:=AC n
def S_108L44 (n:Nat):LoopSpec where
 sh:= [(23,.bx (.v (.pair .int (.pair .int (.slice (.pair (.slice .int) (.pair .int (.slice (.slice .int))))))))),(24,.bx (.v (.pair .int (.slice .int)))),(25,.bx (.pr (.v .int) (.pr (.v .int) (.mv (.pair (.slice .int) (.pair .int (.slice (.slice .int)))) 2)))),(29,.mv .int 0),(30,.v .int)]
 ex:= [(.exit 8,[(23,.bx (.v (.pair .int (.pair .int (.slice (.pair (.slice .int) (.pair .int (.slice (.slice .int))))))))),(24,.bx (.v (.pair .int (.slice .int)))),(25,.bx (.pr (.v .int) (.pr (.v .int) (.mv (.pair (.slice .int) (.pair .int (.slice (.slice .int)))) 2)))),(29,.mv .int 0)])]
 run:=Ap n
def S_108L51 (n:Nat):LoopSpec where
 sh:= [(23,.bx (.v (.pair .int (.pair .int (.slice (.pair (.slice .int) (.pair .int (.slice (.slice .int))))))))),(24,.bx (.v (.pair .int (.slice .int)))),(25,.bx (.pr (.v .int) (.pr (.v .int) (.mv (.pair (.slice .int) (.pair .int (.slice (.slice .int)))) 2)))),(31,.mv .int 0),(33,.mv .int 0),(34,.v .int)]
 ex:= [(.exit 10,[(25,.bx (.pr (.v .int) (.pr (.v .int) (.mv (.pair (.slice .int) (.pair .int (.slice (.slice .int)))) 2)))),(33,.mv .int 0)]),(.ret,[(2,.v .bool)])]
 run:=Aq n
def C_108:Cx where
 tt:=Ybr tt
 T:=YgH [(7,E_1),(12,E_56),(19,E_85),(23,E_107),(24,E_25),(25,E_42),(26,E_54),(27,E_68),(28,E_78),(29,E_80),(30,E_86),(31,E_95),(32,E_101)]
 L:=Yhe [(14,S_108L14 Aa),(10,S_108L10 Aa),(30,S_108L30 Aa),(25,S_108L25 Aa),(44,S_108L44 Aa),(51,S_108L51 Aa)]
 dep:=fun i=>0
 n:=1
def B_108L14:Code:=(Tryz.f4.body.bind (X9 14)).getD .skip
def B_108L10:Code:=(Tryz.f4.body.bind (X9 10)).getD .skip
def B_108L30:Code:=(Tryz.f4.body.bind (X9 30)).getD .skip
def B_108L25:Code:=(Tryz.f4.body.bind (X9 25)).getD .skip
def B_108L44:Code:=(Tryz.f4.body.bind (X9 44)).getD .skip
def B_108L51:Code:=(Tryz.f4.body.bind (X9 51)).getD .skip
def D_108:Code:=Tryz.f4.body.getD .skip
def N_108 (_:X6 [.v (.slice (.num .u8))]) (r:YG [.v .bool]):Bool:=r
end
end T
