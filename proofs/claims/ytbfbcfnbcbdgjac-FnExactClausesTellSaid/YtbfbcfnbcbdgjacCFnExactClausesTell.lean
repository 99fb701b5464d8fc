/- Contexts of the typed functions; no conditions. -/
import Derived.Test.YtbfbcfnbcbdgjacV5
import Derived.Test.YtbfbcfnbcbdgjacProg
import Derived.Test.YtbfbcfnbcbdgjacPFnExactClausesTell
import Derived.KernelRfl
set_option linter.all false
set_option linter.unusedVariables false
set_option maxRecDepth 10000
open Go Go.Va Go.Proofs
namespace T
noncomputable section
abbrev y0:Ty:= .slice .int
abbrev y1:Ty:= .pair .int (.slice y0)
abbrev y2:Ty:= .slice y0
abbrev y3:Ty:= .slice .bool
def tt:List (Nat×TI):= [
 (3,{ ty:= .int }),
 (4,{ ty:= .bool }),
 (22,{ ty:=y2,elem:=51 }),
 (36,{ ty:=y1,fields:= [3,22] }),
 (38,{ ty:=y3,elem:=4 }),
 (41,{ ty:=y1,fields:= [3,22] }),
 (51,{ ty:=y0,elem:=3 }),
 (67,{ ty:=(.op false) })]
theorem tabT:Yif Try.prog tt=true:=by kernel_rfl
theorem mixT:Try.prog.follows .mixedOrders=true:=by kernel_rfl
def E_1:Entry where
 params:= [.v y0,.v .int]
 results:= [.v .int]
 B:=Int
 run:=λa=>A8 a.1 a.2
 out:=λb=>((),())
 res:=λb=>b
def C_1:Cx:=cx0 tt [] [] 2
def D_1:Code:=Try.f50.body.getD .skip
def N_1 (_:XK E_1.params) (r:YH E_1.results):E_1.B:=r
def E_2:Entry where
 params:= [.v y2,.v .int]
 results:= [.v .int]
 B:=Int
 run:=λa=>Bx a.1 a.2
 out:=λb=>((),())
 res:=λb=>b
def S_2L5 (n:Nat):LoopSpec where
 sh:= [(0,.v y2),(1,.v .int),(5,.v .int)]
 ex:= [(.exit 0,[(1,.v .int)]),(.ret,[(4,.v .int)])]
 run:=AK n
def C_2:Cx:=cx0 tt [(50,E_1)] [(5,S_2L5 Ac)] 2
def B_2L5:Code:=(Try.f26.body.bind (Yag 5)).getD .skip
def D_2:Code:=Try.f26.body.getD .skip
def N_2 (_:XK E_2.params) (r:YH E_2.results):E_2.B:=r
def E_3:Entry where
 params:= [.v y1,.v .int]
 results:= [.v .int]
 B:=Int
 run:=λa=>Bg a.1 a.2
 out:=λb=>((),())
 res:=λb=>b
def C_3:Cx:=cx0 tt [(26,E_2)] [] 2
def D_3:Code:=Try.f15.body.getD .skip
def N_3 (_:XK E_3.params) (r:YH E_3.results):E_3.B:=r
def E_4:Entry where
 params:= [.v y0]
 results:= [.mv .int 0]
 B:=(List Int)
 run:=λa=>BJ a
 out:=λb=>()
 res:=λb=>b
def S_4L3 (n:Nat):LoopSpec where
 sh:= [(0,.v y0),(3,.mv .int 0),(4,.v .int)]
 ex:= [(.exit 0,[(3,.mv .int 0)])]
 run:=AS n
def C_4:Cx:=cx0 tt [] [(3,S_4L3 Ac)] 1
def B_4L3:Code:=(Try.f57.body.bind (Yag 3)).getD .skip
def D_4:Code:=Try.f57.body.getD .skip
def N_4 (_:XK E_4.params) (r:YH E_4.results):E_4.B:=r
def E_5:Entry where
 params:= [.v y2]
 results:= [.mv y0 1]
 B:=(List (List Int))
 run:=λa=>By a
 out:=λb=>()
 res:=λb=>b
def S_5L3 (n:Nat):LoopSpec where
 sh:= [(0,.v y2),(3,.mv y0 1),(4,.v .int)]
 ex:= [(.exit 0,[(3,.mv y0 1)])]
 run:=AL n
def C_5:Cx where
 tt:=YaU tt
 T:=Ygp [(57,E_4)]
 L:=Ygo [(3,S_5L3 Ac)]
 dep:=λi=>match i with
  |7=>1
  |_=>0
 n:=1
def B_5L3:Code:=(Try.f35.body.bind (Yag 3)).getD .skip
def D_5:Code:=Try.f35.body.getD .skip
def N_5 (_:XK E_5.params) (r:YH E_5.results):E_5.B:=r
def E_6:Entry where
 params:= [.v y1]
 results:= [.pr (.v .int) (.mv y0 1)]
 B:=(Int×(List (List Int)))
 run:=λa=>As a
 out:=λb=>()
 res:=λb=>b
def C_6:Cx:=cx0 tt [(35,E_5)] [] 1
def D_6:Code:=Try.f17.body.getD .skip
def N_6 (_:XK E_6.params) (r:YH E_6.results):E_6.B:=r
def E_7:Entry where
 params:= [.v .int,.v .int,.v .int]
 results:= [.v .bool]
 B:=Bool
 run:=λa=>BP a.1 a.2.1 a.2.2
 out:=λb=>((),(),())
 res:=λb=>b
def C_7:Cx:=cx0 tt [] [] 3
def D_7:Code:=Try.f64.body.getD .skip
def N_7 (_:XK E_7.params) (r:YH E_7.results):E_7.B:=r
def E_8:Entry where
 params:= [.v .int,.v .int]
 results:= [.v .int]
 B:=Int
 run:=λa=>BA a.1 a.2
 out:=λb=>((),())
 res:=λb=>b
def S_8L2 (n:Nat):LoopSpec where
 sh:= [(0,.v .int),(1,.v .int),(5,.v .int)]
 ex:= [(.exit 0,[(5,.v .int)])]
 run:=Be n
def C_8:Cx:=cx0 tt [] [(2,S_8L2 Ac)] 2
def B_8L2:Code:=(Try.f53.body.bind (Yag 2)).getD .skip
def D_8:Code:=Try.f53.body.getD .skip
def N_8 (_:XK E_8.params) (r:YH E_8.results):E_8.B:=r
def E_9:Entry where
 params:= [.v .int,.v y0]
 results:= [.v .bool]
 B:=Bool
 run:=λa=>Bh a.1 a.2
 out:=λb=>((),())
 res:=λb=>b
def S_9L2 (n:Nat):LoopSpec where
 sh:= [(0,.v .int),(1,.v y0),(5,.v .int)]
 ex:= [(.exit 0,[]),(.ret,[(4,.v .bool)])]
 run:=Aw n
def C_9:Cx:=cx0 tt [(64,E_7)] [(2,S_9L2 Ac)] 2
def B_9L2:Code:=(Try.f87.body.bind (Yag 2)).getD .skip
def D_9:Code:=Try.f87.body.getD .skip
def N_9 (_:XK E_9.params) (r:YH E_9.results):E_9.B:=r
def E_10:Entry where
 params:= [.v .int,.v .int,.v y0]
 results:= [.v .bool]
 B:=Bool
 run:=λa=>BB a.1 a.2.1 a.2.2
 out:=λb=>((),(),())
 res:=λb=>b
def C_10:Cx:=cx0 tt [(87,E_9)] [] 3
def D_10:Code:=Try.f65.body.getD .skip
def N_10 (_:XK E_10.params) (r:YH E_10.results):E_10.B:=r
def E_11:Entry where
 params:= [.v y0,.v y0]
 results:= [.v .bool]
 B:=Bool
 run:=λa=>BL a.1 a.2
 out:=λb=>((),())
 res:=λb=>b
def S_11L2 (n:Nat):LoopSpec where
 sh:= [(0,.v y0),(1,.v y0),(5,.v .int)]
 ex:= [(.exit 0,[]),(.ret,[(4,.v .bool)])]
 run:=AU n
def C_11:Cx:=cx0 tt [] [(2,S_11L2 Ac)] 2
def B_11L2:Code:=(Try.f66.body.bind (Yag 2)).getD .skip
def D_11:Code:=Try.f66.body.getD .skip
def N_11 (_:XK E_11.params) (r:YH E_11.results):E_11.B:=r
def E_12:Entry where
 params:= [.v .int,.v y1]
 results:= [.v .bool]
 B:=Bool
 run:=λa=>Bk a.1 a.2
 out:=λb=>((),())
 res:=λb=>b
def S_12L4 (n:Nat):LoopSpec where
 sh:= [(0,.v .int),(3,.bx (.v y1)),(5,.v .int)]
 ex:= [(.exit 0,[]),(.ret,[(4,.v .bool)])]
 run:=Ay n
def C_12:Cx:=cx0 tt [(53,E_8),(64,E_7),(65,E_10),(66,E_11)] [(4,S_12L4 Ac)] 2
def B_12L4:Code:=(Try.f46.body.bind (Yag 4)).getD .skip
def D_12:Code:=Try.f46.body.getD .skip
def N_12 (_:XK E_12.params) (r:YH E_12.results):E_12.B:=r
def E_13:Entry where
 params:= [.v .int,.v .int,.v .int]
 results:= [.mv .int 0]
 B:=(List Int)
 run:=λa=>CU a.1 a.2.1 a.2.2
 out:=λb=>((),(),())
 res:=λb=>b
def S_13L3 (n:Nat):LoopSpec where
 sh:= [(0,.v .int),(2,.v .int),(7,.mv .int 0),(8,.v .int)]
 ex:= [(.exit 0,[(7,.mv .int 0)])]
 run:=BK n
def C_13:Cx:=cx0 tt [] [(3,S_13L3 Ac)] 3
def B_13L3:Code:=(Try.f32.body.bind (Yag 3)).getD .skip
def D_13:Code:=Try.f32.body.getD .skip
def N_13 (_:XK E_13.params) (r:YH E_13.results):E_13.B:=r
def E_14:Entry where
 params:= [.v y0,.v y0]
 results:= [.v .bool]
 B:=Bool
 run:=λa=>Cq a.1 a.2
 out:=λb=>((),())
 res:=λb=>b
def C_14:Cx:=cx0 tt [(66,E_11)] [] 2
def D_14:Code:=Try.f88.body.getD .skip
def N_14 (_:XK E_14.params) (r:YH E_14.results):E_14.B:=r
def E_15:Entry where
 params:= [.v .int]
 results:= [.v y2]
 B:=(List (List Int))
 run:=λa=>AM a
 out:=λb=>()
 res:=λb=>b
def S_15L7 (n:Nat):LoopSpec where
 sh:= [(0,.v .int),(3,.v y2),(4,.v .int),(5,.mv .int 0),(6,.mv .int 0),(7,.v .int)]
 ex:= [(.exit 2,[(0,.v .int),(3,.v y2),(4,.v .int),(6,.mv .int 0)])]
 run:=Av n
def S_15L14 (n:Nat):LoopSpec where
 sh:= [(0,.v .int),(3,.v y2),(4,.v .int),(6,.mv .int 0),(8,.v .int)]
 ex:= [(.exit 4,[(0,.v .int),(3,.v y2),(4,.v .int),(6,.mv .int 0),(8,.v .int)])]
 run:=Bi n
def S_15L3 (n:Nat):LoopSpec where
 sh:= [(0,.v .int),(3,.v y2),(4,.v .int)]
 ex:= [(.exit 0,[(3,.v y2)])]
 run:=Bp n
def C_15:Cx where
 tt:=YaU tt
 T:=Ygp [(32,E_13),(53,E_8),(88,E_14)]
 L:=Ygo [(7,S_15L7 Ac),(14,S_15L14 Ac),(3,S_15L3 Ac)]
 dep:=λi=>0
 n:=1
 fine:=true
def B_15L7:Code:=(Try.f67.body.bind (Yag 7)).getD .skip
def B_15L14:Code:=(Try.f67.body.bind (Yag 14)).getD .skip
def B_15L3:Code:=(Try.f67.body.bind (Yag 3)).getD .skip
def D_15:Code:=Try.f67.body.getD .skip
def N_15 (_:XK E_15.params) (r:YH E_15.results):E_15.B:=r
def E_16:Entry where
 params:= [.v y0,.v y0]
 results:= [.v .bool]
 B:=Bool
 run:=λa=>Bu a.1 a.2
 out:=λb=>((),())
 res:=λb=>b
def S_16L2 (n:Nat):LoopSpec where
 sh:= [(0,.v y0),(1,.v y0),(5,.v .int)]
 ex:= [(.exit 0,[]),(.ret,[(4,.v .bool)])]
 run:=An n
def C_16:Cx:=cx0 tt [] [(2,S_16L2 Ac)] 2
def B_16L2:Code:=(Try.f89.body.bind (Yag 2)).getD .skip
def D_16:Code:=Try.f89.body.getD .skip
def N_16 (_:XK E_16.params) (r:YH E_16.results):E_16.B:=r
def E_17:Entry where
 params:= [.v y1,.v y0]
 results:= [.v .bool]
 B:=Bool
 run:=λa=>Bs a.1 a.2
 out:=λb=>((),())
 res:=λb=>b
def S_17L2 (n:Nat):LoopSpec where
 sh:= [(1,.v y0),(2,.bx (.v y1)),(5,.v .int)]
 ex:= [(.exit 0,[]),(.ret,[(4,.v .bool)])]
 run:=AT n
def C_17:Cx:=cx0 tt [(89,E_16)] [(2,S_17L2 Ac)] 2
def B_17L2:Code:=(Try.f68.body.bind (Yag 2)).getD .skip
def D_17:Code:=Try.f68.body.getD .skip
def N_17 (_:XK E_17.params) (r:YH E_17.results):E_17.B:=r
def E_18:Entry where
 params:= [.v y0]
 results:= [.mv .int 0]
 B:=(List Int)
 run:=λa=>BV a
 out:=λb=>()
 res:=λb=>b
def C_18:Cx:=cx0 tt [] [] 1
def D_18:Code:=Try.f31.body.getD .skip
def N_18 (_:XK E_18.params) (r:YH E_18.results):E_18.B:=r
def E_19:Entry where
 params:= [.v y1]
 results:= [.mv y0 0]
 B:=(List (List Int))
 run:=λa=>Bd a
 out:=λb=>()
 res:=λb=>b
def S_19L7 (n:Nat):LoopSpec where
 sh:= [(1,.bx (.v y1)),(3,.mv y0 0),(4,.v y2),(5,.v .int),(6,.v .bool),(7,.v .int)]
 ex:= [(.exit 2,[(1,.bx (.v y1)),(3,.mv y0 0),(4,.v y2),(5,.v .int),(6,.v .bool)])]
 run:=Au n
def S_19L3 (n:Nat):LoopSpec where
 sh:= [(1,.bx (.v y1)),(3,.mv y0 0),(4,.v y2),(5,.v .int)]
 ex:= [(.exit 0,[(3,.mv y0 0)])]
 run:=Aq n
def C_19:Cx:=cx0 tt [(31,E_18),(67,E_15),(68,E_17)] [(7,S_19L7 Ac),(3,S_19L3 Ac)] 1
def B_19L7:Code:=(Try.f47.body.bind (Yag 7)).getD .skip
def B_19L3:Code:=(Try.f47.body.bind (Yag 3)).getD .skip
def D_19:Code:=Try.f47.body.getD .skip
def N_19 (_:XK E_19.params) (r:YH E_19.results):E_19.B:=r
def E_20:Entry where
 params:= [.v y1]
 results:= [.mv .bool 0,.v .bool]
 B:=(List Bool)×Bool
 run:=λa=>AW a
 out:=λb=>()
 res:=λb=>(b.1,b.2)
def S_20L9 (n:Nat):LoopSpec where
 sh:= [(4,.mv .bool 0),(5,.mv y0 0),(6,.v .int),(7,.v .int),(8,.v .int)]
 ex:= [(.exit 2,[(4,.mv .bool 0),(5,.mv y0 0),(6,.v .int),(7,.v .int)])]
 run:=Al n
def S_20L5 (n:Nat):LoopSpec where
 sh:= [(4,.mv .bool 0),(5,.mv y0 0),(6,.v .int)]
 ex:= [(.exit 0,[(4,.mv .bool 0)])]
 run:=Ab n
def C_20:Cx:=cx0 tt [(46,E_12),(47,E_19)] [(9,S_20L9 Ac),(5,S_20L5 Ac)] 1
def B_20L9:Code:=(Try.f16.body.bind (Yag 9)).getD .skip
def B_20L5:Code:=(Try.f16.body.bind (Yag 5)).getD .skip
def D_20:Code:=Try.f16.body.getD .skip
def N_20 (_:XK E_20.params) (r:YH E_20.results):E_20.B:=(r.1,r.2)
def E_21:Entry where
 params:= [.v y0,.v .int]
 results:= [.v .bool]
 B:=Bool
 run:=λa=>BH a.1 a.2
 out:=λb=>((),())
 res:=λb=>b
def S_21L2 (n:Nat):LoopSpec where
 sh:= [(1,.v .int),(7,.v y0),(8,.v .int),(9,.v .int)]
 ex:= [(.exit 0,[]),(.ret,[(4,.v .bool)])]
 run:=AQ n
def C_21:Cx:=cx0 tt [] [(2,S_21L2 Ac)] 2
def B_21L2:Code:=(Try.f69.body.bind (Yag 2)).getD .skip
def D_21:Code:=Try.f69.body.getD .skip
def N_21 (_:XK E_21.params) (r:YH E_21.results):E_21.B:=r
def E_22:Entry where
 params:= [.v y0,.v y0]
 results:= [.v .int]
 B:=Int
 run:=λa=>Bq a.1 a.2
 out:=λb=>((),())
 res:=λb=>b
def S_22L2 (n:Nat):LoopSpec where
 sh:= [(0,.v y0),(1,.v y0),(5,.v .int)]
 ex:= [(.exit 0,[(0,.v y0),(1,.v y0)]),(.ret,[(4,.v .int)])]
 run:=Am n
def C_22:Cx:=cx0 tt [] [(2,S_22L2 Ac)] 2
def B_22L2:Code:=(Try.f42.body.bind (Yag 2)).getD .skip
def D_22:Code:=Try.f42.body.getD .skip
def N_22 (_:XK E_22.params) (r:YH E_22.results):E_22.B:=r
def E_23:Entry where
 params:= [.v .int,.v y1]
 results:= [.v .bool]
 B:=Bool
 run:=λa=>AX a.1 a.2
 out:=λb=>((),())
 res:=λb=>b
def S_23L4 (n:Nat):LoopSpec where
 sh:= [(0,.v .int),(3,.bx (.v y1)),(16,.v y2),(17,.v .int),(18,.v .int)]
 ex:= [(.exit 0,[]),(.ret,[(4,.v .bool)])]
 run:=Ap n
def C_23:Cx:=cx0 tt [(42,E_22),(69,E_21)] [(4,S_23L4 Ac)] 2
def B_23L4:Code:=(Try.f48.body.bind (Yag 4)).getD .skip
def D_23:Code:=Try.f48.body.getD .skip
def N_23 (_:XK E_23.params) (r:YH E_23.results):E_23.B:=r
def E_24:Entry where
 params:= [.v .int,.v .int]
 results:= [.v .int]
 B:=Int
 run:=λa=>C5 a.1 a.2
 out:=λb=>((),())
 res:=λb=>b
def S_24L2 (n:Nat):LoopSpec where
 sh:= [(0,.v .int),(1,.v .int),(5,.v .int)]
 ex:= [(.exit 0,[(5,.v .int)])]
 run:=BS n
def C_24:Cx:=cx0 tt [] [(2,S_24L2 Ac)] 2
def B_24L2:Code:=(Try.f60.body.bind (Yag 2)).getD .skip
def D_24:Code:=Try.f60.body.getD .skip
def N_24 (_:XK E_24.params) (r:YH E_24.results):E_24.B:=r
def E_25:Entry where
 params:= [.v .int,.v .int,.v .int]
 results:= [.mv .int 0]
 B:=(List Int)
 run:=λa=>CO a.1 a.2.1 a.2.2
 out:=λb=>((),(),())
 res:=λb=>b
def S_25L3 (n:Nat):LoopSpec where
 sh:= [(0,.v .int),(2,.v .int),(7,.mv .int 0),(8,.v .int)]
 ex:= [(.exit 0,[(7,.mv .int 0)])]
 run:=BF n
def C_25:Cx:=cx0 tt [] [(3,S_25L3 Ac)] 3
def B_25L3:Code:=(Try.f40.body.bind (Yag 3)).getD .skip
def D_25:Code:=Try.f40.body.getD .skip
def N_25 (_:XK E_25.params) (r:YH E_25.results):E_25.B:=r
def E_26:Entry where
 params:= [.io y0 1,.v (.fn 90)]
 results:= []
 B:=List (List Int)
 run:=λa=>AC a.1 a.2
 out:=λb=>(b,())
 res:=λb=>()
def D_26:Code:=Try.f41.body.getD .skip
def E_27:Entry where
 params:= [.v .int]
 results:= [.mv y0 1]
 B:=(List (List Int))
 run:=λa=>Ar a
 out:=λb=>()
 res:=λb=>b
def S_27L7 (n:Nat):LoopSpec where
 sh:= [(0,.v .int),(3,.mv y0 1),(4,.v .int),(5,.mv .int 0),(18,.mv .int 0),(19,.v .int),(20,.v .int)]
 ex:= [(.exit 2,[(0,.v .int),(3,.mv y0 1),(4,.v .int),(5,.mv .int 0)])]
 run:=AZ n
def S_27L3 (n:Nat):LoopSpec where
 sh:= [(0,.v .int),(3,.mv y0 1),(4,.v .int)]
 ex:= [(.exit 0,[(3,.mv y0 1)])]
 run:=Ao n
def C_27:Cx where
 tt:=YaU tt
 T:=Ygp [(40,E_25),(60,E_24),(5963817,E_26)]
 L:=Ygo [(7,S_27L7 Ac),(3,S_27L3 Ac)]
 dep:=λi=>match i with
  |8=>1
  |39=>1
  |40=>1
  |_=>0
 n:=1
def B_27L7:Code:=(Try.f70.body.bind (Yag 7)).getD .skip
def B_27L3:Code:=(Try.f70.body.bind (Yag 3)).getD .skip
def D_27:Code:=Try.f70.body.getD .skip
def N_27 (_:XK E_27.params) (r:YH E_27.results):E_27.B:=r
def E_28:Entry where
 params:= [.v y0,.v y0]
 results:= [.v .bool]
 B:=Bool
 run:=λa=>Bc a.1 a.2
 out:=λb=>((),())
 res:=λb=>b
def S_28L2 (n:Nat):LoopSpec where
 sh:= [(0,.v y0),(7,.v y0),(8,.v .int),(9,.v .int)]
 ex:= [(.exit 0,[]),(.ret,[(4,.v .bool)])]
 run:=Ag n
def C_28:Cx:=cx0 tt [] [(2,S_28L2 Ac)] 2
def B_28L2:Code:=(Try.f91.body.bind (Yag 2)).getD .skip
def D_28:Code:=Try.f91.body.getD .skip
def N_28 (_:XK E_28.params) (r:YH E_28.results):E_28.B:=r
def E_29:Entry where
 params:= [.v y2,.v y0]
 results:= [.v .bool]
 B:=Bool
 run:=λa=>Bj a.1 a.2
 out:=λb=>((),())
 res:=λb=>b
def S_29L2 (n:Nat):LoopSpec where
 sh:= [(1,.v y0),(7,.v y2),(8,.v .int),(9,.v .int)]
 ex:= [(.exit 0,[]),(.ret,[(4,.v .bool)])]
 run:=AH n
def C_29:Cx:=cx0 tt [(91,E_28)] [(2,S_29L2 Ac)] 2
def B_29L2:Code:=(Try.f71.body.bind (Yag 2)).getD .skip
def D_29:Code:=Try.f71.body.getD .skip
def N_29 (_:XK E_29.params) (r:YH E_29.results):E_29.B:=r
def E_30:Entry where
 params:= [.v y0]
 results:= [.mv .int 0]
 B:=(List Int)
 run:=λa=>Cd a
 out:=λb=>()
 res:=λb=>b
def C_30:Cx:=cx0 tt [] [] 1
def D_30:Code:=Try.f92.body.getD .skip
def N_30 (_:XK E_30.params) (r:YH E_30.results):E_30.B:=r
def E_31:Entry where
 params:= [.v y0,.v .int]
 results:= [.mv .int 0]
 B:=(List Int)
 run:=λa=>Bv a.1 a.2
 out:=λb=>((),())
 res:=λb=>b
def C_31:Cx:=cx0 tt [(92,E_30)] [] 2
def D_31:Code:=Try.f72.body.getD .skip
def N_31 (_:XK E_31.params) (r:YH E_31.results):E_31.B:=r
def E_32:Entry where
 params:= [.v y1]
 results:= [.mv y0 0]
 B:=(List (List Int))
 run:=λa=>AO a
 out:=λb=>()
 res:=λb=>b
def S_32L7 (n:Nat):LoopSpec where
 sh:= [(1,.bx (.v y1)),(3,.mv y0 0),(5,.v y0),(6,.v .bool),(11,.v y2),(12,.v .int),(13,.v .int),(22,.v .int),(23,.v .int)]
 ex:= [(.exit 2,[(1,.bx (.v y1)),(3,.mv y0 0),(5,.v y0),(6,.v .bool),(11,.v y2),(12,.v .int),(13,.v .int)])]
 run:=Aj n
def S_32L3 (n:Nat):LoopSpec where
 sh:= [(1,.bx (.v y1)),(3,.mv y0 0),(11,.v y2),(12,.v .int),(13,.v .int)]
 ex:= [(.exit 0,[(3,.mv y0 0)])]
 run:=Ai n
def C_32:Cx:=cx0 tt [(70,E_27),(71,E_29),(72,E_31)] [(7,S_32L7 Ac),(3,S_32L3 Ac)] 1
def B_32L7:Code:=(Try.f49.body.bind (Yag 7)).getD .skip
def B_32L3:Code:=(Try.f49.body.bind (Yag 3)).getD .skip
def D_32:Code:=Try.f49.body.getD .skip
def N_32 (_:XK E_32.params) (r:YH E_32.results):E_32.B:=r
def E_33:Entry where
 params:= [.v y1]
 results:= [.mv .bool 0,.v .bool]
 B:=(List Bool)×Bool
 run:=λa=>AE a
 out:=λb=>()
 res:=λb=>(b.1,b.2)
def S_33L9 (n:Nat):LoopSpec where
 sh:= [(4,.mv .bool 0),(6,.v y0),(7,.v .int),(16,.mv y0 0),(17,.v .int),(18,.v .int),(22,.v y0),(23,.v .int),(24,.v .int)]
 ex:= [(.exit 2,[(4,.mv .bool 0),(6,.v y0),(7,.v .int),(16,.mv y0 0),(17,.v .int),(18,.v .int)])]
 run:=Ak n
def S_33L5 (n:Nat):LoopSpec where
 sh:= [(4,.mv .bool 0),(16,.mv y0 0),(17,.v .int),(18,.v .int)]
 ex:= [(.exit 0,[(4,.mv .bool 0)])]
 run:=Aa n
def C_33:Cx:=cx0 tt [(48,E_23),(49,E_32)] [(9,S_33L9 Ac),(5,S_33L5 Ac)] 1
def B_33L9:Code:=(Try.f18.body.bind (Yag 9)).getD .skip
def B_33L5:Code:=(Try.f18.body.bind (Yag 5)).getD .skip
def D_33:Code:=Try.f18.body.getD .skip
def N_33 (_:XK E_33.params) (r:YH E_33.results):E_33.B:=(r.1,r.2)
def E_34:Entry where
 params:= [.v y3,.v y3]
 results:= [.v .bool]
 B:=Bool
 run:=λa=>A9 a.1 a.2
 out:=λb=>((),())
 res:=λb=>b
def S_34L4 (n:Nat):LoopSpec where
 sh:= [(0,.v y3),(1,.v y3),(5,.v .int)]
 ex:= [(.exit 0,[]),(.ret,[(4,.v .bool)])]
 run:=AI n
def C_34:Cx:=cx0 tt [] [(4,S_34L4 Ac)] 2
def B_34L4:Code:=(Try.f19.body.bind (Yag 4)).getD .skip
def D_34:Code:=Try.f19.body.getD .skip
def N_34 (_:XK E_34.params) (r:YH E_34.results):E_34.B:=r
def E_35:Entry where
 params:= [.v y0,.v y0]
 results:= [.v .bool]
 B:=Bool
 run:=λa=>BI a.1 a.2
 out:=λb=>((),())
 res:=λb=>b
def S_35L4 (n:Nat):LoopSpec where
 sh:= [(0,.v y0),(1,.v y0),(5,.v .int)]
 ex:= [(.exit 0,[]),(.ret,[(4,.v .bool)])]
 run:=AR n
def C_35:Cx:=cx0 tt [] [(4,S_35L4 Ac)] 2
def B_35L4:Code:=(Try.f43.body.bind (Yag 4)).getD .skip
def D_35:Code:=Try.f43.body.getD .skip
def N_35 (_:XK E_35.params) (r:YH E_35.results):E_35.B:=r
def E_36:Entry where
 params:= [.v y2,.v y2]
 results:= [.v .bool]
 B:=Bool
 run:=λa=>Bw a.1 a.2
 out:=λb=>((),())
 res:=λb=>b
def S_36L4 (n:Nat):LoopSpec where
 sh:= [(0,.v y2),(1,.v y2),(5,.v .int)]
 ex:= [(.exit 0,[]),(.ret,[(4,.v .bool)])]
 run:=AJ n
def C_36:Cx:=cx0 tt [(43,E_35)] [(4,S_36L4 Ac)] 2
def B_36L4:Code:=(Try.f10.body.bind (Yag 4)).getD .skip
def D_36:Code:=Try.f10.body.getD .skip
def N_36 (_:XK E_36.params) (r:YH E_36.results):E_36.B:=r
def E_37:Entry where
 params:= [.v y1,.v y1]
 results:= [.v .bool]
 B:=Bool
 run:=λa=>AY a.1 a.2
 out:=λb=>((),())
 res:=λb=>b
def C_37:Cx:=cx0 tt [(10,E_36)] [] 2
def D_37:Code:=Try.f20.body.getD .skip
def N_37 (_:XK E_37.params) (r:YH E_37.results):E_37.B:=r
def E_38:Entry where
 params:= [.io .int 0,.v .int]
 results:= [.v .int]
 B:=(List Int)×Int
 run:=λa=>Bt a.1 a.2
 out:=λb=>(b.1,())
 res:=λb=>b.2
def S_38L2 (n:Nat):LoopSpec where
 sh:= [(0,.io .int 0),(1,.v .int),(5,.v .int)]
 ex:= [(.exit 0,[(0,.io .int 0),(1,.v .int)])]
 run:=AF n
def C_38:Cx:=cx0 tt [] [(2,S_38L2 Ac)] 2
def B_38L2:Code:=(Try.f44.body.bind (Yag 2)).getD .skip
def D_38:Code:=Try.f44.body.getD .skip
def N_38 (o:XK E_38.params) (r:YH E_38.results):E_38.B:=(o.1,r)
def E_39:Entry where
 params:= [.io y0 1,.v .int]
 results:= [.v .int]
 B:=(List (List Int))×Int
 run:=λa=>Bm a.1 a.2
 out:=λb=>(b.1,())
 res:=λb=>b.2
def S_39L2 (n:Nat):LoopSpec where
 sh:= [(0,.io y0 1),(1,.v .int),(5,.v .int)]
 ex:= [(.exit 0,[(0,.io y0 1),(1,.v .int)])]
 run:=AB n
def C_39:Cx:=cx0 tt [(44,E_38)] [(2,S_39L2 Ac)] 2
def B_39L2:Code:=(Try.f13.body.bind (Yag 2)).getD .skip
def D_39:Code:=Try.f13.body.getD .skip
def N_39 (o:XK E_39.params) (r:YH E_39.results):E_39.B:=(o.1,r)
def E_40:Entry where
 params:= [.pr (.v .int) (.io y0 1),.v .int]
 results:= [.v .int]
 B:=(Unit×(List (List Int)))×Int
 run:=λa=>AP a.1 a.2
 out:=λb=>(b.1,())
 res:=λb=>b.2
def C_40:Cx:=cx0 tt [(13,E_39)] [] 2
def D_40:Code:=Try.f21.body.getD .skip
def N_40 (o:XK E_40.params) (r:YH E_40.results):E_40.B:=(o.1,r)
def E_41:Entry where
 params:= [.io .bool 0,.v .int]
 results:= [.v .int]
 B:=(List Bool)×Int
 run:=λa=>Bl a.1 a.2
 out:=λb=>(b.1,())
 res:=λb=>b.2
def S_41L2 (n:Nat):LoopSpec where
 sh:= [(0,.io .bool 0),(1,.v .int),(5,.v .int)]
 ex:= [(.exit 0,[(0,.io .bool 0),(1,.v .int)])]
 run:=AA n
def C_41:Cx:=cx0 tt [] [(2,S_41L2 Ac)] 2
def B_41L2:Code:=(Try.f22.body.bind (Yag 2)).getD .skip
def D_41:Code:=Try.f22.body.getD .skip
def N_41 (o:XK E_41.params) (r:YH E_41.results):E_41.B:=(o.1,r)
def E_42:Entry where
 params:= [.v y3,.v .int]
 results:= [.v .int]
 B:=Int
 run:=λa=>Ba a.1 a.2
 out:=λb=>((),())
 res:=λb=>b
def S_42L2 (n:Nat):LoopSpec where
 sh:= [(0,.v y3),(1,.v .int),(5,.v .int)]
 ex:= [(.exit 0,[(1,.v .int)]),(.ret,[(4,.v .int)])]
 run:=Az n
def C_42:Cx:=cx0 tt [] [(2,S_42L2 Ac)] 2
def B_42L2:Code:=(Try.f23.body.bind (Yag 2)).getD .skip
def D_42:Code:=Try.f23.body.getD .skip
def N_42 (_:XK E_42.params) (r:YH E_42.results):E_42.B:=r
def E_43:Entry where
 params:= [.v y1]
 results:= [.v .bool]
 B:=Bool
 run:=λa=>A7 a
 out:=λb=>()
 res:=λb=>b
def C_43:Cx:=cx0 tt [(15,E_3),(16,E_20),(17,E_6),(18,E_33),(19,E_34),(20,E_37),(21,E_40),(22,E_41),(23,E_42)] [] 1
def D_43:Code:=Try.f4.body.getD .skip
def N_43 (_:XK E_43.params) (r:YH E_43.results):E_43.B:=r
end
end T
