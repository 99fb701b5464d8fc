/- Contexts of the typed functions; no conditions. -/
import Derived.Test.YtbfbcfnbcbdgjaaV5
import Derived.Test.YtbfbcfnbcbdgjaaProg
import Derived.Test.YtbfbcfnbcbdgjaaPFnExactForksOf
import Derived.KernelRfl
set_option linter.all false
set_option linter.unusedVariables false
set_option maxRecDepth 10000
open Go Go.Va Go.Proofs
namespace T
noncomputable section
abbrev y0:Ty:= .slice .int
abbrev y1:Ty:= .slice y0
def tt:List (Nat×TI):= [
 (2,{ ty:= .int }),
 (3,{ ty:= .int }),
 (4,{ ty:= .bool }),
 (22,{ ty:=y1,elem:=42 }),
 (42,{ ty:=y0,elem:=3 }),
 (59,{ ty:=(.op false) })]
theorem tabT:Yif Try.prog tt=true:=by kernel_rfl
theorem mixT:Try.prog.follows .mixedOrders=true:=by kernel_rfl
def E_1:Entry where
 params:= [.v y0,.v .int]
 results:= [.v .int]
 B:=Int
 run:=λa=>AR a.1 a.2
 out:=λb=>((),())
 res:=λb=>b
def C_1:Cx:=cx0 tt [] [] 2
def D_1:Code:=Try.f29.body.getD .skip
def N_1 (_:XK E_1.params) (r:YH E_1.results):E_1.B:=r
def E_2:Entry where
 params:= [.v y1,.v .int]
 results:= [.v .int]
 B:=Int
 run:=λa=>Bv a.1 a.2
 out:=λb=>((),())
 res:=λb=>b
def S_2L5 (n:Nat):LoopSpec where
 sh:= [(0,.v y1),(1,.v .int),(5,.v .int)]
 ex:= [(.exit 0,[(1,.v .int)]),(.ret,[(4,.v .int)])]
 run:=AG n
def C_2:Cx:=cx0 tt [(29,E_1)] [(5,S_2L5 Af)] 2
def B_2L5:Code:=(Try.f7.body.bind (Yag 5)).getD .skip
def D_2:Code:=Try.f7.body.getD .skip
def N_2 (_:XK E_2.params) (r:YH E_2.results):E_2.B:=r
def E_3:Entry where
 params:= [.v y0]
 results:= [.mv .int 0]
 B:=(List Int)
 run:=λa=>BJ a
 out:=λb=>()
 res:=λb=>b
def S_3L3 (n:Nat):LoopSpec where
 sh:= [(0,.v y0),(3,.mv .int 0),(4,.v .int)]
 ex:= [(.exit 0,[(3,.mv .int 0)])]
 run:=AL n
def C_3:Cx:=cx0 tt [] [(3,S_3L3 Af)] 1
def B_3L3:Code:=(Try.f32.body.bind (Yag 3)).getD .skip
def D_3:Code:=Try.f32.body.getD .skip
def N_3 (_:XK E_3.params) (r:YH E_3.results):E_3.B:=r
def E_4:Entry where
 params:= [.v y1]
 results:= [.mv y0 1]
 B:=(List (List Int))
 run:=λa=>AP a
 out:=λb=>()
 res:=λb=>b
def S_4L3 (n:Nat):LoopSpec where
 sh:= [(0,.v y1),(3,.mv y0 1),(4,.v .int)]
 ex:= [(.exit 0,[(3,.mv y0 1)])]
 run:=AH n
def C_4:Cx where
 tt:=YaU tt
 T:=Ygp [(32,E_3)]
 L:=Ygo [(3,S_4L3 Af)]
 dep:=λi=>match i with
  |7=>1
  |_=>0
 n:=1
def B_4L3:Code:=(Try.f9.body.bind (Yag 3)).getD .skip
def D_4:Code:=Try.f9.body.getD .skip
def N_4 (_:XK E_4.params) (r:YH E_4.results):E_4.B:=r
def E_5:Entry where
 params:= [.v .int,.v .int,.v .int]
 results:= [.v .bool]
 B:=Bool
 run:=λa=>Bu a.1 a.2.1 a.2.2
 out:=λb=>((),(),())
 res:=λb=>b
def C_5:Cx:=cx0 tt [] [] 3
def D_5:Code:=Try.f65.body.getD .skip
def N_5 (_:XK E_5.params) (r:YH E_5.results):E_5.B:=r
def E_6:Entry where
 params:= [.v .int]
 results:= [.v .bool]
 B:=Bool
 run:=λa=>BQ a
 out:=λb=>()
 res:=λb=>b
def C_6:Cx:=cx0 tt [(65,E_5)] [] 1
def D_6:Code:=Try.f64.body.getD .skip
def N_6 (_:XK E_6.params) (r:YH E_6.results):E_6.B:=r
def E_7:Entry where
 params:= [.v .int,.v .int]
 results:= [.v .int]
 B:=Int
 run:=λa=>B0 a.1 a.2
 out:=λb=>((),())
 res:=λb=>b
def S_7L2 (n:Nat):LoopSpec where
 sh:= [(0,.v .int),(1,.v .int),(5,.v .int)]
 ex:= [(.exit 0,[(5,.v .int)])]
 run:=A7 n
def C_7:Cx:=cx0 tt [] [(2,S_7L2 Af)] 2
def B_7L2:Code:=(Try.f66.body.bind (Yag 2)).getD .skip
def D_7:Code:=Try.f66.body.getD .skip
def N_7 (_:XK E_7.params) (r:YH E_7.results):E_7.B:=r
def E_8:Entry where
 params:= [.v .int,.v y0]
 results:= [.v .bool]
 B:=Bool
 run:=λa=>Bb a.1 a.2
 out:=λb=>((),())
 res:=λb=>b
def S_8L2 (n:Nat):LoopSpec where
 sh:= [(0,.v .int),(1,.v y0),(5,.v .int)]
 ex:= [(.exit 0,[]),(.ret,[(4,.v .bool)])]
 run:=As n
def C_8:Cx:=cx0 tt [(65,E_5)] [(2,S_8L2 Af)] 2
def B_8L2:Code:=(Try.f89.body.bind (Yag 2)).getD .skip
def D_8:Code:=Try.f89.body.getD .skip
def N_8 (_:XK E_8.params) (r:YH E_8.results):E_8.B:=r
def E_9:Entry where
 params:= [.v .int,.v .int,.v y0]
 results:= [.v .bool]
 B:=Bool
 run:=λa=>BB a.1 a.2.1 a.2.2
 out:=λb=>((),(),())
 res:=λb=>b
def C_9:Cx:=cx0 tt [(89,E_8)] [] 3
def D_9:Code:=Try.f67.body.getD .skip
def N_9 (_:XK E_9.params) (r:YH E_9.results):E_9.B:=r
def E_10:Entry where
 params:= [.v y0,.v y0]
 results:= [.v .bool]
 B:=Bool
 run:=λa=>BO a.1 a.2
 out:=λb=>((),())
 res:=λb=>b
def S_10L2 (n:Nat):LoopSpec where
 sh:= [(0,.v y0),(1,.v y0),(5,.v .int)]
 ex:= [(.exit 0,[]),(.ret,[(4,.v .bool)])]
 run:=AN n
def C_10:Cx:=cx0 tt [] [(2,S_10L2 Af)] 2
def B_10L2:Code:=(Try.f68.body.bind (Yag 2)).getD .skip
def D_10:Code:=Try.f68.body.getD .skip
def N_10 (_:XK E_10.params) (r:YH E_10.results):E_10.B:=r
def E_11:Entry where
 params:= [.v .int,.v .int,.v y1]
 results:= [.v .bool]
 B:=Bool
 run:=λa=>BN a.1 a.2.1 a.2.2
 out:=λb=>((),(),())
 res:=λb=>b
def S_11L4 (n:Nat):LoopSpec where
 sh:= [(0,.v .int),(1,.v .int),(2,.v y1),(7,.v .int)]
 ex:= [(.exit 0,[]),(.ret,[(6,.v .bool)])]
 run:=AB n
def C_11:Cx:=cx0 tt [(64,E_6),(65,E_5),(66,E_7),(67,E_9),(68,E_10)] [(4,S_11L4 Af)] 3
def B_11L4:Code:=(Try.f30.body.bind (Yag 4)).getD .skip
def D_11:Code:=Try.f30.body.getD .skip
def N_11 (_:XK E_11.params) (r:YH E_11.results):E_11.B:=r
def E_12:Entry where
 params:= [.v y0,.v y0]
 results:= [.v .bool]
 B:=Bool
 run:=λa=>Bp a.1 a.2
 out:=λb=>((),())
 res:=λb=>b
def S_12L4 (n:Nat):LoopSpec where
 sh:= [(0,.v y0),(1,.v y0),(5,.v .int)]
 ex:= [(.exit 0,[]),(.ret,[(4,.v .bool)])]
 run:=AM n
def C_12:Cx:=cx0 tt [] [(4,S_12L4 Af)] 2
def B_12L4:Code:=(Try.f85.body.bind (Yag 4)).getD .skip
def D_12:Code:=Try.f85.body.getD .skip
def N_12 (_:XK E_12.params) (r:YH E_12.results):E_12.B:=r
def E_13:Entry where
 params:= [.v y1,.v .int,.v .int,.v .int]
 results:= [.v .int,.v .int,.v .bool]
 B:=Int×Int×Bool
 run:=λa=>Bz a.1 a.2.1 a.2.2.1 a.2.2.2
 out:=λb=>((),(),(),())
 res:=λb=>(b.1,b.2.1,b.2.2)
def S_13L5 (n:Nat):LoopSpec where
 sh:= [(0,.v y1),(1,.v .int),(2,.v .int),(3,.v .int),(11,.v .int),(12,.v .int)]
 ex:= [(.exit 2,[(0,.v y1),(1,.v .int),(2,.v .int),(3,.v .int),(11,.v .int)]),(.ret,[(8,.v .int),(9,.v .int),(10,.v .bool)])]
 run:=Aj n
def S_13L2 (n:Nat):LoopSpec where
 sh:= [(0,.v y1),(1,.v .int),(2,.v .int),(3,.v .int),(11,.v .int)]
 ex:= [(.exit 0,[]),(.ret,[(8,.v .int),(9,.v .int),(10,.v .bool)])]
 run:=Au n
def C_13:Cx:=cx0 tt [(85,E_12)] [(5,S_13L5 Af),(2,S_13L2 Af)] 4
def B_13L5:Code:=(Try.f69.body.bind (Yag 5)).getD .skip
def B_13L2:Code:=(Try.f69.body.bind (Yag 2)).getD .skip
def D_13:Code:=Try.f69.body.getD .skip
def N_13 (_:XK E_13.params) (r:YH E_13.results):E_13.B:=(r.1,r.2.1,r.2.2)
def E_14:Entry where
 params:= [.v y0]
 results:= [.mv .int 0]
 B:=(List Int)
 run:=λa=>By a
 out:=λb=>()
 res:=λb=>b
def C_14:Cx:=cx0 tt [] [] 1
def D_14:Code:=Try.f62.body.getD .skip
def N_14 (_:XK E_14.params) (r:YH E_14.results):E_14.B:=r
def E_15:Entry where
 params:= [.v y1,.v y0]
 results:= [.v .int,.v .bool]
 B:=Int×Bool
 run:=λa=>BR a.1 a.2
 out:=λb=>((),())
 res:=λb=>(b.1,b.2)
def S_15L2 (n:Nat):LoopSpec where
 sh:= [(0,.v y1),(1,.v y0),(6,.v .int),(7,.v .int)]
 ex:= [(.exit 0,[(0,.v y1),(1,.v y0),(6,.v .int)])]
 run:=AC n
def C_15:Cx:=cx0 tt [(68,E_10),(85,E_12)] [(2,S_15L2 Af)] 2
def B_15L2:Code:=(Try.f90.body.bind (Yag 2)).getD .skip
def D_15:Code:=Try.f90.body.getD .skip
def N_15 (_:XK E_15.params) (r:YH E_15.results):E_15.B:=(r.1,r.2)
def E_16:Entry where
 params:= [.v y1,.v y0]
 results:= [.v y1]
 B:=(List (List Int))
 run:=λa=>BA a.1 a.2
 out:=λb=>((),())
 res:=λb=>b
def C_16:Cx:=cx0 tt [(90,E_15)] [] 2
def D_16:Code:=Try.f70.body.getD .skip
def N_16 (_:XK E_16.params) (r:YH E_16.results):E_16.B:=r
def E_17:Entry where
 params:= [.v .int,.v .int,.v y1]
 results:= [.mv y0 0,.v y1]
 B:=(List (List Int))×(List (List Int))
 run:=λa=>Bt a.1 a.2.1 a.2.2
 out:=λb=>((),(),())
 res:=λb=>(b.1,b.2)
def S_17L9 (n:Nat):LoopSpec where
 sh:= [(0,.v .int),(1,.v .int),(2,.v y1),(8,.mv y0 0),(9,.v y1),(10,.v .int),(11,.v .int),(12,.v .int)]
 ex:= [(.exit 4,[(0,.v .int),(1,.v .int),(2,.v y1),(8,.mv y0 0),(9,.v y1),(10,.v .int),(11,.v .int)])]
 run:=Al n
def S_17L6 (n:Nat):LoopSpec where
 sh:= [(0,.v .int),(1,.v .int),(2,.v y1),(8,.mv y0 0),(9,.v y1),(10,.v .int),(11,.v .int)]
 ex:= [(.exit 2,[(0,.v .int),(1,.v .int),(2,.v y1),(8,.mv y0 0),(9,.v y1),(10,.v .int)])]
 run:=Ar n
def S_17L3 (n:Nat):LoopSpec where
 sh:= [(0,.v .int),(1,.v .int),(2,.v y1),(8,.mv y0 0),(9,.v y1),(10,.v .int)]
 ex:= [(.exit 0,[(8,.mv y0 0),(9,.v y1)])]
 run:=Aq n
def C_17:Cx:=cx0 tt [(62,E_14),(69,E_13),(70,E_16)] [(9,S_17L9 Af),(6,S_17L6 Af),(3,S_17L3 Af)] 3
def B_17L9:Code:=(Try.f31.body.bind (Yag 9)).getD .skip
def B_17L6:Code:=(Try.f31.body.bind (Yag 6)).getD .skip
def B_17L3:Code:=(Try.f31.body.bind (Yag 3)).getD .skip
def D_17:Code:=Try.f31.body.getD .skip
def N_17 (_:XK E_17.params) (r:YH E_17.results):E_17.B:=(r.1,r.2)
def E_18:Entry where
 params:= [.v .int,.v .int,.v y1]
 results:= [.mv y0 0,.v .bool]
 B:=(List (List Int))×Bool
 run:=λa=>Bw a.1 a.2.1 a.2.2
 out:=λb=>((),(),())
 res:=λb=>(b.1,b.2)
def C_18:Cx:=cx0 tt [(30,E_11),(31,E_17)] [] 3
def D_18:Code:=Try.f8.body.getD .skip
def N_18 (_:XK E_18.params) (r:YH E_18.results):E_18.B:=(r.1,r.2)
def E_19:Entry where
 params:= [.v .int]
 results:= [.v .bool]
 B:=Bool
 run:=λa=>BH a
 out:=λb=>()
 res:=λb=>b
def C_19:Cx:=cx0 tt [] [] 1
def D_19:Code:=Try.f71.body.getD .skip
def N_19 (_:XK E_19.params) (r:YH E_19.results):E_19.B:=r
def E_20:Entry where
 params:= [.v y0,.v .int]
 results:= [.v .bool]
 B:=Bool
 run:=λa=>BG a.1 a.2
 out:=λb=>((),())
 res:=λb=>b
def S_20L2 (n:Nat):LoopSpec where
 sh:= [(1,.v .int),(7,.v y0),(8,.v .int),(9,.v .int)]
 ex:= [(.exit 0,[]),(.ret,[(4,.v .bool)])]
 run:=AJ n
def C_20:Cx:=cx0 tt [] [(2,S_20L2 Af)] 2
def B_20L2:Code:=(Try.f72.body.bind (Yag 2)).getD .skip
def D_20:Code:=Try.f72.body.getD .skip
def N_20 (_:XK E_20.params) (r:YH E_20.results):E_20.B:=r
def E_21:Entry where
 params:= [.v y0,.v y0]
 results:= [.v .int]
 B:=Int
 run:=λa=>Bj a.1 a.2
 out:=λb=>((),())
 res:=λb=>b
def S_21L2 (n:Nat):LoopSpec where
 sh:= [(0,.v y0),(1,.v y0),(5,.v .int)]
 ex:= [(.exit 0,[(0,.v y0),(1,.v y0)]),(.ret,[(4,.v .int)])]
 run:=Ak n
def C_21:Cx:=cx0 tt [] [(2,S_21L2 Af)] 2
def B_21L2:Code:=(Try.f37.body.bind (Yag 2)).getD .skip
def D_21:Code:=Try.f37.body.getD .skip
def N_21 (_:XK E_21.params) (r:YH E_21.results):E_21.B:=r
def E_22:Entry where
 params:= [.v .int,.v .int,.v y1]
 results:= [.v .bool]
 B:=Bool
 run:=λa=>Ba a.1 a.2.1 a.2.2
 out:=λb=>((),(),())
 res:=λb=>b
def S_22L4 (n:Nat):LoopSpec where
 sh:= [(0,.v .int),(1,.v .int),(2,.v y1),(20,.v y1),(21,.v .int),(22,.v .int)]
 ex:= [(.exit 0,[]),(.ret,[(6,.v .bool)])]
 run:=Ao n
def C_22:Cx:=cx0 tt [(37,E_21),(71,E_19),(72,E_20)] [(4,S_22L4 Af)] 3
def B_22L4:Code:=(Try.f33.body.bind (Yag 4)).getD .skip
def D_22:Code:=Try.f33.body.getD .skip
def N_22 (_:XK E_22.params) (r:YH E_22.results):E_22.B:=r
def E_23:Entry where
 params:= [.v y0,.v y0]
 results:= [.v .bool]
 B:=Bool
 run:=λa=>Bq a.1 a.2
 out:=λb=>((),())
 res:=λb=>b
def S_23L4 (n:Nat):LoopSpec where
 sh:= [(1,.v y0),(12,.v y0),(13,.v .int),(14,.v .int)]
 ex:= [(.exit 0,[]),(.ret,[(4,.v .bool)])]
 run:=Ax n
def C_23:Cx:=cx0 tt [] [(4,S_23L4 Af)] 2
def B_23L4:Code:=(Try.f73.body.bind (Yag 4)).getD .skip
def D_23:Code:=Try.f73.body.getD .skip
def N_23 (_:XK E_23.params) (r:YH E_23.results):E_23.B:=r
def E_24:Entry where
 params:= [.mv y0 1]
 results:= [.mv y0 1]
 B:=List (List Int)
 run:=λa=>Bf a
 out:=λb=>()
 res:=λb=>b
def D_24:Code:=Try.f38.body.getD .skip
def E_25:Entry where
 params:= [.v .int,.v y0,.v y0,.bx (.mv y0 1)]
 results:= []
 B:=(List (List Int))
 run:=λa=>A9 a.1 a.2.1 a.2.2.1 a.2.2.2
 out:=λb=>((),(),(),b)
 res:=λb=>()
def C_25:Cx where
 tt:=YaU tt
 T:=Ygp []
 L:=Ygo []
 dep:=λi=>match i with
  |18=>1
  |19=>1
  |_=>0
 n:=4
def D_25:Code:=Try.f35.body.getD .skip
def N_25 (o:XK E_25.params) (_:YH E_25.results):E_25.B:=o.2.2.2
def E_26:Entry where
 params:= [.v .int,.v y1,.bx (.mv y0 1)]
 results:= []
 cod:= [(2,.cl 35)]
 B:=(List (List Int))
 run:=λa=>Ap a.1 a.2.1 a.2.2
 out:=λb=>((),(),b)
 res:=λb=>()
def S_26L7 (n:Nat):LoopSpec where
 sh:= [(0,.v .int),(1,.v y1),(2,.bx (.mv y0 1)),(6,.v .int),(7,.v .int),(8,.v .int),(9,.mv y0 0)]
 ex:= [(.exit 4,[(0,.v .int),(1,.v y1),(2,.bx (.mv y0 1)),(6,.v .int),(8,.v .int),(9,.mv y0 0)])]
 run:=Aa n
def S_26L15 (n:Nat):LoopSpec where
 sh:= [(655434,.jk 1),(655440,.jk 1),(0,.v .int),(1,.v y1),(2,.bx (.mv y0 1)),(6,.v .int),(8,.v .int),(9,.mv y0 0),(11,.v y0),(75,.v .int),(76,.v .int),(81,.v .int),(82,.v .int)]
 ex:= [(.exit 8,[(655434,.jk 1),(0,.v .int),(1,.v y1),(2,.bx (.mv y0 1)),(6,.v .int),(8,.v .int),(9,.mv y0 0),(75,.v .int),(76,.v .int)])]
 run:=Ac n
def S_26L12 (n:Nat):LoopSpec where
 sh:= [(655434,.jk 1),(0,.v .int),(1,.v y1),(2,.bx (.mv y0 1)),(6,.v .int),(8,.v .int),(9,.mv y0 0),(75,.v .int),(76,.v .int)]
 ex:= [(.exit 6,[(0,.v .int),(1,.v y1),(2,.bx (.mv y0 1)),(6,.v .int),(8,.v .int)])]
 run:=Ab n
def S_26L4 (n:Nat):LoopSpec where
 sh:= [(0,.v .int),(1,.v y1),(2,.bx (.mv y0 1)),(6,.v .int),(7,.v .int)]
 ex:= [(.exit 2,[(0,.v .int),(1,.v y1),(2,.bx (.mv y0 1)),(6,.v .int)])]
 run:=Ae n
def S_26L1 (n:Nat):LoopSpec where
 sh:= [(0,.v .int),(1,.v y1),(2,.bx (.mv y0 1)),(6,.v .int)]
 ex:= [(.exit 0,[(2,.bx (.mv y0 1))])]
 run:=Ad n
def C_26:Cx where
 tt:=YaU tt
 T:=Ygp [(35,E_25),(73,E_23)]
 L:=Ygo [(7,S_26L7 Af),(15,S_26L15 Af),(12,S_26L12 Af),(4,S_26L4 Af),(1,S_26L1 Af)]
 dep:=λi=>0
 n:=3
 cod:= [(2,.cl 35)]
def B_26L7:Code:=(Try.f34.body.bind (Yag 7)).getD .skip
def B_26L15:Code:=(Try.f34.body.bind (Yag 15)).getD .skip
def B_26L12:Code:=(Try.f34.body.bind (Yag 12)).getD .skip
def B_26L4:Code:=(Try.f34.body.bind (Yag 4)).getD .skip
def B_26L1:Code:=(Try.f34.body.bind (Yag 1)).getD .skip
def D_26:Code:=Try.f34.body.getD .skip
def N_26 (o:XK E_26.params) (_:YH E_26.results):E_26.B:=o.2.2
def E_27:Entry where
 params:= [.io y0 1,.v (.fn 37)]
 results:= []
 B:=List (List Int)
 run:=λa=>An a.1 a.2
 out:=λb=>(b,())
 res:=λb=>()
def D_27:Code:=Try.f36.body.getD .skip
def E_28:Entry where
 params:= [.v .int,.v .int,.v y1]
 results:= [.mv y0 1,.v .bool]
 B:=(List (List Int))×Bool
 run:=λa=>Be a.1 a.2.1 a.2.2
 out:=λb=>((),(),())
 res:=λb=>(b.1,b.2)
def C_28:Cx where
 tt:=YaU tt
 T:=Ygp [(33,E_22),(38,E_24),(2359330,E_26),(2490404,E_27)]
 L:=Ygo []
 dep:=λi=>match i with
  |14=>1
  |15=>1
  |_=>0
 n:=3
def D_28:Code:=Try.f10.body.getD .skip
def N_28 (_:XK E_28.params) (r:YH E_28.results):E_28.B:=(r.1,r.2)
def E_29:Entry where
 params:= [.v y0,.v y0]
 results:= [.v .bool]
 B:=Bool
 run:=λa=>BI a.1 a.2
 out:=λb=>((),())
 res:=λb=>b
def S_29L4 (n:Nat):LoopSpec where
 sh:= [(0,.v y0),(1,.v y0),(5,.v .int)]
 ex:= [(.exit 0,[]),(.ret,[(4,.v .bool)])]
 run:=AK n
def C_29:Cx:=cx0 tt [] [(4,S_29L4 Af)] 2
def B_29L4:Code:=(Try.f39.body.bind (Yag 4)).getD .skip
def D_29:Code:=Try.f39.body.getD .skip
def N_29 (_:XK E_29.params) (r:YH E_29.results):E_29.B:=r
def E_30:Entry where
 params:= [.v y1,.v y1]
 results:= [.v .bool]
 B:=Bool
 run:=λa=>AO a.1 a.2
 out:=λb=>((),())
 res:=λb=>b
def S_30L4 (n:Nat):LoopSpec where
 sh:= [(0,.v y1),(1,.v y1),(5,.v .int)]
 ex:= [(.exit 0,[]),(.ret,[(4,.v .bool)])]
 run:=AF n
def C_30:Cx:=cx0 tt [(39,E_29)] [(4,S_30L4 Af)] 2
def B_30L4:Code:=(Try.f11.body.bind (Yag 4)).getD .skip
def D_30:Code:=Try.f11.body.getD .skip
def N_30 (_:XK E_30.params) (r:YH E_30.results):E_30.B:=r
def E_31:Entry where
 params:= [.io .int 0,.v .int]
 results:= [.v .int]
 B:=(List Int)×Int
 run:=λa=>Bs a.1 a.2
 out:=λb=>(b.1,())
 res:=λb=>b.2
def S_31L2 (n:Nat):LoopSpec where
 sh:= [(0,.io .int 0),(1,.v .int),(5,.v .int)]
 ex:= [(.exit 0,[(0,.io .int 0),(1,.v .int)])]
 run:=Az n
def C_31:Cx:=cx0 tt [] [(2,S_31L2 Af)] 2
def B_31L2:Code:=(Try.f40.body.bind (Yag 2)).getD .skip
def D_31:Code:=Try.f40.body.getD .skip
def N_31 (o:XK E_31.params) (r:YH E_31.results):E_31.B:=(o.1,r)
def E_32:Entry where
 params:= [.io y0 1,.v .int]
 results:= [.v .int]
 B:=(List (List Int))×Int
 run:=λa=>AU a.1 a.2
 out:=λb=>(b.1,())
 res:=λb=>b.2
def S_32L2 (n:Nat):LoopSpec where
 sh:= [(0,.io y0 1),(1,.v .int),(5,.v .int)]
 ex:= [(.exit 0,[(0,.io y0 1),(1,.v .int)])]
 run:=Aw n
def C_32:Cx:=cx0 tt [(40,E_31)] [(2,S_32L2 Af)] 2
def B_32L2:Code:=(Try.f12.body.bind (Yag 2)).getD .skip
def D_32:Code:=Try.f12.body.getD .skip
def N_32 (o:XK E_32.params) (r:YH E_32.results):E_32.B:=(o.1,r)
def E_33:Entry where
 params:= [.v y0,.v .int]
 results:= [.v .int]
 B:=Int
 run:=λa=>AZ a.1 a.2
 out:=λb=>((),())
 res:=λb=>b
def S_33L2 (n:Nat):LoopSpec where
 sh:= [(0,.v y0),(1,.v .int),(5,.v .int)]
 ex:= [(.exit 0,[(1,.v .int)]),(.ret,[(4,.v .int)])]
 run:=Ay n
def C_33:Cx:=cx0 tt [] [(2,S_33L2 Af)] 2
def B_33L2:Code:=(Try.f41.body.bind (Yag 2)).getD .skip
def D_33:Code:=Try.f41.body.getD .skip
def N_33 (_:XK E_33.params) (r:YH E_33.results):E_33.B:=r
def E_34:Entry where
 params:= [.v y1,.v .int]
 results:= [.v .int]
 B:=Int
 run:=λa=>AT a.1 a.2
 out:=λb=>((),())
 res:=λb=>b
def S_34L2 (n:Nat):LoopSpec where
 sh:= [(0,.v y1),(1,.v .int),(5,.v .int)]
 ex:= [(.exit 0,[(1,.v .int)]),(.ret,[(4,.v .int)])]
 run:=Av n
def C_34:Cx:=cx0 tt [(41,E_33)] [(2,S_34L2 Af)] 2
def B_34L2:Code:=(Try.f13.body.bind (Yag 2)).getD .skip
def D_34:Code:=Try.f13.body.getD .skip
def N_34 (_:XK E_34.params) (r:YH E_34.results):E_34.B:=r
def E_35:Entry where
 params:= [.v .int,.v .int,.v y1]
 results:= [.v .bool]
 B:=Bool
 run:=λa=>Bc a.1 a.2.1 a.2.2
 out:=λb=>((),(),())
 res:=λb=>b
def C_35:Cx:=cx0 tt [(7,E_2),(8,E_18),(9,E_4),(10,E_28),(11,E_30),(12,E_32),(13,E_34)] [] 3
def D_35:Code:=Try.f3.body.getD .skip
def N_35 (_:XK E_35.params) (r:YH E_35.results):E_35.B:=r
end
end T
