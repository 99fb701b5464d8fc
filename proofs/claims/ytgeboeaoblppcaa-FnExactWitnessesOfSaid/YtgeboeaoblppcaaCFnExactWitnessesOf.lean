/- Contexts of the typed functions; no conditions. -/
import Derived.Test.YtgeboeaoblppcaaV5
import Derived.Test.YtgeboeaoblppcaaProg
import Derived.Test.YtgeboeaoblppcaaPFnExactWitnessesOf
import Derived.KernelRfl
set_option linter.all false
set_option linter.unusedVariables false
set_option maxRecDepth 10000
open Go Go.Va Go.Proofs
namespace T
noncomputable section
abbrev y0:Ty:= .slice .int
abbrev y1:Ty:= .slice y0
def tt:List (Nat×TI):= [
 (2,{ ty:= .int }),
 (3,{ ty:= .int }),
 (4,{ ty:= .bool }),
 (22,{ ty:=y0,elem:=3 }),
 (25,{ ty:=y1,elem:=22 }),
 (59,{ ty:=(.smap (.ab 3)),elem:=61 }),
 (61,{ ty:=(.pair .int (.pair .int .int)),fields:= [3,3,3],arr:=true }),
 (64,{ ty:=(.op false) })]
theorem tabT:Yif Try.prog tt=true:=by kernel_rfl
theorem mixT:Try.prog.follows .mixedOrders=true:=by kernel_rfl
def E_1:Entry where
 params:= [.v y0,.v .int]
 results:= [.v .int]
 B:=Int
 run:=λa=>AY a.1 a.2
 out:=λb=>((),())
 res:=λb=>b
def C_1:Cx:=cx0 tt [] [] 2
def D_1:Code:=Try.f28.body.getD .skip
def N_1 (_:XK E_1.params) (r:YH E_1.results):E_1.B:=r
def E_2:Entry where
 params:= [.v y1,.v .int]
 results:= [.v .int]
 B:=Int
 run:=λa=>By a.1 a.2
 out:=λb=>((),())
 res:=λb=>b
def S_2L5 (n:Nat):LoopSpec where
 sh:= [(0,.v y1),(1,.v .int),(5,.v .int)]
 ex:= [(.exit 0,[(1,.v .int)]),(.ret,[(4,.v .int)])]
 run:=AJ n
def C_2:Cx:=cx0 tt [(28,E_1)] [(5,S_2L5 Af)] 2
def B_2L5:Code:=(Try.f7.body.bind (Yag 5)).getD .skip
def D_2:Code:=Try.f7.body.getD .skip
def N_2 (_:XK E_2.params) (r:YH E_2.results):E_2.B:=r
def E_3:Entry where
 params:= [.v y0]
 results:= [.mv .int 0]
 B:=(List Int)
 run:=λa=>BL a
 out:=λb=>()
 res:=λb=>b
def S_3L3 (n:Nat):LoopSpec where
 sh:= [(0,.v y0),(3,.mv .int 0),(4,.v .int)]
 ex:= [(.exit 0,[(3,.mv .int 0)])]
 run:=AN n
def C_3:Cx:=cx0 tt [] [(3,S_3L3 Af)] 1
def B_3L3:Code:=(Try.f32.body.bind (Yag 3)).getD .skip
def D_3:Code:=Try.f32.body.getD .skip
def N_3 (_:XK E_3.params) (r:YH E_3.results):E_3.B:=r
def E_4:Entry where
 params:= [.v y1]
 results:= [.mv y0 1]
 B:=(List (List Int))
 run:=λa=>AT a
 out:=λb=>()
 res:=λb=>b
def S_4L3 (n:Nat):LoopSpec where
 sh:= [(0,.v y1),(3,.mv y0 1),(4,.v .int)]
 ex:= [(.exit 0,[(3,.mv y0 1)])]
 run:=AK n
def C_4:Cx where
 tt:=YaU tt
 T:=Ygp [(32,E_3)]
 L:=Ygo [(3,S_4L3 Af)]
 dep:=λi=>match i with
  |7=>1
  |_=>0
 n:=1
def B_4L3:Code:=(Try.f10.body.bind (Yag 3)).getD .skip
def D_4:Code:=Try.f10.body.getD .skip
def N_4 (_:XK E_4.params) (r:YH E_4.results):E_4.B:=r
def E_5:Entry where
 params:= [.v .int,.v .int,.v .int]
 results:= [.v .bool]
 B:=Bool
 run:=λa=>Bx a.1 a.2.1 a.2.2
 out:=λb=>((),(),())
 res:=λb=>b
def C_5:Cx:=cx0 tt [] [] 3
def D_5:Code:=Try.f59.body.getD .skip
def N_5 (_:XK E_5.params) (r:YH E_5.results):E_5.B:=r
def E_6:Entry where
 params:= [.v .int]
 results:= [.v .bool]
 B:=Bool
 run:=λa=>BS a
 out:=λb=>()
 res:=λb=>b
def C_6:Cx:=cx0 tt [(59,E_5)] [] 1
def D_6:Code:=Try.f55.body.getD .skip
def N_6 (_:XK E_6.params) (r:YH E_6.results):E_6.B:=r
def E_7:Entry where
 params:= [.v .int,.v .int]
 results:= [.v .int]
 B:=Int
 run:=λa=>B3 a.1 a.2
 out:=λb=>((),())
 res:=λb=>b
def S_7L2 (n:Nat):LoopSpec where
 sh:= [(0,.v .int),(1,.v .int),(5,.v .int)]
 ex:= [(.exit 0,[(5,.v .int)])]
 run:=Bg n
def C_7:Cx:=cx0 tt [] [(2,S_7L2 Af)] 2
def B_7L2:Code:=(Try.f60.body.bind (Yag 2)).getD .skip
def D_7:Code:=Try.f60.body.getD .skip
def N_7 (_:XK E_7.params) (r:YH E_7.results):E_7.B:=r
def E_8:Entry where
 params:= [.v .int,.v y0]
 results:= [.v .bool]
 B:=Bool
 run:=λa=>Bj a.1 a.2
 out:=λb=>((),())
 res:=λb=>b
def S_8L2 (n:Nat):LoopSpec where
 sh:= [(0,.v .int),(1,.v y0),(5,.v .int)]
 ex:= [(.exit 0,[]),(.ret,[(4,.v .bool)])]
 run:=Aw n
def C_8:Cx:=cx0 tt [(59,E_5)] [(2,S_8L2 Af)] 2
def B_8L2:Code:=(Try.f91.body.bind (Yag 2)).getD .skip
def D_8:Code:=Try.f91.body.getD .skip
def N_8 (_:XK E_8.params) (r:YH E_8.results):E_8.B:=r
def E_9:Entry where
 params:= [.v .int,.v .int,.v y0]
 results:= [.v .bool]
 B:=Bool
 run:=λa=>BD a.1 a.2.1 a.2.2
 out:=λb=>((),(),())
 res:=λb=>b
def C_9:Cx:=cx0 tt [(91,E_8)] [] 3
def D_9:Code:=Try.f61.body.getD .skip
def N_9 (_:XK E_9.params) (r:YH E_9.results):E_9.B:=r
def E_10:Entry where
 params:= [.v y0,.v y0]
 results:= [.v .bool]
 B:=Bool
 run:=λa=>BQ a.1 a.2
 out:=λb=>((),())
 res:=λb=>b
def S_10L2 (n:Nat):LoopSpec where
 sh:= [(0,.v y0),(1,.v y0),(5,.v .int)]
 ex:= [(.exit 0,[]),(.ret,[(4,.v .bool)])]
 run:=AQ n
def C_10:Cx:=cx0 tt [] [(2,S_10L2 Af)] 2
def B_10L2:Code:=(Try.f62.body.bind (Yag 2)).getD .skip
def D_10:Code:=Try.f62.body.getD .skip
def N_10 (_:XK E_10.params) (r:YH E_10.results):E_10.B:=r
def E_11:Entry where
 params:= [.v .int,.v .int,.v y1]
 results:= [.v .bool]
 B:=Bool
 run:=λa=>BP a.1 a.2.1 a.2.2
 out:=λb=>((),(),())
 res:=λb=>b
def S_11L4 (n:Nat):LoopSpec where
 sh:= [(0,.v .int),(1,.v .int),(2,.v y1),(7,.v .int)]
 ex:= [(.exit 0,[]),(.ret,[(6,.v .bool)])]
 run:=AF n
def C_11:Cx:=cx0 tt [(55,E_6),(59,E_5),(60,E_7),(61,E_9),(62,E_10)] [(4,S_11L4 Af)] 3
def B_11L4:Code:=(Try.f29.body.bind (Yag 4)).getD .skip
def D_11:Code:=Try.f29.body.getD .skip
def N_11 (_:XK E_11.params) (r:YH E_11.results):E_11.B:=r
def E_12:Entry where
 params:= [.v y0,.v y0]
 results:= [.v .bool]
 B:=Bool
 run:=λa=>Bt a.1 a.2
 out:=λb=>((),())
 res:=λb=>b
def S_12L4 (n:Nat):LoopSpec where
 sh:= [(0,.v y0),(1,.v y0),(5,.v .int)]
 ex:= [(.exit 0,[]),(.ret,[(4,.v .bool)])]
 run:=AP n
def C_12:Cx:=cx0 tt [] [(4,S_12L4 Af)] 2
def B_12L4:Code:=(Try.f93.body.bind (Yag 4)).getD .skip
def D_12:Code:=Try.f93.body.getD .skip
def N_12 (_:XK E_12.params) (r:YH E_12.results):E_12.B:=r
def E_13:Entry where
 params:= [.v y1,.v .int,.v .int,.v .int]
 results:= [.v .int,.v .int,.v .bool]
 B:=Int×Int×Bool
 run:=λa=>BB a.1 a.2.1 a.2.2.1 a.2.2.2
 out:=λb=>((),(),(),())
 res:=λb=>(b.1,b.2.1,b.2.2)
def S_13L5 (n:Nat):LoopSpec where
 sh:= [(0,.v y1),(1,.v .int),(2,.v .int),(3,.v .int),(11,.v .int),(12,.v .int)]
 ex:= [(.exit 2,[(0,.v y1),(1,.v .int),(2,.v .int),(3,.v .int),(11,.v .int)]),(.ret,[(8,.v .int),(9,.v .int),(10,.v .bool)])]
 run:=Ak n
def S_13L2 (n:Nat):LoopSpec where
 sh:= [(0,.v y1),(1,.v .int),(2,.v .int),(3,.v .int),(11,.v .int)]
 ex:= [(.exit 0,[]),(.ret,[(8,.v .int),(9,.v .int),(10,.v .bool)])]
 run:=Ax n
def C_13:Cx:=cx0 tt [(93,E_12)] [(5,S_13L5 Af),(2,S_13L2 Af)] 4
def B_13L5:Code:=(Try.f73.body.bind (Yag 5)).getD .skip
def B_13L2:Code:=(Try.f73.body.bind (Yag 2)).getD .skip
def D_13:Code:=Try.f73.body.getD .skip
def N_13 (_:XK E_13.params) (r:YH E_13.results):E_13.B:=(r.1,r.2.1,r.2.2)
def E_14:Entry where
 params:= [.v y0]
 results:= [.mv .int 0]
 B:=(List Int)
 run:=λa=>BA a
 out:=λb=>()
 res:=λb=>b
def C_14:Cx:=cx0 tt [] [] 1
def D_14:Code:=Try.f64.body.getD .skip
def N_14 (_:XK E_14.params) (r:YH E_14.results):E_14.B:=r
def E_15:Entry where
 params:= [.v y1,.v y0]
 results:= [.v .int,.v .bool]
 B:=Int×Bool
 run:=λa=>BT a.1 a.2
 out:=λb=>((),())
 res:=λb=>(b.1,b.2)
def S_15L2 (n:Nat):LoopSpec where
 sh:= [(0,.v y1),(1,.v y0),(6,.v .int),(7,.v .int)]
 ex:= [(.exit 0,[(0,.v y1),(1,.v y0),(6,.v .int)])]
 run:=AG n
def C_15:Cx:=cx0 tt [(62,E_10),(93,E_12)] [(2,S_15L2 Af)] 2
def B_15L2:Code:=(Try.f66.body.bind (Yag 2)).getD .skip
def D_15:Code:=Try.f66.body.getD .skip
def N_15 (_:XK E_15.params) (r:YH E_15.results):E_15.B:=(r.1,r.2)
def E_16:Entry where
 params:= [.v y1,.v y0]
 results:= [.v y1]
 B:=(List (List Int))
 run:=λa=>BC a.1 a.2
 out:=λb=>((),())
 res:=λb=>b
def C_16:Cx:=cx0 tt [(66,E_15)] [] 2
def D_16:Code:=Try.f67.body.getD .skip
def N_16 (_:XK E_16.params) (r:YH E_16.results):E_16.B:=r
def E_17:Entry where
 params:= [.v .int,.v .int,.v y1]
 results:= [.mv y0 0,.v y1]
 B:=(List (List Int))×(List (List Int))
 run:=λa=>Bw a.1 a.2.1 a.2.2
 out:=λb=>((),(),())
 res:=λb=>(b.1,b.2)
def S_17L9 (n:Nat):LoopSpec where
 sh:= [(0,.v .int),(1,.v .int),(2,.v y1),(8,.mv y0 0),(9,.v y1),(10,.v .int),(11,.v .int),(12,.v .int)]
 ex:= [(.exit 4,[(0,.v .int),(1,.v .int),(2,.v y1),(8,.mv y0 0),(9,.v y1),(10,.v .int),(11,.v .int)])]
 run:=An n
def S_17L6 (n:Nat):LoopSpec where
 sh:= [(0,.v .int),(1,.v .int),(2,.v y1),(8,.mv y0 0),(9,.v y1),(10,.v .int),(11,.v .int)]
 ex:= [(.exit 2,[(0,.v .int),(1,.v .int),(2,.v y1),(8,.mv y0 0),(9,.v y1),(10,.v .int)])]
 run:=Av n
def S_17L3 (n:Nat):LoopSpec where
 sh:= [(0,.v .int),(1,.v .int),(2,.v y1),(8,.mv y0 0),(9,.v y1),(10,.v .int)]
 ex:= [(.exit 0,[(8,.mv y0 0),(9,.v y1)])]
 run:=Au n
def C_17:Cx:=cx0 tt [(64,E_14),(67,E_16),(73,E_13)] [(9,S_17L9 Af),(6,S_17L6 Af),(3,S_17L3 Af)] 3
def B_17L9:Code:=(Try.f38.body.bind (Yag 9)).getD .skip
def B_17L6:Code:=(Try.f38.body.bind (Yag 6)).getD .skip
def B_17L3:Code:=(Try.f38.body.bind (Yag 3)).getD .skip
def D_17:Code:=Try.f38.body.getD .skip
def N_17 (_:XK E_17.params) (r:YH E_17.results):E_17.B:=(r.1,r.2)
def E_18:Entry where
 params:= [.v .int,.v .int,.v y1]
 results:= [.v y1,.v .bool]
 B:=(List (List Int))×Bool
 run:=λa=>Bc a.1 a.2.1 a.2.2
 out:=λb=>((),(),())
 res:=λb=>(b.1,b.2)
def C_18:Cx:=cx0 tt [(29,E_11),(38,E_17)] [] 3
def D_18:Code:=Try.f17.body.getD .skip
def N_18 (_:XK E_18.params) (r:YH E_18.results):E_18.B:=(r.1,r.2)
def E_19:Entry where
 params:= [.v .int]
 results:= [.v .bool]
 B:=Bool
 run:=λa=>BJ a
 out:=λb=>()
 res:=λb=>b
def C_19:Cx:=cx0 tt [] [] 1
def D_19:Code:=Try.f48.body.getD .skip
def N_19 (_:XK E_19.params) (r:YH E_19.results):E_19.B:=r
def E_20:Entry where
 params:= [.v y0,.v .int]
 results:= [.v .bool]
 B:=Bool
 run:=λa=>BI a.1 a.2
 out:=λb=>((),())
 res:=λb=>b
def S_20L2 (n:Nat):LoopSpec where
 sh:= [(1,.v .int),(7,.v y0),(8,.v .int),(9,.v .int)]
 ex:= [(.exit 0,[]),(.ret,[(4,.v .bool)])]
 run:=AL n
def C_20:Cx:=cx0 tt [] [(2,S_20L2 Af)] 2
def B_20L2:Code:=(Try.f71.body.bind (Yag 2)).getD .skip
def D_20:Code:=Try.f71.body.getD .skip
def N_20 (_:XK E_20.params) (r:YH E_20.results):E_20.B:=r
def E_21:Entry where
 params:= [.v y0,.v y0]
 results:= [.v .int]
 B:=Int
 run:=λa=>Bn a.1 a.2
 out:=λb=>((),())
 res:=λb=>b
def S_21L2 (n:Nat):LoopSpec where
 sh:= [(0,.v y0),(1,.v y0),(5,.v .int)]
 ex:= [(.exit 0,[(0,.v y0),(1,.v y0)]),(.ret,[(4,.v .int)])]
 run:=Am n
def C_21:Cx:=cx0 tt [] [(2,S_21L2 Af)] 2
def B_21L2:Code:=(Try.f47.body.bind (Yag 2)).getD .skip
def D_21:Code:=Try.f47.body.getD .skip
def N_21 (_:XK E_21.params) (r:YH E_21.results):E_21.B:=r
def E_22:Entry where
 params:= [.v .int,.v .int,.v y1]
 results:= [.v .bool]
 B:=Bool
 run:=λa=>Bi a.1 a.2.1 a.2.2
 out:=λb=>((),(),())
 res:=λb=>b
def S_22L4 (n:Nat):LoopSpec where
 sh:= [(0,.v .int),(1,.v .int),(2,.v y1),(20,.v y1),(21,.v .int),(22,.v .int)]
 ex:= [(.exit 0,[]),(.ret,[(6,.v .bool)])]
 run:=Aq n
def C_22:Cx:=cx0 tt [(47,E_21),(48,E_19),(71,E_20)] [(4,S_22L4 Af)] 3
def B_22L4:Code:=(Try.f33.body.bind (Yag 4)).getD .skip
def D_22:Code:=Try.f33.body.getD .skip
def N_22 (_:XK E_22.params) (r:YH E_22.results):E_22.B:=r
def E_23:Entry where
 params:= [.v y0,.v y0]
 results:= [.v .bool]
 B:=Bool
 run:=λa=>Bu a.1 a.2
 out:=λb=>((),())
 res:=λb=>b
def S_23L4 (n:Nat):LoopSpec where
 sh:= [(1,.v y0),(12,.v y0),(13,.v .int),(14,.v .int)]
 ex:= [(.exit 0,[]),(.ret,[(4,.v .bool)])]
 run:=AA n
def C_23:Cx:=cx0 tt [] [(4,S_23L4 Af)] 2
def B_23L4:Code:=(Try.f74.body.bind (Yag 4)).getD .skip
def D_23:Code:=Try.f74.body.getD .skip
def N_23 (_:XK E_23.params) (r:YH E_23.results):E_23.B:=r
def E_24:Entry where
 params:= [.v y0]
 results:= [.mv .int 0]
 B:=(List Int)
 run:=λa=>BZ a
 out:=λb=>()
 res:=λb=>b
def C_24:Cx:=cx0 tt [] [] 1
def D_24:Code:=Try.f82.body.getD .skip
def N_24 (_:XK E_24.params) (r:YH E_24.results):E_24.B:=r
def E_25:Entry where
 params:= [.v y1]
 results:= [.mv y0 1]
 B:=(List (List Int))
 run:=λa=>Bk a
 out:=λb=>()
 res:=λb=>b
def S_25L3 (n:Nat):LoopSpec where
 sh:= [(3,.mv y0 1),(7,.v y1),(8,.v .int),(9,.v .int)]
 ex:= [(.exit 0,[(3,.mv y0 1)])]
 run:=As n
def C_25:Cx where
 tt:=YaU tt
 T:=Ygp [(82,E_24)]
 L:=Ygo [(3,S_25L3 Af)]
 dep:=λi=>match i with
  |6=>1
  |16=>1
  |17=>1
  |_=>0
 n:=1
def B_25L3:Code:=(Try.f75.body.bind (Yag 3)).getD .skip
def D_25:Code:=Try.f75.body.getD .skip
def N_25 (_:XK E_25.params) (r:YH E_25.results):E_25.B:=r
def E_26:Entry where
 params:= [.io y0 1,.v (.fn 47)]
 results:= []
 B:=List (List Int)
 run:=λa=>Ap a.1 a.2
 out:=λb=>(b,())
 res:=λb=>()
def D_26:Code:=Try.f46.body.getD .skip
def E_27:Entry where
 params:= [.v y1]
 results:= [.mv y0 1]
 B:=(List (List Int))
 run:=λa=>A7 a
 out:=λb=>()
 res:=λb=>b
def C_27:Cx:=cx0 tt [(75,E_25),(3145774,E_26)] [] 1
def D_27:Code:=Try.f42.body.getD .skip
def N_27 (_:XK E_27.params) (r:YH E_27.results):E_27.B:=r
def E_28:Entry where
 params:= [.mv y0 1]
 results:= [.mv y0 1]
 B:=List (List Int)
 run:=λa=>Bl a
 out:=λb=>()
 res:=λb=>b
def D_28:Code:=Try.f41.body.getD .skip
def E_29:Entry where
 params:= [.v .int,.v y0,.v y0,.bx ((.mp (.ab 3))),.bx (.mv y0 0)]
 results:= []
 B:=(List ByteArray)×(List (List Int))
 run:=λa=>AU a.1 a.2.1 a.2.2.1 a.2.2.2.1 a.2.2.2.2
 out:=λb=>((),(),(),b.1,b.2)
 res:=λb=>()
def C_29:Cx:=cx0 tt [] [] 5
def D_29:Code:=Try.f40.body.getD .skip
def N_29 (o:XK E_29.params) (_:YH E_29.results):E_29.B:=(o.2.2.2.1,o.2.2.2.2)
def E_30:Entry where
 params:= [.v .int,.v y1,.pr (.bx ((.mp (.ab 3)))) (.bx (.mv y0 0))]
 results:= []
 cod:= [(2,.cl 40)]
 B:=((List ByteArray)×(List (List Int)))
 run:=λa=>Aj a.1 a.2.1 a.2.2
 out:=λb=>((),(),b)
 res:=λb=>()
def S_30L7 (n:Nat):LoopSpec where
 sh:= [(0,.v .int),(1,.v y1),(2,.pr (.bx ((.mp (.ab 3)))) (.bx (.mv y0 0))),(6,.v .int),(7,.v .int),(8,.v .int),(9,.mv y0 0)]
 ex:= [(.exit 4,[(0,.v .int),(1,.v y1),(2,.pr (.bx ((.mp (.ab 3)))) (.bx (.mv y0 0))),(6,.v .int),(8,.v .int),(9,.mv y0 0)])]
 run:=Aa n
def S_30L15 (n:Nat):LoopSpec where
 sh:= [(655434,.jk 1),(655440,.jk 1),(0,.v .int),(1,.v y1),(2,.pr (.bx ((.mp (.ab 3)))) (.bx (.mv y0 0))),(6,.v .int),(8,.v .int),(9,.mv y0 0),(11,.v y0),(75,.v .int),(76,.v .int),(81,.v .int),(82,.v .int)]
 ex:= [(.exit 8,[(655434,.jk 1),(0,.v .int),(1,.v y1),(2,.pr (.bx ((.mp (.ab 3)))) (.bx (.mv y0 0))),(6,.v .int),(8,.v .int),(9,.mv y0 0),(75,.v .int),(76,.v .int)])]
 run:=Ae n
def S_30L12 (n:Nat):LoopSpec where
 sh:= [(655434,.jk 1),(0,.v .int),(1,.v y1),(2,.pr (.bx ((.mp (.ab 3)))) (.bx (.mv y0 0))),(6,.v .int),(8,.v .int),(9,.mv y0 0),(75,.v .int),(76,.v .int)]
 ex:= [(.exit 6,[(0,.v .int),(1,.v y1),(2,.pr (.bx ((.mp (.ab 3)))) (.bx (.mv y0 0))),(6,.v .int),(8,.v .int)])]
 run:=Ad n
def S_30L4 (n:Nat):LoopSpec where
 sh:= [(0,.v .int),(1,.v y1),(2,.pr (.bx ((.mp (.ab 3)))) (.bx (.mv y0 0))),(6,.v .int),(7,.v .int)]
 ex:= [(.exit 2,[(0,.v .int),(1,.v y1),(2,.pr (.bx ((.mp (.ab 3)))) (.bx (.mv y0 0))),(6,.v .int)])]
 run:=Ac n
def S_30L1 (n:Nat):LoopSpec where
 sh:= [(0,.v .int),(1,.v y1),(2,.pr (.bx ((.mp (.ab 3)))) (.bx (.mv y0 0))),(6,.v .int)]
 ex:= [(.exit 0,[(2,.pr (.bx ((.mp (.ab 3)))) (.bx (.mv y0 0)))])]
 run:=Ab n
def C_30:Cx where
 tt:=YaU tt
 T:=Ygp [(40,E_29),(74,E_23)]
 L:=Ygo [(7,S_30L7 Af),(15,S_30L15 Af),(12,S_30L12 Af),(4,S_30L4 Af),(1,S_30L1 Af)]
 dep:=λi=>0
 n:=3
 cod:= [(2,.cl 40)]
def B_30L7:Code:=(Try.f39.body.bind (Yag 7)).getD .skip
def B_30L15:Code:=(Try.f39.body.bind (Yag 15)).getD .skip
def B_30L12:Code:=(Try.f39.body.bind (Yag 12)).getD .skip
def B_30L4:Code:=(Try.f39.body.bind (Yag 4)).getD .skip
def B_30L1:Code:=(Try.f39.body.bind (Yag 1)).getD .skip
def D_30:Code:=Try.f39.body.getD .skip
def N_30 (o:XK E_30.params) (_:YH E_30.results):E_30.B:=o.2.2
def E_31:Entry where
 params:= [.v .int,.v .int,.v y1]
 results:= [.mv y0 1,.v .bool]
 B:=(List (List Int))×Bool
 run:=λa=>AR a.1 a.2.1 a.2.2
 out:=λb=>((),(),())
 res:=λb=>(b.1,b.2)
def C_31:Cx where
 tt:=YaU tt
 T:=Ygp [(33,E_22),(41,E_28),(42,E_27),(2687015,E_30)]
 L:=Ygo []
 dep:=λi=>match i with
  |15=>1
  |_=>0
 n:=3
def D_31:Code:=Try.f18.body.getD .skip
def N_31 (_:XK E_31.params) (r:YH E_31.results):E_31.B:=(r.1,r.2)
def E_32:Entry where
 params:= [.v y0,.v y0]
 results:= [.v .bool]
 B:=Bool
 run:=λa=>BK a.1 a.2
 out:=λb=>((),())
 res:=λb=>b
def S_32L4 (n:Nat):LoopSpec where
 sh:= [(0,.v y0),(1,.v y0),(5,.v .int)]
 ex:= [(.exit 0,[]),(.ret,[(4,.v .bool)])]
 run:=AM n
def C_32:Cx:=cx0 tt [] [(4,S_32L4 Af)] 2
def B_32L4:Code:=(Try.f35.body.bind (Yag 4)).getD .skip
def D_32:Code:=Try.f35.body.getD .skip
def N_32 (_:XK E_32.params) (r:YH E_32.results):E_32.B:=r
def E_33:Entry where
 params:= [.v y1,.v y1]
 results:= [.v .bool]
 B:=Bool
 run:=λa=>AS a.1 a.2
 out:=λb=>((),())
 res:=λb=>b
def S_33L4 (n:Nat):LoopSpec where
 sh:= [(0,.v y1),(1,.v y1),(5,.v .int)]
 ex:= [(.exit 0,[]),(.ret,[(4,.v .bool)])]
 run:=AI n
def C_33:Cx:=cx0 tt [(35,E_32)] [(4,S_33L4 Af)] 2
def B_33L4:Code:=(Try.f12.body.bind (Yag 4)).getD .skip
def D_33:Code:=Try.f12.body.getD .skip
def N_33 (_:XK E_33.params) (r:YH E_33.results):E_33.B:=r
def E_34:Entry where
 params:= [.io .int 0,.v .int]
 results:= [.v .int]
 B:=(List Int)×Int
 run:=λa=>Bv a.1 a.2
 out:=λb=>(b.1,())
 res:=λb=>b.2
def S_34L2 (n:Nat):LoopSpec where
 sh:= [(0,.io .int 0),(1,.v .int),(5,.v .int)]
 ex:= [(.exit 0,[(0,.io .int 0),(1,.v .int)])]
 run:=AC n
def C_34:Cx:=cx0 tt [] [(2,S_34L2 Af)] 2
def B_34L2:Code:=(Try.f36.body.bind (Yag 2)).getD .skip
def D_34:Code:=Try.f36.body.getD .skip
def N_34 (o:XK E_34.params) (r:YH E_34.results):E_34.B:=(o.1,r)
def E_35:Entry where
 params:= [.io y0 1,.v .int]
 results:= [.v .int]
 B:=(List (List Int))×Int
 run:=λa=>A9 a.1 a.2
 out:=λb=>(b.1,())
 res:=λb=>b.2
def S_35L2 (n:Nat):LoopSpec where
 sh:= [(0,.io y0 1),(1,.v .int),(5,.v .int)]
 ex:= [(.exit 0,[(0,.io y0 1),(1,.v .int)])]
 run:=Az n
def C_35:Cx:=cx0 tt [(36,E_34)] [(2,S_35L2 Af)] 2
def B_35L2:Code:=(Try.f15.body.bind (Yag 2)).getD .skip
def D_35:Code:=Try.f15.body.getD .skip
def N_35 (o:XK E_35.params) (r:YH E_35.results):E_35.B:=(o.1,r)
def E_36:Entry where
 params:= [.v y0,.v .int]
 results:= [.v .int]
 B:=Int
 run:=λa=>Bf a.1 a.2
 out:=λb=>((),())
 res:=λb=>b
def S_36L2 (n:Nat):LoopSpec where
 sh:= [(0,.v y0),(1,.v .int),(5,.v .int)]
 ex:= [(.exit 0,[(1,.v .int)]),(.ret,[(4,.v .int)])]
 run:=AB n
def C_36:Cx:=cx0 tt [] [(2,S_36L2 Af)] 2
def B_36L2:Code:=(Try.f37.body.bind (Yag 2)).getD .skip
def D_36:Code:=Try.f37.body.getD .skip
def N_36 (_:XK E_36.params) (r:YH E_36.results):E_36.B:=r
def E_37:Entry where
 params:= [.v y1,.v .int]
 results:= [.v .int]
 B:=Int
 run:=λa=>A8 a.1 a.2
 out:=λb=>((),())
 res:=λb=>b
def S_37L2 (n:Nat):LoopSpec where
 sh:= [(0,.v y1),(1,.v .int),(5,.v .int)]
 ex:= [(.exit 0,[(1,.v .int)]),(.ret,[(4,.v .int)])]
 run:=Ay n
def C_37:Cx:=cx0 tt [(37,E_36)] [(2,S_37L2 Af)] 2
def B_37L2:Code:=(Try.f16.body.bind (Yag 2)).getD .skip
def D_37:Code:=Try.f16.body.getD .skip
def N_37 (_:XK E_37.params) (r:YH E_37.results):E_37.B:=r
def E_38:Entry where
 params:= [.v .int,.v .int,.v y1]
 results:= [.v .bool]
 B:=Bool
 run:=λa=>AX a.1 a.2.1 a.2.2
 out:=λb=>((),(),())
 res:=λb=>b
def C_38:Cx:=cx0 tt [(7,E_2),(10,E_4),(12,E_33),(15,E_35),(16,E_37),(17,E_18),(18,E_31)] [] 3
def D_38:Code:=Try.f4.body.getD .skip
def N_38 (_:XK E_38.params) (r:YH E_38.results):E_38.B:=r
end
end T
