/- Contexts of the typed functions; no conditions. -/
import Derived.Test.YtbfbcfnbcbdgjacV5
import Derived.Test.YtbfbcfnbcbdgjacProg
import Derived.Test.YtbfbcfnbcbdgjacPFnExactLinearSolutions
import Derived.KernelRfl
set_option linter.all false
set_option linter.unusedVariables false
set_option maxRecDepth 10000
open Go Go.Va Go.Proofs
namespace T
noncomputable section
abbrev y0:Ty:= .slice .int
abbrev y1:Ty:= .slice y0
abbrev y2:Ty:= .pair .int (.pair .int (.pair y1 (.pair .int y0)))
abbrev y3:Ty:= .pair .int (.pair .int y1)
abbrev y4:Ty:= .pair y1 (.pair y0 y1)
def tt:List (Nat×TI):= [
 (2,{ ty:= .int }),
 (3,{ ty:= .int }),
 (4,{ ty:= .bool }),
 (22,{ ty:=y1,elem:=51 }),
 (24,{ ty:=y3,fields:= [3,3,22] }),
 (28,{ ty:=y3,fields:= [3,3,22] }),
 (51,{ ty:=y0,elem:=3 }),
 (56,{ ty:=y4,fields:= [22,51,22] }),
 (67,{ ty:=(.op false) }),
 (81,{ ty:=y2,fields:= [3,3,22,3,51] })]
theorem tabT:Yif Try.prog tt=true:=by kernel_rfl
theorem mixT:Try.prog.follows .mixedOrders=true:=by kernel_rfl
def E_1:Entry where
 params:= [.v y0,.v .int]
 results:= [.v .int]
 B:=Int
 run:=λa=>BJ a.1 a.2
 out:=λb=>((),())
 res:=λb=>b
def C_1:Cx:=cx0 tt [] [] 2
def D_1:Code:=Try.f50.body.getD .skip
def N_1 (_:XK E_1.params) (r:YH E_1.results):E_1.B:=r
def E_2:Entry where
 params:= [.v y1,.v .int]
 results:= [.v .int]
 B:=Int
 run:=λa=>Cz a.1 a.2
 out:=λb=>((),())
 res:=λb=>b
def S_2L5 (n:Nat):LoopSpec where
 sh:= [(0,.v y1),(1,.v .int),(5,.v .int)]
 ex:= [(.exit 0,[(1,.v .int)]),(.ret,[(4,.v .int)])]
 run:=Bl n
def C_2:Cx:=cx0 tt [(50,E_1)] [(5,S_2L5 Aa)] 2
def B_2L5:Code:=(Try.f26.body.bind (Yag 5)).getD .skip
def D_2:Code:=Try.f26.body.getD .skip
def N_2 (_:XK E_2.params) (r:YH E_2.results):E_2.B:=r
def E_3:Entry where
 params:= [.v y3,.v .int]
 results:= [.v .int]
 B:=Int
 run:=λa=>Cm a.1 a.2
 out:=λb=>((),())
 res:=λb=>b
def C_3:Cx:=cx0 tt [(26,E_2)] [] 2
def D_3:Code:=Try.f6.body.getD .skip
def N_3 (_:XK E_3.params) (r:YH E_3.results):E_3.B:=r
def E_4:Entry where
 params:= [.v y0]
 results:= [.mv .int 0]
 B:=(List Int)
 run:=λa=>CP a
 out:=λb=>()
 res:=λb=>b
def S_4L3 (n:Nat):LoopSpec where
 sh:= [(0,.v y0),(3,.mv .int 0),(4,.v .int)]
 ex:= [(.exit 0,[(3,.mv .int 0)])]
 run:=Bz n
def C_4:Cx:=cx0 tt [] [(3,S_4L3 Aa)] 1
def B_4L3:Code:=(Try.f57.body.bind (Yag 3)).getD .skip
def D_4:Code:=Try.f57.body.getD .skip
def N_4 (_:XK E_4.params) (r:YH E_4.results):E_4.B:=r
def E_5:Entry where
 params:= [.v y1]
 results:= [.mv y0 1]
 B:=(List (List Int))
 run:=λa=>CA a
 out:=λb=>()
 res:=λb=>b
def S_5L3 (n:Nat):LoopSpec where
 sh:= [(0,.v y1),(3,.mv y0 1),(4,.v .int)]
 ex:= [(.exit 0,[(3,.mv y0 1)])]
 run:=Bm n
def C_5:Cx where
 tt:=YaU tt
 T:=Ygp [(57,E_4)]
 L:=Ygo [(3,S_5L3 Aa)]
 dep:=λi=>match i with
  |7=>1
  |_=>0
 n:=1
def B_5L3:Code:=(Try.f35.body.bind (Yag 3)).getD .skip
def D_5:Code:=Try.f35.body.getD .skip
def N_5 (_:XK E_5.params) (r:YH E_5.results):E_5.B:=r
def E_6:Entry where
 params:= [.v y3]
 results:= [.pr (.v .int) (.pr (.v .int) (.mv y0 1))]
 B:=(Int×(Int×(List (List Int))))
 run:=λa=>Bp a
 out:=λb=>()
 res:=λb=>b
def C_6:Cx:=cx0 tt [(35,E_5)] [] 1
def D_6:Code:=Try.f8.body.getD .skip
def N_6 (_:XK E_6.params) (r:YH E_6.results):E_6.B:=r
def E_7:Entry where
 params:= [.v .int]
 results:= [.v .bool]
 B:=Bool
 run:=λa=>Cr a
 out:=λb=>()
 res:=λb=>b
def C_7:Cx:=cx0 tt [] [] 1
def D_7:Code:=Try.f73.body.getD .skip
def N_7 (_:XK E_7.params) (r:YH E_7.results):E_7.B:=r
def E_8:Entry where
 params:= [.v .int,.v .int,.v .int]
 results:= [.v .bool]
 B:=Bool
 run:=λa=>CY a.1 a.2.1 a.2.2
 out:=λb=>((),(),())
 res:=λb=>b
def C_8:Cx:=cx0 tt [] [] 3
def D_8:Code:=Try.f64.body.getD .skip
def N_8 (_:XK E_8.params) (r:YH E_8.results):E_8.B:=r
def E_9:Entry where
 params:= [.v .int,.v y0]
 results:= [.v .bool]
 B:=Bool
 run:=λa=>B3 a.1 a.2
 out:=λb=>((),())
 res:=λb=>b
def S_9L2 (n:Nat):LoopSpec where
 sh:= [(0,.v .int),(1,.v y0),(5,.v .int)]
 ex:= [(.exit 0,[]),(.ret,[(4,.v .bool)])]
 run:=AZ n
def C_9:Cx:=cx0 tt [(64,E_8)] [(2,S_9L2 Aa)] 2
def B_9L2:Code:=(Try.f87.body.bind (Yag 2)).getD .skip
def D_9:Code:=Try.f87.body.getD .skip
def N_9 (_:XK E_9.params) (r:YH E_9.results):E_9.B:=r
def E_10:Entry where
 params:= [.v .int,.v .int,.v y0]
 results:= [.v .bool]
 B:=Bool
 run:=λa=>CG a.1 a.2.1 a.2.2
 out:=λb=>((),(),())
 res:=λb=>b
def C_10:Cx:=cx0 tt [(87,E_9)] [] 3
def D_10:Code:=Try.f65.body.getD .skip
def N_10 (_:XK E_10.params) (r:YH E_10.results):E_10.B:=r
def E_11:Entry where
 params:= [.v .int,.v .int,.v y1]
 results:= [.v .bool]
 B:=Bool
 run:=λa=>CF a.1 a.2.1 a.2.2
 out:=λb=>((),(),())
 res:=λb=>b
def S_11L2 (n:Nat):LoopSpec where
 sh:= [(0,.v .int),(1,.v .int),(2,.v y1),(7,.v .int)]
 ex:= [(.exit 0,[]),(.ret,[(6,.v .bool)])]
 run:=Bn n
def C_11:Cx:=cx0 tt [(65,E_10)] [(2,S_11L2 Aa)] 3
def B_11L2:Code:=(Try.f74.body.bind (Yag 2)).getD .skip
def D_11:Code:=Try.f74.body.getD .skip
def N_11 (_:XK E_11.params) (r:YH E_11.results):E_11.B:=r
def E_12:Entry where
 params:= [.v y3]
 results:= [.v .bool]
 B:=Bool
 run:=λa=>Bi a
 out:=λb=>()
 res:=λb=>b
def C_12:Cx:=cx0 tt [(64,E_8),(73,E_7),(74,E_11)] [] 1
def D_12:Code:=Try.f51.body.getD .skip
def N_12 (_:XK E_12.params) (r:YH E_12.results):E_12.B:=r
def E_13:Entry where
 params:= [.v y0]
 results:= [.mv .int 0]
 B:=(List Int)
 run:=λa=>CD a
 out:=λb=>()
 res:=λb=>b
def C_13:Cx:=cx0 tt [] [] 1
def D_13:Code:=Try.f31.body.getD .skip
def N_13 (_:XK E_13.params) (r:YH E_13.results):E_13.B:=r
def E_14:Entry where
 params:= [.v .int,.v .int]
 results:= [.v .int]
 B:=Int
 run:=λa=>B2 a.1 a.2
 out:=λb=>((),())
 res:=λb=>b
def S_14L2 (n:Nat):LoopSpec where
 sh:= [(0,.v .int),(1,.v .int),(5,.v .int)]
 ex:= [(.exit 0,[(5,.v .int)])]
 run:=Cb n
def C_14:Cx:=cx0 tt [] [(2,S_14L2 Aa)] 2
def B_14L2:Code:=(Try.f76.body.bind (Yag 2)).getD .skip
def D_14:Code:=Try.f76.body.getD .skip
def N_14 (_:XK E_14.params) (r:YH E_14.results):E_14.B:=r
def E_15:Entry where
 params:= [.v .int,.v y0,.v .int]
 results:= [.mv .int 0]
 B:=(List Int)
 run:=λa=>Cs a.1 a.2.1 a.2.2
 out:=λb=>((),(),())
 res:=λb=>b
def S_15L3 (n:Nat):LoopSpec where
 sh:= [(0,.v .int),(1,.v y0),(2,.v .int),(7,.mv .int 0),(8,.v .int)]
 ex:= [(.exit 0,[(7,.mv .int 0)])]
 run:=AW n
def C_15:Cx:=cx0 tt [] [(3,S_15L3 Aa)] 3
def B_15L3:Code:=(Try.f75.body.bind (Yag 3)).getD .skip
def D_15:Code:=Try.f75.body.getD .skip
def N_15 (_:XK E_15.params) (r:YH E_15.results):E_15.B:=r
def E_16:Entry where
 params:= [.v .int,.v y0,.v y0,.v .int]
 results:= [.mv .int 0]
 B:=(List Int)
 run:=λa=>Bb a.1 a.2.1 a.2.2.1 a.2.2.2
 out:=λb=>((),(),(),())
 res:=λb=>b
def S_16L3 (n:Nat):LoopSpec where
 sh:= [(0,.v .int),(1,.v y0),(2,.v y0),(3,.v .int),(9,.mv .int 0),(10,.v .int)]
 ex:= [(.exit 0,[(9,.mv .int 0)])]
 run:=Ax n
def C_16:Cx:=cx0 tt [] [(3,S_16L3 Aa)] 4
def B_16L3:Code:=(Try.f33.body.bind (Yag 3)).getD .skip
def D_16:Code:=Try.f33.body.getD .skip
def N_16 (_:XK E_16.params) (r:YH E_16.results):E_16.B:=r
def E_17:Entry where
 params:= [.v .int,.v .int,.v y1]
 results:= [.pr (.mv y0 0) (.pr (.mv .int 0) (.v y1))]
 B:=((List (List Int))×((List Int)×(List (List Int))))
 run:=λa=>Bv a.1 a.2.1 a.2.2
 out:=λb=>((),(),())
 res:=λb=>b
def S_17L3 (n:Nat):LoopSpec where
 sh:= [(0,.v .int),(1,.v .int),(2,.v y1),(6,.bx (.pr (.mv y0 0) (.pr (.mv .int 0) (.mv y0 0)))),(7,.bx (.pr (.mv y0 0) (.pr (.mv .int 0) (.mv y0 0)))),(8,.v .int)]
 ex:= [(.exit 0,[(0,.v .int),(1,.v .int),(6,.bx (.pr (.mv y0 0) (.pr (.mv .int 0) (.mv y0 0)))),(7,.bx (.pr (.mv y0 0) (.pr (.mv .int 0) (.mv y0 0))))])]
 run:=AB n
def S_17L10 (n:Nat):LoopSpec where
 sh:= [(0,.v .int),(1,.v .int),(6,.bx (.pr (.mv y0 0) (.pr (.mv .int 0) (.v y1)))),(7,.bx (.pr (.mv y0 0) (.pr (.mv .int 0) (.v y1)))),(9,.v .int),(10,.v .int)]
 ex:= [(.exit 4,[(0,.v .int),(1,.v .int),(6,.bx (.pr (.mv y0 0) (.pr (.mv .int 0) (.v y1)))),(7,.bx (.pr (.mv y0 0) (.pr (.mv .int 0) (.v y1)))),(9,.v .int),(10,.v .int)])]
 run:=Ao n
def S_17L16 (n:Nat):LoopSpec where
 sh:= [(0,.v .int),(1,.v .int),(6,.bx (.pr (.mv y0 0) (.pr (.mv .int 0) (.v y1)))),(7,.bx (.pr (.mv y0 0) (.pr (.mv .int 0) (.v y1)))),(9,.v .int),(11,.mv .int 0),(12,.mv y0 0),(13,.v .int)]
 ex:= [(.exit 6,[(0,.v .int),(1,.v .int),(6,.bx (.pr (.mv y0 0) (.pr (.mv .int 0) (.v y1)))),(7,.bx (.pr (.mv y0 0) (.pr (.mv .int 0) (.v y1)))),(9,.v .int),(11,.mv .int 0),(12,.mv y0 0)])]
 run:=Ap n
def S_17L20 (n:Nat):LoopSpec where
 sh:= [(0,.v .int),(1,.v .int),(6,.bx (.pr (.mv y0 0) (.pr (.mv .int 0) (.v y1)))),(7,.bx (.pr (.mv y0 0) (.pr (.mv .int 0) (.v y1)))),(9,.v .int),(11,.mv .int 0),(12,.mv y0 0),(14,.v .int)]
 ex:= [(.exit 8,[(0,.v .int),(1,.v .int),(6,.bx (.pr (.mv y0 0) (.pr (.mv .int 0) (.v y1)))),(7,.bx (.pr (.mv y0 0) (.pr (.mv .int 0) (.v y1)))),(9,.v .int),(11,.mv .int 0),(12,.mv y0 0)])]
 run:=Aq n
def S_17L7 (n:Nat):LoopSpec where
 sh:= [(0,.v .int),(1,.v .int),(6,.bx (.pr (.mv y0 0) (.pr (.mv .int 0) (.v y1)))),(7,.bx (.pr (.mv y0 0) (.pr (.mv .int 0) (.v y1)))),(9,.v .int)]
 ex:= [(.exit 2,[(6,.bx (.pr (.mv y0 0) (.pr (.mv .int 0) (.v y1)))),(7,.bx (.pr (.mv y0 0) (.pr (.mv .int 0) (.v y1))))])]
 run:=Aw n
def C_17:Cx:=cx0 tt [(31,E_13),(33,E_16),(75,E_15),(76,E_14)] [(3,S_17L3 Aa),(10,S_17L10 Aa),(16,S_17L16 Aa),(20,S_17L20 Aa),(7,S_17L7 Aa)] 3
def B_17L3:Code:=(Try.f54.body.bind (Yag 3)).getD .skip
def B_17L10:Code:=(Try.f54.body.bind (Yag 10)).getD .skip
def B_17L16:Code:=(Try.f54.body.bind (Yag 16)).getD .skip
def B_17L20:Code:=(Try.f54.body.bind (Yag 20)).getD .skip
def B_17L7:Code:=(Try.f54.body.bind (Yag 7)).getD .skip
def D_17:Code:=Try.f54.body.getD .skip
def N_17 (_:XK E_17.params) (r:YH E_17.results):E_17.B:=r
def E_18:Entry where
 params:= [.v y3]
 results:= [.pr (.mv y0 0) (.pr (.mv .int 0) (.v y1))]
 B:=((List (List Int))×((List Int)×(List (List Int))))
 run:=λa=>CE a
 out:=λb=>()
 res:=λb=>b
def C_18:Cx:=cx0 tt [(54,E_17)] [] 1
def D_18:Code:=Try.f30.body.getD .skip
def N_18 (_:XK E_18.params) (r:YH E_18.results):E_18.B:=r
def E_19:Entry where
 params:= [.v y4,.v .int]
 results:= [.v .bool]
 B:=Bool
 run:=λa=>Bq a.1 a.2
 out:=λb=>((),())
 res:=λb=>b
def S_19L2 (n:Nat):LoopSpec where
 sh:= [(1,.v .int),(2,.bx (.v y4)),(5,.v .int)]
 ex:= [(.exit 0,[]),(.ret,[(4,.v .bool)])]
 run:=Bg n
def C_19:Cx:=cx0 tt [] [(2,S_19L2 Aa)] 2
def B_19L2:Code:=(Try.f52.body.bind (Yag 2)).getD .skip
def D_19:Code:=Try.f52.body.getD .skip
def N_19 (_:XK E_19.params) (r:YH E_19.results):E_19.B:=r
def E_20:Entry where
 params:= [.v .int,.v .int]
 results:= [.v .int]
 B:=Int
 run:=λa=>Da a.1 a.2
 out:=λb=>((),())
 res:=λb=>b
def S_20L2 (n:Nat):LoopSpec where
 sh:= [(0,.v .int),(1,.v .int),(5,.v .int)]
 ex:= [(.exit 0,[(5,.v .int)])]
 run:=BY n
def C_20:Cx:=cx0 tt [] [(2,S_20L2 Aa)] 2
def B_20L2:Code:=(Try.f53.body.bind (Yag 2)).getD .skip
def D_20:Code:=Try.f53.body.getD .skip
def N_20 (_:XK E_20.params) (r:YH E_20.results):E_20.B:=r
def E_21:Entry where
 params:= [.v y3]
 results:= [.v .int,.v .bool]
 B:=Int×Bool
 run:=λa=>BE a
 out:=λb=>()
 res:=λb=>(b.1,b.2)
def C_21:Cx:=cx0 tt [(30,E_18),(51,E_12),(52,E_19),(53,E_20)] [] 1
def D_21:Code:=Try.f27.body.getD .skip
def N_21 (_:XK E_21.params) (r:YH E_21.results):E_21.B:=(r.1,r.2)
def E_22:Entry where
 params:= [.v .int,.v .int,.v y1]
 results:= [.mv .int 0,.v .bool]
 B:=(List Int)×Bool
 run:=λa=>Ct a.1 a.2.1 a.2.2
 out:=λb=>((),(),())
 res:=λb=>(b.1,b.2)
def S_22L6 (n:Nat):LoopSpec where
 sh:= [(1,.v .int),(8,.bx (.pr (.mv y0 0) (.pr (.mv .int 0) (.v y1)))),(9,.mv .int 0),(10,.v .int)]
 ex:= [(.exit 0,[(9,.mv .int 0)])]
 run:=AX n
def C_22:Cx:=cx0 tt [(52,E_19),(54,E_17)] [(6,S_22L6 Aa)] 3
def B_22L6:Code:=(Try.f28.body.bind (Yag 6)).getD .skip
def D_22:Code:=Try.f28.body.getD .skip
def N_22 (_:XK E_22.params) (r:YH E_22.results):E_22.B:=(r.1,r.2)
def E_23:Entry where
 params:= [.v y0,.v .int]
 results:= [.v .bool]
 B:=Bool
 run:=λa=>C8 a.1 a.2
 out:=λb=>((),())
 res:=λb=>b
def S_23L2 (n:Nat):LoopSpec where
 sh:= [(0,.v y0),(1,.v .int),(5,.v .int)]
 ex:= [(.exit 0,[]),(.ret,[(4,.v .bool)])]
 run:=BG n
def C_23:Cx:=cx0 tt [] [(2,S_23L2 Aa)] 2
def B_23L2:Code:=(Try.f77.body.bind (Yag 2)).getD .skip
def D_23:Code:=Try.f77.body.getD .skip
def N_23 (_:XK E_23.params) (r:YH E_23.results):E_23.B:=r
def E_24:Entry where
 params:= [.v y4,.v .int]
 results:= [.mv .int 0]
 B:=(List Int)
 run:=λa=>B4 a.1 a.2
 out:=λb=>((),())
 res:=λb=>b
def S_24L3 (n:Nat):LoopSpec where
 sh:= [(1,.v .int),(2,.bx (.v y4)),(5,.mv .int 0),(6,.v .int)]
 ex:= [(.exit 0,[(5,.mv .int 0)])]
 run:=AP n
def C_24:Cx:=cx0 tt [(77,E_23)] [(3,S_24L3 Aa)] 2
def B_24L3:Code:=(Try.f55.body.bind (Yag 3)).getD .skip
def D_24:Code:=Try.f55.body.getD .skip
def N_24 (_:XK E_24.params) (r:YH E_24.results):E_24.B:=r
def E_25:Entry where
 params:= [.v y4,.v .int,.v .int]
 results:= [.mv y0 0]
 B:=(List (List Int))
 run:=λa=>BQ a.1 a.2.1 a.2.2
 out:=λb=>((),(),())
 res:=λb=>b
def S_25L8 (n:Nat):LoopSpec where
 sh:= [(1,.v .int),(2,.v .int),(3,.bx (.v y4)),(7,.mv y0 0),(8,.mv .int 0),(9,.v .int),(10,.mv .int 0),(11,.v .int)]
 ex:= [(.exit 2,[(1,.v .int),(2,.v .int),(3,.bx (.v y4)),(7,.mv y0 0),(8,.mv .int 0),(9,.v .int),(10,.mv .int 0)])]
 run:=AN n
def S_25L3 (n:Nat):LoopSpec where
 sh:= [(1,.v .int),(2,.v .int),(3,.bx (.v y4)),(7,.mv y0 0),(8,.mv .int 0),(9,.v .int)]
 ex:= [(.exit 0,[(7,.mv y0 0)])]
 run:=AM n
def C_25:Cx:=cx0 tt [(55,E_24)] [(8,S_25L8 Aa),(3,S_25L3 Aa)] 3
def B_25L8:Code:=(Try.f29.body.bind (Yag 8)).getD .skip
def B_25L3:Code:=(Try.f29.body.bind (Yag 3)).getD .skip
def D_25:Code:=Try.f29.body.getD .skip
def N_25 (_:XK E_25.params) (r:YH E_25.results):E_25.B:=r
def E_26:Entry where
 params:= [.v .int,.v .int,.v .int]
 results:= [.mv .int 0]
 B:=(List Int)
 run:=λa=>CS a.1 a.2.1 a.2.2
 out:=λb=>((),(),())
 res:=λb=>b
def S_26L3 (n:Nat):LoopSpec where
 sh:= [(0,.v .int),(2,.v .int),(7,.mv .int 0),(8,.v .int)]
 ex:= [(.exit 0,[(7,.mv .int 0)])]
 run:=BB n
def C_26:Cx:=cx0 tt [] [(3,S_26L3 Aa)] 3
def B_26L3:Code:=(Try.f32.body.bind (Yag 3)).getD .skip
def D_26:Code:=Try.f32.body.getD .skip
def N_26 (_:XK E_26.params) (r:YH E_26.results):E_26.B:=r
def E_27:Entry where
 params:= [.v y0,.v y0]
 results:= [.v .bool]
 B:=Bool
 run:=λa=>Dp a.1 a.2
 out:=λb=>((),())
 res:=λb=>b
def S_27L2 (n:Nat):LoopSpec where
 sh:= [(0,.v y0),(1,.v y0),(5,.v .int)]
 ex:= [(.exit 0,[]),(.ret,[(4,.v .bool)])]
 run:=BC n
def C_27:Cx:=cx0 tt [] [(2,S_27L2 Aa)] 2
def B_27L2:Code:=(Try.f66.body.bind (Yag 2)).getD .skip
def D_27:Code:=Try.f66.body.getD .skip
def N_27 (_:XK E_27.params) (r:YH E_27.results):E_27.B:=r
def E_28:Entry where
 params:= [.v y0,.v y0]
 results:= [.v .bool]
 B:=Bool
 run:=λa=>CR a.1 a.2
 out:=λb=>((),())
 res:=λb=>b
def S_28L4 (n:Nat):LoopSpec where
 sh:= [(0,.v y0),(1,.v y0),(5,.v .int)]
 ex:= [(.exit 0,[]),(.ret,[(4,.v .bool)])]
 run:=BA n
def C_28:Cx:=cx0 tt [] [(4,S_28L4 Aa)] 2
def B_28L4:Code:=(Try.f78.body.bind (Yag 4)).getD .skip
def D_28:Code:=Try.f78.body.getD .skip
def N_28 (_:XK E_28.params) (r:YH E_28.results):E_28.B:=r
def E_29:Entry where
 params:= [.v y1,.v y0]
 results:= [.v .int,.v .bool]
 B:=Int×Bool
 run:=λa=>CT a.1 a.2
 out:=λb=>((),())
 res:=λb=>(b.1,b.2)
def S_29L2 (n:Nat):LoopSpec where
 sh:= [(0,.v y1),(1,.v y0),(6,.v .int),(7,.v .int)]
 ex:= [(.exit 0,[(0,.v y1),(1,.v y0),(6,.v .int)])]
 run:=Bh n
def C_29:Cx:=cx0 tt [(66,E_27),(78,E_28)] [(2,S_29L2 Aa)] 2
def B_29L2:Code:=(Try.f56.body.bind (Yag 2)).getD .skip
def D_29:Code:=Try.f56.body.getD .skip
def N_29 (_:XK E_29.params) (r:YH E_29.results):E_29.B:=(r.1,r.2)
def E_30:Entry where
 params:= [.v y1,.v y0]
 results:= [.v y1]
 B:=(List (List Int))
 run:=λa=>Cc a.1 a.2
 out:=λb=>((),())
 res:=λb=>b
def C_30:Cx:=cx0 tt [(56,E_29)] [] 2
def D_30:Code:=Try.f34.body.getD .skip
def N_30 (_:XK E_30.params) (r:YH E_30.results):E_30.B:=r
def E_31:Entry where
 params:= [.v y3]
 results:= [.v y1,.v .bool]
 B:=(List (List Int))×Bool
 run:=λa=>Ba a
 out:=λb=>()
 res:=λb=>(b.1,b.2)
def S_31L12 (n:Nat):LoopSpec where
 sh:= [(1,.bx (.v y3)),(4,.v y1),(5,.v .int),(7,.mv .int 0),(8,.v .bool),(9,.mv y0 0),(10,.v .int),(11,.mv .int 0),(12,.mv .int 0),(13,.v .int)]
 ex:= [(.exit 2,[(1,.bx (.v y3)),(4,.v y1),(5,.v .int),(7,.mv .int 0),(8,.v .bool),(9,.mv y0 0),(10,.v .int),(11,.mv .int 0)])]
 run:=Ak n
def S_31L8 (n:Nat):LoopSpec where
 sh:= [(1,.bx (.v y3)),(4,.v y1),(5,.v .int),(7,.mv .int 0),(8,.v .bool),(9,.mv y0 0),(10,.v .int)]
 ex:= [(.exit 0,[(4,.v y1)])]
 run:=Ag n
def C_31:Cx:=cx0 tt [(27,E_21),(28,E_22),(29,E_25),(30,E_18),(31,E_13),(32,E_26),(33,E_16),(34,E_30)] [(12,S_31L12 Aa),(8,S_31L8 Aa)] 1
def B_31L12:Code:=(Try.f7.body.bind (Yag 12)).getD .skip
def B_31L8:Code:=(Try.f7.body.bind (Yag 8)).getD .skip
def D_31:Code:=Try.f7.body.getD .skip
def N_31 (_:XK E_31.params) (r:YH E_31.results):E_31.B:=(r.1,r.2)
def E_32:Entry where
 params:= [.v .int]
 results:= [.v .bool]
 B:=Bool
 run:=λa=>Cy a
 out:=λb=>()
 res:=λb=>b
def C_32:Cx:=cx0 tt [] [] 1
def D_32:Code:=Try.f79.body.getD .skip
def N_32 (_:XK E_32.params) (r:YH E_32.results):E_32.B:=r
def E_33:Entry where
 params:= [.v y0,.v .int]
 results:= [.v .bool]
 B:=Bool
 run:=λa=>CN a.1 a.2
 out:=λb=>((),())
 res:=λb=>b
def S_33L2 (n:Nat):LoopSpec where
 sh:= [(1,.v .int),(7,.v y0),(8,.v .int),(9,.v .int)]
 ex:= [(.exit 0,[]),(.ret,[(4,.v .bool)])]
 run:=Bx n
def C_33:Cx:=cx0 tt [] [(2,S_33L2 Aa)] 2
def B_33L2:Code:=(Try.f69.body.bind (Yag 2)).getD .skip
def D_33:Code:=Try.f69.body.getD .skip
def N_33 (_:XK E_33.params) (r:YH E_33.results):E_33.B:=r
def E_34:Entry where
 params:= [.v y3]
 results:= [.v .bool]
 B:=Bool
 run:=λa=>Ch a
 out:=λb=>()
 res:=λb=>b
def S_34L4 (n:Nat):LoopSpec where
 sh:= [(1,.bx (.v y3)),(26,.v y1),(27,.v .int),(28,.v .int)]
 ex:= [(.exit 0,[]),(.ret,[(2,.v .bool)])]
 run:=Bc n
def C_34:Cx:=cx0 tt [(69,E_33),(79,E_32)] [(4,S_34L4 Aa)] 1
def B_34L4:Code:=(Try.f58.body.bind (Yag 4)).getD .skip
def D_34:Code:=Try.f58.body.getD .skip
def N_34 (_:XK E_34.params) (r:YH E_34.results):E_34.B:=r
def E_35:Entry where
 params:= [.v y0]
 results:= [.mv .int 0]
 B:=(List Int)
 run:=λa=>C4 a
 out:=λb=>()
 res:=λb=>b
def C_35:Cx:=cx0 tt [] [] 1
def D_35:Code:=Try.f92.body.getD .skip
def N_35 (_:XK E_35.params) (r:YH E_35.results):E_35.B:=r
def E_36:Entry where
 params:= [.v y1]
 results:= [.mv y0 1]
 B:=(List (List Int))
 run:=λa=>B8 a
 out:=λb=>()
 res:=λb=>b
def S_36L3 (n:Nat):LoopSpec where
 sh:= [(3,.mv y0 1),(7,.v y1),(8,.v .int),(9,.v .int)]
 ex:= [(.exit 0,[(3,.mv y0 1)])]
 run:=AJ n
def C_36:Cx where
 tt:=YaU tt
 T:=Ygp [(92,E_35)]
 L:=Ygo [(3,S_36L3 Aa)]
 dep:=λi=>match i with
  |6=>1
  |16=>1
  |17=>1
  |_=>0
 n:=1
def B_36L3:Code:=(Try.f80.body.bind (Yag 3)).getD .skip
def D_36:Code:=Try.f80.body.getD .skip
def N_36 (_:XK E_36.params) (r:YH E_36.results):E_36.B:=r
def E_37:Entry where
 params:= [.v .int]
 results:= [.mv .int 0]
 B:=(List Int)
 run:=λa=>B9 a
 out:=λb=>()
 res:=λb=>b
def S_37L3 (n:Nat):LoopSpec where
 sh:= [(3,.mv .int 0),(8,.v .int),(9,.v .int)]
 ex:= [(.exit 0,[(3,.mv .int 0)])]
 run:=AL n
def C_37:Cx:=cx0 tt [] [(3,S_37L3 Aa)] 1
def B_37L3:Code:=(Try.f81.body.bind (Yag 3)).getD .skip
def D_37:Code:=Try.f81.body.getD .skip
def N_37 (_:XK E_37.params) (r:YH E_37.results):E_37.B:=r
def E_38:Entry where
 params:= [.v .int,.v .int]
 results:= [.v .int]
 B:=Int
 run:=λa=>BL a.1 a.2
 out:=λb=>((),())
 res:=λb=>b
def S_38L2 (n:Nat):LoopSpec where
 sh:= [(0,.v .int),(1,.v .int),(5,.v .int)]
 ex:= [(.exit 0,[]),(.ret,[(4,.v .int)])]
 run:=Ce n
def C_38:Cx:=cx0 tt [] [(2,S_38L2 Aa)] 2
def B_38L2:Code:=(Try.f82.body.bind (Yag 2)).getD .skip
def D_38:Code:=Try.f82.body.getD .skip
def N_38 (_:XK E_38.params) (r:YH E_38.results):E_38.B:=r
def E_39:Entry where
 params:= [.v .int,.v .int,.v y1]
 results:= [.v (.ptr y2)]
 B:=(Bool×Int×Int×(List (List Int))×Int×(List Int))
 run:=λa=>BK a.1 a.2.1 a.2.2
 out:=λb=>((),(),())
 res:=λb=>b
def S_39L6 (n:Nat):LoopSpec where
 sh:= [(0,.v .int),(1,.v .int),(7,.bx (.pr (.v .int) (.pr (.v .int) (.pr (.mv y0 1) (.pr (.v .int) (.mv .int 0)))))),(8,.v .int),(9,.v .int)]
 ex:= [(.exit 2,[(0,.v .int),(1,.v .int),(7,.bx (.pr (.v .int) (.pr (.v .int) (.pr (.mv y0 1) (.pr (.v .int) (.mv .int 0)))))),(8,.v .int),(9,.v .int)])]
 run:=AK n
def S_39L14 (n:Nat):LoopSpec where
 sh:= [(12885426186,.v .int),(0,.v .int),(1,.v .int),(7,.bx (.pr (.v .int) (.pr (.v .int) (.pr (.mv y0 1) (.pr (.v .int) (.mv .int 0)))))),(8,.v .int),(11,.v .int),(110,.v .int),(111,.v .int)]
 ex:= [(.exit 4,[(12885426186,.v .int),(0,.v .int),(1,.v .int),(7,.bx (.pr (.v .int) (.pr (.v .int) (.pr (.mv y0 1) (.pr (.v .int) (.mv .int 0)))))),(8,.v .int)])]
 run:=AF n
def S_39L24 (n:Nat):LoopSpec where
 sh:= [(12885426186,.v .int),(12885426190,.v .int),(12885426305,.jk 1),(0,.v .int),(1,.v .int),(7,.bx (.pr (.v .int) (.pr (.v .int) (.pr (.mv y0 1) (.pr (.v .int) (.mv .int 0)))))),(8,.v .int),(15,.v .int),(130,.v .int),(131,.v .int),(151,.v .int),(152,.v .int)]
 ex:= [(.exit 8,[(12885426186,.v .int),(12885426305,.jk 1),(0,.v .int),(1,.v .int),(7,.bx (.pr (.v .int) (.pr (.v .int) (.pr (.mv y0 1) (.pr (.v .int) (.mv .int 0)))))),(8,.v .int),(130,.v .int),(131,.v .int)])]
 run:=AG n
def S_39L19 (n:Nat):LoopSpec where
 sh:= [(12885426186,.v .int),(12885426305,.jk 1),(0,.v .int),(1,.v .int),(7,.bx (.pr (.v .int) (.pr (.v .int) (.pr (.mv y0 1) (.pr (.v .int) (.mv .int 0)))))),(8,.v .int),(130,.v .int),(131,.v .int)]
 ex:= [(.exit 6,[(0,.v .int),(1,.v .int),(7,.bx (.pr (.v .int) (.pr (.v .int) (.pr (.mv y0 1) (.pr (.v .int) (.mv .int 0)))))),(8,.v .int)])]
 run:=Au n
def S_39L3 (n:Nat):LoopSpec where
 sh:= [(0,.v .int),(1,.v .int),(7,.bx (.pr (.v .int) (.pr (.v .int) (.pr (.mv y0 1) (.pr (.v .int) (.mv .int 0)))))),(8,.v .int)]
 ex:= [(.exit 0,[(7,.bx (.pr (.v .int) (.pr (.v .int) (.pr (.mv y0 1) (.pr (.v .int) (.mv .int 0))))))])]
 run:=AC n
def C_39:Cx where
 tt:=YaU tt
 T:=Ygp [(80,E_36),(81,E_37),(82,E_38)]
 L:=Ygo [(6,S_39L6 Aa),(14,S_39L14 Aa),(24,S_39L24 Aa),(19,S_39L19 Aa),(3,S_39L3 Aa)]
 dep:=λi=>match i with
  |69=>99
  |_=>0
 n:=3
def B_39L6:Code:=(Try.f61.body.bind (Yag 6)).getD .skip
def B_39L14:Code:=(Try.f61.body.bind (Yag 14)).getD .skip
def B_39L24:Code:=(Try.f61.body.bind (Yag 24)).getD .skip
def B_39L19:Code:=(Try.f61.body.bind (Yag 19)).getD .skip
def B_39L3:Code:=(Try.f61.body.bind (Yag 3)).getD .skip
def D_39:Code:=Try.f61.body.getD .skip
def N_39 (_:XK E_39.params) (r:YH E_39.results):E_39.B:=r
def E_40:Entry where
 params:= [.v y3]
 results:= [.v (.ptr y2)]
 B:=(Bool×Int×Int×(List (List Int))×Int×(List Int))
 run:=λa=>AI a
 out:=λb=>()
 res:=λb=>b
def C_40:Cx:=cx0 tt [(61,E_39)] [] 1
def D_40:Code:=Try.f37.body.getD .skip
def N_40 (_:XK E_40.params) (r:YH E_40.results):E_40.B:=r
def E_41:Entry where
 params:= [.bx (.pr (.v .int) (.pr (.v .int) (.pr (.mv y0 1) (.pr (.v .int) (.mv .int 0)))))]
 results:= [.mv .int 0]
 B:=(Int×(Int×((List (List Int))×(Int×(List Int)))))×(List Int)
 run:=λa=>Ci a
 out:=λb=>b.1
 res:=λb=>b.2
def S_41L3 (n:Nat):LoopSpec where
 sh:= [(21474902026,.jk 1),(0,.bx (.pr (.v .int) (.pr (.v .int) (.pr (.mv y0 1) (.pr (.v .int) (.mv .int 0)))))),(3,.mv .int 0),(11,.v .int),(12,.v .int)]
 ex:= [(.exit 0,[(0,.bx (.pr (.v .int) (.pr (.v .int) (.pr (.mv y0 1) (.pr (.v .int) (.mv .int 0)))))),(3,.mv .int 0)])]
 run:=AQ n
def C_41:Cx:=cx0 tt [] [(3,S_41L3 Aa)] 1
def B_41L3:Code:=(Try.f38.body.bind (Yag 3)).getD .skip
def D_41:Code:=Try.f38.body.getD .skip
def N_41 (o:XK E_41.params) (r:YH E_41.results):E_41.B:=(o,r)
def E_42:Entry where
 params:= [.v .int,.v .int]
 results:= [.v .int]
 B:=Int
 run:=λa=>C5 a.1 a.2
 out:=λb=>((),())
 res:=λb=>b
def S_42L2 (n:Nat):LoopSpec where
 sh:= [(0,.v .int),(1,.v .int),(5,.v .int)]
 ex:= [(.exit 0,[(5,.v .int)])]
 run:=BV n
def C_42:Cx:=cx0 tt [] [(2,S_42L2 Aa)] 2
def B_42L2:Code:=(Try.f60.body.bind (Yag 2)).getD .skip
def D_42:Code:=Try.f60.body.getD .skip
def N_42 (_:XK E_42.params) (r:YH E_42.results):E_42.B:=r
def E_43:Entry where
 params:= [.v (.ptr y2)]
 results:= [.v .bool]
 B:=Bool
 run:=λa=>Bd a
 out:=λb=>()
 res:=λb=>b
def S_43L2 (n:Nat):LoopSpec where
 sh:= [(0,.v (.ptr y2)),(13,.v y1),(14,.v .int),(15,.v .int)]
 ex:= [(.exit 0,[]),(.ret,[(2,.v .bool)])]
 run:=Av n
def C_43:Cx:=cx0 tt [] [(2,S_43L2 Aa)] 1
def B_43L2:Code:=(Try.f59.body.bind (Yag 2)).getD .skip
def D_43:Code:=Try.f59.body.getD .skip
def N_43 (_:XK E_43.params) (r:YH E_43.results):E_43.B:=r
def E_44:Entry where
 params:= [.v (.ptr y2)]
 results:= [.mv .int 0]
 B:=(List Int)
 run:=λa=>Ai a
 out:=λb=>()
 res:=λb=>b
def S_44L3 (n:Nat):LoopSpec where
 sh:= [(3,.mv .int 0),(10,.v y0),(11,.v .int),(12,.v .int)]
 ex:= [(.exit 0,[(3,.mv .int 0)])]
 run:=Ae n
def C_44:Cx:=cx0 tt [] [(3,S_44L3 Aa)] 1
def B_44L3:Code:=(Try.f38.body.bind (Yag 3)).getD .skip
def D_44:Code:=Try.f38.body.getD .skip
def N_44 (_:XK E_44.params) (r:YH E_44.results):E_44.B:=r
def E_45:Entry where
 params:= [.v y3]
 results:= [.v .int,.v .bool]
 B:=Int×Bool
 run:=λa=>AU a
 out:=λb=>()
 res:=λb=>(b.1,b.2)
def C_45:Cx:=cx0 tt [(37,E_40),(38,E_44),(58,E_34),(59,E_43),(60,E_42)] [] 1
def D_45:Code:=Try.f36.body.getD .skip
def N_45 (_:XK E_45.params) (r:YH E_45.results):E_45.B:=(r.1,r.2)
def E_46:Entry where
 params:= [.v .int,.v .int,.v .int]
 results:= [.mv .int 0]
 B:=(List Int)
 run:=λa=>CM a.1 a.2.1 a.2.2
 out:=λb=>((),(),())
 res:=λb=>b
def S_46L3 (n:Nat):LoopSpec where
 sh:= [(0,.v .int),(2,.v .int),(7,.mv .int 0),(8,.v .int)]
 ex:= [(.exit 0,[(7,.mv .int 0)])]
 run:=Bw n
def C_46:Cx:=cx0 tt [] [(3,S_46L3 Aa)] 3
def B_46L3:Code:=(Try.f40.body.bind (Yag 3)).getD .skip
def D_46:Code:=Try.f40.body.getD .skip
def N_46 (_:XK E_46.params) (r:YH E_46.results):E_46.B:=r
def E_47:Entry where
 params:= [.bx (.pr (.v .int) (.pr (.v .int) (.pr (.mv y0 1) (.pr (.v .int) (.mv .int 0))))),.v y0]
 results:= [.mv .int 0]
 B:=(Int×(Int×((List (List Int))×(Int×(List Int)))))×(List Int)
 run:=λa=>DN a.1 a.2
 out:=λb=>(b.1,())
 res:=λb=>b.2
def S_47L4 (n:Nat):LoopSpec where
 sh:= [(458773,.jk 1),(0,.bx (.pr (.v .int) (.pr (.v .int) (.pr (.mv y0 1) (.pr (.v .int) (.mv .int 0)))))),(1,.v y0),(5,.mv .int 0),(6,.mv .int 0),(22,.v .int),(23,.v .int)]
 ex:= [(.exit 0,[(0,.bx (.pr (.v .int) (.pr (.v .int) (.pr (.mv y0 1) (.pr (.v .int) (.mv .int 0)))))),(1,.v y0),(5,.mv .int 0),(6,.mv .int 0)])]
 run:=Bt n
def S_47L14 (n:Nat):LoopSpec where
 sh:= [(21474902055,.jk 1),(458813,.jk 1),(0,.bx (.pr (.v .int) (.pr (.v .int) (.pr (.mv y0 1) (.pr (.v .int) (.mv .int 0)))))),(1,.v y0),(5,.mv .int 0),(6,.mv .int 0),(9,.v .int),(10,.v .int),(11,.v .int),(40,.v .int),(41,.v .int),(62,.v .int),(63,.v .int)]
 ex:= [(.exit 4,[(21474902055,.jk 1),(0,.bx (.pr (.v .int) (.pr (.v .int) (.pr (.mv y0 1) (.pr (.v .int) (.mv .int 0)))))),(1,.v y0),(5,.mv .int 0),(6,.mv .int 0),(9,.v .int),(11,.v .int),(40,.v .int),(41,.v .int)])]
 run:=Bj n
def S_47L9 (n:Nat):LoopSpec where
 sh:= [(21474902055,.jk 1),(0,.bx (.pr (.v .int) (.pr (.v .int) (.pr (.mv y0 1) (.pr (.v .int) (.mv .int 0)))))),(1,.v y0),(5,.mv .int 0),(6,.mv .int 0),(40,.v .int),(41,.v .int)]
 ex:= [(.exit 2,[(0,.bx (.pr (.v .int) (.pr (.v .int) (.pr (.mv y0 1) (.pr (.v .int) (.mv .int 0)))))),(5,.mv .int 0)])]
 run:=AR n
def C_47:Cx:=cx0 tt [(38,E_41)] [(4,S_47L4 Aa),(14,S_47L14 Aa),(9,S_47L9 Aa)] 2
def B_47L4:Code:=(Try.f39.body.bind (Yag 4)).getD .skip
def B_47L14:Code:=(Try.f39.body.bind (Yag 14)).getD .skip
def B_47L9:Code:=(Try.f39.body.bind (Yag 9)).getD .skip
def D_47:Code:=Try.f39.body.getD .skip
def N_47 (o:XK E_47.params) (r:YH E_47.results):E_47.B:=(o.1,r)
def E_48:Entry where
 params:= [.v (.ptr y2),.v y0]
 results:= [.mv .int 0]
 B:=(List Int)
 run:=λa=>AY a.1 a.2
 out:=λb=>((),())
 res:=λb=>b
def S_48L4 (n:Nat):LoopSpec where
 sh:= [(458773,.jk 1),(0,.v (.ptr y2)),(1,.v y0),(5,.mv .int 0),(6,.mv .int 0),(22,.v .int),(23,.v .int)]
 ex:= [(.exit 0,[(0,.v (.ptr y2)),(1,.v y0),(5,.mv .int 0),(6,.mv .int 0)])]
 run:=Aj n
def S_48L14 (n:Nat):LoopSpec where
 sh:= [(458813,.jk 1),(0,.v (.ptr y2)),(1,.v y0),(5,.mv .int 0),(6,.mv .int 0),(9,.v .int),(10,.v .int),(11,.v .int),(39,.v y0),(40,.v .int),(41,.v .int),(62,.v .int),(63,.v .int)]
 ex:= [(.exit 4,[(0,.v (.ptr y2)),(1,.v y0),(5,.mv .int 0),(6,.mv .int 0),(9,.v .int),(11,.v .int),(39,.v y0),(40,.v .int),(41,.v .int)])]
 run:=Ah n
def S_48L9 (n:Nat):LoopSpec where
 sh:= [(0,.v (.ptr y2)),(1,.v y0),(5,.mv .int 0),(6,.mv .int 0),(39,.v y0),(40,.v .int),(41,.v .int)]
 ex:= [(.exit 2,[(5,.mv .int 0)])]
 run:=Af n
def C_48:Cx:=cx0 tt [(38,E_44)] [(4,S_48L4 Aa),(14,S_48L14 Aa),(9,S_48L9 Aa)] 2
def B_48L4:Code:=(Try.f39.body.bind (Yag 4)).getD .skip
def B_48L14:Code:=(Try.f39.body.bind (Yag 14)).getD .skip
def B_48L9:Code:=(Try.f39.body.bind (Yag 9)).getD .skip
def D_48:Code:=Try.f39.body.getD .skip
def N_48 (_:XK E_48.params) (r:YH E_48.results):E_48.B:=r
def E_49:Entry where
 params:= [.io y0 1,.v (.fn 42)]
 results:= []
 B:=List (List Int)
 run:=λa=>Al a.1 a.2
 out:=λb=>(b,())
 res:=λb=>()
def D_49:Code:=Try.f41.body.getD .skip
def E_50:Entry where
 params:= [.v y3]
 results:= [.mv y0 1,.v .bool]
 B:=(List (List Int))×Bool
 run:=λa=>AH a
 out:=λb=>()
 res:=λb=>(b.1,b.2)
def S_50L8 (n:Nat):LoopSpec where
 sh:= [(1,.bx (.v y3)),(4,.v .int),(6,.v (.ptr y2)),(7,.v .int),(8,.mv y0 1),(9,.v .int)]
 ex:= [(.exit 0,[(8,.mv y0 1)])]
 run:=Am n
def C_50:Cx where
 tt:=YaU tt
 T:=Ygp [(36,E_45),(37,E_40),(38,E_44),(39,E_48),(40,E_46),(2818089,E_49)]
 L:=Ygo [(8,S_50L8 Aa)]
 dep:=λi=>match i with
  |21=>1
  |27=>1
  |41=>1
  |42=>1
  |_=>0
 n:=1
def B_50L8:Code:=(Try.f9.body.bind (Yag 8)).getD .skip
def D_50:Code:=Try.f9.body.getD .skip
def N_50 (_:XK E_50.params) (r:YH E_50.results):E_50.B:=(r.1,r.2)
def E_51:Entry where
 params:= [.v y0,.v y0]
 results:= [.v .bool]
 B:=Bool
 run:=λa=>CO a.1 a.2
 out:=λb=>((),())
 res:=λb=>b
def S_51L4 (n:Nat):LoopSpec where
 sh:= [(0,.v y0),(1,.v y0),(5,.v .int)]
 ex:= [(.exit 0,[]),(.ret,[(4,.v .bool)])]
 run:=By n
def C_51:Cx:=cx0 tt [] [(4,S_51L4 Aa)] 2
def B_51L4:Code:=(Try.f43.body.bind (Yag 4)).getD .skip
def D_51:Code:=Try.f43.body.getD .skip
def N_51 (_:XK E_51.params) (r:YH E_51.results):E_51.B:=r
def E_52:Entry where
 params:= [.v y1,.v y1]
 results:= [.v .bool]
 B:=Bool
 run:=λa=>BD a.1 a.2
 out:=λb=>((),())
 res:=λb=>b
def S_52L4 (n:Nat):LoopSpec where
 sh:= [(0,.v y1),(1,.v y1),(5,.v .int)]
 ex:= [(.exit 0,[]),(.ret,[(4,.v .bool)])]
 run:=Bk n
def C_52:Cx:=cx0 tt [(43,E_51)] [(4,S_52L4 Aa)] 2
def B_52L4:Code:=(Try.f10.body.bind (Yag 4)).getD .skip
def D_52:Code:=Try.f10.body.getD .skip
def N_52 (_:XK E_52.params) (r:YH E_52.results):E_52.B:=r
def E_53:Entry where
 params:= [.v y3,.v y3]
 results:= [.v .bool]
 B:=Bool
 run:=λa=>Ck a.1 a.2
 out:=λb=>((),())
 res:=λb=>b
def C_53:Cx:=cx0 tt [(10,E_52)] [] 2
def D_53:Code:=Try.f11.body.getD .skip
def N_53 (_:XK E_53.params) (r:YH E_53.results):E_53.B:=r
def E_54:Entry where
 params:= [.io .int 0,.v .int]
 results:= [.v .int]
 B:=(List Int)×Int
 run:=λa=>Cl a.1 a.2
 out:=λb=>(b.1,())
 res:=λb=>b.2
def S_54L2 (n:Nat):LoopSpec where
 sh:= [(0,.io .int 0),(1,.v .int),(5,.v .int)]
 ex:= [(.exit 0,[(0,.io .int 0),(1,.v .int)])]
 run:=Bf n
def C_54:Cx:=cx0 tt [] [(2,S_54L2 Aa)] 2
def B_54L2:Code:=(Try.f44.body.bind (Yag 2)).getD .skip
def D_54:Code:=Try.f44.body.getD .skip
def N_54 (o:XK E_54.params) (r:YH E_54.results):E_54.B:=(o.1,r)
def E_55:Entry where
 params:= [.io y0 1,.v .int]
 results:= [.v .int]
 B:=(List (List Int))×Int
 run:=λa=>BO a.1 a.2
 out:=λb=>(b.1,())
 res:=λb=>b.2
def S_55L2 (n:Nat):LoopSpec where
 sh:= [(0,.io y0 1),(1,.v .int),(5,.v .int)]
 ex:= [(.exit 0,[(0,.io y0 1),(1,.v .int)])]
 run:=A9 n
def C_55:Cx:=cx0 tt [(44,E_54)] [(2,S_55L2 Aa)] 2
def B_55L2:Code:=(Try.f13.body.bind (Yag 2)).getD .skip
def D_55:Code:=Try.f13.body.getD .skip
def N_55 (o:XK E_55.params) (r:YH E_55.results):E_55.B:=(o.1,r)
def E_56:Entry where
 params:= [.pr (.v .int) (.pr (.v .int) (.io y0 1)),.v .int]
 results:= [.v .int]
 B:=(Unit×(Unit×(List (List Int))))×Int
 run:=λa=>BH a.1 a.2
 out:=λb=>(b.1,())
 res:=λb=>b.2
def C_56:Cx:=cx0 tt [(13,E_55)] [] 2
def D_56:Code:=Try.f12.body.getD .skip
def N_56 (o:XK E_56.params) (r:YH E_56.results):E_56.B:=(o.1,r)
def E_57:Entry where
 params:= [.v y0,.v .int]
 results:= [.v .int]
 B:=Int
 run:=λa=>BW a.1 a.2
 out:=λb=>((),())
 res:=λb=>b
def S_57L2 (n:Nat):LoopSpec where
 sh:= [(0,.v y0),(1,.v .int),(5,.v .int)]
 ex:= [(.exit 0,[(1,.v .int)]),(.ret,[(4,.v .int)])]
 run:=Be n
def C_57:Cx:=cx0 tt [] [(2,S_57L2 Aa)] 2
def B_57L2:Code:=(Try.f45.body.bind (Yag 2)).getD .skip
def D_57:Code:=Try.f45.body.getD .skip
def N_57 (_:XK E_57.params) (r:YH E_57.results):E_57.B:=r
def E_58:Entry where
 params:= [.v y1,.v .int]
 results:= [.v .int]
 B:=Int
 run:=λa=>BN a.1 a.2
 out:=λb=>((),())
 res:=λb=>b
def S_58L2 (n:Nat):LoopSpec where
 sh:= [(0,.v y1),(1,.v .int),(5,.v .int)]
 ex:= [(.exit 0,[(1,.v .int)]),(.ret,[(4,.v .int)])]
 run:=A8 n
def C_58:Cx:=cx0 tt [(45,E_57)] [(2,S_58L2 Aa)] 2
def B_58L2:Code:=(Try.f14.body.bind (Yag 2)).getD .skip
def D_58:Code:=Try.f14.body.getD .skip
def N_58 (_:XK E_58.params) (r:YH E_58.results):E_58.B:=r
def E_59:Entry where
 params:= [.v y3]
 results:= [.v .bool]
 B:=Bool
 run:=λa=>Bu a
 out:=λb=>()
 res:=λb=>b
def C_59:Cx:=cx0 tt [(6,E_3),(7,E_31),(8,E_6),(9,E_50),(10,E_52),(11,E_53),(12,E_56),(13,E_55),(14,E_58)] [] 1
def D_59:Code:=Try.f3.body.getD .skip
def N_59 (_:XK E_59.params) (r:YH E_59.results):E_59.B:=r
end
end T
