/- Contexts of the typed functions; no conditions. -/
import Derived.Test.YtbfbcfnbcbdgjaaV5
import Derived.Test.YtbfbcfnbcbdgjaaProg
import Derived.Test.YtbfbcfnbcbdgjaaPFnExactRelabelNetwork
import Derived.KernelRfl
set_option linter.all false
set_option linter.unusedVariables false
set_option maxRecDepth 10000
open Go Go.Va Go.Proofs
namespace T
noncomputable section
abbrev y0:Ty:= .pair (.slice .int) (.pair .int (.slice (.slice .int)))
abbrev y1:Ty:= .slice .int
abbrev y2:Ty:= .pair .int (.pair .int (.slice y0))
abbrev y3:Ty:= .slice y1
abbrev y4:Ty:= .pair .int y1
abbrev y5:Ty:= .pair .int y3
abbrev y6:Ty:= .slice y0
def tt:List (Nat×TI):= [
 (2,{ ty:= .int }),
 (3,{ ty:= .int }),
 (4,{ ty:= .bool }),
 (22,{ ty:=y3,elem:=42 }),
 (29,{ ty:=y6,elem:=90 }),
 (31,{ ty:=y2,fields:= [3,3,29] }),
 (33,{ ty:=y6,elem:=66 }),
 (35,{ ty:=y2,fields:= [3,3,33] }),
 (42,{ ty:=y1,elem:=3 }),
 (44,{ ty:=y4,fields:= [3,42] }),
 (47,{ ty:=y4,fields:= [3,42] }),
 (59,{ ty:=(.op false) }),
 (64,{ ty:=y5,fields:= [3,22] }),
 (66,{ ty:=y0,fields:= [42,64] }),
 (88,{ ty:=y5,fields:= [3,22] }),
 (90,{ ty:=y0,fields:= [42,88] })]
theorem tabT:Yif Try.prog tt=true:=by kernel_rfl
theorem mixT:Try.prog.follows .mixedOrders=true:=by kernel_rfl
def E_1:Entry where
 params:= [.v y1,.v .int]
 results:= [.v .int]
 B:=Int
 run:=λa=>AO a.1 a.2
 out:=λb=>((),())
 res:=λb=>b
def C_1:Cx:=cx0 tt [] [] 2
def D_1:Code:=Try.f29.body.getD .skip
def N_1 (_:XK E_1.params) (r:YH E_1.results):E_1.B:=r
def E_2:Entry where
 params:= [.v y3,.v .int]
 results:= [.v .int]
 B:=Int
 run:=λa=>B7 a.1 a.2
 out:=λb=>((),())
 res:=λb=>b
def S_2L5 (n:Nat):LoopSpec where
 sh:= [(0,.v y3),(1,.v .int),(5,.v .int)]
 ex:= [(.exit 0,[(1,.v .int)]),(.ret,[(4,.v .int)])]
 run:=AT n
def C_2:Cx:=cx0 tt [(29,E_1)] [(5,S_2L5 Aa)] 2
def B_2L5:Code:=(Try.f7.body.bind (Yag 5)).getD .skip
def D_2:Code:=Try.f7.body.getD .skip
def N_2 (_:XK E_2.params) (r:YH E_2.results):E_2.B:=r
def E_3:Entry where
 params:= [.v y5,.v .int]
 results:= [.v .int]
 B:=Int
 run:=λa=>Ch a.1 a.2
 out:=λb=>((),())
 res:=λb=>b
def C_3:Cx:=cx0 tt [(7,E_2)] [] 2
def D_3:Code:=Try.f95.body.getD .skip
def N_3 (_:XK E_3.params) (r:YH E_3.results):E_3.B:=r
def E_4:Entry where
 params:= [.v y0,.v .int]
 results:= [.v .int]
 B:=Int
 run:=λa=>AY a.1 a.2
 out:=λb=>((),())
 res:=λb=>b
def C_4:Cx:=cx0 tt [(29,E_1),(95,E_3)] [] 2
def D_4:Code:=Try.f76.body.getD .skip
def N_4 (_:XK E_4.params) (r:YH E_4.results):E_4.B:=r
def E_5:Entry where
 params:= [.v y6,.v .int]
 results:= [.v .int]
 B:=Int
 run:=λa=>BS a.1 a.2
 out:=λb=>((),())
 res:=λb=>b
def S_5L5 (n:Nat):LoopSpec where
 sh:= [(0,.v y6),(1,.v .int),(5,.v .int)]
 ex:= [(.exit 0,[(1,.v .int)]),(.ret,[(4,.v .int)])]
 run:=Ar n
def C_5:Cx:=cx0 tt [(76,E_4)] [(5,S_5L5 Aa)] 2
def B_5L5:Code:=(Try.f42.body.bind (Yag 5)).getD .skip
def D_5:Code:=Try.f42.body.getD .skip
def N_5 (_:XK E_5.params) (r:YH E_5.results):E_5.B:=r
def E_6:Entry where
 params:= [.v y2,.v .int]
 results:= [.v .int]
 B:=Int
 run:=λa=>BT a.1 a.2
 out:=λb=>((),())
 res:=λb=>b
def C_6:Cx:=cx0 tt [(42,E_5)] [] 2
def D_6:Code:=Try.f14.body.getD .skip
def N_6 (_:XK E_6.params) (r:YH E_6.results):E_6.B:=r
def E_7:Entry where
 params:= [.v y4,.v .int]
 results:= [.v .int]
 B:=Int
 run:=λa=>CF a.1 a.2
 out:=λb=>((),())
 res:=λb=>b
def C_7:Cx:=cx0 tt [(29,E_1)] [] 2
def D_7:Code:=Try.f21.body.getD .skip
def N_7 (_:XK E_7.params) (r:YH E_7.results):E_7.B:=r
def E_8:Entry where
 params:= [.v y1]
 results:= [.mv .int 0]
 B:=(List Int)
 run:=λa=>BG a
 out:=λb=>()
 res:=λb=>b
def S_8L3 (n:Nat):LoopSpec where
 sh:= [(0,.v y1),(3,.mv .int 0),(4,.v .int)]
 ex:= [(.exit 0,[(3,.mv .int 0)])]
 run:=Bd n
def C_8:Cx:=cx0 tt [] [(3,S_8L3 Aa)] 1
def B_8L3:Code:=(Try.f32.body.bind (Yag 3)).getD .skip
def D_8:Code:=Try.f32.body.getD .skip
def N_8 (_:XK E_8.params) (r:YH E_8.results):E_8.B:=r
def E_9:Entry where
 params:= [.v y3]
 results:= [.mv y1 1]
 B:=(List (List Int))
 run:=λa=>B8 a
 out:=λb=>()
 res:=λb=>b
def S_9L3 (n:Nat):LoopSpec where
 sh:= [(0,.v y3),(3,.mv y1 1),(4,.v .int)]
 ex:= [(.exit 0,[(3,.mv y1 1)])]
 run:=AU n
def C_9:Cx where
 tt:=YaU tt
 T:=Ygp [(32,E_8)]
 L:=Ygo [(3,S_9L3 Aa)]
 dep:=λi=>match i with
  |7=>1
  |_=>0
 n:=1
def B_9L3:Code:=(Try.f9.body.bind (Yag 3)).getD .skip
def D_9:Code:=Try.f9.body.getD .skip
def N_9 (_:XK E_9.params) (r:YH E_9.results):E_9.B:=r
def E_10:Entry where
 params:= [.v y5]
 results:= [.pr (.v .int) (.mv y1 1)]
 B:=(Int×(List (List Int)))
 run:=λa=>Ci a
 out:=λb=>()
 res:=λb=>b
def C_10:Cx:=cx0 tt [(9,E_9)] [] 1
def D_10:Code:=Try.f97.body.getD .skip
def N_10 (_:XK E_10.params) (r:YH E_10.results):E_10.B:=r
def E_11:Entry where
 params:= [.v y0]
 results:= [.pr (.mv .int 0) (.pr (.v .int) (.mv y1 1))]
 B:=((List Int)×(Int×(List (List Int))))
 run:=λa=>AZ a
 out:=λb=>()
 res:=λb=>b
def C_11:Cx:=cx0 tt [(32,E_8),(97,E_10)] [] 1
def D_11:Code:=Try.f79.body.getD .skip
def N_11 (_:XK E_11.params) (r:YH E_11.results):E_11.B:=r
def E_12:Entry where
 params:= [.v y6]
 results:= [.mv y0 2]
 B:=(List ((List Int)×Int×(List (List Int))))
 run:=λa=>BU a
 out:=λb=>()
 res:=λb=>b
def S_12L3 (n:Nat):LoopSpec where
 sh:= [(0,.v y6),(3,.mv y0 2),(4,.v .int)]
 ex:= [(.exit 0,[(3,.mv y0 2)])]
 run:=As n
def C_12:Cx where
 tt:=YaU tt
 T:=Ygp [(79,E_11)]
 L:=Ygo [(3,S_12L3 Aa)]
 dep:=λi=>match i with
  |7=>2
  |_=>0
 n:=1
def B_12L3:Code:=(Try.f47.body.bind (Yag 3)).getD .skip
def D_12:Code:=Try.f47.body.getD .skip
def N_12 (_:XK E_12.params) (r:YH E_12.results):E_12.B:=r
def E_13:Entry where
 params:= [.v y2]
 results:= [.pr (.v .int) (.pr (.v .int) (.mv y0 2))]
 B:=(Int×(Int×(List ((List Int)×Int×(List (List Int))))))
 run:=λa=>Az a
 out:=λb=>()
 res:=λb=>b
def C_13:Cx:=cx0 tt [(47,E_12)] [] 1
def D_13:Code:=Try.f16.body.getD .skip
def N_13 (_:XK E_13.params) (r:YH E_13.results):E_13.B:=r
def E_14:Entry where
 params:= [.v y4]
 results:= [.pr (.v .int) (.mv .int 0)]
 B:=(Int×(List Int))
 run:=λa=>Bx a
 out:=λb=>()
 res:=λb=>b
def C_14:Cx:=cx0 tt [(32,E_8)] [] 1
def D_14:Code:=Try.f23.body.getD .skip
def N_14 (_:XK E_14.params) (r:YH E_14.results):E_14.B:=r
def E_15:Entry where
 params:= [.v .int,.v .int,.v .int]
 results:= [.v .bool]
 B:=Bool
 run:=λa=>Bn a.1 a.2.1 a.2.2
 out:=λb=>((),(),())
 res:=λb=>b
def C_15:Cx:=cx0 tt [] [] 3
def D_15:Code:=Try.f65.body.getD .skip
def N_15 (_:XK E_15.params) (r:YH E_15.results):E_15.B:=r
def E_16:Entry where
 params:= [.v .int,.v .int]
 results:= [.v .int]
 B:=Int
 run:=λa=>BY a.1 a.2
 out:=λb=>((),())
 res:=λb=>b
def S_16L2 (n:Nat):LoopSpec where
 sh:= [(0,.v .int),(1,.v .int),(5,.v .int)]
 ex:= [(.exit 0,[(5,.v .int)])]
 run:=BC n
def C_16:Cx:=cx0 tt [] [(2,S_16L2 Aa)] 2
def B_16L2:Code:=(Try.f66.body.bind (Yag 2)).getD .skip
def D_16:Code:=Try.f66.body.getD .skip
def N_16 (_:XK E_16.params) (r:YH E_16.results):E_16.B:=r
def E_17:Entry where
 params:= [.v .int,.v y1]
 results:= [.v .bool]
 B:=Bool
 run:=λa=>Bm a.1 a.2
 out:=λb=>((),())
 res:=λb=>b
def S_17L2 (n:Nat):LoopSpec where
 sh:= [(0,.v .int),(1,.v y1),(5,.v .int)]
 ex:= [(.exit 0,[]),(.ret,[(4,.v .bool)])]
 run:=AA n
def C_17:Cx:=cx0 tt [(65,E_15)] [(2,S_17L2 Aa)] 2
def B_17L2:Code:=(Try.f89.body.bind (Yag 2)).getD .skip
def D_17:Code:=Try.f89.body.getD .skip
def N_17 (_:XK E_17.params) (r:YH E_17.results):E_17.B:=r
def E_18:Entry where
 params:= [.v .int,.v .int,.v y1]
 results:= [.v .bool]
 B:=Bool
 run:=λa=>Cf a.1 a.2.1 a.2.2
 out:=λb=>((),(),())
 res:=λb=>b
def C_18:Cx:=cx0 tt [(89,E_17)] [] 3
def D_18:Code:=Try.f67.body.getD .skip
def N_18 (_:XK E_18.params) (r:YH E_18.results):E_18.B:=r
def E_19:Entry where
 params:= [.v y1,.v y1]
 results:= [.v .bool]
 B:=Bool
 run:=λa=>CO a.1 a.2
 out:=λb=>((),())
 res:=λb=>b
def S_19L2 (n:Nat):LoopSpec where
 sh:= [(0,.v y1),(1,.v y1),(5,.v .int)]
 ex:= [(.exit 0,[]),(.ret,[(4,.v .bool)])]
 run:=Bg n
def C_19:Cx:=cx0 tt [] [(2,S_19L2 Aa)] 2
def B_19L2:Code:=(Try.f68.body.bind (Yag 2)).getD .skip
def D_19:Code:=Try.f68.body.getD .skip
def N_19 (_:XK E_19.params) (r:YH E_19.results):E_19.B:=r
def E_20:Entry where
 params:= [.v .int,.v y5]
 results:= [.v .bool]
 B:=Bool
 run:=λa=>Cb a.1 a.2
 out:=λb=>((),())
 res:=λb=>b
def S_20L4 (n:Nat):LoopSpec where
 sh:= [(0,.v .int),(3,.bx (.v y5)),(5,.v .int)]
 ex:= [(.exit 0,[]),(.ret,[(4,.v .bool)])]
 run:=AC n
def C_20:Cx:=cx0 tt [(65,E_15),(66,E_16),(67,E_18),(68,E_19)] [(4,S_20L4 Aa)] 2
def B_20L4:Code:=(Try.f96.body.bind (Yag 4)).getD .skip
def D_20:Code:=Try.f96.body.getD .skip
def N_20 (_:XK E_20.params) (r:YH E_20.results):E_20.B:=r
def E_21:Entry where
 params:= [.v .int,.v .int,.v y0]
 results:= [.v .bool]
 B:=Bool
 run:=λa=>Cy a.1 a.2.1 a.2.2
 out:=λb=>((),(),())
 res:=λb=>b
def C_21:Cx:=cx0 tt [(89,E_17),(96,E_20)] [] 3
def D_21:Code:=Try.f77.body.getD .skip
def N_21 (_:XK E_21.params) (r:YH E_21.results):E_21.B:=r
def E_22:Entry where
 params:= [.v y2]
 results:= [.v .bool]
 B:=Bool
 run:=λa=>Cd a
 out:=λb=>()
 res:=λb=>b
def S_22L4 (n:Nat):LoopSpec where
 sh:= [(1,.bx (.v y2)),(3,.v .int)]
 ex:= [(.exit 0,[]),(.ret,[(2,.v .bool)])]
 run:=AW n
def C_22:Cx:=cx0 tt [(65,E_15),(77,E_21)] [(4,S_22L4 Aa)] 1
def B_22L4:Code:=(Try.f43.body.bind (Yag 4)).getD .skip
def D_22:Code:=Try.f43.body.getD .skip
def N_22 (_:XK E_22.params) (r:YH E_22.results):E_22.B:=r
def E_23:Entry where
 params:= [.v .int,.v y4]
 results:= [.v .bool]
 B:=Bool
 run:=λa=>CI a.1 a.2
 out:=λb=>((),())
 res:=λb=>b
def S_23L4 (n:Nat):LoopSpec where
 sh:= [(0,.v .int),(3,.bx (.v y4)),(5,.v .int)]
 ex:= [(.exit 0,[]),(.ret,[(4,.v .bool)])]
 run:=Bu n
def C_23:Cx:=cx0 tt [(65,E_15),(66,E_16)] [(4,S_23L4 Aa)] 2
def B_23L4:Code:=(Try.f55.body.bind (Yag 4)).getD .skip
def D_23:Code:=Try.f55.body.getD .skip
def N_23 (_:XK E_23.params) (r:YH E_23.results):E_23.B:=r
def E_24:Entry where
 params:= [.v y1]
 results:= [.mv .int 0]
 B:=(List Int)
 run:=λa=>Ce a
 out:=λb=>()
 res:=λb=>b
def C_24:Cx:=cx0 tt [] [] 1
def D_24:Code:=Try.f62.body.getD .skip
def N_24 (_:XK E_24.params) (r:YH E_24.results):E_24.B:=r
def E_25:Entry where
 params:= [.v y6]
 results:= [.mv y0 0]
 B:=(List ((List Int)×Int×(List (List Int))))
 run:=λa=>Cc a
 out:=λb=>()
 res:=λb=>b
def S_25L7 (n:Nat):LoopSpec where
 sh:= [(0,.v y6),(3,.mv y0 0),(4,.v .int),(5,.bx (.pr (.mv .int 0) (.pr (.v .int) (.mv y1 0)))),(6,.v .int)]
 ex:= [(.exit 2,[(0,.v y6),(3,.mv y0 0),(4,.v .int),(5,.bx (.pr (.mv .int 0) (.pr (.v .int) (.mv y1 0))))])]
 run:=AF n
def S_25L3 (n:Nat):LoopSpec where
 sh:= [(0,.v y6),(3,.mv y0 0),(4,.v .int)]
 ex:= [(.exit 0,[(3,.mv y0 0)])]
 run:=AE n
def C_25:Cx:=cx0 tt [(62,E_24)] [(7,S_25L7 Aa),(3,S_25L3 Aa)] 1
def B_25L7:Code:=(Try.f44.body.bind (Yag 7)).getD .skip
def B_25L3:Code:=(Try.f44.body.bind (Yag 3)).getD .skip
def D_25:Code:=Try.f44.body.getD .skip
def N_25 (_:XK E_25.params) (r:YH E_25.results):E_25.B:=r
def E_26:Entry where
 params:= [.v y1,.v y1]
 results:= [.v .bool]
 B:=Bool
 run:=λa=>Cq a.1 a.2
 out:=λb=>((),())
 res:=λb=>b
def S_26L4 (n:Nat):LoopSpec where
 sh:= [(0,.v y1),(1,.v y1),(5,.v .int)]
 ex:= [(.exit 0,[]),(.ret,[(4,.v .bool)])]
 run:=Bf n
def C_26:Cx:=cx0 tt [] [(4,S_26L4 Aa)] 2
def B_26L4:Code:=(Try.f85.body.bind (Yag 4)).getD .skip
def D_26:Code:=Try.f85.body.getD .skip
def N_26 (_:XK E_26.params) (r:YH E_26.results):E_26.B:=r
def E_27:Entry where
 params:= [.v y3,.v y1]
 results:= [.v .int]
 B:=Int
 run:=λa=>BB a.1 a.2
 out:=λb=>((),())
 res:=λb=>b
def S_27L2 (n:Nat):LoopSpec where
 sh:= [(0,.v y3),(1,.v y1),(5,.v .int)]
 ex:= [(.exit 0,[]),(.ret,[(4,.v .int)])]
 run:=Ay n
def C_27:Cx:=cx0 tt [(85,E_26)] [(2,S_27L2 Aa)] 2
def B_27L2:Code:=(Try.f56.body.bind (Yag 2)).getD .skip
def D_27:Code:=Try.f56.body.getD .skip
def N_27 (_:XK E_27.params) (r:YH E_27.results):E_27.B:=r
def E_28:Entry where
 params:= [.v y1,.v y1]
 results:= [.v .bool]
 B:=Bool
 run:=λa=>CP a.1 a.2
 out:=λb=>((),())
 res:=λb=>b
def S_28L2 (n:Nat):LoopSpec where
 sh:= [(0,.v y1),(1,.v y1),(5,.v .int)]
 ex:= [(.exit 0,[]),(.ret,[(4,.v .bool)])]
 run:=Bh n
def C_28:Cx:=cx0 tt [] [(2,S_28L2 Aa)] 2
def B_28L2:Code:=(Try.f86.body.bind (Yag 2)).getD .skip
def D_28:Code:=Try.f86.body.getD .skip
def N_28 (_:XK E_28.params) (r:YH E_28.results):E_28.B:=r
def E_29:Entry where
 params:= [.v y3,.v y1]
 results:= [.mv y1 0]
 B:=(List (List Int))
 run:=λa=>B1 a.1 a.2
 out:=λb=>((),())
 res:=λb=>b
def S_29L2 (n:Nat):LoopSpec where
 sh:= [(0,.v y3),(1,.v y1),(5,.v .int)]
 ex:= [(.exit 0,[(0,.v y3),(1,.v y1),(5,.v .int)])]
 run:=AN n
def C_29:Cx:=cx0 tt [(86,E_28)] [(2,S_29L2 Aa)] 2
def B_29L2:Code:=(Try.f57.body.bind (Yag 2)).getD .skip
def D_29:Code:=Try.f57.body.getD .skip
def N_29 (_:XK E_29.params) (r:YH E_29.results):E_29.B:=r
def E_30:Entry where
 params:= [.v y2,.v y4]
 results:= [.pr (.v .int) (.pr (.v .int) (.mv y0 0)),.v .bool]
 B:=(Int×(Int×(List ((List Int)×Int×(List (List Int))))))×Bool
 run:=λa=>AK a.1 a.2
 out:=λb=>((),())
 res:=λb=>(b.1,b.2)
def S_30L13 (n:Nat):LoopSpec where
 sh:= [(3,.bx (.v y4)),(4,.bx (.pr (.v .int) (.pr (.v .int) (.mv y0 0)))),(6,.bx (.pr (.v .int) (.pr (.v .int) (.mv y0 0)))),(7,.v .int),(8,.mv y1 0),(9,.v .int),(10,.mv .int 0),(11,.v .int)]
 ex:= [(.exit 4,[(3,.bx (.v y4)),(4,.bx (.pr (.v .int) (.pr (.v .int) (.mv y0 0)))),(6,.bx (.pr (.v .int) (.pr (.v .int) (.mv y0 0)))),(7,.v .int),(8,.mv y1 0),(9,.v .int),(10,.mv .int 0)])]
 run:=Ah n
def S_30L9 (n:Nat):LoopSpec where
 sh:= [(3,.bx (.v y4)),(4,.bx (.pr (.v .int) (.pr (.v .int) (.mv y0 0)))),(6,.bx (.pr (.v .int) (.pr (.v .int) (.mv y0 0)))),(7,.v .int),(8,.mv y1 0),(9,.v .int)]
 ex:= [(.exit 2,[(3,.bx (.v y4)),(4,.bx (.pr (.v .int) (.pr (.v .int) (.mv y0 0)))),(6,.bx (.pr (.v .int) (.pr (.v .int) (.mv y0 0)))),(7,.v .int),(8,.mv y1 0)])]
 run:=Af n
def S_30L5 (n:Nat):LoopSpec where
 sh:= [(3,.bx (.v y4)),(4,.bx (.pr (.v .int) (.pr (.v .int) (.mv y0 0)))),(6,.bx (.pr (.v .int) (.pr (.v .int) (.mv y0 0)))),(7,.v .int)]
 ex:= [(.exit 0,[(4,.bx (.pr (.v .int) (.pr (.v .int) (.mv y0 0)))),(6,.bx (.pr (.v .int) (.pr (.v .int) (.mv y0 0))))])]
 run:=Ai n
def C_30:Cx:=cx0 tt [(43,E_22),(44,E_25),(55,E_23),(56,E_27),(57,E_29)] [(13,S_30L13 Aa),(9,S_30L9 Aa),(5,S_30L5 Aa)] 2
def B_30L13:Code:=(Try.f22.body.bind (Yag 13)).getD .skip
def B_30L9:Code:=(Try.f22.body.bind (Yag 9)).getD .skip
def B_30L5:Code:=(Try.f22.body.bind (Yag 5)).getD .skip
def D_30:Code:=Try.f22.body.getD .skip
def N_30 (_:XK E_30.params) (r:YH E_30.results):E_30.B:=(r.1,r.2)
def E_31:Entry where
 params:= [.v .int]
 results:= [.v .bool]
 B:=Bool
 run:=λa=>BI a
 out:=λb=>()
 res:=λb=>b
def C_31:Cx:=cx0 tt [] [] 1
def D_31:Code:=Try.f80.body.getD .skip
def N_31 (_:XK E_31.params) (r:YH E_31.results):E_31.B:=r
def E_32:Entry where
 params:= [.v y1,.v .int]
 results:= [.v .bool]
 B:=Bool
 run:=λa=>BD a.1 a.2
 out:=λb=>((),())
 res:=λb=>b
def S_32L2 (n:Nat):LoopSpec where
 sh:= [(1,.v .int),(7,.v y1),(8,.v .int),(9,.v .int)]
 ex:= [(.exit 0,[]),(.ret,[(4,.v .bool)])]
 run:=A7 n
def C_32:Cx:=cx0 tt [] [(2,S_32L2 Aa)] 2
def B_32L2:Code:=(Try.f72.body.bind (Yag 2)).getD .skip
def D_32:Code:=Try.f72.body.getD .skip
def N_32 (_:XK E_32.params) (r:YH E_32.results):E_32.B:=r
def E_33:Entry where
 params:= [.v y1,.v y1]
 results:= [.v .int]
 B:=Int
 run:=λa=>BZ a.1 a.2
 out:=λb=>((),())
 res:=λb=>b
def S_33L2 (n:Nat):LoopSpec where
 sh:= [(0,.v y1),(1,.v y1),(5,.v .int)]
 ex:= [(.exit 0,[(0,.v y1),(1,.v y1)]),(.ret,[(4,.v .int)])]
 run:=Ak n
def C_33:Cx:=cx0 tt [] [(2,S_33L2 Aa)] 2
def B_33L2:Code:=(Try.f37.body.bind (Yag 2)).getD .skip
def D_33:Code:=Try.f37.body.getD .skip
def N_33 (_:XK E_33.params) (r:YH E_33.results):E_33.B:=r
def E_34:Entry where
 params:= [.v .int,.v y5]
 results:= [.v .bool]
 B:=Bool
 run:=λa=>BH a.1 a.2
 out:=λb=>((),())
 res:=λb=>b
def S_34L4 (n:Nat):LoopSpec where
 sh:= [(0,.v .int),(3,.bx (.v y5)),(16,.v y3),(17,.v .int),(18,.v .int)]
 ex:= [(.exit 0,[]),(.ret,[(4,.v .bool)])]
 run:=Au n
def C_34:Cx:=cx0 tt [(37,E_33),(72,E_32)] [(4,S_34L4 Aa)] 2
def B_34L4:Code:=(Try.f98.body.bind (Yag 4)).getD .skip
def D_34:Code:=Try.f98.body.getD .skip
def N_34 (_:XK E_34.params) (r:YH E_34.results):E_34.B:=r
def E_35:Entry where
 params:= [.v .int,.v .int,.v y0]
 results:= [.v .bool]
 B:=Bool
 run:=λa=>Bp a.1 a.2.1 a.2.2
 out:=λb=>((),(),())
 res:=λb=>b
def C_35:Cx:=cx0 tt [(72,E_32),(98,E_34)] [] 3
def D_35:Code:=Try.f81.body.getD .skip
def N_35 (_:XK E_35.params) (r:YH E_35.results):E_35.B:=r
def E_36:Entry where
 params:= [.v y2]
 results:= [.v .bool]
 B:=Bool
 run:=λa=>BL a
 out:=λb=>()
 res:=λb=>b
def S_36L4 (n:Nat):LoopSpec where
 sh:= [(1,.bx (.v y2)),(26,.v y6),(27,.v .int),(28,.v .int)]
 ex:= [(.exit 0,[]),(.ret,[(2,.v .bool)])]
 run:=AG n
def C_36:Cx:=cx0 tt [(80,E_31),(81,E_35)] [(4,S_36L4 Aa)] 1
def B_36L4:Code:=(Try.f48.body.bind (Yag 4)).getD .skip
def D_36:Code:=Try.f48.body.getD .skip
def N_36 (_:XK E_36.params) (r:YH E_36.results):E_36.B:=r
def E_37:Entry where
 params:= [.v .int,.v .int]
 results:= [.v .int]
 B:=Int
 run:=λa=>B5 a.1 a.2
 out:=λb=>((),())
 res:=λb=>b
def S_37L2 (n:Nat):LoopSpec where
 sh:= [(0,.v .int),(1,.v .int),(5,.v .int)]
 ex:= [(.exit 0,[(5,.v .int)])]
 run:=Bz n
def C_37:Cx:=cx0 tt [] [(2,S_37L2 Aa)] 2
def B_37L2:Code:=(Try.f87.body.bind (Yag 2)).getD .skip
def D_37:Code:=Try.f87.body.getD .skip
def N_37 (_:XK E_37.params) (r:YH E_37.results):E_37.B:=r
def E_38:Entry where
 params:= [.v y4,.v .int]
 results:= [.v .bool]
 B:=Bool
 run:=λa=>CE a.1 a.2
 out:=λb=>((),())
 res:=λb=>b
def C_38:Cx:=cx0 tt [(72,E_32),(87,E_37)] [] 2
def D_38:Code:=Try.f58.body.getD .skip
def N_38 (_:XK E_38.params) (r:YH E_38.results):E_38.B:=r
def E_39:Entry where
 params:= [.v y1]
 results:= [.mv .int 0]
 B:=(List Int)
 run:=λa=>Bv a
 out:=λb=>()
 res:=λb=>b
def C_39:Cx:=cx0 tt [] [] 1
def D_39:Code:=Try.f59.body.getD .skip
def N_39 (_:XK E_39.params) (r:YH E_39.results):E_39.B:=r
def E_40:Entry where
 params:= [.v y1,.v y1]
 results:= [.mv .int 0]
 B:=(List Int)
 run:=λa=>BK a.1 a.2
 out:=λb=>((),())
 res:=λb=>b
def S_40L3 (n:Nat):LoopSpec where
 sh:= [(1,.v y1),(5,.mv .int 0),(11,.v y1),(12,.v .int),(13,.v .int)]
 ex:= [(.exit 0,[(5,.mv .int 0)])]
 run:=AR n
def C_40:Cx:=cx0 tt [] [(3,S_40L3 Aa)] 2
def B_40L3:Code:=(Try.f88.body.bind (Yag 3)).getD .skip
def D_40:Code:=Try.f88.body.getD .skip
def N_40 (_:XK E_40.params) (r:YH E_40.results):E_40.B:=r
def E_41:Entry where
 params:= [.v y3]
 results:= [.mv y1 1]
 B:=(List (List Int))
 run:=λa=>BN a
 out:=λb=>()
 res:=λb=>b
def S_41L3 (n:Nat):LoopSpec where
 sh:= [(3,.mv y1 1),(7,.v y3),(8,.v .int),(9,.v .int)]
 ex:= [(.exit 0,[(3,.mv y1 1)])]
 run:=Av n
def C_41:Cx where
 tt:=YaU tt
 T:=Ygp [(59,E_39)]
 L:=Ygo [(3,S_41L3 Aa)]
 dep:=λi=>match i with
  |6=>1
  |16=>1
  |17=>1
  |_=>0
 n:=1
def B_41L3:Code:=(Try.f99.body.bind (Yag 3)).getD .skip
def D_41:Code:=Try.f99.body.getD .skip
def N_41 (_:XK E_41.params) (r:YH E_41.results):E_41.B:=r
def E_42:Entry where
 params:= [.io y1 1,.v (.fn 37)]
 results:= []
 B:=List (List Int)
 run:=λa=>Ap a.1 a.2
 out:=λb=>(b,())
 res:=λb=>()
def D_42:Code:=Try.f36.body.getD .skip
def E_43:Entry where
 params:= [.v y3]
 results:= [.mv y1 1]
 B:=(List (List Int))
 run:=λa=>Bs a
 out:=λb=>()
 res:=λb=>b
def C_43:Cx:=cx0 tt [(99,E_41),(2490404,E_42)] [] 1
def D_43:Code:=Try.f83.body.getD .skip
def N_43 (_:XK E_43.params) (r:YH E_43.results):E_43.B:=r
def E_44:Entry where
 params:= [.v y1,.v y1]
 results:= [.v .bool]
 B:=Bool
 run:=λa=>EM a.1 a.2
 out:=λb=>((),())
 res:=λb=>b
def S_44L4 (n:Nat):LoopSpec where
 sh:= [(1,.v y1),(12,.v y1),(13,.v .int),(14,.v .int)]
 ex:= [(.exit 0,[]),(.ret,[(4,.v .bool)])]
 run:=B3 n
def C_44:Cx:=cx0 tt [] [(4,S_44L4 Aa)] 2
def B_44L4:Code:=(Try.f73.body.bind (Yag 4)).getD .skip
def D_44:Code:=Try.f73.body.getD .skip
def N_44 (_:XK E_44.params) (r:YH E_44.results):E_44.B:=r
def E_45:Entry where
 params:= [.mv y1 1]
 results:= [.mv y1 1]
 B:=List (List Int)
 run:=λa=>BO a
 out:=λb=>()
 res:=λb=>b
def D_45:Code:=Try.f38.body.getD .skip
def E_46:Entry where
 params:= [.v .int,.v y3]
 results:= [.pr (.v .int) (.mv y1 1)]
 B:=(Int×(List (List Int)))
 run:=λa=>Bq a.1 a.2
 out:=λb=>((),())
 res:=λb=>b
def C_46:Cx:=cx0 tt [(38,E_45),(83,E_43)] [] 2
def D_46:Code:=Try.f50.body.getD .skip
def N_46 (_:XK E_46.params) (r:YH E_46.results):E_46.B:=r
def E_47:Entry where
 params:= [.v y5,.v y1]
 results:= [.pr (.v .int) (.mv y1 1)]
 B:=(Int×(List (List Int)))
 run:=λa=>AP a.1 a.2
 out:=λb=>((),())
 res:=λb=>b
def S_47L3 (n:Nat):LoopSpec where
 sh:= [(1,.v y1),(2,.bx (.v y5)),(4,.bx (.pr (.v .int) (.mv y1 1))),(5,.mv y1 1),(10,.v y3),(11,.v .int),(12,.v .int)]
 ex:= [(.exit 0,[(2,.bx (.v y5)),(4,.bx (.pr (.v .int) (.mv y1 1))),(5,.mv y1 1)])]
 run:=Aj n
def C_47:Cx where
 tt:=YaU tt
 T:=Ygp [(50,E_46),(88,E_40)]
 L:=Ygo [(3,S_47L3 Aa)]
 dep:=λi=>match i with
  |8=>1
  |20=>1
  |21=>1
  |_=>0
 n:=2
def B_47L3:Code:=(Try.f60.body.bind (Yag 3)).getD .skip
def D_47:Code:=Try.f60.body.getD .skip
def N_47 (_:XK E_47.params) (r:YH E_47.results):E_47.B:=r
def E_48:Entry where
 params:= [.v y2,.mv y0 2]
 results:= [.pr (.v .int) (.pr (.v .int) (.mv y0 2)),.v .bool]
 B:=(Int×(Int×(List ((List Int)×Int×(List (List Int))))))×Bool
 run:=λa=>BE a.1 a.2
 out:=λb=>((),())
 res:=λb=>(b.1,b.2)
def C_48:Cx:=cx0 tt [] [] 2
def D_48:Code:=Try.f51.body.getD .skip
def N_48 (_:XK E_48.params) (r:YH E_48.results):E_48.B:=(r.1,r.2)
def E_49:Entry where
 params:= [.v y2,.v y4]
 results:= [.pr (.v .int) (.pr (.v .int) (.mv y0 2)),.v .bool]
 B:=(Int×(Int×(List ((List Int)×Int×(List (List Int))))))×Bool
 run:=λa=>Ax a.1 a.2
 out:=λb=>((),())
 res:=λb=>(b.1,b.2)
def S_49L5 (n:Nat):LoopSpec where
 sh:= [(2,.bx (.v y2)),(3,.bx (.v y4)),(4,.bx (.pr (.v .int) (.pr (.v .int) (.mv y0 2)))),(6,.mv y0 2),(27,.v y6),(28,.v .int),(29,.v .int)]
 ex:= [(.exit 0,[(2,.bx (.v y2)),(4,.bx (.pr (.v .int) (.pr (.v .int) (.mv y0 2)))),(6,.mv y0 2)])]
 run:=Ae n
def C_49:Cx where
 tt:=YaU tt
 T:=Ygp [(48,E_36),(51,E_48),(58,E_38),(59,E_39),(60,E_47)]
 L:=Ygo [(5,S_49L5 Aa)]
 dep:=λi=>match i with
  |25=>2
  |43=>2
  |44=>2
  |_=>0
 n:=2
def B_49L5:Code:=(Try.f24.body.bind (Yag 5)).getD .skip
def D_49:Code:=Try.f24.body.getD .skip
def N_49 (_:XK E_49.params) (r:YH E_49.results):E_49.B:=(r.1,r.2)
def E_50:Entry where
 params:= [.v y1,.v y1]
 results:= [.v .bool]
 B:=Bool
 run:=λa=>BF a.1 a.2
 out:=λb=>((),())
 res:=λb=>b
def S_50L4 (n:Nat):LoopSpec where
 sh:= [(0,.v y1),(1,.v y1),(5,.v .int)]
 ex:= [(.exit 0,[]),(.ret,[(4,.v .bool)])]
 run:=A9 n
def C_50:Cx:=cx0 tt [] [(4,S_50L4 Aa)] 2
def B_50L4:Code:=(Try.f39.body.bind (Yag 4)).getD .skip
def D_50:Code:=Try.f39.body.getD .skip
def N_50 (_:XK E_50.params) (r:YH E_50.results):E_50.B:=r
def E_51:Entry where
 params:= [.v y3,.v y3]
 results:= [.v .bool]
 B:=Bool
 run:=λa=>B6 a.1 a.2
 out:=λb=>((),())
 res:=λb=>b
def S_51L4 (n:Nat):LoopSpec where
 sh:= [(0,.v y3),(1,.v y3),(5,.v .int)]
 ex:= [(.exit 0,[]),(.ret,[(4,.v .bool)])]
 run:=AS n
def C_51:Cx:=cx0 tt [(39,E_50)] [(4,S_51L4 Aa)] 2
def B_51L4:Code:=(Try.f11.body.bind (Yag 4)).getD .skip
def D_51:Code:=Try.f11.body.getD .skip
def N_51 (_:XK E_51.params) (r:YH E_51.results):E_51.B:=r
def E_52:Entry where
 params:= [.v y5,.v y5]
 results:= [.v .bool]
 B:=Bool
 run:=λa=>Cg a.1 a.2
 out:=λb=>((),())
 res:=λb=>b
def C_52:Cx:=cx0 tt [(11,E_51)] [] 2
def D_52:Code:=Try.f100.body.getD .skip
def N_52 (_:XK E_52.params) (r:YH E_52.results):E_52.B:=r
def E_53:Entry where
 params:= [.v y0,.v y0]
 results:= [.v .bool]
 B:=Bool
 run:=λa=>AX a.1 a.2
 out:=λb=>((),())
 res:=λb=>b
def C_53:Cx:=cx0 tt [(39,E_50),(100,E_52)] [] 2
def D_53:Code:=Try.f84.body.getD .skip
def N_53 (_:XK E_53.params) (r:YH E_53.results):E_53.B:=r
def E_54:Entry where
 params:= [.v y6,.v y6]
 results:= [.v .bool]
 B:=Bool
 run:=λa=>BQ a.1 a.2
 out:=λb=>((),())
 res:=λb=>b
def S_54L4 (n:Nat):LoopSpec where
 sh:= [(0,.v y6),(1,.v y6),(5,.v .int)]
 ex:= [(.exit 0,[]),(.ret,[(4,.v .bool)])]
 run:=Aq n
def C_54:Cx:=cx0 tt [(84,E_53)] [(4,S_54L4 Aa)] 2
def B_54L4:Code:=(Try.f52.body.bind (Yag 4)).getD .skip
def D_54:Code:=Try.f52.body.getD .skip
def N_54 (_:XK E_54.params) (r:YH E_54.results):E_54.B:=r
def E_55:Entry where
 params:= [.v y2,.v y2]
 results:= [.v .bool]
 B:=Bool
 run:=λa=>Ao a.1 a.2
 out:=λb=>((),())
 res:=λb=>b
def C_55:Cx:=cx0 tt [(52,E_54)] [] 2
def D_55:Code:=Try.f18.body.getD .skip
def N_55 (_:XK E_55.params) (r:YH E_55.results):E_55.B:=r
def E_56:Entry where
 params:= [.v y4,.v y4]
 results:= [.v .bool]
 B:=Bool
 run:=λa=>Cr a.1 a.2
 out:=λb=>((),())
 res:=λb=>b
def C_56:Cx:=cx0 tt [(39,E_50)] [] 2
def D_56:Code:=Try.f25.body.getD .skip
def N_56 (_:XK E_56.params) (r:YH E_56.results):E_56.B:=r
def E_57:Entry where
 params:= [.io .int 0,.v .int]
 results:= [.v .int]
 B:=(List Int)×Int
 run:=λa=>Bl a.1 a.2
 out:=λb=>(b.1,())
 res:=λb=>b.2
def S_57L2 (n:Nat):LoopSpec where
 sh:= [(0,.io .int 0),(1,.v .int),(5,.v .int)]
 ex:= [(.exit 0,[(0,.io .int 0),(1,.v .int)])]
 run:=AM n
def C_57:Cx:=cx0 tt [] [(2,S_57L2 Aa)] 2
def B_57L2:Code:=(Try.f40.body.bind (Yag 2)).getD .skip
def D_57:Code:=Try.f40.body.getD .skip
def N_57 (o:XK E_57.params) (r:YH E_57.results):E_57.B:=(o.1,r)
def E_58:Entry where
 params:= [.io y1 1,.v .int]
 results:= [.v .int]
 B:=(List (List Int))×Int
 run:=λa=>BR a.1 a.2
 out:=λb=>(b.1,())
 res:=λb=>b.2
def S_58L2 (n:Nat):LoopSpec where
 sh:= [(0,.io y1 1),(1,.v .int),(5,.v .int)]
 ex:= [(.exit 0,[(0,.io y1 1),(1,.v .int)])]
 run:=AI n
def C_58:Cx:=cx0 tt [(40,E_57)] [(2,S_58L2 Aa)] 2
def B_58L2:Code:=(Try.f12.body.bind (Yag 2)).getD .skip
def D_58:Code:=Try.f12.body.getD .skip
def N_58 (o:XK E_58.params) (r:YH E_58.results):E_58.B:=(o.1,r)
def E_59:Entry where
 params:= [.io y0 2,.v .int]
 results:= [.v .int]
 B:=(List ((List Int)×Int×(List (List Int))))×Int
 run:=λa=>Bc a.1 a.2
 out:=λb=>(b.1,())
 res:=λb=>b.2
def S_59L2 (n:Nat):LoopSpec where
 sh:= [(0,.io y0 2),(1,.v .int),(5,.v .int)]
 ex:= [(.exit 0,[(0,.io y0 2),(1,.v .int)])]
 run:=Am n
def C_59:Cx:=cx0 tt [(12,E_58),(40,E_57)] [(2,S_59L2 Aa)] 2
def B_59L2:Code:=(Try.f53.body.bind (Yag 2)).getD .skip
def D_59:Code:=Try.f53.body.getD .skip
def N_59 (o:XK E_59.params) (r:YH E_59.results):E_59.B:=(o.1,r)
def E_60:Entry where
 params:= [.pr (.v .int) (.pr (.v .int) (.io y0 2)),.v .int]
 results:= [.v .int]
 B:=(Unit×(Unit×(List ((List Int)×Int×(List (List Int))))))×Int
 run:=λa=>An a.1 a.2
 out:=λb=>(b.1,())
 res:=λb=>b.2
def C_60:Cx:=cx0 tt [(53,E_59)] [] 2
def D_60:Code:=Try.f19.body.getD .skip
def N_60 (o:XK E_60.params) (r:YH E_60.results):E_60.B:=(o.1,r)
def E_61:Entry where
 params:= [.pr (.v .int) (.io .int 0),.v .int]
 results:= [.v .int]
 B:=(Unit×(List Int))×Int
 run:=λa=>B0 a.1 a.2
 out:=λb=>(b.1,())
 res:=λb=>b.2
def C_61:Cx:=cx0 tt [(40,E_57)] [] 2
def D_61:Code:=Try.f26.body.getD .skip
def N_61 (o:XK E_61.params) (r:YH E_61.results):E_61.B:=(o.1,r)
def E_62:Entry where
 params:= [.v y1,.v .int]
 results:= [.v .int]
 B:=Int
 run:=λa=>AJ a.1 a.2
 out:=λb=>((),())
 res:=λb=>b
def S_62L2 (n:Nat):LoopSpec where
 sh:= [(0,.v y1),(1,.v .int),(5,.v .int)]
 ex:= [(.exit 0,[(1,.v .int)]),(.ret,[(4,.v .int)])]
 run:=AL n
def C_62:Cx:=cx0 tt [] [(2,S_62L2 Aa)] 2
def B_62L2:Code:=(Try.f41.body.bind (Yag 2)).getD .skip
def D_62:Code:=Try.f41.body.getD .skip
def N_62 (_:XK E_62.params) (r:YH E_62.results):E_62.B:=r
def E_63:Entry where
 params:= [.v y3,.v .int]
 results:= [.v .int]
 B:=Int
 run:=λa=>Bb a.1 a.2
 out:=λb=>((),())
 res:=λb=>b
def S_63L2 (n:Nat):LoopSpec where
 sh:= [(0,.v y3),(1,.v .int),(5,.v .int)]
 ex:= [(.exit 0,[(1,.v .int)]),(.ret,[(4,.v .int)])]
 run:=AH n
def C_63:Cx:=cx0 tt [(41,E_62)] [(2,S_63L2 Aa)] 2
def B_63L2:Code:=(Try.f13.body.bind (Yag 2)).getD .skip
def D_63:Code:=Try.f13.body.getD .skip
def N_63 (_:XK E_63.params) (r:YH E_63.results):E_63.B:=r
def E_64:Entry where
 params:= [.v y6,.v .int]
 results:= [.v .int]
 B:=Int
 run:=λa=>Ba a.1 a.2
 out:=λb=>((),())
 res:=λb=>b
def S_64L2 (n:Nat):LoopSpec where
 sh:= [(0,.v y6),(1,.v .int),(5,.v .int)]
 ex:= [(.exit 0,[(1,.v .int)]),(.ret,[(4,.v .int)])]
 run:=Al n
def C_64:Cx:=cx0 tt [(13,E_63),(41,E_62)] [(2,S_64L2 Aa)] 2
def B_64L2:Code:=(Try.f54.body.bind (Yag 2)).getD .skip
def D_64:Code:=Try.f54.body.getD .skip
def N_64 (_:XK E_64.params) (r:YH E_64.results):E_64.B:=r
def E_65:Entry where
 params:= [.v y2,.v .int]
 results:= [.v .int]
 B:=Int
 run:=λa=>Bi a.1 a.2
 out:=λb=>((),())
 res:=λb=>b
def C_65:Cx:=cx0 tt [(54,E_64)] [] 2
def D_65:Code:=Try.f20.body.getD .skip
def N_65 (_:XK E_65.params) (r:YH E_65.results):E_65.B:=r
def E_66:Entry where
 params:= [.v y2,.v y4]
 results:= [.v .bool]
 B:=Bool
 run:=λa=>A8 a.1 a.2
 out:=λb=>((),())
 res:=λb=>b
def C_66:Cx:=cx0 tt [(14,E_6),(16,E_13),(18,E_55),(19,E_60),(20,E_65),(21,E_7),(22,E_30),(23,E_14),(24,E_49),(25,E_56),(26,E_61)] [] 2
def D_66:Code:=Try.f5.body.getD .skip
def N_66 (_:XK E_66.params) (r:YH E_66.results):E_66.B:=r
end
end T
