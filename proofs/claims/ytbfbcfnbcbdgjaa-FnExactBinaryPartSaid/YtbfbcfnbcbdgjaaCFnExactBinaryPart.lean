/- Contexts of the typed functions; no conditions. -/
import Derived.Test.YtbfbcfnbcbdgjaaV5
import Derived.Test.YtbfbcfnbcbdgjaaProg
import Derived.Test.YtbfbcfnbcbdgjaaPFnExactBinaryPart
import Derived.KernelRfl
set_option linter.all false
set_option linter.unusedVariables false
set_option maxRecDepth 10000
open Go Go.Va Go.Proofs
namespace T
noncomputable section
abbrev y0:Ty:= .pair (.slice .int) (.pair .int (.slice (.slice .int)))
abbrev y1:Ty:= .slice .int
abbrev y2:Ty:= .pair .int (.pair .int (.slice y0))
abbrev y3:Ty:= .pair .int (.slice y1)
abbrev y4:Ty:= .slice y0
abbrev y5:Ty:= .slice y1
def tt:List (Nat×TI):= [
 (2,{ ty:= .int }),
 (3,{ ty:= .int }),
 (4,{ ty:= .bool }),
 (22,{ ty:=y5,elem:=42 }),
 (29,{ ty:=y4,elem:=90 }),
 (31,{ ty:=y2,fields:= [3,3,29] }),
 (33,{ ty:=y4,elem:=66 }),
 (35,{ ty:=y2,fields:= [3,3,33] }),
 (42,{ ty:=y1,elem:=3 }),
 (59,{ ty:=(.op false) }),
 (64,{ ty:=y3,fields:= [3,22] }),
 (66,{ ty:=y0,fields:= [42,64] }),
 (88,{ ty:=y3,fields:= [3,22] }),
 (90,{ ty:=y0,fields:= [42,88] })]
theorem tabT:Yif Try.prog tt=true:=by kernel_rfl
theorem mixT:Try.prog.follows .mixedOrders=true:=by kernel_rfl
def E_1:Entry where
 params:= [.v y1,.v .int]
 results:= [.v .int]
 B:=Int
 run:=λa=>Bb a.1 a.2
 out:=λb=>((),())
 res:=λb=>b
def C_1:Cx:=cx0 tt [] [] 2
def D_1:Code:=Try.f29.body.getD .skip
def N_1 (_:XK E_1.params) (r:YH E_1.results):E_1.B:=r
def E_2:Entry where
 params:= [.v y5,.v .int]
 results:= [.v .int]
 B:=Int
 run:=λa=>B2 a.1 a.2
 out:=λb=>((),())
 res:=λb=>b
def S_2L5 (n:Nat):LoopSpec where
 sh:= [(0,.v y5),(1,.v .int),(5,.v .int)]
 ex:= [(.exit 0,[(1,.v .int)]),(.ret,[(4,.v .int)])]
 run:=AS n
def C_2:Cx:=cx0 tt [(29,E_1)] [(5,S_2L5 Aa)] 2
def B_2L5:Code:=(Try.f7.body.bind (Yag 5)).getD .skip
def D_2:Code:=Try.f7.body.getD .skip
def N_2 (_:XK E_2.params) (r:YH E_2.results):E_2.B:=r
def E_3:Entry where
 params:= [.v y3,.v .int]
 results:= [.v .int]
 B:=Int
 run:=λa=>Cd a.1 a.2
 out:=λb=>((),())
 res:=λb=>b
def C_3:Cx:=cx0 tt [(7,E_2)] [] 2
def D_3:Code:=Try.f95.body.getD .skip
def N_3 (_:XK E_3.params) (r:YH E_3.results):E_3.B:=r
def E_4:Entry where
 params:= [.v y0,.v .int]
 results:= [.v .int]
 B:=Int
 run:=λa=>AX a.1 a.2
 out:=λb=>((),())
 res:=λb=>b
def C_4:Cx:=cx0 tt [(29,E_1),(95,E_3)] [] 2
def D_4:Code:=Try.f76.body.getD .skip
def N_4 (_:XK E_4.params) (r:YH E_4.results):E_4.B:=r
def E_5:Entry where
 params:= [.v y4,.v .int]
 results:= [.v .int]
 B:=Int
 run:=λa=>BN a.1 a.2
 out:=λb=>((),())
 res:=λb=>b
def S_5L5 (n:Nat):LoopSpec where
 sh:= [(0,.v y4),(1,.v .int),(5,.v .int)]
 ex:= [(.exit 0,[(1,.v .int)]),(.ret,[(4,.v .int)])]
 run:=Ar n
def C_5:Cx:=cx0 tt [(76,E_4)] [(5,S_5L5 Aa)] 2
def B_5L5:Code:=(Try.f42.body.bind (Yag 5)).getD .skip
def D_5:Code:=Try.f42.body.getD .skip
def N_5 (_:XK E_5.params) (r:YH E_5.results):E_5.B:=r
def E_6:Entry where
 params:= [.v y2,.v .int]
 results:= [.v .int]
 B:=Int
 run:=λa=>BO a.1 a.2
 out:=λb=>((),())
 res:=λb=>b
def C_6:Cx:=cx0 tt [(42,E_5)] [] 2
def D_6:Code:=Try.f14.body.getD .skip
def N_6 (_:XK E_6.params) (r:YH E_6.results):E_6.B:=r
def E_7:Entry where
 params:= [.v y1]
 results:= [.mv .int 0]
 B:=(List Int)
 run:=λa=>BW a
 out:=λb=>()
 res:=λb=>b
def S_7L3 (n:Nat):LoopSpec where
 sh:= [(0,.v y1),(3,.mv .int 0),(4,.v .int)]
 ex:= [(.exit 0,[(3,.mv .int 0)])]
 run:=Bc n
def C_7:Cx:=cx0 tt [] [(3,S_7L3 Aa)] 1
def B_7L3:Code:=(Try.f32.body.bind (Yag 3)).getD .skip
def D_7:Code:=Try.f32.body.getD .skip
def N_7 (_:XK E_7.params) (r:YH E_7.results):E_7.B:=r
def E_8:Entry where
 params:= [.v y5]
 results:= [.mv y1 1]
 B:=(List (List Int))
 run:=λa=>B3 a
 out:=λb=>()
 res:=λb=>b
def S_8L3 (n:Nat):LoopSpec where
 sh:= [(0,.v y5),(3,.mv y1 1),(4,.v .int)]
 ex:= [(.exit 0,[(3,.mv y1 1)])]
 run:=AT n
def C_8:Cx where
 tt:=YaU tt
 T:=Ygp [(32,E_7)]
 L:=Ygo [(3,S_8L3 Aa)]
 dep:=λi=>match i with
  |7=>1
  |_=>0
 n:=1
def B_8L3:Code:=(Try.f9.body.bind (Yag 3)).getD .skip
def D_8:Code:=Try.f9.body.getD .skip
def N_8 (_:XK E_8.params) (r:YH E_8.results):E_8.B:=r
def E_9:Entry where
 params:= [.v y3]
 results:= [.pr (.v .int) (.mv y1 1)]
 B:=(Int×(List (List Int)))
 run:=λa=>Ce a
 out:=λb=>()
 res:=λb=>b
def C_9:Cx:=cx0 tt [(9,E_8)] [] 1
def D_9:Code:=Try.f97.body.getD .skip
def N_9 (_:XK E_9.params) (r:YH E_9.results):E_9.B:=r
def E_10:Entry where
 params:= [.v y0]
 results:= [.pr (.mv .int 0) (.pr (.v .int) (.mv y1 1))]
 B:=((List Int)×(Int×(List (List Int))))
 run:=λa=>AY a
 out:=λb=>()
 res:=λb=>b
def C_10:Cx:=cx0 tt [(32,E_7),(97,E_9)] [] 1
def D_10:Code:=Try.f79.body.getD .skip
def N_10 (_:XK E_10.params) (r:YH E_10.results):E_10.B:=r
def E_11:Entry where
 params:= [.v y4]
 results:= [.mv y0 2]
 B:=(List ((List Int)×Int×(List (List Int))))
 run:=λa=>BP a
 out:=λb=>()
 res:=λb=>b
def S_11L3 (n:Nat):LoopSpec where
 sh:= [(0,.v y4),(3,.mv y0 2),(4,.v .int)]
 ex:= [(.exit 0,[(3,.mv y0 2)])]
 run:=As n
def C_11:Cx where
 tt:=YaU tt
 T:=Ygp [(79,E_10)]
 L:=Ygo [(3,S_11L3 Aa)]
 dep:=λi=>match i with
  |7=>2
  |_=>0
 n:=1
def B_11L3:Code:=(Try.f47.body.bind (Yag 3)).getD .skip
def D_11:Code:=Try.f47.body.getD .skip
def N_11 (_:XK E_11.params) (r:YH E_11.results):E_11.B:=r
def E_12:Entry where
 params:= [.v y2]
 results:= [.pr (.v .int) (.pr (.v .int) (.mv y0 2))]
 B:=(Int×(Int×(List ((List Int)×Int×(List (List Int))))))
 run:=λa=>AB a
 out:=λb=>()
 res:=λb=>b
def C_12:Cx:=cx0 tt [(47,E_11)] [] 1
def D_12:Code:=Try.f16.body.getD .skip
def N_12 (_:XK E_12.params) (r:YH E_12.results):E_12.B:=r
def E_13:Entry where
 params:= [.v .int,.v .int,.v .int]
 results:= [.v .bool]
 B:=Bool
 run:=λa=>BH a.1 a.2.1 a.2.2
 out:=λb=>((),(),())
 res:=λb=>b
def C_13:Cx:=cx0 tt [] [] 3
def D_13:Code:=Try.f65.body.getD .skip
def N_13 (_:XK E_13.params) (r:YH E_13.results):E_13.B:=r
def E_14:Entry where
 params:= [.v .int,.v .int]
 results:= [.v .int]
 B:=Int
 run:=λa=>CB a.1 a.2
 out:=λb=>((),())
 res:=λb=>b
def S_14L2 (n:Nat):LoopSpec where
 sh:= [(0,.v .int),(1,.v .int),(5,.v .int)]
 ex:= [(.exit 0,[(5,.v .int)])]
 run:=By n
def C_14:Cx:=cx0 tt [] [(2,S_14L2 Aa)] 2
def B_14L2:Code:=(Try.f66.body.bind (Yag 2)).getD .skip
def D_14:Code:=Try.f66.body.getD .skip
def N_14 (_:XK E_14.params) (r:YH E_14.results):E_14.B:=r
def E_15:Entry where
 params:= [.v .int,.v y1]
 results:= [.v .bool]
 B:=Bool
 run:=λa=>Bk a.1 a.2
 out:=λb=>((),())
 res:=λb=>b
def S_15L2 (n:Nat):LoopSpec where
 sh:= [(0,.v .int),(1,.v y1),(5,.v .int)]
 ex:= [(.exit 0,[]),(.ret,[(4,.v .bool)])]
 run:=AC n
def C_15:Cx:=cx0 tt [(65,E_13)] [(2,S_15L2 Aa)] 2
def B_15L2:Code:=(Try.f89.body.bind (Yag 2)).getD .skip
def D_15:Code:=Try.f89.body.getD .skip
def N_15 (_:XK E_15.params) (r:YH E_15.results):E_15.B:=r
def E_16:Entry where
 params:= [.v .int,.v .int,.v y1]
 results:= [.v .bool]
 B:=Bool
 run:=λa=>Ca a.1 a.2.1 a.2.2
 out:=λb=>((),(),())
 res:=λb=>b
def C_16:Cx:=cx0 tt [(89,E_15)] [] 3
def D_16:Code:=Try.f67.body.getD .skip
def N_16 (_:XK E_16.params) (r:YH E_16.results):E_16.B:=r
def E_17:Entry where
 params:= [.v y1,.v y1]
 results:= [.v .bool]
 B:=Bool
 run:=λa=>Co a.1 a.2
 out:=λb=>((),())
 res:=λb=>b
def S_17L2 (n:Nat):LoopSpec where
 sh:= [(0,.v y1),(1,.v y1),(5,.v .int)]
 ex:= [(.exit 0,[]),(.ret,[(4,.v .bool)])]
 run:=Be n
def C_17:Cx:=cx0 tt [] [(2,S_17L2 Aa)] 2
def B_17L2:Code:=(Try.f68.body.bind (Yag 2)).getD .skip
def D_17:Code:=Try.f68.body.getD .skip
def N_17 (_:XK E_17.params) (r:YH E_17.results):E_17.B:=r
def E_18:Entry where
 params:= [.v .int,.v y3]
 results:= [.v .bool]
 B:=Bool
 run:=λa=>B6 a.1 a.2
 out:=λb=>((),())
 res:=λb=>b
def S_18L4 (n:Nat):LoopSpec where
 sh:= [(0,.v .int),(3,.bx (.v y3)),(5,.v .int)]
 ex:= [(.exit 0,[]),(.ret,[(4,.v .bool)])]
 run:=AF n
def C_18:Cx:=cx0 tt [(65,E_13),(66,E_14),(67,E_16),(68,E_17)] [(4,S_18L4 Aa)] 2
def B_18L4:Code:=(Try.f96.body.bind (Yag 4)).getD .skip
def D_18:Code:=Try.f96.body.getD .skip
def N_18 (_:XK E_18.params) (r:YH E_18.results):E_18.B:=r
def E_19:Entry where
 params:= [.v .int,.v .int,.v y0]
 results:= [.v .bool]
 B:=Bool
 run:=λa=>CA a.1 a.2.1 a.2.2
 out:=λb=>((),(),())
 res:=λb=>b
def C_19:Cx:=cx0 tt [(89,E_15),(96,E_18)] [] 3
def D_19:Code:=Try.f77.body.getD .skip
def N_19 (_:XK E_19.params) (r:YH E_19.results):E_19.B:=r
def E_20:Entry where
 params:= [.v y2]
 results:= [.v .bool]
 B:=Bool
 run:=λa=>BD a
 out:=λb=>()
 res:=λb=>b
def S_20L4 (n:Nat):LoopSpec where
 sh:= [(1,.bx (.v y2)),(3,.v .int)]
 ex:= [(.exit 0,[]),(.ret,[(2,.v .bool)])]
 run:=AU n
def C_20:Cx:=cx0 tt [(65,E_13),(77,E_19)] [(4,S_20L4 Aa)] 1
def B_20L4:Code:=(Try.f43.body.bind (Yag 4)).getD .skip
def D_20:Code:=Try.f43.body.getD .skip
def N_20 (_:XK E_20.params) (r:YH E_20.results):E_20.B:=r
def E_21:Entry where
 params:= [.v y1]
 results:= [.mv .int 0]
 B:=(List Int)
 run:=λa=>B8 a
 out:=λb=>()
 res:=λb=>b
def C_21:Cx:=cx0 tt [] [] 1
def D_21:Code:=Try.f62.body.getD .skip
def N_21 (_:XK E_21.params) (r:YH E_21.results):E_21.B:=r
def E_22:Entry where
 params:= [.v y4]
 results:= [.mv y0 0]
 B:=(List ((List Int)×Int×(List (List Int))))
 run:=λa=>B7 a
 out:=λb=>()
 res:=λb=>b
def S_22L7 (n:Nat):LoopSpec where
 sh:= [(0,.v y4),(3,.mv y0 0),(4,.v .int),(5,.bx (.pr (.mv .int 0) (.pr (.v .int) (.mv y1 0)))),(6,.v .int)]
 ex:= [(.exit 2,[(0,.v y4),(3,.mv y0 0),(4,.v .int),(5,.bx (.pr (.mv .int 0) (.pr (.v .int) (.mv y1 0))))])]
 run:=AH n
def S_22L3 (n:Nat):LoopSpec where
 sh:= [(0,.v y4),(3,.mv y0 0),(4,.v .int)]
 ex:= [(.exit 0,[(3,.mv y0 0)])]
 run:=AG n
def C_22:Cx:=cx0 tt [(62,E_21)] [(7,S_22L7 Aa),(3,S_22L3 Aa)] 1
def B_22L7:Code:=(Try.f44.body.bind (Yag 7)).getD .skip
def B_22L3:Code:=(Try.f44.body.bind (Yag 3)).getD .skip
def D_22:Code:=Try.f44.body.getD .skip
def N_22 (_:XK E_22.params) (r:YH E_22.results):E_22.B:=r
def E_23:Entry where
 params:= [.v y1,.v y1]
 results:= [.mv .int 0]
 B:=(List Int)
 run:=λa=>CH a.1 a.2
 out:=λb=>((),())
 res:=λb=>b
def S_23L3 (n:Nat):LoopSpec where
 sh:= [(0,.v y1),(1,.v y1),(5,.mv .int 0),(6,.v .int)]
 ex:= [(.exit 0,[(5,.mv .int 0)])]
 run:=B9 n
def C_23:Cx:=cx0 tt [] [(3,S_23L3 Aa)] 2
def B_23L3:Code:=(Try.f78.body.bind (Yag 3)).getD .skip
def D_23:Code:=Try.f78.body.getD .skip
def N_23 (_:XK E_23.params) (r:YH E_23.results):E_23.B:=r
def E_24:Entry where
 params:= [.v y1,.v y1]
 results:= [.v .bool]
 B:=Bool
 run:=λa=>Cn a.1 a.2
 out:=λb=>((),())
 res:=λb=>b
def S_24L4 (n:Nat):LoopSpec where
 sh:= [(0,.v y1),(1,.v y1),(5,.v .int)]
 ex:= [(.exit 0,[]),(.ret,[(4,.v .bool)])]
 run:=Bd n
def C_24:Cx:=cx0 tt [] [(4,S_24L4 Aa)] 2
def B_24L4:Code:=(Try.f85.body.bind (Yag 4)).getD .skip
def D_24:Code:=Try.f85.body.getD .skip
def N_24 (_:XK E_24.params) (r:YH E_24.results):E_24.B:=r
def E_25:Entry where
 params:= [.v y5,.v y1]
 results:= [.v .int,.v .bool]
 B:=Int×Bool
 run:=λa=>Cq a.1 a.2
 out:=λb=>((),())
 res:=λb=>(b.1,b.2)
def S_25L2 (n:Nat):LoopSpec where
 sh:= [(0,.v y5),(1,.v y1),(6,.v .int),(7,.v .int)]
 ex:= [(.exit 0,[(0,.v y5),(1,.v y1),(6,.v .int)])]
 run:=AP n
def C_25:Cx:=cx0 tt [(68,E_17),(85,E_24)] [(2,S_25L2 Aa)] 2
def B_25L2:Code:=(Try.f90.body.bind (Yag 2)).getD .skip
def D_25:Code:=Try.f90.body.getD .skip
def N_25 (_:XK E_25.params) (r:YH E_25.results):E_25.B:=(r.1,r.2)
def E_26:Entry where
 params:= [.v y5,.v y1]
 results:= [.v y5]
 B:=(List (List Int))
 run:=λa=>CC a.1 a.2
 out:=λb=>((),())
 res:=λb=>b
def C_26:Cx:=cx0 tt [(90,E_25)] [] 2
def D_26:Code:=Try.f70.body.getD .skip
def N_26 (_:XK E_26.params) (r:YH E_26.results):E_26.B:=r
def E_27:Entry where
 params:= [.v y3,.v y1]
 results:= [.v y3]
 B:=(Int×(List (List Int)))
 run:=λa=>Bj a.1 a.2
 out:=λb=>((),())
 res:=λb=>b
def S_27L3 (n:Nat):LoopSpec where
 sh:= [(1,.v y1),(2,.bx (.v y3)),(4,.bx (.pr (.v .int) (.mv y1 0))),(5,.bx (.v y3)),(6,.v .int)]
 ex:= [(.exit 0,[(4,.bx (.pr (.v .int) (.mv y1 0))),(5,.bx (.v y3))])]
 run:=Av n
def C_27:Cx:=cx0 tt [(70,E_26),(78,E_23)] [(3,S_27L3 Aa)] 2
def B_27L3:Code:=(Try.f45.body.bind (Yag 3)).getD .skip
def D_27:Code:=Try.f45.body.getD .skip
def N_27 (_:XK E_27.params) (r:YH E_27.results):E_27.B:=r
def E_28:Entry where
 params:= [.v y2]
 results:= [.v y2,.v .bool]
 B:=(Int×Int×(List ((List Int)×Int×(List (List Int)))))×Bool
 run:=λa=>CF a
 out:=λb=>()
 res:=λb=>(b.1,b.2)
def C_28:Cx:=cx0 tt [(43,E_20)] [] 1
def D_28:Code:=Try.f46.body.getD .skip
def N_28 (_:XK E_28.params) (r:YH E_28.results):E_28.B:=(r.1,r.2)
def E_29:Entry where
 params:= [.v y2]
 results:= [.v y2,.v .bool]
 B:=(Int×Int×(List ((List Int)×Int×(List (List Int)))))×Bool
 run:=λa=>Bi a
 out:=λb=>()
 res:=λb=>(b.1,b.2)
def S_29L14 (n:Nat):LoopSpec where
 sh:= [(1,.bx (.v y2)),(2,.bx (.pr (.v .int) (.pr (.v .int) (.mv y0 0)))),(4,.bx (.pr (.v .int) (.pr (.v .int) (.mv y0 0)))),(5,.v .int),(6,.bx (.v y0)),(7,.v .int),(8,.v .int)]
 ex:= [(.exit 4,[(1,.bx (.v y2)),(2,.bx (.pr (.v .int) (.pr (.v .int) (.mv y0 0)))),(4,.bx (.pr (.v .int) (.pr (.v .int) (.mv y0 0)))),(5,.v .int),(6,.bx (.v y0)),(7,.v .int)])]
 run:=Az n
def S_29L11 (n:Nat):LoopSpec where
 sh:= [(1,.bx (.v y2)),(2,.bx (.pr (.v .int) (.pr (.v .int) (.mv y0 0)))),(4,.bx (.pr (.v .int) (.pr (.v .int) (.mv y0 0)))),(5,.v .int),(6,.bx (.v y0)),(7,.v .int)]
 ex:= [(.exit 2,[(1,.bx (.v y2)),(2,.bx (.pr (.v .int) (.pr (.v .int) (.mv y0 0)))),(4,.bx (.pr (.v .int) (.pr (.v .int) (.mv y0 0)))),(5,.v .int)])]
 run:=Af n
def S_29L5 (n:Nat):LoopSpec where
 sh:= [(1,.bx (.v y2)),(2,.bx (.pr (.v .int) (.pr (.v .int) (.mv y0 0)))),(4,.bx (.pr (.v .int) (.pr (.v .int) (.mv y0 0)))),(5,.v .int)]
 ex:= [(.exit 0,[(2,.bx (.pr (.v .int) (.pr (.v .int) (.mv y0 0)))),(4,.bx (.pr (.v .int) (.pr (.v .int) (.mv y0 0))))])]
 run:=Aj n
def C_29:Cx:=cx0 tt [(43,E_20),(44,E_22),(45,E_27),(46,E_28)] [(14,S_29L14 Aa),(11,S_29L11 Aa),(5,S_29L5 Aa)] 1
def B_29L14:Code:=(Try.f15.body.bind (Yag 14)).getD .skip
def B_29L11:Code:=(Try.f15.body.bind (Yag 11)).getD .skip
def B_29L5:Code:=(Try.f15.body.bind (Yag 5)).getD .skip
def D_29:Code:=Try.f15.body.getD .skip
def N_29 (_:XK E_29.params) (r:YH E_29.results):E_29.B:=(r.1,r.2)
def E_30:Entry where
 params:= [.v .int]
 results:= [.v .bool]
 B:=Bool
 run:=λa=>BC a
 out:=λb=>()
 res:=λb=>b
def C_30:Cx:=cx0 tt [] [] 1
def D_30:Code:=Try.f80.body.getD .skip
def N_30 (_:XK E_30.params) (r:YH E_30.results):E_30.B:=r
def E_31:Entry where
 params:= [.v y1,.v .int]
 results:= [.v .bool]
 B:=Bool
 run:=λa=>BU a.1 a.2
 out:=λb=>((),())
 res:=λb=>b
def S_31L2 (n:Nat):LoopSpec where
 sh:= [(1,.v .int),(7,.v y1),(8,.v .int),(9,.v .int)]
 ex:= [(.exit 0,[]),(.ret,[(4,.v .bool)])]
 run:=AZ n
def C_31:Cx:=cx0 tt [] [(2,S_31L2 Aa)] 2
def B_31L2:Code:=(Try.f72.body.bind (Yag 2)).getD .skip
def D_31:Code:=Try.f72.body.getD .skip
def N_31 (_:XK E_31.params) (r:YH E_31.results):E_31.B:=r
def E_32:Entry where
 params:= [.v y1,.v y1]
 results:= [.v .int]
 B:=Int
 run:=λa=>BT a.1 a.2
 out:=λb=>((),())
 res:=λb=>b
def S_32L2 (n:Nat):LoopSpec where
 sh:= [(0,.v y1),(1,.v y1),(5,.v .int)]
 ex:= [(.exit 0,[(0,.v y1),(1,.v y1)]),(.ret,[(4,.v .int)])]
 run:=Ak n
def C_32:Cx:=cx0 tt [] [(2,S_32L2 Aa)] 2
def B_32L2:Code:=(Try.f37.body.bind (Yag 2)).getD .skip
def D_32:Code:=Try.f37.body.getD .skip
def N_32 (_:XK E_32.params) (r:YH E_32.results):E_32.B:=r
def E_33:Entry where
 params:= [.v .int,.v y3]
 results:= [.v .bool]
 B:=Bool
 run:=λa=>BB a.1 a.2
 out:=λb=>((),())
 res:=λb=>b
def S_33L4 (n:Nat):LoopSpec where
 sh:= [(0,.v .int),(3,.bx (.v y3)),(16,.v y5),(17,.v .int),(18,.v .int)]
 ex:= [(.exit 0,[]),(.ret,[(4,.v .bool)])]
 run:=Au n
def C_33:Cx:=cx0 tt [(37,E_32),(72,E_31)] [(4,S_33L4 Aa)] 2
def B_33L4:Code:=(Try.f98.body.bind (Yag 4)).getD .skip
def D_33:Code:=Try.f98.body.getD .skip
def N_33 (_:XK E_33.params) (r:YH E_33.results):E_33.B:=r
def E_34:Entry where
 params:= [.v .int,.v .int,.v y0]
 results:= [.v .bool]
 B:=Bool
 run:=λa=>Bp a.1 a.2.1 a.2.2
 out:=λb=>((),(),())
 res:=λb=>b
def C_34:Cx:=cx0 tt [(72,E_31),(98,E_33)] [] 3
def D_34:Code:=Try.f81.body.getD .skip
def N_34 (_:XK E_34.params) (r:YH E_34.results):E_34.B:=r
def E_35:Entry where
 params:= [.v y2]
 results:= [.v .bool]
 B:=Bool
 run:=λa=>BI a
 out:=λb=>()
 res:=λb=>b
def S_35L4 (n:Nat):LoopSpec where
 sh:= [(1,.bx (.v y2)),(26,.v y4),(27,.v .int),(28,.v .int)]
 ex:= [(.exit 0,[]),(.ret,[(2,.v .bool)])]
 run:=AI n
def C_35:Cx:=cx0 tt [(80,E_30),(81,E_34)] [(4,S_35L4 Aa)] 1
def B_35L4:Code:=(Try.f48.body.bind (Yag 4)).getD .skip
def D_35:Code:=Try.f48.body.getD .skip
def N_35 (_:XK E_35.params) (r:YH E_35.results):E_35.B:=r
def E_36:Entry where
 params:= [.v y1]
 results:= [.mv .int 0]
 B:=(List Int)
 run:=λa=>Bv a
 out:=λb=>()
 res:=λb=>b
def C_36:Cx:=cx0 tt [] [] 1
def D_36:Code:=Try.f59.body.getD .skip
def N_36 (_:XK E_36.params) (r:YH E_36.results):E_36.B:=r
def E_37:Entry where
 params:= [.v y5]
 results:= [.mv y1 1]
 B:=(List (List Int))
 run:=λa=>Bn a
 out:=λb=>()
 res:=λb=>b
def S_37L3 (n:Nat):LoopSpec where
 sh:= [(3,.mv y1 1),(7,.v y5),(8,.v .int),(9,.v .int)]
 ex:= [(.exit 0,[(3,.mv y1 1)])]
 run:=Aw n
def C_37:Cx where
 tt:=YaU tt
 T:=Ygp [(59,E_36)]
 L:=Ygo [(3,S_37L3 Aa)]
 dep:=λi=>match i with
  |6=>1
  |16=>1
  |17=>1
  |_=>0
 n:=1
def B_37L3:Code:=(Try.f99.body.bind (Yag 3)).getD .skip
def D_37:Code:=Try.f99.body.getD .skip
def N_37 (_:XK E_37.params) (r:YH E_37.results):E_37.B:=r
def E_38:Entry where
 params:= [.v y3]
 results:= [.pr (.v .int) (.mv y1 1)]
 B:=(Int×(List (List Int)))
 run:=λa=>Bm a
 out:=λb=>()
 res:=λb=>b
def C_38:Cx:=cx0 tt [(99,E_37)] [] 1
def D_38:Code:=Try.f82.body.getD .skip
def N_38 (_:XK E_38.params) (r:YH E_38.results):E_38.B:=r
def E_39:Entry where
 params:= [.v y4]
 results:= [.mv y0 2]
 B:=(List ((List Int)×Int×(List (List Int))))
 run:=λa=>AE a
 out:=λb=>()
 res:=λb=>b
def S_39L3 (n:Nat):LoopSpec where
 sh:= [(3,.mv y0 2),(7,.v y4),(8,.v .int),(9,.v .int)]
 ex:= [(.exit 0,[(3,.mv y0 2)])]
 run:=AL n
def C_39:Cx where
 tt:=YaU tt
 T:=Ygp [(59,E_36),(82,E_38)]
 L:=Ygo [(3,S_39L3 Aa)]
 dep:=λi=>match i with
  |6=>2
  |21=>2
  |22=>2
  |_=>0
 n:=1
def B_39L3:Code:=(Try.f49.body.bind (Yag 3)).getD .skip
def D_39:Code:=Try.f49.body.getD .skip
def N_39 (_:XK E_39.params) (r:YH E_39.results):E_39.B:=r
def E_40:Entry where
 params:= [.io y1 1,.v (.fn 37)]
 results:= []
 B:=List (List Int)
 run:=λa=>Ap a.1 a.2
 out:=λb=>(b,())
 res:=λb=>()
def D_40:Code:=Try.f36.body.getD .skip
def E_41:Entry where
 params:= [.v y5]
 results:= [.mv y1 1]
 B:=(List (List Int))
 run:=λa=>Bs a
 out:=λb=>()
 res:=λb=>b
def C_41:Cx:=cx0 tt [(99,E_37),(2490404,E_40)] [] 1
def D_41:Code:=Try.f83.body.getD .skip
def N_41 (_:XK E_41.params) (r:YH E_41.results):E_41.B:=r
def E_42:Entry where
 params:= [.v y1,.v y1]
 results:= [.v .bool]
 B:=Bool
 run:=λa=>EE a.1 a.2
 out:=λb=>((),())
 res:=λb=>b
def S_42L4 (n:Nat):LoopSpec where
 sh:= [(1,.v y1),(12,.v y1),(13,.v .int),(14,.v .int)]
 ex:= [(.exit 0,[]),(.ret,[(4,.v .bool)])]
 run:=BX n
def C_42:Cx:=cx0 tt [] [(4,S_42L4 Aa)] 2
def B_42L4:Code:=(Try.f73.body.bind (Yag 4)).getD .skip
def D_42:Code:=Try.f73.body.getD .skip
def N_42 (_:XK E_42.params) (r:YH E_42.results):E_42.B:=r
def E_43:Entry where
 params:= [.mv y1 1]
 results:= [.mv y1 1]
 B:=List (List Int)
 run:=λa=>BJ a
 out:=λb=>()
 res:=λb=>b
def D_43:Code:=Try.f38.body.getD .skip
def E_44:Entry where
 params:= [.v .int,.v y5]
 results:= [.pr (.v .int) (.mv y1 1)]
 B:=(Int×(List (List Int)))
 run:=λa=>Bq a.1 a.2
 out:=λb=>((),())
 res:=λb=>b
def C_44:Cx:=cx0 tt [(38,E_43),(83,E_41)] [] 2
def D_44:Code:=Try.f50.body.getD .skip
def N_44 (_:XK E_44.params) (r:YH E_44.results):E_44.B:=r
def E_45:Entry where
 params:= [.v y2,.mv y0 2]
 results:= [.pr (.v .int) (.pr (.v .int) (.mv y0 2)),.v .bool]
 B:=(Int×(Int×(List ((List Int)×Int×(List (List Int))))))×Bool
 run:=λa=>Bz a.1 a.2
 out:=λb=>((),())
 res:=λb=>(b.1,b.2)
def C_45:Cx:=cx0 tt [] [] 2
def D_45:Code:=Try.f51.body.getD .skip
def N_45 (_:XK E_45.params) (r:YH E_45.results):E_45.B:=(r.1,r.2)
def E_46:Entry where
 params:= [.v y2]
 results:= [.pr (.v .int) (.pr (.v .int) (.mv y0 2)),.v .bool]
 B:=(Int×(Int×(List ((List Int)×Int×(List (List Int))))))×Bool
 run:=λa=>AQ a
 out:=λb=>()
 res:=λb=>(b.1,b.2)
def S_46L17 (n:Nat):LoopSpec where
 sh:= [(1,.bx (.v y2)),(2,.bx (.pr (.v .int) (.pr (.v .int) (.mv y0 2)))),(4,.mv y0 2),(6,.bx (.v y0)),(7,.v .int),(8,.v .int),(9,.mv y1 1),(18,.v y4),(19,.v .int),(20,.v .int),(35,.v .int),(36,.v .int),(51,.v y5),(52,.v .int),(53,.v .int)]
 ex:= [(.exit 6,[(1,.bx (.v y2)),(2,.bx (.pr (.v .int) (.pr (.v .int) (.mv y0 2)))),(4,.mv y0 2),(6,.bx (.v y0)),(7,.v .int),(8,.v .int),(9,.mv y1 1),(18,.v y4),(19,.v .int),(20,.v .int),(35,.v .int),(36,.v .int)])]
 run:=Ai n
def S_46L13 (n:Nat):LoopSpec where
 sh:= [(1,.bx (.v y2)),(2,.bx (.pr (.v .int) (.pr (.v .int) (.mv y0 2)))),(4,.mv y0 2),(6,.bx (.v y0)),(7,.v .int),(8,.v .int),(18,.v y4),(19,.v .int),(20,.v .int),(35,.v .int),(36,.v .int)]
 ex:= [(.exit 4,[(1,.bx (.v y2)),(2,.bx (.pr (.v .int) (.pr (.v .int) (.mv y0 2)))),(4,.mv y0 2),(6,.bx (.v y0)),(18,.v y4),(19,.v .int),(20,.v .int),(35,.v .int),(36,.v .int)])]
 run:=Ay n
def S_46L10 (n:Nat):LoopSpec where
 sh:= [(1,.bx (.v y2)),(2,.bx (.pr (.v .int) (.pr (.v .int) (.mv y0 2)))),(4,.mv y0 2),(6,.bx (.v y0)),(18,.v y4),(19,.v .int),(20,.v .int),(35,.v .int),(36,.v .int)]
 ex:= [(.exit 2,[(1,.bx (.v y2)),(2,.bx (.pr (.v .int) (.pr (.v .int) (.mv y0 2)))),(4,.mv y0 2),(18,.v y4),(19,.v .int),(20,.v .int)])]
 run:=Ae n
def S_46L5 (n:Nat):LoopSpec where
 sh:= [(1,.bx (.v y2)),(2,.bx (.pr (.v .int) (.pr (.v .int) (.mv y0 2)))),(4,.mv y0 2),(18,.v y4),(19,.v .int),(20,.v .int)]
 ex:= [(.exit 0,[(1,.bx (.v y2)),(2,.bx (.pr (.v .int) (.pr (.v .int) (.mv y0 2)))),(4,.mv y0 2)])]
 run:=Ah n
def C_46:Cx where
 tt:=YaU tt
 T:=Ygp [(48,E_35),(49,E_39),(50,E_44),(51,E_45)]
 L:=Ygo [(17,S_46L17 Aa),(13,S_46L13 Aa),(10,S_46L10 Aa),(5,S_46L5 Aa)]
 dep:=λi=>match i with
  |16=>2
  |32=>2
  |48=>1
  |67=>1
  |68=>1
  |85=>2
  |86=>2
  |_=>0
 n:=1
def B_46L17:Code:=(Try.f17.body.bind (Yag 17)).getD .skip
def B_46L13:Code:=(Try.f17.body.bind (Yag 13)).getD .skip
def B_46L10:Code:=(Try.f17.body.bind (Yag 10)).getD .skip
def B_46L5:Code:=(Try.f17.body.bind (Yag 5)).getD .skip
def D_46:Code:=Try.f17.body.getD .skip
def N_46 (_:XK E_46.params) (r:YH E_46.results):E_46.B:=(r.1,r.2)
def E_47:Entry where
 params:= [.v y1,.v y1]
 results:= [.v .bool]
 B:=Bool
 run:=λa=>BV a.1 a.2
 out:=λb=>((),())
 res:=λb=>b
def S_47L4 (n:Nat):LoopSpec where
 sh:= [(0,.v y1),(1,.v y1),(5,.v .int)]
 ex:= [(.exit 0,[]),(.ret,[(4,.v .bool)])]
 run:=A7 n
def C_47:Cx:=cx0 tt [] [(4,S_47L4 Aa)] 2
def B_47L4:Code:=(Try.f39.body.bind (Yag 4)).getD .skip
def D_47:Code:=Try.f39.body.getD .skip
def N_47 (_:XK E_47.params) (r:YH E_47.results):E_47.B:=r
def E_48:Entry where
 params:= [.v y5,.v y5]
 results:= [.v .bool]
 B:=Bool
 run:=λa=>B1 a.1 a.2
 out:=λb=>((),())
 res:=λb=>b
def S_48L4 (n:Nat):LoopSpec where
 sh:= [(0,.v y5),(1,.v y5),(5,.v .int)]
 ex:= [(.exit 0,[]),(.ret,[(4,.v .bool)])]
 run:=AR n
def C_48:Cx:=cx0 tt [(39,E_47)] [(4,S_48L4 Aa)] 2
def B_48L4:Code:=(Try.f11.body.bind (Yag 4)).getD .skip
def D_48:Code:=Try.f11.body.getD .skip
def N_48 (_:XK E_48.params) (r:YH E_48.results):E_48.B:=r
def E_49:Entry where
 params:= [.v y3,.v y3]
 results:= [.v .bool]
 B:=Bool
 run:=λa=>Cc a.1 a.2
 out:=λb=>((),())
 res:=λb=>b
def C_49:Cx:=cx0 tt [(11,E_48)] [] 2
def D_49:Code:=Try.f100.body.getD .skip
def N_49 (_:XK E_49.params) (r:YH E_49.results):E_49.B:=r
def E_50:Entry where
 params:= [.v y0,.v y0]
 results:= [.v .bool]
 B:=Bool
 run:=λa=>AW a.1 a.2
 out:=λb=>((),())
 res:=λb=>b
def C_50:Cx:=cx0 tt [(39,E_47),(100,E_49)] [] 2
def D_50:Code:=Try.f84.body.getD .skip
def N_50 (_:XK E_50.params) (r:YH E_50.results):E_50.B:=r
def E_51:Entry where
 params:= [.v y4,.v y4]
 results:= [.v .bool]
 B:=Bool
 run:=λa=>BK a.1 a.2
 out:=λb=>((),())
 res:=λb=>b
def S_51L4 (n:Nat):LoopSpec where
 sh:= [(0,.v y4),(1,.v y4),(5,.v .int)]
 ex:= [(.exit 0,[]),(.ret,[(4,.v .bool)])]
 run:=Aq n
def C_51:Cx:=cx0 tt [(84,E_50)] [(4,S_51L4 Aa)] 2
def B_51L4:Code:=(Try.f52.body.bind (Yag 4)).getD .skip
def D_51:Code:=Try.f52.body.getD .skip
def N_51 (_:XK E_51.params) (r:YH E_51.results):E_51.B:=r
def E_52:Entry where
 params:= [.v y2,.v y2]
 results:= [.v .bool]
 B:=Bool
 run:=λa=>Ao a.1 a.2
 out:=λb=>((),())
 res:=λb=>b
def C_52:Cx:=cx0 tt [(52,E_51)] [] 2
def D_52:Code:=Try.f18.body.getD .skip
def N_52 (_:XK E_52.params) (r:YH E_52.results):E_52.B:=r
def E_53:Entry where
 params:= [.io .int 0,.v .int]
 results:= [.v .int]
 B:=(List Int)×Int
 run:=λa=>Bw a.1 a.2
 out:=λb=>(b.1,())
 res:=λb=>b.2
def S_53L2 (n:Nat):LoopSpec where
 sh:= [(0,.io .int 0),(1,.v .int),(5,.v .int)]
 ex:= [(.exit 0,[(0,.io .int 0),(1,.v .int)])]
 run:=AO n
def C_53:Cx:=cx0 tt [] [(2,S_53L2 Aa)] 2
def B_53L2:Code:=(Try.f40.body.bind (Yag 2)).getD .skip
def D_53:Code:=Try.f40.body.getD .skip
def N_53 (o:XK E_53.params) (r:YH E_53.results):E_53.B:=(o.1,r)
def E_54:Entry where
 params:= [.io y1 1,.v .int]
 results:= [.v .int]
 B:=(List (List Int))×Int
 run:=λa=>BL a.1 a.2
 out:=λb=>(b.1,())
 res:=λb=>b.2
def S_54L2 (n:Nat):LoopSpec where
 sh:= [(0,.io y1 1),(1,.v .int),(5,.v .int)]
 ex:= [(.exit 0,[(0,.io y1 1),(1,.v .int)])]
 run:=AK n
def C_54:Cx:=cx0 tt [(40,E_53)] [(2,S_54L2 Aa)] 2
def B_54L2:Code:=(Try.f12.body.bind (Yag 2)).getD .skip
def D_54:Code:=Try.f12.body.getD .skip
def N_54 (o:XK E_54.params) (r:YH E_54.results):E_54.B:=(o.1,r)
def E_55:Entry where
 params:= [.io y0 2,.v .int]
 results:= [.v .int]
 B:=(List ((List Int)×Int×(List (List Int))))×Int
 run:=λa=>Ba a.1 a.2
 out:=λb=>(b.1,())
 res:=λb=>b.2
def S_55L2 (n:Nat):LoopSpec where
 sh:= [(0,.io y0 2),(1,.v .int),(5,.v .int)]
 ex:= [(.exit 0,[(0,.io y0 2),(1,.v .int)])]
 run:=Am n
def C_55:Cx:=cx0 tt [(12,E_54),(40,E_53)] [(2,S_55L2 Aa)] 2
def B_55L2:Code:=(Try.f53.body.bind (Yag 2)).getD .skip
def D_55:Code:=Try.f53.body.getD .skip
def N_55 (o:XK E_55.params) (r:YH E_55.results):E_55.B:=(o.1,r)
def E_56:Entry where
 params:= [.pr (.v .int) (.pr (.v .int) (.io y0 2)),.v .int]
 results:= [.v .int]
 B:=(Unit×(Unit×(List ((List Int)×Int×(List (List Int))))))×Int
 run:=λa=>An a.1 a.2
 out:=λb=>(b.1,())
 res:=λb=>b.2
def C_56:Cx:=cx0 tt [(53,E_55)] [] 2
def D_56:Code:=Try.f19.body.getD .skip
def N_56 (o:XK E_56.params) (r:YH E_56.results):E_56.B:=(o.1,r)
def E_57:Entry where
 params:= [.v y1,.v .int]
 results:= [.v .int]
 B:=Int
 run:=λa=>AM a.1 a.2
 out:=λb=>((),())
 res:=λb=>b
def S_57L2 (n:Nat):LoopSpec where
 sh:= [(0,.v y1),(1,.v .int),(5,.v .int)]
 ex:= [(.exit 0,[(1,.v .int)]),(.ret,[(4,.v .int)])]
 run:=AN n
def C_57:Cx:=cx0 tt [] [(2,S_57L2 Aa)] 2
def B_57L2:Code:=(Try.f41.body.bind (Yag 2)).getD .skip
def D_57:Code:=Try.f41.body.getD .skip
def N_57 (_:XK E_57.params) (r:YH E_57.results):E_57.B:=r
def E_58:Entry where
 params:= [.v y5,.v .int]
 results:= [.v .int]
 B:=Int
 run:=λa=>A9 a.1 a.2
 out:=λb=>((),())
 res:=λb=>b
def S_58L2 (n:Nat):LoopSpec where
 sh:= [(0,.v y5),(1,.v .int),(5,.v .int)]
 ex:= [(.exit 0,[(1,.v .int)]),(.ret,[(4,.v .int)])]
 run:=AJ n
def C_58:Cx:=cx0 tt [(41,E_57)] [(2,S_58L2 Aa)] 2
def B_58L2:Code:=(Try.f13.body.bind (Yag 2)).getD .skip
def D_58:Code:=Try.f13.body.getD .skip
def N_58 (_:XK E_58.params) (r:YH E_58.results):E_58.B:=r
def E_59:Entry where
 params:= [.v y4,.v .int]
 results:= [.v .int]
 B:=Int
 run:=λa=>A8 a.1 a.2
 out:=λb=>((),())
 res:=λb=>b
def S_59L2 (n:Nat):LoopSpec where
 sh:= [(0,.v y4),(1,.v .int),(5,.v .int)]
 ex:= [(.exit 0,[(1,.v .int)]),(.ret,[(4,.v .int)])]
 run:=Al n
def C_59:Cx:=cx0 tt [(13,E_58),(41,E_57)] [(2,S_59L2 Aa)] 2
def B_59L2:Code:=(Try.f54.body.bind (Yag 2)).getD .skip
def D_59:Code:=Try.f54.body.getD .skip
def N_59 (_:XK E_59.params) (r:YH E_59.results):E_59.B:=r
def E_60:Entry where
 params:= [.v y2,.v .int]
 results:= [.v .int]
 B:=Int
 run:=λa=>Bg a.1 a.2
 out:=λb=>((),())
 res:=λb=>b
def C_60:Cx:=cx0 tt [(54,E_59)] [] 2
def D_60:Code:=Try.f20.body.getD .skip
def N_60 (_:XK E_60.params) (r:YH E_60.results):E_60.B:=r
def E_61:Entry where
 params:= [.v y2]
 results:= [.v .bool]
 B:=Bool
 run:=λa=>Bt a
 out:=λb=>()
 res:=λb=>b
def C_61:Cx:=cx0 tt [(14,E_6),(15,E_29),(16,E_12),(17,E_46),(18,E_52),(19,E_56),(20,E_60)] [] 1
def D_61:Code:=Try.f4.body.getD .skip
def N_61 (_:XK E_61.params) (r:YH E_61.results):E_61.B:=r
end
end T
