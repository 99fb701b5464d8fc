/- Contexts of the typed functions; no conditions. -/
import Derived.Test.YtgeboeaoblppcaaV5
import Derived.Test.YtgeboeaoblppcaaProg
import Derived.Test.YtgeboeaoblppcaaPFnExactRestoreSet
import Derived.KernelRfl
set_option linter.all false
set_option linter.unusedVariables false
set_option maxRecDepth 10000
open Go Go.Va Go.Proofs
namespace T
noncomputable section
abbrev y0:Ty:= .slice .int
abbrev y1:Ty:= .pair .int (.slice (.pair .int y0))
abbrev y2:Ty:= .slice y0
abbrev y3:Ty:= .pair .int y0
abbrev y4:Ty:= .pair y1 (.pair .int (.pair y2 (.smap .si)))
def tt:List (Nat×TI):= [
 (2,{ ty:= .int }),
 (3,{ ty:= .int }),
 (4,{ ty:= .bool }),
 (5,{ ty:=(.num .u8) }),
 (9,{ ty:= .str }),
 (22,{ ty:=y0,elem:=3 }),
 (24,{ ty:=y3,fields:= [3,22] }),
 (25,{ ty:=y2,elem:=22 }),
 (30,{ ty:=y3,fields:= [3,22] }),
 (39,{ ty:=(.slice (.num .u8)),elem:=5 }),
 (47,{ ty:=(.slice y3),elem:=30 }),
 (49,{ ty:=y1,fields:= [3,47] }),
 (64,{ ty:=(.op false) }),
 (72,{ ty:=(.smap .si) }),
 (74,{ ty:=y4,fields:= [49,3,25,72] }),
 (126,{ ty:=(.num .u64) })]
theorem tabT:Yif Try.prog tt=true:=by kernel_rfl
theorem mixT:Try.prog.follows .mixedOrders=true:=by kernel_rfl
def E_1:Entry where
 params:= [.v y0,.v .int]
 results:= [.v .int]
 B:=Int
 run:=λa=>AW a.1 a.2
 out:=λb=>((),())
 res:=λb=>b
def C_1:Cx:=cx0 tt [] [] 2
def D_1:Code:=Try.f28.body.getD .skip
def N_1 (_:XK E_1.params) (r:YH E_1.results):E_1.B:=r
def E_2:Entry where
 params:= [.v y3,.v .int]
 results:= [.v .int]
 B:=Int
 run:=λa=>CU a.1 a.2
 out:=λb=>((),())
 res:=λb=>b
def C_2:Cx:=cx0 tt [(28,E_1)] [] 2
def D_2:Code:=Try.f6.body.getD .skip
def N_2 (_:XK E_2.params) (r:YH E_2.results):E_2.B:=r
def E_3:Entry where
 params:= [.v y2,.v .int]
 results:= [.v .int]
 B:=Int
 run:=λa=>Cd a.1 a.2
 out:=λb=>((),())
 res:=λb=>b
def S_3L5 (n:Nat):LoopSpec where
 sh:= [(0,.v y2),(1,.v .int),(5,.v .int)]
 ex:= [(.exit 0,[(1,.v .int)]),(.ret,[(4,.v .int)])]
 run:=AN n
def C_3:Cx:=cx0 tt [(28,E_1)] [(5,S_3L5 Aa)] 2
def B_3L5:Code:=(Try.f7.body.bind (Yag 5)).getD .skip
def D_3:Code:=Try.f7.body.getD .skip
def N_3 (_:XK E_3.params) (r:YH E_3.results):E_3.B:=r
def E_4:Entry where
 params:= [.v y0]
 results:= [.mv .int 0]
 B:=(List Int)
 run:=λa=>B2 a
 out:=λb=>()
 res:=λb=>b
def S_4L3 (n:Nat):LoopSpec where
 sh:= [(0,.v y0),(3,.mv .int 0),(4,.v .int)]
 ex:= [(.exit 0,[(3,.mv .int 0)])]
 run:=AX n
def C_4:Cx:=cx0 tt [] [(3,S_4L3 Aa)] 1
def B_4L3:Code:=(Try.f32.body.bind (Yag 3)).getD .skip
def D_4:Code:=Try.f32.body.getD .skip
def N_4 (_:XK E_4.params) (r:YH E_4.results):E_4.B:=r
def E_5:Entry where
 params:= [.v y3]
 results:= [.pr (.v .int) (.mv .int 0)]
 B:=(Int×(List Int))
 run:=λa=>BN a
 out:=λb=>()
 res:=λb=>b
def C_5:Cx:=cx0 tt [(32,E_4)] [] 1
def D_5:Code:=Try.f9.body.getD .skip
def N_5 (_:XK E_5.params) (r:YH E_5.results):E_5.B:=r
def E_6:Entry where
 params:= [.v y2]
 results:= [.mv y0 1]
 B:=(List (List Int))
 run:=λa=>Bb a
 out:=λb=>()
 res:=λb=>b
def S_6L3 (n:Nat):LoopSpec where
 sh:= [(0,.v y2),(3,.mv y0 1),(4,.v .int)]
 ex:= [(.exit 0,[(3,.mv y0 1)])]
 run:=AO n
def C_6:Cx where
 tt:=YaU tt
 T:=Ygp [(32,E_4)]
 L:=Ygo [(3,S_6L3 Aa)]
 dep:=λi=>match i with
  |7=>1
  |_=>0
 n:=1
def B_6L3:Code:=(Try.f10.body.bind (Yag 3)).getD .skip
def D_6:Code:=Try.f10.body.getD .skip
def N_6 (_:XK E_6.params) (r:YH E_6.results):E_6.B:=r
def E_7:Entry where
 params:= [.v .int,.v .int,.v .int]
 results:= [.v .bool]
 B:=Bool
 run:=λa=>Bx a.1 a.2.1 a.2.2
 out:=λb=>((),(),())
 res:=λb=>b
def C_7:Cx:=cx0 tt [] [] 3
def D_7:Code:=Try.f59.body.getD .skip
def N_7 (_:XK E_7.params) (r:YH E_7.results):E_7.B:=r
def E_8:Entry where
 params:= [.v .int]
 results:= [.v .bool]
 B:=Bool
 run:=λa=>Cs a
 out:=λb=>()
 res:=λb=>b
def C_8:Cx:=cx0 tt [(59,E_7)] [] 1
def D_8:Code:=Try.f55.body.getD .skip
def N_8 (_:XK E_8.params) (r:YH E_8.results):E_8.B:=r
def E_9:Entry where
 params:= [.v .int,.v .int]
 results:= [.v .int]
 B:=Int
 run:=λa=>BV a.1 a.2
 out:=λb=>((),())
 res:=λb=>b
def S_9L2 (n:Nat):LoopSpec where
 sh:= [(0,.v .int),(1,.v .int),(5,.v .int)]
 ex:= [(.exit 0,[(5,.v .int)])]
 run:=BB n
def C_9:Cx:=cx0 tt [] [(2,S_9L2 Aa)] 2
def B_9L2:Code:=(Try.f60.body.bind (Yag 2)).getD .skip
def D_9:Code:=Try.f60.body.getD .skip
def N_9 (_:XK E_9.params) (r:YH E_9.results):E_9.B:=r
def E_10:Entry where
 params:= [.v .int,.v y0]
 results:= [.v .bool]
 B:=Bool
 run:=λa=>BI a.1 a.2
 out:=λb=>((),())
 res:=λb=>b
def S_10L2 (n:Nat):LoopSpec where
 sh:= [(0,.v .int),(1,.v y0),(5,.v .int)]
 ex:= [(.exit 0,[]),(.ret,[(4,.v .bool)])]
 run:=Ay n
def C_10:Cx:=cx0 tt [(59,E_7)] [(2,S_10L2 Aa)] 2
def B_10L2:Code:=(Try.f91.body.bind (Yag 2)).getD .skip
def D_10:Code:=Try.f91.body.getD .skip
def N_10 (_:XK E_10.params) (r:YH E_10.results):E_10.B:=r
def E_11:Entry where
 params:= [.v .int,.v .int,.v y0]
 results:= [.v .bool]
 B:=Bool
 run:=λa=>Ch a.1 a.2.1 a.2.2
 out:=λb=>((),(),())
 res:=λb=>b
def C_11:Cx:=cx0 tt [(91,E_10)] [] 3
def D_11:Code:=Try.f61.body.getD .skip
def N_11 (_:XK E_11.params) (r:YH E_11.results):E_11.B:=r
def E_12:Entry where
 params:= [.v y0,.v y0]
 results:= [.v .bool]
 B:=Bool
 run:=λa=>Cq a.1 a.2
 out:=λb=>((),())
 res:=λb=>b
def S_12L2 (n:Nat):LoopSpec where
 sh:= [(0,.v y0),(1,.v y0),(5,.v .int)]
 ex:= [(.exit 0,[]),(.ret,[(4,.v .bool)])]
 run:=AZ n
def C_12:Cx:=cx0 tt [] [(2,S_12L2 Aa)] 2
def B_12L2:Code:=(Try.f62.body.bind (Yag 2)).getD .skip
def D_12:Code:=Try.f62.body.getD .skip
def N_12 (_:XK E_12.params) (r:YH E_12.results):E_12.B:=r
def E_13:Entry where
 params:= [.v .int,.v .int,.v y2]
 results:= [.v .bool]
 B:=Bool
 run:=λa=>Cp a.1 a.2.1 a.2.2
 out:=λb=>((),(),())
 res:=λb=>b
def S_13L4 (n:Nat):LoopSpec where
 sh:= [(0,.v .int),(1,.v .int),(2,.v y2),(7,.v .int)]
 ex:= [(.exit 0,[]),(.ret,[(6,.v .bool)])]
 run:=AK n
def C_13:Cx:=cx0 tt [(55,E_8),(59,E_7),(60,E_9),(61,E_11),(62,E_12)] [(4,S_13L4 Aa)] 3
def B_13L4:Code:=(Try.f29.body.bind (Yag 4)).getD .skip
def D_13:Code:=Try.f29.body.getD .skip
def N_13 (_:XK E_13.params) (r:YH E_13.results):E_13.B:=r
def E_14:Entry where
 params:= [.v .int,.v y3]
 results:= [.v .bool]
 B:=Bool
 run:=λa=>CX a.1 a.2
 out:=λb=>((),())
 res:=λb=>b
def S_14L4 (n:Nat):LoopSpec where
 sh:= [(0,.v .int),(3,.bx (.v y3)),(5,.v .int)]
 ex:= [(.exit 0,[]),(.ret,[(4,.v .bool)])]
 run:=Bs n
def C_14:Cx:=cx0 tt [(59,E_7),(60,E_9)] [(4,S_14L4 Aa)] 2
def B_14L4:Code:=(Try.f30.body.bind (Yag 4)).getD .skip
def D_14:Code:=Try.f30.body.getD .skip
def N_14 (_:XK E_14.params) (r:YH E_14.results):E_14.B:=r
def E_15:Entry where
 params:= [.v .int,.v .int]
 results:= [.v .int]
 B:=Int
 run:=λa=>C1 a.1 a.2
 out:=λb=>((),())
 res:=λb=>b
def C_15:Cx:=cx0 tt [] [] 2
def D_15:Code:=Try.f92.body.getD .skip
def N_15 (_:XK E_15.params) (r:YH E_15.results):E_15.B:=r
def E_16:Entry where
 params:= [.v y1]
 results:= [.v .int]
 B:=Int
 run:=λa=>Cu a
 out:=λb=>()
 res:=λb=>b
def S_16L3 (n:Nat):LoopSpec where
 sh:= [(1,.bx (.v y1)),(3,.v .int),(4,.v .int)]
 ex:= [(.exit 0,[(3,.v .int)])]
 run:=BW n
def C_16:Cx:=cx0 tt [(92,E_15)] [(3,S_16L3 Aa)] 1
def B_16L3:Code:=(Try.f63.body.bind (Yag 3)).getD .skip
def D_16:Code:=Try.f63.body.getD .skip
def N_16 (_:XK E_16.params) (r:YH E_16.results):E_16.B:=r
def E_17:Entry where
 params:= [.v y0]
 results:= [.mv .int 0]
 B:=(List Int)
 run:=λa=>Ce a
 out:=λb=>()
 res:=λb=>b
def C_17:Cx:=cx0 tt [] [] 1
def D_17:Code:=Try.f64.body.getD .skip
def N_17 (_:XK E_17.params) (r:YH E_17.results):E_17.B:=r
def E_18:Entry where
 params:= [.v y1,.v .int,.v y2,.v .int]
 results:= [.mv .int 0]
 B:=(List Int)
 run:=λa=>BK a.1 a.2.1 a.2.2.1 a.2.2.2
 out:=λb=>((),(),(),())
 res:=λb=>b
def S_18L7 (n:Nat):LoopSpec where
 sh:= [(1,.v .int),(2,.v y2),(3,.v .int),(4,.bx (.v y1)),(9,.mv .int 0),(10,.v .int),(11,.v .int),(12,.v .int)]
 ex:= [(.exit 2,[(1,.v .int),(2,.v y2),(3,.v .int),(4,.bx (.v y1)),(9,.mv .int 0),(10,.v .int),(11,.v .int)])]
 run:=Bg n
def S_18L3 (n:Nat):LoopSpec where
 sh:= [(1,.v .int),(2,.v y2),(3,.v .int),(4,.bx (.v y1)),(9,.mv .int 0),(10,.v .int)]
 ex:= [(.exit 0,[(9,.mv .int 0)])]
 run:=AB n
def C_18:Cx:=cx0 tt [] [(7,S_18L7 Aa),(3,S_18L3 Aa)] 4
def B_18L7:Code:=(Try.f65.body.bind (Yag 7)).getD .skip
def B_18L3:Code:=(Try.f65.body.bind (Yag 3)).getD .skip
def D_18:Code:=Try.f65.body.getD .skip
def N_18 (_:XK E_18.params) (r:YH E_18.results):E_18.B:=r
def E_19:Entry where
 params:= [.v y0,.v y0]
 results:= [.v .bool]
 B:=Bool
 run:=λa=>Co a.1 a.2
 out:=λb=>((),())
 res:=λb=>b
def S_19L4 (n:Nat):LoopSpec where
 sh:= [(0,.v y0),(1,.v y0),(5,.v .int)]
 ex:= [(.exit 0,[]),(.ret,[(4,.v .bool)])]
 run:=AY n
def C_19:Cx:=cx0 tt [] [(4,S_19L4 Aa)] 2
def B_19L4:Code:=(Try.f93.body.bind (Yag 4)).getD .skip
def D_19:Code:=Try.f93.body.getD .skip
def N_19 (_:XK E_19.params) (r:YH E_19.results):E_19.B:=r
def E_20:Entry where
 params:= [.v y2,.v y0]
 results:= [.v .int,.v .bool]
 B:=Int×Bool
 run:=λa=>A7 a.1 a.2
 out:=λb=>((),())
 res:=λb=>(b.1,b.2)
def S_20L2 (n:Nat):LoopSpec where
 sh:= [(0,.v y2),(1,.v y0),(6,.v .int),(7,.v .int)]
 ex:= [(.exit 0,[(0,.v y2),(1,.v y0),(6,.v .int)])]
 run:=AL n
def C_20:Cx:=cx0 tt [(62,E_12),(93,E_19)] [(2,S_20L2 Aa)] 2
def B_20L2:Code:=(Try.f66.body.bind (Yag 2)).getD .skip
def D_20:Code:=Try.f66.body.getD .skip
def N_20 (_:XK E_20.params) (r:YH E_20.results):E_20.B:=(r.1,r.2)
def E_21:Entry where
 params:= [.v y2,.v y0]
 results:= [.v y2]
 B:=(List (List Int))
 run:=λa=>Cg a.1 a.2
 out:=λb=>((),())
 res:=λb=>b
def C_21:Cx:=cx0 tt [(66,E_20)] [] 2
def D_21:Code:=Try.f67.body.getD .skip
def N_21 (_:XK E_21.params) (r:YH E_21.results):E_21.B:=r
def E_22:Entry where
 params:= [.v y0,.v .int]
 results:= [.v .bool]
 B:=Bool
 run:=λa=>CJ a.1 a.2
 out:=λb=>((),())
 res:=λb=>b
def S_22L2 (n:Nat):LoopSpec where
 sh:= [(0,.v y0),(1,.v .int),(5,.v .int)]
 ex:= [(.exit 0,[]),(.ret,[(4,.v .bool)])]
 run:=Be n
def C_22:Cx:=cx0 tt [] [(2,S_22L2 Aa)] 2
def B_22L2:Code:=(Try.f68.body.bind (Yag 2)).getD .skip
def D_22:Code:=Try.f68.body.getD .skip
def N_22 (_:XK E_22.params) (r:YH E_22.results):E_22.B:=r
def E_23:Entry where
 params:= [.v y2,.v y0]
 results:= [.mv y0 0]
 B:=(List (List Int))
 run:=λa=>E0 a.1 a.2
 out:=λb=>((),())
 res:=λb=>b
def S_23L3 (n:Nat):LoopSpec where
 sh:= [(0,.v y2),(1,.v y0),(5,.mv y0 0),(6,.v .int)]
 ex:= [(.exit 0,[(5,.mv y0 0)])]
 run:=B9 n
def C_23:Cx:=cx0 tt [] [(3,S_23L3 Aa)] 2
def B_23L3:Code:=(Try.f69.body.bind (Yag 3)).getD .skip
def D_23:Code:=Try.f69.body.getD .skip
def N_23 (_:XK E_23.params) (r:YH E_23.results):E_23.B:=r
def E_24:Entry where
 params:= [.v y0,.v .int]
 results:= [.mv .int 0,.v .bool]
 B:=(List Int)×Bool
 run:=λa=>BE a.1 a.2
 out:=λb=>((),())
 res:=λb=>(b.1,b.2)
def S_24L3 (n:Nat):LoopSpec where
 sh:= [(1,.v .int),(6,.mv .int 0),(7,.v .int)]
 ex:= [(.exit 0,[(6,.mv .int 0)]),(.ret,[(4,.mv .int 0),(5,.v .bool)])]
 run:=A8 n
def C_24:Cx:=cx0 tt [(64,E_17)] [(3,S_24L3 Aa)] 2
def B_24L3:Code:=(Try.f70.body.bind (Yag 3)).getD .skip
def D_24:Code:=Try.f70.body.getD .skip
def N_24 (_:XK E_24.params) (r:YH E_24.results):E_24.B:=(r.1,r.2)
def E_25:Entry where
 params:= [.mv y0 0,.v y0]
 results:= [.mv y0 0]
 B:=(List (List Int))
 run:=λa=>BL a.1 a.2
 out:=λb=>((),())
 res:=λb=>b
def C_25:Cx where
 tt:=YaU tt
 T:=Ygp [(66,E_20)]
 L:=Ygo []
 dep:=λi=>0
 n:=2
 pre:=λi=>match i with
  |4=> [0]
  |_=> []
def D_25:Code:=Try.f67.body.getD .skip
def N_25 (_:XK E_25.params) (r:YH E_25.results):E_25.B:=r
def E_26:Entry where
 params:= [.io y0 0,.v y0]
 results:= [.mv y0 0]
 B:=(List (List Int))×(List (List Int))
 run:=λa=>BJ a.1 a.2
 out:=λb=>(b.1,())
 res:=λb=>b.2
def S_26L3 (n:Nat):LoopSpec where
 sh:= [(0,.io y0 0),(1,.v y0),(5,.mv y0 0),(6,.v .int)]
 ex:= [(.exit 0,[(0,.io y0 0),(5,.mv y0 0)])]
 run:=Az n
def C_26:Cx:=cx0 tt [] [(3,S_26L3 Aa)] 2
def B_26L3:Code:=(Try.f69.body.bind (Yag 3)).getD .skip
def D_26:Code:=Try.f69.body.getD .skip
def N_26 (o:XK E_26.params) (r:YH E_26.results):E_26.B:=(o.1,r)
def E_27:Entry where
 params:= [.v y1,.v .int,.v y2]
 results:= [.mv y0 0,.v .bool]
 B:=(List (List Int))×Bool
 run:=λa=>Cf a.1 a.2.1 a.2.2
 out:=λb=>((),(),())
 res:=λb=>(b.1,b.2)
def S_27L4 (n:Nat):LoopSpec where
 sh:= [(1,.v .int),(2,.v y2),(3,.bx (.v y1)),(8,.mv y0 0),(9,.mv y0 0),(10,.v .int),(11,.mv y0 0),(12,.v .int)]
 ex:= [(.exit 0,[(1,.v .int),(3,.bx (.v y1)),(8,.mv y0 0),(9,.mv y0 0),(10,.v .int),(11,.mv y0 0)])]
 run:=AC n
def S_27L8 (n:Nat):LoopSpec where
 sh:= [(1,.v .int),(3,.bx (.v y1)),(8,.mv y0 0),(9,.mv y0 0),(10,.v .int),(11,.mv y0 0),(13,.v .int)]
 ex:= [(.exit 2,[(1,.v .int),(3,.bx (.v y1)),(8,.mv y0 0),(9,.mv y0 0),(10,.v .int),(11,.mv y0 0)])]
 run:=AP n
def S_27L13 (n:Nat):LoopSpec where
 sh:= [(1,.v .int),(3,.bx (.v y1)),(8,.mv y0 0),(9,.mv y0 0),(10,.v .int),(11,.mv y0 0),(14,.v .int)]
 ex:= [(.exit 4,[(1,.v .int),(3,.bx (.v y1)),(8,.mv y0 0),(9,.mv y0 0),(10,.v .int)])]
 run:=Ar n
def S_27L26 (n:Nat):LoopSpec where
 sh:= [(1,.v .int),(3,.bx (.v y1)),(8,.mv y0 0),(9,.mv y0 0),(10,.v .int),(17,.v .int),(18,.v .int),(19,.mv .int 0),(20,.v .bool)]
 ex:= [(.exit 10,[(1,.v .int),(3,.bx (.v y1)),(8,.mv y0 0),(9,.mv y0 0),(10,.v .int),(17,.v .int),(18,.v .int)])]
 run:=Ad n
def S_27L23 (n:Nat):LoopSpec where
 sh:= [(1,.v .int),(3,.bx (.v y1)),(8,.mv y0 0),(9,.mv y0 0),(10,.v .int),(17,.v .int),(18,.v .int)]
 ex:= [(.exit 8,[(1,.v .int),(3,.bx (.v y1)),(8,.mv y0 0),(9,.mv y0 0),(10,.v .int),(17,.v .int)])]
 run:=Aw n
def S_27L20 (n:Nat):LoopSpec where
 sh:= [(1,.v .int),(3,.bx (.v y1)),(8,.mv y0 0),(9,.mv y0 0),(10,.v .int),(17,.v .int)]
 ex:= [(.exit 6,[(8,.mv y0 0),(10,.v .int)])]
 run:=Am n
def C_27:Cx:=cx0 tt [(63,E_16),(64,E_17),(65,E_18),(66,E_20),(67,E_25),(68,E_22),(69,E_26),(70,E_24)] [(4,S_27L4 Aa),(8,S_27L8 Aa),(13,S_27L13 Aa),(26,S_27L26 Aa),(23,S_27L23 Aa),(20,S_27L20 Aa)] 3
def B_27L4:Code:=(Try.f31.body.bind (Yag 4)).getD .skip
def B_27L8:Code:=(Try.f31.body.bind (Yag 8)).getD .skip
def B_27L13:Code:=(Try.f31.body.bind (Yag 13)).getD .skip
def B_27L26:Code:=(Try.f31.body.bind (Yag 26)).getD .skip
def B_27L23:Code:=(Try.f31.body.bind (Yag 23)).getD .skip
def B_27L20:Code:=(Try.f31.body.bind (Yag 20)).getD .skip
def D_27:Code:=Try.f31.body.getD .skip
def N_27 (_:XK E_27.params) (r:YH E_27.results):E_27.B:=(r.1,r.2)
def E_28:Entry where
 params:= [.v .int,.v y3,.v .int,.v y2]
 results:= [.mv y0 0,.v .bool]
 B:=(List (List Int))×Bool
 run:=λa=>BH a.1 a.2.1 a.2.2.1 a.2.2.2
 out:=λb=>((),(),(),())
 res:=λb=>(b.1,b.2)
def C_28:Cx:=cx0 tt [(29,E_13),(30,E_14),(31,E_27)] [] 4
def D_28:Code:=Try.f8.body.getD .skip
def N_28 (_:XK E_28.params) (r:YH E_28.results):E_28.B:=(r.1,r.2)
def E_29:Entry where
 params:= [.v .int]
 results:= [.v .bool]
 B:=Bool
 run:=λa=>Cm a
 out:=λb=>()
 res:=λb=>b
def C_29:Cx:=cx0 tt [] [] 1
def D_29:Code:=Try.f48.body.getD .skip
def N_29 (_:XK E_29.params) (r:YH E_29.results):E_29.B:=r
def E_30:Entry where
 params:= [.v y0,.v .int]
 results:= [.v .bool]
 B:=Bool
 run:=λa=>BC a.1 a.2
 out:=λb=>((),())
 res:=λb=>b
def S_30L2 (n:Nat):LoopSpec where
 sh:= [(1,.v .int),(7,.v y0),(8,.v .int),(9,.v .int)]
 ex:= [(.exit 0,[]),(.ret,[(4,.v .bool)])]
 run:=AT n
def C_30:Cx:=cx0 tt [] [(2,S_30L2 Aa)] 2
def B_30L2:Code:=(Try.f71.body.bind (Yag 2)).getD .skip
def D_30:Code:=Try.f71.body.getD .skip
def N_30 (_:XK E_30.params) (r:YH E_30.results):E_30.B:=r
def E_31:Entry where
 params:= [.v y0,.v y0]
 results:= [.v .int]
 B:=Int
 run:=λa=>BX a.1 a.2
 out:=λb=>((),())
 res:=λb=>b
def S_31L2 (n:Nat):LoopSpec where
 sh:= [(0,.v y0),(1,.v y0),(5,.v .int)]
 ex:= [(.exit 0,[(0,.v y0),(1,.v y0)]),(.ret,[(4,.v .int)])]
 run:=Al n
def C_31:Cx:=cx0 tt [] [(2,S_31L2 Aa)] 2
def B_31L2:Code:=(Try.f47.body.bind (Yag 2)).getD .skip
def D_31:Code:=Try.f47.body.getD .skip
def N_31 (_:XK E_31.params) (r:YH E_31.results):E_31.B:=r
def E_32:Entry where
 params:= [.v .int,.v .int,.v y2]
 results:= [.v .bool]
 B:=Bool
 run:=λa=>BG a.1 a.2.1 a.2.2
 out:=λb=>((),(),())
 res:=λb=>b
def S_32L4 (n:Nat):LoopSpec where
 sh:= [(0,.v .int),(1,.v .int),(2,.v y2),(20,.v y2),(21,.v .int),(22,.v .int)]
 ex:= [(.exit 0,[]),(.ret,[(6,.v .bool)])]
 run:=Aq n
def C_32:Cx:=cx0 tt [(47,E_31),(48,E_29),(71,E_30)] [(4,S_32L4 Aa)] 3
def B_32L4:Code:=(Try.f33.body.bind (Yag 4)).getD .skip
def D_32:Code:=Try.f33.body.getD .skip
def N_32 (_:XK E_32.params) (r:YH E_32.results):E_32.B:=r
def E_33:Entry where
 params:= [.v .int,.v .int]
 results:= [.v .int]
 B:=Int
 run:=λa=>Cb a.1 a.2
 out:=λb=>((),())
 res:=λb=>b
def S_33L2 (n:Nat):LoopSpec where
 sh:= [(0,.v .int),(1,.v .int),(5,.v .int)]
 ex:= [(.exit 0,[(5,.v .int)])]
 run:=By n
def C_33:Cx:=cx0 tt [] [(2,S_33L2 Aa)] 2
def B_33L2:Code:=(Try.f72.body.bind (Yag 2)).getD .skip
def D_33:Code:=Try.f72.body.getD .skip
def N_33 (_:XK E_33.params) (r:YH E_33.results):E_33.B:=r
def E_34:Entry where
 params:= [.v y3,.v .int]
 results:= [.v .bool]
 B:=Bool
 run:=λa=>Cw a.1 a.2
 out:=λb=>((),())
 res:=λb=>b
def C_34:Cx:=cx0 tt [(71,E_30),(72,E_33)] [] 2
def D_34:Code:=Try.f34.body.getD .skip
def N_34 (_:XK E_34.params) (r:YH E_34.results):E_34.B:=r
def E_35:Entry where
 params:= [.v y1]
 results:= [.v .bool]
 B:=Bool
 run:=λa=>BO a
 out:=λb=>()
 res:=λb=>b
def S_35L4 (n:Nat):LoopSpec where
 sh:= [(1,.bx (.v y1)),(20,.v (.slice y3)),(21,.v .int),(22,.v .int)]
 ex:= [(.exit 0,[]),(.ret,[(2,.v .bool)])]
 run:=Bk n
def C_35:Cx:=cx0 tt [(34,E_34)] [(4,S_35L4 Aa)] 1
def B_35L4:Code:=(Try.f78.body.bind (Yag 4)).getD .skip
def D_35:Code:=Try.f78.body.getD .skip
def N_35 (_:XK E_35.params) (r:YH E_35.results):E_35.B:=r
def E_36:Entry where
 params:= [.v .int]
 results:= [.v .bool]
 B:=Bool
 run:=λa=>CA a
 out:=λb=>()
 res:=λb=>b
def C_36:Cx:=cx0 tt [] [] 1
def D_36:Code:=Try.f79.body.getD .skip
def N_36 (_:XK E_36.params) (r:YH E_36.results):E_36.B:=r
def E_37:Entry where
 params:= [.v y1,.v .int,.v y2]
 results:= [.v .bool]
 B:=Bool
 run:=λa=>BP a.1 a.2.1 a.2.2
 out:=λb=>((),(),())
 res:=λb=>b
def S_37L2 (n:Nat):LoopSpec where
 sh:= [(1,.v .int),(3,.bx (.v y1)),(9,.v y2),(10,.v .int),(11,.v .int)]
 ex:= [(.exit 0,[]),(.ret,[(6,.v .bool)])]
 run:=As n
def C_37:Cx:=cx0 tt [(71,E_30)] [(2,S_37L2 Aa)] 3
def B_37L2:Code:=(Try.f80.body.bind (Yag 2)).getD .skip
def D_37:Code:=Try.f80.body.getD .skip
def N_37 (_:XK E_37.params) (r:YH E_37.results):E_37.B:=r
def E_38:Entry where
 params:= [.v y1,.v .int,.v y2]
 results:= [.v .bool]
 B:=Bool
 run:=λa=>Ca a.1 a.2.1 a.2.2
 out:=λb=>((),(),())
 res:=λb=>b
def C_38:Cx:=cx0 tt [(78,E_35),(79,E_36),(80,E_37)] [] 3
def D_38:Code:=Try.f51.body.getD .skip
def N_38 (_:XK E_38.params) (r:YH E_38.results):E_38.B:=r
def E_39:Entry where
 params:= [.v y0]
 results:= [.mv .int 0]
 B:=(List Int)
 run:=λa=>Bv a
 out:=λb=>()
 res:=λb=>b
def C_39:Cx:=cx0 tt [] [] 1
def D_39:Code:=Try.f82.body.getD .skip
def N_39 (_:XK E_39.params) (r:YH E_39.results):E_39.B:=r
def E_40:Entry where
 params:= [.v y0]
 results:= [.v .str]
 B:=ByteArray
 run:=λa=>BS a
 out:=λb=>()
 res:=λb=>b
def S_40L3 (n:Nat):LoopSpec where
 sh:= [(3,.mv (.num .u8) 0),(10,.v y0),(11,.v .int),(12,.v .int)]
 ex:= [(.exit 0,[(3,.mv (.num .u8) 0)])]
 run:=AQ n
def C_40:Cx:=cx0 tt [] [(3,S_40L3 Aa)] 1
def B_40L3:Code:=(Try.f98.body.bind (Yag 3)).getD .skip
def D_40:Code:=Try.f98.body.getD .skip
def N_40 (_:XK E_40.params) (r:YH E_40.results):E_40.B:=r
def E_41:Entry where
 params:= [.bx (.pr (.v y1) (.pr (.v .int) (.pr (.mv y0 0) ((.mp .si))))),.v y0]
 results:= []
 B:=((Int×(List (Int×(List Int))))×(Int×((List (List Int))×(List ByteArray))))
 run:=λa=>Bd a.1 a.2
 out:=λb=>(b,())
 res:=λb=>()
def C_41:Cx:=cx0 tt [(98,E_40)] [] 2
def D_41:Code:=Try.f81.body.getD .skip
def N_41 (o:XK E_41.params) (_:YH E_41.results):E_41.B:=o.1
def E_42:Entry where
 params:= [.v y1]
 results:= [.v .int]
 B:=Int
 run:=λa=>Av a
 out:=λb=>()
 res:=λb=>b
def S_42L3 (n:Nat):LoopSpec where
 sh:= [(3,.v .int),(7,.v (.slice y3)),(8,.v .int),(9,.v .int)]
 ex:= [(.exit 0,[(3,.v .int)])]
 run:=Bh n
def C_42:Cx:=cx0 tt [] [(3,S_42L3 Aa)] 1
def B_42L3:Code:=(Try.f83.body.bind (Yag 3)).getD .skip
def D_42:Code:=Try.f83.body.getD .skip
def N_42 (_:XK E_42.params) (r:YH E_42.results):E_42.B:=r
def E_43:Entry where
 params:= [.v y1,.v y3,.v .int,.bf y0]
 results:= [.mv .int 0]
 B:=(List (List Int))×(List Int)
 run:=λa=>A9 a.1 a.2.1 a.2.2.1 a.2.2.2
 out:=λb=>((),(),(),b.1)
 res:=λb=>b.2
def S_43L7 (n:Nat):LoopSpec where
 sh:= [(262165,.jk 1),(3,.bf y0),(4,.bx (.v y1)),(5,.bx (.v y3)),(9,.mv .int 0),(10,.v .int),(11,.v .int),(17,.v .int),(18,.v .int),(22,.v .int),(23,.v .int)]
 ex:= [(.exit 2,[(3,.bf y0),(4,.bx (.v y1)),(5,.bx (.v y3)),(9,.mv .int 0),(10,.v .int),(11,.v .int),(17,.v .int),(18,.v .int)])]
 run:=AG n
def S_43L3 (n:Nat):LoopSpec where
 sh:= [(3,.bf y0),(4,.bx (.v y1)),(5,.bx (.v y3)),(9,.mv .int 0),(17,.v .int),(18,.v .int)]
 ex:= [(.exit 0,[(3,.bf y0),(9,.mv .int 0)])]
 run:=An n
def C_43:Cx:=cx0 tt [] [(7,S_43L7 Aa),(3,S_43L3 Aa)] 4
def B_43L7:Code:=(Try.f99.body.bind (Yag 7)).getD .skip
def B_43L3:Code:=(Try.f99.body.bind (Yag 3)).getD .skip
def D_43:Code:=Try.f99.body.getD .skip
def N_43 (o:XK E_43.params) (r:YH E_43.results):E_43.B:=(o.2.2.2,r)
def E_44_of (rec:(((Int×(List (Int×(List Int))))×(Int×((List (List Int))×(List ByteArray))))×(Int×(List Int))×((List (List Int))×Int)×Int×Int×Bool)->Option (((Int×(List (Int×(List Int))))×(Int×((List (List Int))×(List ByteArray))))×(List (List Int))×Bool)):Entry where
 params:= [.bx (.pr (.v y1) (.pr (.v .int) (.pr (.mv y0 0) ((.mp .si))))),.v y3,.bf y0,.v .int,.v .int,.v .bool]
 results:= [.v .bool]
 B:=((Int×(List (Int×(List Int))))×(Int×((List (List Int))×(List ByteArray))))×(List (List Int))×Bool
 run:=rec
 out:=λb=>(b.1,(),b.2.1,(),(),())
 res:=λb=>b.2.2
def E_44 (d:Nat):Entry:=E_44_of (Ag d)
def S_44L6 (rec:(((Int×(List (Int×(List Int))))×(Int×((List (List Int))×(List ByteArray))))×(Int×(List Int))×((List (List Int))×Int)×Int×Int×Bool)->Option (((Int×(List (Int×(List Int))))×(Int×((List (List Int))×(List ByteArray))))×(List (List Int))×Bool)) (n:Nat):LoopSpec where
 sh:= [(0,.bx (.pr (.v y1) (.pr (.v .int) (.pr (.mv y0 0) ((.mp .si)))))),(2,.bf y0),(3,.v .int),(4,.v .int),(5,.v .bool),(7,.bx (.v y3)),(13,.v .int)]
 ex:= [(.exit 0,[(0,.bx (.pr (.v y1) (.pr (.v .int) (.pr (.mv y0 0) ((.mp .si)))))),(2,.bf y0)]),(.ret,[(0,.bx (.pr (.v y1) (.pr (.v .int) (.pr (.mv y0 0) ((.mp .si)))))),(2,.bf y0),(12,.v .bool)])]
 run:=Ae rec n
def C_44 (rec:(((Int×(List (Int×(List Int))))×(Int×((List (List Int))×(List ByteArray))))×(Int×(List Int))×((List (List Int))×Int)×Int×Int×Bool)->Option (((Int×(List (Int×(List Int))))×(Int×((List (List Int))×(List ByteArray))))×(List (List Int))×Bool)):Cx where
 tt:=YaU tt
 T:=Ygp [(81,E_41),(83,E_42),(84,E_44_of rec),(99,E_43)]
 L:=Ygo [(6,S_44L6 rec Aa)]
 dep:=λi=>match i with
  |69=>1
  |_=>0
 n:=6
def B_44L6:Code:=(Try.f84.body.bind (Yag 6)).getD .skip
def D_44:Code:=Try.f84.body.getD .skip
def N_44 (o:XK [.bx (.pr (.v y1) (.pr (.v .int) (.pr (.mv y0 0) ((.mp .si))))),.v y3,.bf y0,.v .int,.v .int,.v .bool]) (r:YH [.v .bool]):((Int×(List (Int×(List Int))))×(Int×((List (List Int))×(List ByteArray))))×(List (List Int))×Bool:=(o.1,o.2.2.1,r)
def E_45:Entry where
 params:= [.v y1,.v .int,.v y2]
 results:= [.v (.ptr y4),.v .bool]
 B:=(Bool×(Int×(List (Int×(List Int))))×Int×(List (List Int))×(List ByteArray))×Bool
 run:=λa=>BY a.1 a.2.1 a.2.2
 out:=λb=>((),(),())
 res:=λb=>(b.1,b.2)
def S_45L3 (n:Nat):LoopSpec where
 sh:= [(3,.bx (.v y1)),(8,.bx (.pr (.v y1) (.pr (.v .int) (.pr (.mv y0 0) ((.mp .si)))))),(21,.v y2),(22,.v .int),(23,.v .int)]
 ex:= [(.exit 0,[(3,.bx (.v y1)),(8,.bx (.pr (.v y1) (.pr (.v .int) (.pr (.mv y0 0) ((.mp .si))))))])]
 run:=Ax n
def S_45L14 (n:Nat):LoopSpec where
 sh:= [(3,.bx (.v y1)),(8,.bx (.pr (.v y1) (.pr (.v .int) (.pr (.mv y0 0) ((.mp .si)))))),(11,.v .int),(13,.v .int),(56,.v (.slice y3)),(57,.v .int),(58,.v .int)]
 ex:= [(.exit 4,[(3,.bx (.v y1)),(8,.bx (.pr (.v y1) (.pr (.v .int) (.pr (.mv y0 0) ((.mp .si)))))),(13,.v .int)]),(.ret,[(6,.v (.ptr y4)),(7,.v .bool)])]
 run:=Ah n
def S_45L10 (n:Nat):LoopSpec where
 sh:= [(3,.bx (.v y1)),(8,.bx (.pr (.v y1) (.pr (.v .int) (.pr (.mv y0 0) ((.mp .si)))))),(11,.v .int),(12,.v .bool)]
 ex:= [(.exit 2,[(8,.bx (.pr (.v y1) (.pr (.v .int) (.pr (.mv y0 0) ((.mp .si))))))]),(.ret,[(6,.v (.ptr y4)),(7,.v .bool)])]
 run:=Af n
def C_45:Cx where
 tt:=YaU tt
 T:=Ygp [(81,E_41),(82,E_39),(83,E_42),(84,E_44 Aa)]
 L:=Ygo [(3,S_45L3 Aa),(14,S_45L14 Aa),(10,S_45L10 Aa)]
 dep:=λi=>match i with
  |64=>96
  |_=>0
 n:=3
def B_45L3:Code:=(Try.f52.body.bind (Yag 3)).getD .skip
def B_45L14:Code:=(Try.f52.body.bind (Yag 14)).getD .skip
def B_45L10:Code:=(Try.f52.body.bind (Yag 10)).getD .skip
def D_45:Code:=Try.f52.body.getD .skip
def N_45 (_:XK E_45.params) (r:YH E_45.results):E_45.B:=(r.1,r.2)
def E_46:Entry where
 params:= [.v y2]
 results:= [.mv y0 1]
 B:=(List (List Int))
 run:=λa=>BQ a
 out:=λb=>()
 res:=λb=>b
def S_46L3 (n:Nat):LoopSpec where
 sh:= [(3,.mv y0 1),(7,.v y2),(8,.v .int),(9,.v .int)]
 ex:= [(.exit 0,[(3,.mv y0 1)])]
 run:=Au n
def C_46:Cx where
 tt:=YaU tt
 T:=Ygp [(82,E_39)]
 L:=Ygo [(3,S_46L3 Aa)]
 dep:=λi=>match i with
  |6=>1
  |16=>1
  |17=>1
  |_=>0
 n:=1
def B_46L3:Code:=(Try.f75.body.bind (Yag 3)).getD .skip
def D_46:Code:=Try.f75.body.getD .skip
def N_46 (_:XK E_46.params) (r:YH E_46.results):E_46.B:=r
def E_47:Entry where
 params:= [.io y0 1,.v (.fn 47)]
 results:= []
 B:=List (List Int)
 run:=λa=>Ao a.1 a.2
 out:=λb=>(b,())
 res:=λb=>()
def D_47:Code:=Try.f46.body.getD .skip
def E_48:Entry where
 params:= [.v y2]
 results:= [.mv y0 1]
 B:=(List (List Int))
 run:=λa=>Bl a
 out:=λb=>()
 res:=λb=>b
def C_48:Cx:=cx0 tt [(75,E_46),(3145774,E_47)] [] 1
def D_48:Code:=Try.f42.body.getD .skip
def N_48 (_:XK E_48.params) (r:YH E_48.results):E_48.B:=r
def E_49:Entry where
 params:= [.v y1,.v .int,.v y2]
 results:= [.mv y0 1,.v .bool]
 B:=(List (List Int))×Bool
 run:=λa=>AR a.1 a.2.1 a.2.2
 out:=λb=>((),(),())
 res:=λb=>(b.1,b.2)
def C_49:Cx where
 tt:=YaU tt
 T:=Ygp [(42,E_48),(51,E_38),(52,E_45)]
 L:=Ygo []
 dep:=λi=>match i with
  |15=>1
  |25=>1
  |_=>0
 n:=3
def D_49:Code:=Try.f26.body.getD .skip
def N_49 (_:XK E_49.params) (r:YH E_49.results):E_49.B:=(r.1,r.2)
def E_50:Entry where
 params:= [.v .int,.v y3,.v .int,.v y2]
 results:= [.mv y0 1,.v .bool]
 B:=(List (List Int))×Bool
 run:=λa=>Bf a.1 a.2.1 a.2.2.1 a.2.2.2
 out:=λb=>((),(),(),())
 res:=λb=>(b.1,b.2)
def C_50:Cx where
 tt:=YaU tt
 T:=Ygp [(26,E_49),(33,E_32),(34,E_34)]
 L:=Ygo []
 dep:=λi=>match i with
  |31=>1
  |_=>0
 n:=4
def D_50:Code:=Try.f11.body.getD .skip
def N_50 (_:XK E_50.params) (r:YH E_50.results):E_50.B:=(r.1,r.2)
def E_51:Entry where
 params:= [.v y0,.v y0]
 results:= [.v .bool]
 B:=Bool
 run:=λa=>B0 a.1 a.2
 out:=λb=>((),())
 res:=λb=>b
def S_51L4 (n:Nat):LoopSpec where
 sh:= [(0,.v y0),(1,.v y0),(5,.v .int)]
 ex:= [(.exit 0,[]),(.ret,[(4,.v .bool)])]
 run:=AU n
def C_51:Cx:=cx0 tt [] [(4,S_51L4 Aa)] 2
def B_51L4:Code:=(Try.f35.body.bind (Yag 4)).getD .skip
def D_51:Code:=Try.f35.body.getD .skip
def N_51 (_:XK E_51.params) (r:YH E_51.results):E_51.B:=r
def E_52:Entry where
 params:= [.v y2,.v y2]
 results:= [.v .bool]
 B:=Bool
 run:=λa=>Ba a.1 a.2
 out:=λb=>((),())
 res:=λb=>b
def S_52L4 (n:Nat):LoopSpec where
 sh:= [(0,.v y2),(1,.v y2),(5,.v .int)]
 ex:= [(.exit 0,[]),(.ret,[(4,.v .bool)])]
 run:=AM n
def C_52:Cx:=cx0 tt [(35,E_51)] [(4,S_52L4 Aa)] 2
def B_52L4:Code:=(Try.f12.body.bind (Yag 4)).getD .skip
def D_52:Code:=Try.f12.body.getD .skip
def N_52 (_:XK E_52.params) (r:YH E_52.results):E_52.B:=r
def E_53:Entry where
 params:= [.v y3,.v y3]
 results:= [.v .bool]
 B:=Bool
 run:=λa=>CT a.1 a.2
 out:=λb=>((),())
 res:=λb=>b
def C_53:Cx:=cx0 tt [(35,E_51)] [] 2
def D_53:Code:=Try.f13.body.getD .skip
def N_53 (_:XK E_53.params) (r:YH E_53.results):E_53.B:=r
def E_54:Entry where
 params:= [.io .int 0,.v .int]
 results:= [.v .int]
 B:=(List Int)×Int
 run:=λa=>BA a.1 a.2
 out:=λb=>(b.1,())
 res:=λb=>b.2
def S_54L2 (n:Nat):LoopSpec where
 sh:= [(0,.io .int 0),(1,.v .int),(5,.v .int)]
 ex:= [(.exit 0,[(0,.io .int 0),(1,.v .int)])]
 run:=AJ n
def C_54:Cx:=cx0 tt [] [(2,S_54L2 Aa)] 2
def B_54L2:Code:=(Try.f36.body.bind (Yag 2)).getD .skip
def D_54:Code:=Try.f36.body.getD .skip
def N_54 (o:XK E_54.params) (r:YH E_54.results):E_54.B:=(o.1,r)
def E_55:Entry where
 params:= [.pr (.v .int) (.io .int 0),.v .int]
 results:= [.v .int]
 B:=(Unit×(List Int))×Int
 run:=λa=>B1 a.1 a.2
 out:=λb=>(b.1,())
 res:=λb=>b.2
def C_55:Cx:=cx0 tt [(36,E_54)] [] 2
def D_55:Code:=Try.f14.body.getD .skip
def N_55 (o:XK E_55.params) (r:YH E_55.results):E_55.B:=(o.1,r)
def E_56:Entry where
 params:= [.io y0 1,.v .int]
 results:= [.v .int]
 B:=(List (List Int))×Int
 run:=λa=>Bp a.1 a.2
 out:=λb=>(b.1,())
 res:=λb=>b.2
def S_56L2 (n:Nat):LoopSpec where
 sh:= [(0,.io y0 1),(1,.v .int),(5,.v .int)]
 ex:= [(.exit 0,[(0,.io y0 1),(1,.v .int)])]
 run:=AF n
def C_56:Cx:=cx0 tt [(36,E_54)] [(2,S_56L2 Aa)] 2
def B_56L2:Code:=(Try.f15.body.bind (Yag 2)).getD .skip
def D_56:Code:=Try.f15.body.getD .skip
def N_56 (o:XK E_56.params) (r:YH E_56.results):E_56.B:=(o.1,r)
def E_57:Entry where
 params:= [.v y0,.v .int]
 results:= [.v .int]
 B:=Int
 run:=λa=>Bz a.1 a.2
 out:=λb=>((),())
 res:=λb=>b
def S_57L2 (n:Nat):LoopSpec where
 sh:= [(0,.v y0),(1,.v .int),(5,.v .int)]
 ex:= [(.exit 0,[(1,.v .int)]),(.ret,[(4,.v .int)])]
 run:=AI n
def C_57:Cx:=cx0 tt [] [(2,S_57L2 Aa)] 2
def B_57L2:Code:=(Try.f37.body.bind (Yag 2)).getD .skip
def D_57:Code:=Try.f37.body.getD .skip
def N_57 (_:XK E_57.params) (r:YH E_57.results):E_57.B:=r
def E_58:Entry where
 params:= [.v y2,.v .int]
 results:= [.v .int]
 B:=Int
 run:=λa=>Bn a.1 a.2
 out:=λb=>((),())
 res:=λb=>b
def S_58L2 (n:Nat):LoopSpec where
 sh:= [(0,.v y2),(1,.v .int),(5,.v .int)]
 ex:= [(.exit 0,[(1,.v .int)]),(.ret,[(4,.v .int)])]
 run:=AE n
def C_58:Cx:=cx0 tt [(37,E_57)] [(2,S_58L2 Aa)] 2
def B_58L2:Code:=(Try.f16.body.bind (Yag 2)).getD .skip
def D_58:Code:=Try.f16.body.getD .skip
def N_58 (_:XK E_58.params) (r:YH E_58.results):E_58.B:=r
def E_59:Entry where
 params:= [.v .int,.v y3,.v .int,.v y2]
 results:= [.v .bool]
 B:=Bool
 run:=λa=>Bm a.1 a.2.1 a.2.2.1 a.2.2.2
 out:=λb=>((),(),(),())
 res:=λb=>b
def C_59:Cx:=cx0 tt [(6,E_2),(7,E_3),(8,E_28),(9,E_5),(10,E_6),(11,E_50),(12,E_52),(13,E_53),(14,E_55),(15,E_56),(16,E_58)] [] 4
def D_59:Code:=Try.f3.body.getD .skip
def N_59 (_:XK E_59.params) (r:YH E_59.results):E_59.B:=r
end
end T
