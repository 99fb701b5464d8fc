/- Contexts of the typed functions; no conditions. -/
import Derived.Test.YtgeboeaoblppcabV5
import Derived.Test.YtgeboeaoblppcabProg
import Derived.Test.YtgeboeaoblppcabPFnExactMalcevPolymorphism
import Derived.KernelRfl
set_option linter.all false
set_option linter.unusedVariables false
set_option maxRecDepth 10000
open Go Go.Va Go.Proofs
namespace T
noncomputable section
abbrev y0:Ty:= .pair .int (.slice (.slice .int))
abbrev y1:Ty:= .slice .int
abbrev y2:Ty:= .pair .int (.pair .int (.slice (.slice (.pair y1 (.smap .sb)))))
abbrev y3:Ty:= .slice (.pair y1 y0)
abbrev y4:Ty:= .slice y0
abbrev y5:Ty:= .slice (.pair y1 (.smap .sb))
abbrev y6:Ty:= .pair .int .int
abbrev y7:Ty:= .slice y1
abbrev y8:Ty:= .pair .int y1
def tt:List (Nat×TI):= [
 (2,{ ty:= .int }),
 (3,{ ty:= .int }),
 (4,{ ty:= .bool }),
 (5,{ ty:=(.num .u8) }),
 (9,{ ty:= .str }),
 (22,{ ty:=y4,elem:=44 }),
 (23,{ ty:=y1,elem:=3 }),
 (26,{ ty:=y8,fields:= [3,23] }),
 (29,{ ty:=y4,elem:=51 }),
 (42,{ ty:=y7,elem:=23 }),
 (44,{ ty:=y0,fields:= [3,42] }),
 (49,{ ty:=(.pair y7 y6),fields:= [42,3,3] }),
 (51,{ ty:=y0,fields:= [3,42] }),
 (55,{ ty:=(.op false) }),
 (62,{ ty:=(.slice y3),elem:=72 }),
 (65,{ ty:=(.op false) }),
 (67,{ ty:=(.op true) }),
 (72,{ ty:=y3,elem:=74 }),
 (74,{ ty:=(.pair y1 y0),fields:= [23,51] }),
 (76,{ ty:=(.slice y5),elem:=82 }),
 (78,{ ty:=y2,fields:= [3,3,76] }),
 (79,{ ty:=(.smap .sb) }),
 (82,{ ty:=y5,elem:=84 }),
 (84,{ ty:=(.pair y1 (.smap .sb)),fields:= [23,79] }),
 (88,{ ty:=(.slice (.num .u8)),elem:=5 }),
 (89,{ ty:=(.num .u64) })]
theorem tabT:Yif Try.prog tt=true:=by kernel_rfl
theorem mixT:Try.prog.follows .mixedOrders=true:=by kernel_rfl
def E_1:Entry where
 params:= [.v y1,.v .int]
 results:= [.v .int]
 B:=Int
 run:=λa=>BH a.1 a.2
 out:=λb=>((),())
 res:=λb=>b
def C_1:Cx:=cx0 tt [] [] 2
def D_1:Code:=Try.f54.body.getD .skip
def N_1 (_:XK E_1.params) (r:YH E_1.results):E_1.B:=r
def E_2:Entry where
 params:= [.v y7,.v .int]
 results:= [.v .int]
 B:=Int
 run:=λa=>Co a.1 a.2
 out:=λb=>((),())
 res:=λb=>b
def S_2L5 (n:Nat):LoopSpec where
 sh:= [(0,.v y7),(1,.v .int),(5,.v .int)]
 ex:= [(.exit 0,[(1,.v .int)]),(.ret,[(4,.v .int)])]
 run:=Bj n
def C_2:Cx:=cx0 tt [(54,E_1)] [(5,S_2L5 Ab)] 2
def B_2L5:Code:=(Try.f41.body.bind (Yag 5)).getD .skip
def D_2:Code:=Try.f41.body.getD .skip
def N_2 (_:XK E_2.params) (r:YH E_2.results):E_2.B:=r
def E_3:Entry where
 params:= [.v y0,.v .int]
 results:= [.v .int]
 B:=Int
 run:=λa=>BR a.1 a.2
 out:=λb=>((),())
 res:=λb=>b
def C_3:Cx:=cx0 tt [(41,E_2)] [] 2
def D_3:Code:=Try.f22.body.getD .skip
def N_3 (_:XK E_3.params) (r:YH E_3.results):E_3.B:=r
def E_4:Entry where
 params:= [.v y4,.v .int]
 results:= [.v .int]
 B:=Int
 run:=λa=>Ci a.1 a.2
 out:=λb=>((),())
 res:=λb=>b
def S_4L5 (n:Nat):LoopSpec where
 sh:= [(0,.v y4),(1,.v .int),(5,.v .int)]
 ex:= [(.exit 0,[(1,.v .int)]),(.ret,[(4,.v .int)])]
 run:=AK n
def C_4:Cx:=cx0 tt [(22,E_3)] [(5,S_4L5 Ab)] 2
def B_4L5:Code:=(Try.f6.body.bind (Yag 5)).getD .skip
def D_4:Code:=Try.f6.body.getD .skip
def N_4 (_:XK E_4.params) (r:YH E_4.results):E_4.B:=r
def E_5:Entry where
 params:= [.v y1]
 results:= [.mv .int 0]
 B:=(List Int)
 run:=λa=>CI a
 out:=λb=>()
 res:=λb=>b
def S_5L3 (n:Nat):LoopSpec where
 sh:= [(0,.v y1),(3,.mv .int 0),(4,.v .int)]
 ex:= [(.exit 0,[(3,.mv .int 0)])]
 run:=Bu n
def C_5:Cx:=cx0 tt [] [(3,S_5L3 Ab)] 1
def B_5L3:Code:=(Try.f9.body.bind (Yag 3)).getD .skip
def D_5:Code:=Try.f9.body.getD .skip
def N_5 (_:XK E_5.params) (r:YH E_5.results):E_5.B:=r
def E_6:Entry where
 params:= [.v y7]
 results:= [.mv y1 1]
 B:=(List (List Int))
 run:=λa=>Cp a
 out:=λb=>()
 res:=λb=>b
def S_6L3 (n:Nat):LoopSpec where
 sh:= [(0,.v y7),(3,.mv y1 1),(4,.v .int)]
 ex:= [(.exit 0,[(3,.mv y1 1)])]
 run:=Bk n
def C_6:Cx where
 tt:=YaU tt
 T:=Ygp [(9,E_5)]
 L:=Ygo [(3,S_6L3 Ab)]
 dep:=λi=>match i with
  |7=>1
  |_=>0
 n:=1
def B_6L3:Code:=(Try.f44.body.bind (Yag 3)).getD .skip
def D_6:Code:=Try.f44.body.getD .skip
def N_6 (_:XK E_6.params) (r:YH E_6.results):E_6.B:=r
def E_7:Entry where
 params:= [.v y0]
 results:= [.pr (.v .int) (.mv y1 1)]
 B:=(Int×(List (List Int)))
 run:=λa=>BD a
 out:=λb=>()
 res:=λb=>b
def C_7:Cx:=cx0 tt [(44,E_6)] [] 1
def D_7:Code:=Try.f27.body.getD .skip
def N_7 (_:XK E_7.params) (r:YH E_7.results):E_7.B:=r
def E_8:Entry where
 params:= [.v y4]
 results:= [.mv y0 2]
 B:=(List (Int×(List (List Int))))
 run:=λa=>Bd a
 out:=λb=>()
 res:=λb=>b
def S_8L3 (n:Nat):LoopSpec where
 sh:= [(0,.v y4),(3,.mv y0 2),(4,.v .int)]
 ex:= [(.exit 0,[(3,.mv y0 2)])]
 run:=AL n
def C_8:Cx where
 tt:=YaU tt
 T:=Ygp [(27,E_7)]
 L:=Ygo [(3,S_8L3 Ab)]
 dep:=λi=>match i with
  |7=>2
  |_=>0
 n:=1
def B_8L3:Code:=(Try.f8.body.bind (Yag 3)).getD .skip
def D_8:Code:=Try.f8.body.getD .skip
def N_8 (_:XK E_8.params) (r:YH E_8.results):E_8.B:=r
def E_9:Entry where
 params:= [.v .int,.v .int,.v .int]
 results:= [.v .bool]
 B:=Bool
 run:=λa=>BZ a.1 a.2.1 a.2.2
 out:=λb=>((),(),())
 res:=λb=>b
def C_9:Cx:=cx0 tt [] [] 3
def D_9:Code:=Try.f25.body.getD .skip
def N_9 (_:XK E_9.params) (r:YH E_9.results):E_9.B:=r
def E_10:Entry where
 params:= [.v .int]
 results:= [.v .bool]
 B:=Bool
 run:=λa=>C8 a
 out:=λb=>()
 res:=λb=>b
def C_10:Cx:=cx0 tt [(25,E_9)] [] 1
def D_10:Code:=Try.f52.body.getD .skip
def N_10 (_:XK E_10.params) (r:YH E_10.results):E_10.B:=r
def E_11:Entry where
 params:= [.v .int,.v .int]
 results:= [.v .int]
 B:=Int
 run:=λa=>BG a.1 a.2
 out:=λb=>((),())
 res:=λb=>b
def S_11L2 (n:Nat):LoopSpec where
 sh:= [(0,.v .int),(1,.v .int),(5,.v .int)]
 ex:= [(.exit 0,[(5,.v .int)])]
 run:=AY n
def C_11:Cx:=cx0 tt [] [(2,S_11L2 Ab)] 2
def B_11L2:Code:=(Try.f24.body.bind (Yag 2)).getD .skip
def D_11:Code:=Try.f24.body.getD .skip
def N_11 (_:XK E_11.params) (r:YH E_11.results):E_11.B:=r
def E_12:Entry where
 params:= [.v .int,.v y1]
 results:= [.v .bool]
 B:=Bool
 run:=λa=>BT a.1 a.2
 out:=λb=>((),())
 res:=λb=>b
def S_12L2 (n:Nat):LoopSpec where
 sh:= [(0,.v .int),(1,.v y1),(5,.v .int)]
 ex:= [(.exit 0,[]),(.ret,[(4,.v .bool)])]
 run:=AT n
def C_12:Cx:=cx0 tt [(25,E_9)] [(2,S_12L2 Ab)] 2
def B_12L2:Code:=(Try.f72.body.bind (Yag 2)).getD .skip
def D_12:Code:=Try.f72.body.getD .skip
def N_12 (_:XK E_12.params) (r:YH E_12.results):E_12.B:=r
def E_13:Entry where
 params:= [.v .int,.v .int,.v y1]
 results:= [.v .bool]
 B:=Bool
 run:=λa=>Cs a.1 a.2.1 a.2.2
 out:=λb=>((),(),())
 res:=λb=>b
def C_13:Cx:=cx0 tt [(72,E_12)] [] 3
def D_13:Code:=Try.f69.body.getD .skip
def N_13 (_:XK E_13.params) (r:YH E_13.results):E_13.B:=r
def E_14:Entry where
 params:= [.v y1,.v y1]
 results:= [.v .bool]
 B:=Bool
 run:=λa=>CM a.1 a.2
 out:=λb=>((),())
 res:=λb=>b
def S_14L2 (n:Nat):LoopSpec where
 sh:= [(0,.v y1),(1,.v y1),(5,.v .int)]
 ex:= [(.exit 0,[]),(.ret,[(4,.v .bool)])]
 run:=Bx n
def C_14:Cx:=cx0 tt [] [(2,S_14L2 Ab)] 2
def B_14L2:Code:=(Try.f70.body.bind (Yag 2)).getD .skip
def D_14:Code:=Try.f70.body.getD .skip
def N_14 (_:XK E_14.params) (r:YH E_14.results):E_14.B:=r
def E_15:Entry where
 params:= [.v .int,.v y0]
 results:= [.v .bool]
 B:=Bool
 run:=λa=>Cq a.1 a.2
 out:=λb=>((),())
 res:=λb=>b
def S_15L4 (n:Nat):LoopSpec where
 sh:= [(0,.v .int),(3,.bx (.v y0)),(5,.v .int)]
 ex:= [(.exit 0,[]),(.ret,[(4,.v .bool)])]
 run:=AU n
def C_15:Cx:=cx0 tt [(24,E_11),(25,E_9),(69,E_13),(70,E_14)] [(4,S_15L4 Ab)] 2
def B_15L4:Code:=(Try.f64.body.bind (Yag 4)).getD .skip
def D_15:Code:=Try.f64.body.getD .skip
def N_15 (_:XK E_15.params) (r:YH E_15.results):E_15.B:=r
def E_16:Entry where
 params:= [.v .int,.v y4]
 results:= [.v .bool]
 B:=Bool
 run:=λa=>C7 a.1 a.2
 out:=λb=>((),())
 res:=λb=>b
def S_16L4 (n:Nat):LoopSpec where
 sh:= [(0,.v .int),(1,.v y4),(5,.v .int)]
 ex:= [(.exit 0,[]),(.ret,[(4,.v .bool)])]
 run:=Bl n
def C_16:Cx:=cx0 tt [(64,E_15)] [(4,S_16L4 Ab)] 2
def B_16L4:Code:=(Try.f53.body.bind (Yag 4)).getD .skip
def D_16:Code:=Try.f53.body.getD .skip
def N_16 (_:XK E_16.params) (r:YH E_16.results):E_16.B:=r
def E_17:Entry where
 params:= [.v .int,.v y4,.v .int]
 results:= [.v .bool]
 B:=Bool
 run:=λa=>Ce a.1 a.2.1 a.2.2
 out:=λb=>((),(),())
 res:=λb=>b
def S_17L4 (n:Nat):LoopSpec where
 sh:= [(1,.v y4),(2,.v .int),(7,.v .int)]
 ex:= [(.exit 0,[]),(.ret,[(6,.v .bool)])]
 run:=AQ n
def C_17:Cx:=cx0 tt [(25,E_9),(52,E_10),(53,E_16)] [(4,S_17L4 Ab)] 3
def B_17L4:Code:=(Try.f36.body.bind (Yag 4)).getD .skip
def D_17:Code:=Try.f36.body.getD .skip
def N_17 (_:XK E_17.params) (r:YH E_17.results):E_17.B:=r
def E_18:Entry where
 params:= [.v .int]
 results:= [.mv .int 0]
 B:=(List Int)
 run:=λa=>Cr a
 out:=λb=>()
 res:=λb=>b
def S_18L3 (n:Nat):LoopSpec where
 sh:= [(0,.v .int),(3,.mv .int 0),(4,.v .int)]
 ex:= [(.exit 0,[(3,.mv .int 0)])]
 run:=AW n
def C_18:Cx:=cx0 tt [] [(3,S_18L3 Ab)] 1
def B_18L3:Code:=(Try.f37.body.bind (Yag 3)).getD .skip
def D_18:Code:=Try.f37.body.getD .skip
def N_18 (_:XK E_18.params) (r:YH E_18.results):E_18.B:=r
def E_19:Entry where
 params:= [.v .int,.v .int,.v .int]
 results:= [.mv .int 0]
 B:=(List Int)
 run:=λa=>CL a.1 a.2.1 a.2.2
 out:=λb=>((),(),())
 res:=λb=>b
def S_19L3 (n:Nat):LoopSpec where
 sh:= [(0,.v .int),(2,.v .int),(7,.mv .int 0),(8,.v .int)]
 ex:= [(.exit 0,[(7,.mv .int 0)])]
 run:=Bw n
def C_19:Cx:=cx0 tt [] [(3,S_19L3 Ab)] 3
def B_19L3:Code:=(Try.f57.body.bind (Yag 3)).getD .skip
def D_19:Code:=Try.f57.body.getD .skip
def N_19 (_:XK E_19.params) (r:YH E_19.results):E_19.B:=r
def E_20:Entry where
 params:= [.v .int,.v .int]
 results:= [.v .int]
 B:=Int
 run:=λa=>CJ a.1 a.2
 out:=λb=>((),())
 res:=λb=>b
def C_20:Cx:=cx0 tt [] [] 2
def D_20:Code:=Try.f58.body.getD .skip
def N_20 (_:XK E_20.params) (r:YH E_20.results):E_20.B:=r
def E_21:Entry where
 params:= [.v .int,.v y4,.v .int]
 results:= [.mv y3 1]
 B:=(List (List ((List Int)×Int×(List (List Int)))))
 run:=λa=>Cd a.1 a.2.1 a.2.2
 out:=λb=>((),(),())
 res:=λb=>b
def S_21L3 (n:Nat):LoopSpec where
 sh:= [(0,.v .int),(1,.v y4),(2,.v .int),(7,.mv y3 1),(8,.v .int)]
 ex:= [(.exit 0,[(0,.v .int),(1,.v y4),(2,.v .int),(7,.mv y3 1)])]
 run:=AO n
def S_21L21 (n:Nat):LoopSpec where
 sh:= [(0,.v .int),(1,.v y4),(2,.v .int),(7,.mv y3 1),(9,.v .int),(10,.v .int),(11,.v .int),(12,.mv .int 0),(13,.bx (.pr (.mv .int 0) (.v y0))),(14,.v .int),(15,.v .int),(16,.v .int),(17,.v .int)]
 ex:= [(.exit 8,[(0,.v .int),(1,.v y4),(2,.v .int),(7,.mv y3 1),(9,.v .int),(10,.v .int),(11,.v .int),(12,.mv .int 0),(13,.bx (.pr (.mv .int 0) (.v y0))),(14,.v .int),(15,.v .int),(16,.v .int)])]
 run:=AI n
def S_21L17 (n:Nat):LoopSpec where
 sh:= [(0,.v .int),(1,.v y4),(2,.v .int),(7,.mv y3 1),(9,.v .int),(10,.v .int),(11,.v .int),(12,.mv .int 0),(13,.bx (.pr (.mv .int 0) (.v y0))),(14,.v .int),(15,.v .int)]
 ex:= [(.exit 6,[(0,.v .int),(1,.v y4),(2,.v .int),(7,.mv y3 1),(9,.v .int),(10,.v .int),(11,.v .int),(13,.bx (.pr (.mv .int 0) (.v y0))),(14,.v .int)])]
 run:=AH n
def S_21L11 (n:Nat):LoopSpec where
 sh:= [(0,.v .int),(1,.v y4),(2,.v .int),(7,.mv y3 1),(9,.v .int),(10,.v .int),(11,.v .int)]
 ex:= [(.exit 4,[(0,.v .int),(1,.v y4),(2,.v .int),(7,.mv y3 1),(9,.v .int)])]
 run:=AG n
def S_21L7 (n:Nat):LoopSpec where
 sh:= [(0,.v .int),(1,.v y4),(2,.v .int),(7,.mv y3 1),(9,.v .int)]
 ex:= [(.exit 2,[(7,.mv y3 1)])]
 run:=AP n
def C_21:Cx where
 tt:=YaU tt
 T:=Ygp [(24,E_11),(57,E_19),(58,E_20)]
 L:=Ygo [(3,S_21L3 Ab),(21,S_21L21 Ab),(17,S_21L17 Ab),(11,S_21L11 Ab),(7,S_21L7 Ab)]
 dep:=λi=>match i with
  |18=>1
  |28=>1
  |29=>1
  |_=>0
 n:=3
 fine:=true
def B_21L3:Code:=(Try.f43.body.bind (Yag 3)).getD .skip
def B_21L21:Code:=(Try.f43.body.bind (Yag 21)).getD .skip
def B_21L17:Code:=(Try.f43.body.bind (Yag 17)).getD .skip
def B_21L11:Code:=(Try.f43.body.bind (Yag 11)).getD .skip
def B_21L7:Code:=(Try.f43.body.bind (Yag 7)).getD .skip
def D_21:Code:=Try.f43.body.getD .skip
def N_21 (_:XK E_21.params) (r:YH E_21.results):E_21.B:=r
def E_22:Entry where
 params:= [.v y1]
 results:= [.mv .int 0]
 B:=(List Int)
 run:=λa=>B3 a
 out:=λb=>()
 res:=λb=>b
def C_22:Cx:=cx0 tt [] [] 1
def D_22:Code:=Try.f55.body.getD .skip
def N_22 (_:XK E_22.params) (r:YH E_22.results):E_22.B:=r
def E_23:Entry where
 params:= [.v y1,.v y1]
 results:= [.v .bool]
 B:=Bool
 run:=λa=>CK a.1 a.2
 out:=λb=>((),())
 res:=λb=>b
def S_23L4 (n:Nat):LoopSpec where
 sh:= [(0,.v y1),(1,.v y1),(5,.v .int)]
 ex:= [(.exit 0,[]),(.ret,[(4,.v .bool)])]
 run:=Bv n
def C_23:Cx:=cx0 tt [] [(4,S_23L4 Ab)] 2
def B_23L4:Code:=(Try.f73.body.bind (Yag 4)).getD .skip
def D_23:Code:=Try.f73.body.getD .skip
def N_23 (_:XK E_23.params) (r:YH E_23.results):E_23.B:=r
def E_24:Entry where
 params:= [.v y7,.v y1]
 results:= [.v .int,.v .bool]
 B:=Int×Bool
 run:=λa=>CO a.1 a.2
 out:=λb=>((),())
 res:=λb=>(b.1,b.2)
def S_24L2 (n:Nat):LoopSpec where
 sh:= [(0,.v y7),(1,.v y1),(6,.v .int),(7,.v .int)]
 ex:= [(.exit 0,[(0,.v y7),(1,.v y1),(6,.v .int)])]
 run:=Bf n
def C_24:Cx:=cx0 tt [(70,E_14),(73,E_23)] [(2,S_24L2 Ab)] 2
def B_24L2:Code:=(Try.f71.body.bind (Yag 2)).getD .skip
def D_24:Code:=Try.f71.body.getD .skip
def N_24 (_:XK E_24.params) (r:YH E_24.results):E_24.B:=(r.1,r.2)
def E_25:Entry where
 params:= [.v y0,.v y1]
 results:= [.v .bool]
 B:=Bool
 run:=λa=>B8 a.1 a.2
 out:=λb=>((),())
 res:=λb=>b
def C_25:Cx:=cx0 tt [(71,E_24)] [] 2
def D_25:Code:=Try.f65.body.getD .skip
def N_25 (_:XK E_25.params) (r:YH E_25.results):E_25.B:=r
def E_26:Entry where
 params:= [.v y3,.v y1]
 results:= [.v .bool]
 B:=Bool
 run:=λa=>BB a.1 a.2
 out:=λb=>((),())
 res:=λb=>b
def S_26L6 (n:Nat):LoopSpec where
 sh:= [(0,.v y3),(1,.v y1),(5,.v .int),(6,.mv .int 0),(7,.v .int)]
 ex:= [(.exit 2,[(0,.v y3),(1,.v y1),(5,.v .int),(6,.mv .int 0)])]
 run:=AN n
def S_26L2 (n:Nat):LoopSpec where
 sh:= [(0,.v y3),(1,.v y1),(5,.v .int)]
 ex:= [(.exit 0,[]),(.ret,[(4,.v .bool)])]
 run:=AM n
def C_26:Cx:=cx0 tt [(65,E_25)] [(6,S_26L6 Ab),(2,S_26L2 Ab)] 2
def B_26L6:Code:=(Try.f56.body.bind (Yag 6)).getD .skip
def B_26L2:Code:=(Try.f56.body.bind (Yag 2)).getD .skip
def D_26:Code:=Try.f56.body.getD .skip
def N_26 (_:XK E_26.params) (r:YH E_26.results):E_26.B:=r
def E_27_of (rec:(Int×(List (List ((List Int)×Int×(List (List Int)))))×(List Int)×(List Int)×((List (List Int))×(Int×Int)))->Option (((List (List Int))×(Int×Int)))):Entry where
 params:= [.v .int,.v (.slice y3),.v y1,.v y1,.pr (.mv y1 1) (.v y6)]
 results:= [.pr (.mv y1 1) (.v y6)]
 B:=((List (List Int))×(Int×Int))
 run:=rec
 out:=λb=>((),(),(),(),((),()))
 res:=λb=>b
def E_27 (d:Nat):Entry:=E_27_of (AC d)
def S_27L8 (rec:(Int×(List (List ((List Int)×Int×(List (List Int)))))×(List Int)×(List Int)×((List (List Int))×(Int×Int)))->Option (((List (List Int))×(Int×Int)))) (n:Nat):LoopSpec where
 sh:= [(0,.v .int),(1,.v (.slice y3)),(2,.v y1),(3,.v y1),(9,.bx (.pr (.mv y1 1) (.v y6))),(10,.bx (.pr (.mv y1 1) (.v y6))),(11,.v .int),(12,.v .int)]
 ex:= [(.exit 0,[(9,.bx (.pr (.mv y1 1) (.v y6))),(10,.bx (.pr (.mv y1 1) (.v y6)))]),(.ret,[(10,.bx (.pr (.mv y1 1) (.v y6)))])]
 run:=Ag rec n
def C_27 (rec:(Int×(List (List ((List Int)×Int×(List (List Int)))))×(List Int)×(List Int)×((List (List Int))×(Int×Int)))->Option (((List (List Int))×(Int×Int)))):Cx where
 tt:=YaU tt
 T:=Ygp [(42,E_27_of rec),(55,E_22),(56,E_26)]
 L:=Ygo [(8,S_27L8 rec Ab)]
 dep:=λi=>match i with
  |34=>1
  |35=>1
  |_=>0
 n:=5
def B_27L8:Code:=(Try.f42.body.bind (Yag 8)).getD .skip
def D_27:Code:=Try.f42.body.getD .skip
def N_27 (_:XK [.v .int,.v (.slice y3),.v y1,.v y1,.pr (.mv y1 1) (.v y6)]) (r:YH [.pr (.mv y1 1) (.v y6)]):((List (List Int))×(Int×Int)):=r
def E_28:Entry where
 params:= [.v .int,.v y4,.v .int,.v y1,.v .int]
 results:= [.pr (.mv y1 1) (.v y6)]
 B:=((List (List Int))×(Int×Int))
 run:=λa=>BO a.1 a.2.1 a.2.2.1 a.2.2.2.1 a.2.2.2.2
 out:=λb=>((),(),(),(),())
 res:=λb=>b
def C_28:Cx:=cx0 tt [(42,E_27 Ab),(43,E_21)] [] 5
def D_28:Code:=Try.f26.body.getD .skip
def N_28 (_:XK E_28.params) (r:YH E_28.results):E_28.B:=r
def E_29:Entry where
 params:= [.v .int,.v y4,.v y1]
 results:= [.v y8,.v .bool]
 B:=(Int×(List Int))×Bool
 run:=λa=>CV a.1 a.2.1 a.2.2
 out:=λb=>((),(),())
 res:=λb=>(b.1,b.2)
def C_29:Cx:=cx0 tt [(26,E_28)] [] 3
def D_29:Code:=Try.f38.body.getD .skip
def N_29 (_:XK E_29.params) (r:YH E_29.results):E_29.B:=(r.1,r.2)
def E_30:Entry where
 params:= [.v .int,.v y4]
 results:= [.v y8,.v .bool]
 B:=(Int×(List Int))×Bool
 run:=λa=>Be a.1 a.2
 out:=λb=>((),())
 res:=λb=>(b.1,b.2)
def S_30L8 (n:Nat):LoopSpec where
 sh:= [(0,.v .int),(1,.v y4),(4,.bx (.pr (.v .int) (.mv .int 0))),(6,.mv .int 0),(7,.v .int),(8,.v .int)]
 ex:= [(.exit 2,[(0,.v .int),(1,.v y4),(4,.bx (.pr (.v .int) (.mv .int 0))),(6,.mv .int 0),(7,.v .int)])]
 run:=Ak n
def S_30L5 (n:Nat):LoopSpec where
 sh:= [(0,.v .int),(1,.v y4),(4,.bx (.pr (.v .int) (.mv .int 0))),(6,.mv .int 0),(7,.v .int)]
 ex:= [(.exit 0,[(0,.v .int),(1,.v y4),(4,.bx (.pr (.v .int) (.mv .int 0))),(6,.mv .int 0)])]
 run:=Aj n
def C_30:Cx:=cx0 tt [(36,E_17),(37,E_18),(38,E_29)] [(8,S_30L8 Ab),(5,S_30L5 Ab)] 2
def B_30L8:Code:=(Try.f20.body.bind (Yag 8)).getD .skip
def B_30L5:Code:=(Try.f20.body.bind (Yag 5)).getD .skip
def D_30:Code:=Try.f20.body.getD .skip
def N_30 (_:XK E_30.params) (r:YH E_30.results):E_30.B:=(r.1,r.2)
def E_31:Entry where
 params:= [.v .int]
 results:= [.v .bool]
 B:=Bool
 run:=λa=>BU a
 out:=λb=>()
 res:=λb=>b
def C_31:Cx:=cx0 tt [] [] 1
def D_31:Code:=Try.f45.body.getD .skip
def N_31 (_:XK E_31.params) (r:YH E_31.results):E_31.B:=r
def E_32:Entry where
 params:= [.v y1,.v .int]
 results:= [.v .bool]
 B:=Bool
 run:=λa=>CF a.1 a.2
 out:=λb=>((),())
 res:=λb=>b
def S_32L2 (n:Nat):LoopSpec where
 sh:= [(1,.v .int),(7,.v y1),(8,.v .int),(9,.v .int)]
 ex:= [(.exit 0,[]),(.ret,[(4,.v .bool)])]
 run:=Bs n
def C_32:Cx:=cx0 tt [] [(2,S_32L2 Ab)] 2
def B_32L2:Code:=(Try.f66.body.bind (Yag 2)).getD .skip
def D_32:Code:=Try.f66.body.getD .skip
def N_32 (_:XK E_32.params) (r:YH E_32.results):E_32.B:=r
def E_33:Entry where
 params:= [.v y1,.v y1]
 results:= [.v .int]
 B:=Int
 run:=λa=>B5 a.1 a.2
 out:=λb=>((),())
 res:=λb=>b
def S_33L2 (n:Nat):LoopSpec where
 sh:= [(0,.v y1),(1,.v y1),(5,.v .int)]
 ex:= [(.exit 0,[(0,.v y1),(1,.v y1)]),(.ret,[(4,.v .int)])]
 run:=Av n
def C_33:Cx:=cx0 tt [] [(2,S_33L2 Ab)] 2
def B_33L2:Code:=(Try.f67.body.bind (Yag 2)).getD .skip
def D_33:Code:=Try.f67.body.getD .skip
def N_33 (_:XK E_33.params) (r:YH E_33.results):E_33.B:=r
def E_34:Entry where
 params:= [.v .int,.v y0]
 results:= [.v .bool]
 B:=Bool
 run:=λa=>BQ a.1 a.2
 out:=λb=>((),())
 res:=λb=>b
def S_34L4 (n:Nat):LoopSpec where
 sh:= [(0,.v .int),(3,.bx (.v y0)),(16,.v y7),(17,.v .int),(18,.v .int)]
 ex:= [(.exit 0,[]),(.ret,[(4,.v .bool)])]
 run:=AB n
def C_34:Cx:=cx0 tt [(66,E_32),(67,E_33)] [(4,S_34L4 Ab)] 2
def B_34L4:Code:=(Try.f59.body.bind (Yag 4)).getD .skip
def D_34:Code:=Try.f59.body.getD .skip
def N_34 (_:XK E_34.params) (r:YH E_34.results):E_34.B:=r
def E_35:Entry where
 params:= [.v .int,.v y4]
 results:= [.v .bool]
 B:=Bool
 run:=λa=>Cu a.1 a.2
 out:=λb=>((),())
 res:=λb=>b
def S_35L4 (n:Nat):LoopSpec where
 sh:= [(0,.v .int),(10,.v y4),(11,.v .int),(12,.v .int)]
 ex:= [(.exit 0,[]),(.ret,[(4,.v .bool)])]
 run:=AS n
def C_35:Cx:=cx0 tt [(59,E_34)] [(4,S_35L4 Ab)] 2
def B_35L4:Code:=(Try.f46.body.bind (Yag 4)).getD .skip
def D_35:Code:=Try.f46.body.getD .skip
def N_35 (_:XK E_35.params) (r:YH E_35.results):E_35.B:=r
def E_36:Entry where
 params:= [.v .int,.v y4,.v .int]
 results:= [.v .bool]
 B:=Bool
 run:=λa=>CD a.1 a.2.1 a.2.2
 out:=λb=>((),(),())
 res:=λb=>b
def S_36L4 (n:Nat):LoopSpec where
 sh:= [(2,.v .int),(18,.v y4),(19,.v .int),(20,.v .int)]
 ex:= [(.exit 0,[]),(.ret,[(6,.v .bool)])]
 run:=A8 n
def C_36:Cx:=cx0 tt [(45,E_31),(46,E_35)] [(4,S_36L4 Ab)] 3
def B_36L4:Code:=(Try.f28.body.bind (Yag 4)).getD .skip
def D_36:Code:=Try.f28.body.getD .skip
def N_36 (_:XK E_36.params) (r:YH E_36.results):E_36.B:=r
def E_37:Entry where
 params:= [.v .int]
 results:= [.mv .int 0]
 B:=(List Int)
 run:=λa=>B1 a
 out:=λb=>()
 res:=λb=>b
def S_37L3 (n:Nat):LoopSpec where
 sh:= [(3,.mv .int 0),(8,.v .int),(9,.v .int)]
 ex:= [(.exit 0,[(3,.mv .int 0)])]
 run:=AF n
def C_37:Cx:=cx0 tt [] [(3,S_37L3 Ab)] 1
def B_37L3:Code:=(Try.f39.body.bind (Yag 3)).getD .skip
def D_37:Code:=Try.f39.body.getD .skip
def N_37 (_:XK E_37.params) (r:YH E_37.results):E_37.B:=r
def E_38:Entry where
 params:= [.v .int,.v .int,.v .int]
 results:= [.mv .int 0]
 B:=(List Int)
 run:=λa=>BN a.1 a.2.1 a.2.2
 out:=λb=>((),(),())
 res:=λb=>b
def S_38L3 (n:Nat):LoopSpec where
 sh:= [(0,.v .int),(2,.v .int),(7,.mv .int 0),(8,.v .int)]
 ex:= [(.exit 0,[(7,.mv .int 0)])]
 run:=Bq n
def C_38:Cx:=cx0 tt [] [(3,S_38L3 Ab)] 3
def B_38L3:Code:=(Try.f40.body.bind (Yag 3)).getD .skip
def D_38:Code:=Try.f40.body.getD .skip
def N_38 (_:XK E_38.params) (r:YH E_38.results):E_38.B:=r
def E_39:Entry where
 params:= [.v .int,.v .int]
 results:= [.v .int]
 B:=Int
 run:=λa=>Cl a.1 a.2
 out:=λb=>((),())
 res:=λb=>b
def S_39L2 (n:Nat):LoopSpec where
 sh:= [(0,.v .int),(1,.v .int),(5,.v .int)]
 ex:= [(.exit 0,[(5,.v .int)])]
 run:=BA n
def C_39:Cx:=cx0 tt [] [(2,S_39L2 Ab)] 2
def B_39L2:Code:=(Try.f30.body.bind (Yag 2)).getD .skip
def D_39:Code:=Try.f30.body.getD .skip
def N_39 (_:XK E_39.params) (r:YH E_39.results):E_39.B:=r
def E_40:Entry where
 params:= [.v y1]
 results:= [.v .str]
 B:=ByteArray
 run:=λa=>BE a
 out:=λb=>()
 res:=λb=>b
def S_40L3 (n:Nat):LoopSpec where
 sh:= [(3,.mv (.num .u8) 0),(10,.v y1),(11,.v .int),(12,.v .int)]
 ex:= [(.exit 0,[(3,.mv (.num .u8) 0)])]
 run:=Bm n
def C_40:Cx:=cx0 tt [] [(3,S_40L3 Ab)] 1
def B_40L3:Code:=(Try.f61.body.bind (Yag 3)).getD .skip
def D_40:Code:=Try.f61.body.getD .skip
def N_40 (_:XK E_40.params) (r:YH E_40.results):E_40.B:=r
def E_41:Entry where
 params:= [.v y0]
 results:= [.v (.smap .sb)]
 B:=(List ByteArray)
 run:=λa=>BK a
 out:=λb=>()
 res:=λb=>b
def S_41L3 (n:Nat):LoopSpec where
 sh:= [(3,(.mp .sb)),(8,.v y7),(9,.v .int),(10,.v .int)]
 ex:= [(.exit 0,[(3,(.mp .sb))])]
 run:=A9 n
def C_41:Cx:=cx0 tt [(61,E_40)] [(3,S_41L3 Ab)] 1
def B_41L3:Code:=(Try.f60.body.bind (Yag 3)).getD .skip
def D_41:Code:=Try.f60.body.getD .skip
def N_41 (_:XK E_41.params) (r:YH E_41.results):E_41.B:=r
def E_42:Entry where
 params:= [.v .int,.v y4,.v .int]
 results:= [.v (.ptr y2)]
 B:=(Bool×Int×Int×(List (List ((List Int)×(List ByteArray)))))
 run:=λa=>BF a.1 a.2.1 a.2.2
 out:=λb=>((),(),())
 res:=λb=>b
def S_42L17 (n:Nat):LoopSpec where
 sh:= [(917564,.jk 1),(0,.v .int),(2,.v .int),(7,.bx (.pr (.v .int) (.pr (.v .int) (.mv y5 1)))),(9,.bx (.v y0)),(10,.v (.smap .sb)),(11,(.mp .sb)),(12,.v .int),(13,.mv .int 0),(14,.mv .int 0),(15,.v .int),(16,.v .int),(28,.v y4),(29,.v .int),(30,.v .int),(56,.v .int),(57,.v .int),(61,.v .int),(62,.v .int)]
 ex:= [(.exit 6,[(0,.v .int),(2,.v .int),(7,.bx (.pr (.v .int) (.pr (.v .int) (.mv y5 1)))),(9,.bx (.v y0)),(10,.v (.smap .sb)),(11,(.mp .sb)),(12,.v .int),(13,.mv .int 0),(14,.mv .int 0),(15,.v .int),(16,.v .int),(28,.v y4),(29,.v .int),(30,.v .int),(56,.v .int),(57,.v .int)])]
 run:=As n
def S_42L14 (n:Nat):LoopSpec where
 sh:= [(0,.v .int),(2,.v .int),(7,.bx (.pr (.v .int) (.pr (.v .int) (.mv y5 1)))),(9,.bx (.v y0)),(10,.v (.smap .sb)),(11,(.mp .sb)),(12,.v .int),(13,.mv .int 0),(14,.mv .int 0),(15,.v .int),(28,.v y4),(29,.v .int),(30,.v .int),(56,.v .int),(57,.v .int)]
 ex:= [(.exit 4,[(0,.v .int),(2,.v .int),(7,.bx (.pr (.v .int) (.pr (.v .int) (.mv y5 1)))),(9,.bx (.v y0)),(10,.v (.smap .sb)),(11,(.mp .sb)),(12,.v .int),(14,.mv .int 0),(15,.v .int),(28,.v y4),(29,.v .int),(30,.v .int)])]
 run:=Ar n
def S_42L8 (n:Nat):LoopSpec where
 sh:= [(0,.v .int),(2,.v .int),(7,.bx (.pr (.v .int) (.pr (.v .int) (.mv y5 1)))),(9,.bx (.v y0)),(10,.v (.smap .sb)),(11,(.mp .sb)),(12,.v .int),(28,.v y4),(29,.v .int),(30,.v .int)]
 ex:= [(.exit 2,[(0,.v .int),(2,.v .int),(7,.bx (.pr (.v .int) (.pr (.v .int) (.mv y5 1)))),(28,.v y4),(29,.v .int),(30,.v .int)])]
 run:=Ap n
def S_42L3 (n:Nat):LoopSpec where
 sh:= [(0,.v .int),(2,.v .int),(7,.bx (.pr (.v .int) (.pr (.v .int) (.mv y5 1)))),(28,.v y4),(29,.v .int),(30,.v .int)]
 ex:= [(.exit 0,[(7,.bx (.pr (.v .int) (.pr (.v .int) (.mv y5 1))))])]
 run:=Au n
def C_42:Cx where
 tt:=YaU tt
 T:=Ygp [(30,E_39),(40,E_38),(60,E_41),(61,E_40)]
 L:=Ygo [(17,S_42L17 Ab),(14,S_42L14 Ab),(8,S_42L8 Ab),(3,S_42L3 Ab)]
 dep:=λi=>match i with
  |25=>1
  |_=>0
 n:=3
 fine:=true
def B_42L17:Code:=(Try.f47.body.bind (Yag 17)).getD .skip
def B_42L14:Code:=(Try.f47.body.bind (Yag 14)).getD .skip
def B_42L8:Code:=(Try.f47.body.bind (Yag 8)).getD .skip
def B_42L3:Code:=(Try.f47.body.bind (Yag 3)).getD .skip
def D_42:Code:=Try.f47.body.getD .skip
def N_42 (_:XK E_42.params) (r:YH E_42.results):E_42.B:=r
def E_43:Entry where
 params:= [.v y1]
 results:= [.v .bool]
 B:=Bool
 run:=λa=>Dk a
 out:=λb=>()
 res:=λb=>b
def C_43:Cx:=cx0 tt [] [] 1
def D_43:Code:=Try.f32.body.getD .skip
def N_43 (_:XK E_43.params) (r:YH E_43.results):E_43.B:=r
def E_44:Entry where
 params:= [.v y1]
 results:= [.mv .int 0]
 B:=(List Int)
 run:=λa=>C2 a
 out:=λb=>()
 res:=λb=>b
def C_44:Cx:=cx0 tt [] [] 1
def D_44:Code:=Try.f50.body.getD .skip
def N_44 (_:XK E_44.params) (r:YH E_44.results):E_44.B:=r
def E_45:Entry where
 params:= [.v y1,.bx (.v (.fn 32)),.bx (.v .int),.bx (.pr (.v .int) (.mv .int 0)),.bx (.v .bool)]
 results:= [.v .bool]
 B:=Int×(Int×(List Int))×Bool×Bool
 run:=λa=>Bp a.1 a.2.1 a.2.2.1 a.2.2.2.1 a.2.2.2.2
 out:=λb=>((),(),b.1,b.2.1,b.2.2.1)
 res:=λb=>b.2.2.2
def C_45:Cx:=cx0 tt [(32,E_43),(50,E_44)] [] 5
def D_45:Code:=Try.f49.body.getD .skip
def N_45 (o:XK E_45.params) (r:YH E_45.results):E_45.B:=(o.2.2.1,o.2.2.2.1,o.2.2.2.2,r)
def E_46:Entry where
 params:= [.v y1,.v y1]
 results:= [.mv .int 0]
 B:=(List Int)
 run:=λa=>BI a.1 a.2
 out:=λb=>((),())
 res:=λb=>b
def S_46L3 (n:Nat):LoopSpec where
 sh:= [(1,.v y1),(5,.mv .int 0),(11,.v y1),(12,.v .int),(13,.v .int)]
 ex:= [(.exit 0,[(5,.mv .int 0)])]
 run:=Bh n
def C_46:Cx:=cx0 tt [] [(3,S_46L3 Ab)] 2
def B_46L3:Code:=(Try.f68.body.bind (Yag 3)).getD .skip
def D_46:Code:=Try.f68.body.getD .skip
def N_46 (_:XK E_46.params) (r:YH E_46.results):E_46.B:=r
def E_47:Entry where
 params:= [.v (.ptr y2),.v y1,.v .int]
 results:= [.v .bool]
 B:=Bool
 run:=λa=>An a.1 a.2.1 a.2.2
 out:=λb=>((),(),())
 res:=λb=>b
def S_47L2 (n:Nat):LoopSpec where
 sh:= [(1,.v y1),(15,.v y5),(16,.v .int),(17,.v .int)]
 ex:= [(.exit 0,[]),(.ret,[(6,.v .bool)])]
 run:=Al n
def C_47:Cx:=cx0 tt [(61,E_40),(68,E_46)] [(2,S_47L2 Ab)] 3
def B_47L2:Code:=(Try.f63.body.bind (Yag 2)).getD .skip
def D_47:Code:=Try.f63.body.getD .skip
def N_47 (_:XK E_47.params) (r:YH E_47.results):E_47.B:=r
def E_48_of (rec:(Int×(List Int)×(Unit×(Int×((Int×(List Int))×Bool)))×(Bool×Int×Int×(List (List ((List Int)×(List ByteArray)))))×(List Int)×Unit)->Option ((List Int)×(Unit×(Int×((Int×(List Int))×Bool)))×(Bool×Int×Int×(List (List ((List Int)×(List ByteArray)))))×(List Int)×Bool)):Entry where
 params:= [.v .int,.bx (.mv .int 0),.pr (.bx (.v (.fn 32))) (.pr (.bx (.v .int)) (.pr (.bx (.pr (.v .int) (.mv .int 0))) (.bx (.v .bool)))),.bx (.v (.ptr y2)),.bx (.v y1),.jk 1]
 results:= [.v .bool]
 cod:= [(2,.kb 49),(5,.kn 62 1 5)]
 B:=(List Int)×(Unit×(Int×((Int×(List Int))×Bool)))×(Bool×Int×Int×(List (List ((List Int)×(List ByteArray)))))×(List Int)×Bool
 run:=rec
 out:=λb=>((),b.1,b.2.1,b.2.2.1,b.2.2.2.1,())
 res:=λb=>b.2.2.2.2
def E_48 (d:Nat):Entry:=E_48_of (Ac d)
def S_48L4 (rec:(Int×(List Int)×(Unit×(Int×((Int×(List Int))×Bool)))×(Bool×Int×Int×(List (List ((List Int)×(List ByteArray)))))×(List Int)×Unit)->Option ((List Int)×(Unit×(Int×((Int×(List Int))×Bool)))×(Bool×Int×Int×(List (List ((List Int)×(List ByteArray)))))×(List Int)×Bool)) (n:Nat):LoopSpec where
 sh:= [(0,.v .int),(1,.bx (.mv .int 0)),(2,.pr (.bx (.v (.fn 32))) (.pr (.bx (.v .int)) (.pr (.bx (.pr (.v .int) (.mv .int 0))) (.bx (.v .bool))))),(3,.bx (.v (.ptr y2))),(4,.bx (.v y1)),(5,.jk 1),(8,.v .int)]
 ex:= [(.exit 0,[(1,.bx (.mv .int 0)),(2,.pr (.bx (.v (.fn 32))) (.pr (.bx (.v .int)) (.pr (.bx (.pr (.v .int) (.mv .int 0))) (.bx (.v .bool))))),(3,.bx (.v (.ptr y2))),(4,.bx (.v y1)),(5,.jk 1)]),(.ret,[(1,.bx (.mv .int 0)),(2,.pr (.bx (.v (.fn 32))) (.pr (.bx (.v .int)) (.pr (.bx (.pr (.v .int) (.mv .int 0))) (.bx (.v .bool))))),(3,.bx (.v (.ptr y2))),(4,.bx (.v y1)),(5,.jk 1),(7,.v .bool)])]
 run:=Aa rec n
def C_48 (rec:(Int×(List Int)×(Unit×(Int×((Int×(List Int))×Bool)))×(Bool×Int×Int×(List (List ((List Int)×(List ByteArray)))))×(List Int)×Unit)->Option ((List Int)×(Unit×(Int×((Int×(List Int))×Bool)))×(Bool×Int×Int×(List (List ((List Int)×(List ByteArray)))))×(List Int)×Bool)):Cx where
 tt:=YaU tt
 T:=Ygp [(49,E_45),(63,E_47),(3276862,E_48_of rec)]
 L:=Ygo [(4,S_48L4 rec Ab)]
 dep:=λi=>0
 n:=6
 cod:= [(2,.kb 49),(5,.kn 62 1 5)]
def B_48L4:Code:=(Try.f62.body.bind (Yag 4)).getD .skip
def D_48:Code:=Try.f62.body.getD .skip
def N_48 (o:XK [.v .int,.bx (.mv .int 0),.pr (.bx (.v (.fn 32))) (.pr (.bx (.v .int)) (.pr (.bx (.pr (.v .int) (.mv .int 0))) (.bx (.v .bool)))),.bx (.v (.ptr y2)),.bx (.v y1),.jk 1]) (r:YH [.v .bool]):(List Int)×(Unit×(Int×((Int×(List Int))×Bool)))×(Bool×Int×Int×(List (List ((List Int)×(List ByteArray)))))×(List Int)×Bool:=(o.2.1,o.2.2.1,o.2.2.2.1,o.2.2.2.2.1,r)
def E_49:Entry where
 params:= [.v (.ptr y2),.v y1,.pr (.bx (.v (.fn 32))) (.pr (.bx (.v .int)) (.pr (.bx (.pr (.v .int) (.mv .int 0))) (.bx (.v .bool))))]
 results:= []
 cod:= [(2,.cl 49)]
 B:=(Unit×(Int×((Int×(List Int))×Bool)))
 run:=λa=>Aq a.1 a.2.1 a.2.2
 out:=λb=>((),(),b)
 res:=λb=>()
def C_49:Cx where
 tt:=YaU tt
 T:=Ygp [(3276862,E_48 Ab)]
 L:=Ygo []
 dep:=λi=>0
 n:=3
 cod:= [(2,.cl 49)]
def D_49:Code:=Try.f48.body.getD .skip
def N_49 (o:XK E_49.params) (_:YH E_49.results):E_49.B:=o.2.2
def E_50:Entry where
 params:= [.v .int,.v y4,.v .int,.v y1,.v (.fn 32)]
 results:= [.pr (.v .int) (.mv .int 0),.v .bool]
 B:=(Int×(List Int))×Bool
 run:=λa=>Ax a.1 a.2.1 a.2.2.1 a.2.2.2.1 a.2.2.2.2
 out:=λb=>((),(),(),(),())
 res:=λb=>(b.1,b.2)
def C_50:Cx:=cx0 tt [(47,E_42),(3276848,E_49)] [] 5
def D_50:Code:=Try.f31.body.getD .skip
def N_50 (_:XK E_50.params) (r:YH E_50.results):E_50.B:=(r.1,r.2)
def E_51:Entry where
 params:= [.v .int,.v y4]
 results:= [.pr (.v .int) (.mv .int 0),.v .bool]
 B:=(Int×(List Int))×Bool
 run:=λa=>AE a.1 a.2
 out:=λb=>((),())
 res:=λb=>(b.1,b.2)
def S_51L5 (n:Nat):LoopSpec where
 sh:= [(0,.v .int),(1,.v y4),(4,.bx (.pr (.v .int) (.mv .int 0))),(6,.mv .int 0),(25,.v .int),(26,.v .int)]
 ex:= [(.exit 0,[(0,.v .int),(1,.v y4),(4,.bx (.pr (.v .int) (.mv .int 0))),(6,.mv .int 0)])]
 run:=Af n
def C_51:Cx:=cx0 tt [(28,E_36),(39,E_37),(40,E_38),(2162719,E_50)] [(5,S_51L5 Ab)] 2
def B_51L5:Code:=(Try.f21.body.bind (Yag 5)).getD .skip
def D_51:Code:=Try.f21.body.getD .skip
def N_51 (_:XK E_51.params) (r:YH E_51.results):E_51.B:=(r.1,r.2)
def E_52:Entry where
 params:= [.v y1,.v y1]
 results:= [.v .bool]
 B:=Bool
 run:=λa=>B6 a.1 a.2
 out:=λb=>((),())
 res:=λb=>b
def S_52L4 (n:Nat):LoopSpec where
 sh:= [(0,.v y1),(1,.v y1),(5,.v .int)]
 ex:= [(.exit 0,[]),(.ret,[(4,.v .bool)])]
 run:=Bt n
def C_52:Cx:=cx0 tt [] [(4,S_52L4 Ab)] 2
def B_52L4:Code:=(Try.f13.body.bind (Yag 4)).getD .skip
def D_52:Code:=Try.f13.body.getD .skip
def N_52 (_:XK E_52.params) (r:YH E_52.results):E_52.B:=r
def E_53:Entry where
 params:= [.v y8,.v y8]
 results:= [.v .bool]
 B:=Bool
 run:=λa=>BY a.1 a.2
 out:=λb=>((),())
 res:=λb=>b
def C_53:Cx:=cx0 tt [(13,E_52)] [] 2
def D_53:Code:=Try.f11.body.getD .skip
def N_53 (_:XK E_53.params) (r:YH E_53.results):E_53.B:=r
def E_54:Entry where
 params:= [.v y7,.v y7]
 results:= [.v .bool]
 B:=Bool
 run:=λa=>Cn a.1 a.2
 out:=λb=>((),())
 res:=λb=>b
def S_54L4 (n:Nat):LoopSpec where
 sh:= [(0,.v y7),(1,.v y7),(5,.v .int)]
 ex:= [(.exit 0,[]),(.ret,[(4,.v .bool)])]
 run:=Bi n
def C_54:Cx:=cx0 tt [(13,E_52)] [(4,S_54L4 Ab)] 2
def B_54L4:Code:=(Try.f51.body.bind (Yag 4)).getD .skip
def D_54:Code:=Try.f51.body.getD .skip
def N_54 (_:XK E_54.params) (r:YH E_54.results):E_54.B:=r
def E_55:Entry where
 params:= [.v y0,.v y0]
 results:= [.v .bool]
 B:=Bool
 run:=λa=>BC a.1 a.2
 out:=λb=>((),())
 res:=λb=>b
def C_55:Cx:=cx0 tt [(51,E_54)] [] 2
def D_55:Code:=Try.f33.body.getD .skip
def N_55 (_:XK E_55.params) (r:YH E_55.results):E_55.B:=r
def E_56:Entry where
 params:= [.v y4,.v y4]
 results:= [.v .bool]
 B:=Bool
 run:=λa=>Ch a.1 a.2
 out:=λb=>((),())
 res:=λb=>b
def S_56L4 (n:Nat):LoopSpec where
 sh:= [(0,.v y4),(1,.v y4),(5,.v .int)]
 ex:= [(.exit 0,[]),(.ret,[(4,.v .bool)])]
 run:=AJ n
def C_56:Cx:=cx0 tt [(33,E_55)] [(4,S_56L4 Ab)] 2
def B_56L4:Code:=(Try.f12.body.bind (Yag 4)).getD .skip
def D_56:Code:=Try.f12.body.getD .skip
def N_56 (_:XK E_56.params) (r:YH E_56.results):E_56.B:=r
def E_57:Entry where
 params:= [.io .int 0,.v .int]
 results:= [.v .int]
 B:=(List Int)×Int
 run:=λa=>BL a.1 a.2
 out:=λb=>(b.1,())
 res:=λb=>b.2
def S_57L2 (n:Nat):LoopSpec where
 sh:= [(0,.io .int 0),(1,.v .int),(5,.v .int)]
 ex:= [(.exit 0,[(0,.io .int 0),(1,.v .int)])]
 run:=Bc n
def C_57:Cx:=cx0 tt [] [(2,S_57L2 Ab)] 2
def B_57L2:Code:=(Try.f15.body.bind (Yag 2)).getD .skip
def D_57:Code:=Try.f15.body.getD .skip
def N_57 (o:XK E_57.params) (r:YH E_57.results):E_57.B:=(o.1,r)
def E_58:Entry where
 params:= [.io y1 1,.v .int]
 results:= [.v .int]
 B:=(List (List Int))×Int
 run:=λa=>B2 a.1 a.2
 out:=λb=>(b.1,())
 res:=λb=>b.2
def S_58L2 (n:Nat):LoopSpec where
 sh:= [(0,.io y1 1),(1,.v .int),(5,.v .int)]
 ex:= [(.exit 0,[(0,.io y1 1),(1,.v .int)])]
 run:=AX n
def C_58:Cx:=cx0 tt [(15,E_57)] [(2,S_58L2 Ab)] 2
def B_58L2:Code:=(Try.f34.body.bind (Yag 2)).getD .skip
def D_58:Code:=Try.f34.body.getD .skip
def N_58 (o:XK E_58.params) (r:YH E_58.results):E_58.B:=(o.1,r)
def E_59:Entry where
 params:= [.io y0 2,.v .int]
 results:= [.v .int]
 B:=(List (Int×(List (List Int))))×Int
 run:=λa=>Bg a.1 a.2
 out:=λb=>(b.1,())
 res:=λb=>b.2
def S_59L2 (n:Nat):LoopSpec where
 sh:= [(0,.io y0 2),(1,.v .int),(5,.v .int)]
 ex:= [(.exit 0,[(0,.io y0 2),(1,.v .int)])]
 run:=AA n
def C_59:Cx:=cx0 tt [(34,E_58)] [(2,S_59L2 Ab)] 2
def B_59L2:Code:=(Try.f14.body.bind (Yag 2)).getD .skip
def D_59:Code:=Try.f14.body.getD .skip
def N_59 (o:XK E_59.params) (r:YH E_59.results):E_59.B:=(o.1,r)
def E_60:Entry where
 params:= [.pr (.v .int) (.io .int 0),.v .int]
 results:= [.v .int]
 B:=(Unit×(List Int))×Int
 run:=λa=>Dl a.1 a.2
 out:=λb=>(b.1,())
 res:=λb=>b.2
def C_60:Cx:=cx0 tt [(15,E_57)] [] 2
def D_60:Code:=Try.f16.body.getD .skip
def N_60 (o:XK E_60.params) (r:YH E_60.results):E_60.B:=(o.1,r)
def E_61:Entry where
 params:= [.v y1,.v .int]
 results:= [.v .int]
 B:=Int
 run:=λa=>Cc a.1 a.2
 out:=λb=>((),())
 res:=λb=>b
def S_61L2 (n:Nat):LoopSpec where
 sh:= [(0,.v y1),(1,.v .int),(5,.v .int)]
 ex:= [(.exit 0,[(1,.v .int)]),(.ret,[(4,.v .int)])]
 run:=Bb n
def C_61:Cx:=cx0 tt [] [(2,S_61L2 Ab)] 2
def B_61L2:Code:=(Try.f35.body.bind (Yag 2)).getD .skip
def D_61:Code:=Try.f35.body.getD .skip
def N_61 (_:XK E_61.params) (r:YH E_61.results):E_61.B:=r
def E_62:Entry where
 params:= [.v y8,.v .int]
 results:= [.v .int]
 B:=Int
 run:=λa=>CH a.1 a.2
 out:=λb=>((),())
 res:=λb=>b
def C_62:Cx:=cx0 tt [(35,E_61)] [] 2
def D_62:Code:=Try.f17.body.getD .skip
def N_62 (_:XK E_62.params) (r:YH E_62.results):E_62.B:=r
def E_63:Entry where
 params:= [.v .int,.v y4]
 results:= [.v .bool]
 B:=Bool
 run:=λa=>Ba a.1 a.2
 out:=λb=>((),())
 res:=λb=>b
def C_63:Cx:=cx0 tt [(6,E_4),(8,E_8),(11,E_53),(12,E_56),(14,E_59),(16,E_60),(17,E_62),(20,E_30),(21,E_51)] [] 2
def D_63:Code:=Try.f5.body.getD .skip
def N_63 (_:XK E_63.params) (r:YH E_63.results):E_63.B:=r
end
end T
