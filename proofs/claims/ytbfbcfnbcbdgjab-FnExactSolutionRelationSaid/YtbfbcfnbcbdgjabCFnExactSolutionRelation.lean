/- Contexts of the typed functions; no conditions. -/
import Derived.Test.YtbfbcfnbcbdgjabV5
import Derived.Test.YtbfbcfnbcbdgjabProg
import Derived.Test.YtbfbcfnbcbdgjabPFnExactSolutionRelation
import Derived.KernelRfl
set_option linter.all false
set_option linter.unusedVariables false
set_option maxRecDepth 10000
open Go Go.Va Go.Proofs
namespace T
noncomputable section
abbrev y0:Ty:= .pair (.slice .int) (.pair .int (.slice (.slice .int)))
abbrev y1:Ty:= .slice .int
abbrev y2:Ty:= .pair .int (.pair (.slice (.slice y1)) (.slice (.slice (.smap .sb))))
abbrev y3:Ty:= .pair .int (.pair .int (.slice y0))
abbrev y4:Ty:= .pair .int (.pair .int .bool)
abbrev y5:Ty:= .slice y1
abbrev y6:Ty:= .slice y0
abbrev y7:Ty:= .pair .int y5
abbrev y8:Ty:= .slice (.smap .sb)
abbrev y9:Ty:= .slice y6
def tt:List (Nat×TI):= [
 (2,{ ty:= .int }),
 (3,{ ty:= .int }),
 (4,{ ty:= .bool }),
 (5,{ ty:=(.num .u8) }),
 (9,{ ty:= .str }),
 (22,{ ty:=(.slice (.num .u8)),elem:=5 }),
 (24,{ ty:=y5,elem:=32 }),
 (32,{ ty:=y1,elem:=3 }),
 (42,{ ty:=y6,elem:=118 }),
 (44,{ ty:=y3,fields:= [3,3,42] }),
 (47,{ ty:=y7,fields:= [3,24] }),
 (50,{ ty:=y6,elem:=121 }),
 (52,{ ty:=y3,fields:= [3,3,50] }),
 (67,{ ty:=(.op false) }),
 (80,{ ty:=(.op false) }),
 (89,{ ty:=(.pair y5 y4),fields:= [24,3,3,4] }),
 (92,{ ty:=(.smap .sb) }),
 (96,{ ty:=(.op false) }),
 (116,{ ty:=y7,fields:= [3,24] }),
 (118,{ ty:=y0,fields:= [32,116] }),
 (121,{ ty:=y0,fields:= [32,47] }),
 (123,{ ty:=y9,elem:=50 }),
 (126,{ ty:=(.op true) }),
 (129,{ ty:=(.num .u64) }),
 (150,{ ty:=(.slice y5),elem:=24 }),
 (151,{ ty:=(.slice y8),elem:=154 }),
 (153,{ ty:=y2,fields:= [3,150,151] }),
 (154,{ ty:=y8,elem:=92 })]
theorem tabT:Yif Try.prog tt=true:=by kernel_rfl
theorem mixT:Try.prog.follows .mixedOrders=true:=by kernel_rfl
def E_1:Entry where
 params:= [.v y1,.v .int]
 results:= [.v .int]
 B:=Int
 run:=λa=>Bw a.1 a.2
 out:=λb=>((),())
 res:=λb=>b
def C_1:Cx:=cx0 tt [] [] 2
def D_1:Code:=Try.f117.body.getD .skip
def N_1 (_:XK E_1.params) (r:YH E_1.results):E_1.B:=r
def E_2:Entry where
 params:= [.v y5,.v .int]
 results:= [.v .int]
 B:=Int
 run:=λa=>Cv a.1 a.2
 out:=λb=>((),())
 res:=λb=>b
def S_2L5 (n:Nat):LoopSpec where
 sh:= [(0,.v y5),(1,.v .int),(5,.v .int)]
 ex:= [(.exit 0,[(1,.v .int)]),(.ret,[(4,.v .int)])]
 run:=Bg n
def C_2:Cx:=cx0 tt [(117,E_1)] [(5,S_2L5 Ac)] 2
def B_2L5:Code:=(Try.f139.body.bind (Yag 5)).getD .skip
def D_2:Code:=Try.f139.body.getD .skip
def N_2 (_:XK E_2.params) (r:YH E_2.results):E_2.B:=r
def E_3:Entry where
 params:= [.v y7,.v .int]
 results:= [.v .int]
 B:=Int
 run:=λa=>CE a.1 a.2
 out:=λb=>((),())
 res:=λb=>b
def C_3:Cx:=cx0 tt [(139,E_2)] [] 2
def D_3:Code:=Try.f118.body.getD .skip
def N_3 (_:XK E_3.params) (r:YH E_3.results):E_3.B:=r
def E_4:Entry where
 params:= [.v y0,.v .int]
 results:= [.v .int]
 B:=Int
 run:=λa=>Bp a.1 a.2
 out:=λb=>((),())
 res:=λb=>b
def C_4:Cx:=cx0 tt [(117,E_1),(118,E_3)] [] 2
def D_4:Code:=Try.f90.body.getD .skip
def N_4 (_:XK E_4.params) (r:YH E_4.results):E_4.B:=r
def E_5:Entry where
 params:= [.v y6,.v .int]
 results:= [.v .int]
 B:=Int
 run:=λa=>Cg a.1 a.2
 out:=λb=>((),())
 res:=λb=>b
def S_5L5 (n:Nat):LoopSpec where
 sh:= [(0,.v y6),(1,.v .int),(5,.v .int)]
 ex:= [(.exit 0,[(1,.v .int)]),(.ret,[(4,.v .int)])]
 run:=AE n
def C_5:Cx:=cx0 tt [(90,E_4)] [(5,S_5L5 Ac)] 2
def B_5L5:Code:=(Try.f61.body.bind (Yag 5)).getD .skip
def D_5:Code:=Try.f61.body.getD .skip
def N_5 (_:XK E_5.params) (r:YH E_5.results):E_5.B:=r
def E_6:Entry where
 params:= [.v y3,.v .int]
 results:= [.v .int]
 B:=Int
 run:=λa=>Ch a.1 a.2
 out:=λb=>((),())
 res:=λb=>b
def C_6:Cx:=cx0 tt [(61,E_5)] [] 2
def D_6:Code:=Try.f24.body.getD .skip
def N_6 (_:XK E_6.params) (r:YH E_6.results):E_6.B:=r
def E_7:Entry where
 params:= [.v y1]
 results:= [.mv .int 0]
 B:=(List Int)
 run:=λa=>Bb a
 out:=λb=>()
 res:=λb=>b
def S_7L3 (n:Nat):LoopSpec where
 sh:= [(0,.v y1),(3,.mv .int 0),(4,.v .int)]
 ex:= [(.exit 0,[(3,.mv .int 0)])]
 run:=Bx n
def C_7:Cx:=cx0 tt [] [(3,S_7L3 Ac)] 1
def B_7L3:Code:=(Try.f27.body.bind (Yag 3)).getD .skip
def D_7:Code:=Try.f27.body.getD .skip
def N_7 (_:XK E_7.params) (r:YH E_7.results):E_7.B:=r
def E_8:Entry where
 params:= [.v y5]
 results:= [.mv y1 1]
 B:=(List (List Int))
 run:=λa=>Cw a
 out:=λb=>()
 res:=λb=>b
def S_8L3 (n:Nat):LoopSpec where
 sh:= [(0,.v y5),(3,.mv y1 1),(4,.v .int)]
 ex:= [(.exit 0,[(3,.mv y1 1)])]
 run:=Bh n
def C_8:Cx where
 tt:=YaU tt
 T:=Ygp [(27,E_7)]
 L:=Ygo [(3,S_8L3 Ac)]
 dep:=λi=>match i with
  |7=>1
  |_=>0
 n:=1
def B_8L3:Code:=(Try.f141.body.bind (Yag 3)).getD .skip
def D_8:Code:=Try.f141.body.getD .skip
def N_8 (_:XK E_8.params) (r:YH E_8.results):E_8.B:=r
def E_9:Entry where
 params:= [.v y7]
 results:= [.pr (.v .int) (.mv y1 1)]
 B:=(Int×(List (List Int)))
 run:=λa=>CF a
 out:=λb=>()
 res:=λb=>b
def C_9:Cx:=cx0 tt [(141,E_8)] [] 1
def D_9:Code:=Try.f122.body.getD .skip
def N_9 (_:XK E_9.params) (r:YH E_9.results):E_9.B:=r
def E_10:Entry where
 params:= [.v y0]
 results:= [.pr (.mv .int 0) (.pr (.v .int) (.mv y1 1))]
 B:=((List Int)×(Int×(List (List Int))))
 run:=λa=>Bq a
 out:=λb=>()
 res:=λb=>b
def C_10:Cx:=cx0 tt [(27,E_7),(122,E_9)] [] 1
def D_10:Code:=Try.f94.body.getD .skip
def N_10 (_:XK E_10.params) (r:YH E_10.results):E_10.B:=r
def E_11:Entry where
 params:= [.v y6]
 results:= [.mv y0 2]
 B:=(List ((List Int)×Int×(List (List Int))))
 run:=λa=>Ci a
 out:=λb=>()
 res:=λb=>b
def S_11L3 (n:Nat):LoopSpec where
 sh:= [(0,.v y6),(3,.mv y0 2),(4,.v .int)]
 ex:= [(.exit 0,[(3,.mv y0 2)])]
 run:=AF n
def C_11:Cx where
 tt:=YaU tt
 T:=Ygp [(94,E_10)]
 L:=Ygo [(3,S_11L3 Ac)]
 dep:=λi=>match i with
  |7=>2
  |_=>0
 n:=1
def B_11L3:Code:=(Try.f67.body.bind (Yag 3)).getD .skip
def D_11:Code:=Try.f67.body.getD .skip
def N_11 (_:XK E_11.params) (r:YH E_11.results):E_11.B:=r
def E_12:Entry where
 params:= [.v y3]
 results:= [.pr (.v .int) (.pr (.v .int) (.mv y0 2))]
 B:=(Int×(Int×(List ((List Int)×Int×(List (List Int))))))
 run:=λa=>AM a
 out:=λb=>()
 res:=λb=>b
def C_12:Cx:=cx0 tt [(67,E_11)] [] 1
def D_12:Code:=Try.f26.body.getD .skip
def N_12 (_:XK E_12.params) (r:YH E_12.results):E_12.B:=r
def E_13:Entry where
 params:= [.v .int,.v .int,.v .int]
 results:= [.v .bool]
 B:=Bool
 run:=λa=>BZ a.1 a.2.1 a.2.2
 out:=λb=>((),(),())
 res:=λb=>b
def C_13:Cx:=cx0 tt [] [] 3
def D_13:Code:=Try.f63.body.getD .skip
def N_13 (_:XK E_13.params) (r:YH E_13.results):E_13.B:=r
def E_14:Entry where
 params:= [.v .int,.v .int]
 results:= [.v .int]
 B:=Int
 run:=λa=>B0 a.1 a.2
 out:=λb=>((),())
 res:=λb=>b
def S_14L2 (n:Nat):LoopSpec where
 sh:= [(0,.v .int),(1,.v .int),(5,.v .int)]
 ex:= [(.exit 0,[(5,.v .int)])]
 run:=AY n
def C_14:Cx:=cx0 tt [] [(2,S_14L2 Ac)] 2
def B_14L2:Code:=(Try.f52.body.bind (Yag 2)).getD .skip
def D_14:Code:=Try.f52.body.getD .skip
def N_14 (_:XK E_14.params) (r:YH E_14.results):E_14.B:=r
def E_15:Entry where
 params:= [.v .int,.v y1]
 results:= [.v .bool]
 B:=Bool
 run:=λa=>Bk a.1 a.2
 out:=λb=>((),())
 res:=λb=>b
def S_15L2 (n:Nat):LoopSpec where
 sh:= [(0,.v .int),(1,.v y1),(5,.v .int)]
 ex:= [(.exit 0,[]),(.ret,[(4,.v .bool)])]
 run:=AN n
def C_15:Cx:=cx0 tt [(63,E_13)] [(2,S_15L2 Ac)] 2
def B_15L2:Code:=(Try.f64.body.bind (Yag 2)).getD .skip
def D_15:Code:=Try.f64.body.getD .skip
def N_15 (_:XK E_15.params) (r:YH E_15.results):E_15.B:=r
def E_16:Entry where
 params:= [.v .int,.v .int,.v y1]
 results:= [.v .bool]
 B:=Bool
 run:=λa=>CC a.1 a.2.1 a.2.2
 out:=λb=>((),(),())
 res:=λb=>b
def C_16:Cx:=cx0 tt [(64,E_15)] [] 3
def D_16:Code:=Try.f109.body.getD .skip
def N_16 (_:XK E_16.params) (r:YH E_16.results):E_16.B:=r
def E_17:Entry where
 params:= [.v y1,.v y1]
 results:= [.v .bool]
 B:=Bool
 run:=λa=>CR a.1 a.2
 out:=λb=>((),())
 res:=λb=>b
def S_17L2 (n:Nat):LoopSpec where
 sh:= [(0,.v y1),(1,.v y1),(5,.v .int)]
 ex:= [(.exit 0,[]),(.ret,[(4,.v .bool)])]
 run:=BB n
def C_17:Cx:=cx0 tt [] [(2,S_17L2 Ac)] 2
def B_17L2:Code:=(Try.f115.body.bind (Yag 2)).getD .skip
def D_17:Code:=Try.f115.body.getD .skip
def N_17 (_:XK E_17.params) (r:YH E_17.results):E_17.B:=r
def E_18:Entry where
 params:= [.v .int,.v y7]
 results:= [.v .bool]
 B:=Bool
 run:=λa=>Cy a.1 a.2
 out:=λb=>((),())
 res:=λb=>b
def S_18L4 (n:Nat):LoopSpec where
 sh:= [(0,.v .int),(3,.bx (.v y7)),(5,.v .int)]
 ex:= [(.exit 0,[]),(.ret,[(4,.v .bool)])]
 run:=AQ n
def C_18:Cx:=cx0 tt [(52,E_14),(63,E_13),(109,E_16),(115,E_17)] [(4,S_18L4 Ac)] 2
def B_18L4:Code:=(Try.f119.body.bind (Yag 4)).getD .skip
def D_18:Code:=Try.f119.body.getD .skip
def N_18 (_:XK E_18.params) (r:YH E_18.results):E_18.B:=r
def E_19:Entry where
 params:= [.v .int,.v .int,.v y0]
 results:= [.v .bool]
 B:=Bool
 run:=λa=>C3 a.1 a.2.1 a.2.2
 out:=λb=>((),(),())
 res:=λb=>b
def C_19:Cx:=cx0 tt [(64,E_15),(119,E_18)] [] 3
def D_19:Code:=Try.f91.body.getD .skip
def N_19 (_:XK E_19.params) (r:YH E_19.results):E_19.B:=r
def E_20:Entry where
 params:= [.v y3]
 results:= [.v .bool]
 B:=Bool
 run:=λa=>CA a
 out:=λb=>()
 res:=λb=>b
def S_20L4 (n:Nat):LoopSpec where
 sh:= [(1,.bx (.v y3)),(3,.v .int)]
 ex:= [(.exit 0,[]),(.ret,[(2,.v .bool)])]
 run:=Bj n
def C_20:Cx:=cx0 tt [(63,E_13),(91,E_19)] [(4,S_20L4 Ac)] 1
def B_20L4:Code:=(Try.f62.body.bind (Yag 4)).getD .skip
def D_20:Code:=Try.f62.body.getD .skip
def N_20 (_:XK E_20.params) (r:YH E_20.results):E_20.B:=r
def E_21:Entry where
 params:= [.v .int,.v .int,.v .int]
 results:= [.mv .int 0]
 B:=(List Int)
 run:=λa=>CQ a.1 a.2.1 a.2.2
 out:=λb=>((),(),())
 res:=λb=>b
def S_21L3 (n:Nat):LoopSpec where
 sh:= [(0,.v .int),(2,.v .int),(7,.mv .int 0),(8,.v .int)]
 ex:= [(.exit 0,[(7,.mv .int 0)])]
 run:=BA n
def C_21:Cx:=cx0 tt [] [(3,S_21L3 Ac)] 3
def B_21L3:Code:=(Try.f58.body.bind (Yag 3)).getD .skip
def D_21:Code:=Try.f58.body.getD .skip
def N_21 (_:XK E_21.params) (r:YH E_21.results):E_21.B:=r
def E_22:Entry where
 params:= [.v .int]
 results:= [.mv .int 0]
 B:=(List Int)
 run:=λa=>Cz a
 out:=λb=>()
 res:=λb=>b
def S_22L3 (n:Nat):LoopSpec where
 sh:= [(0,.v .int),(3,.mv .int 0),(4,.v .int)]
 ex:= [(.exit 0,[(3,.mv .int 0)])]
 run:=AR n
def C_22:Cx:=cx0 tt [] [(3,S_22L3 Ac)] 1
def B_22L3:Code:=(Try.f65.body.bind (Yag 3)).getD .skip
def D_22:Code:=Try.f65.body.getD .skip
def N_22 (_:XK E_22.params) (r:YH E_22.results):E_22.B:=r
def E_23:Entry where
 params:= [.v .int,.v .int]
 results:= [.v .int]
 B:=Int
 run:=λa=>Cn a.1 a.2
 out:=λb=>((),())
 res:=λb=>b
def C_23:Cx:=cx0 tt [] [] 2
def D_23:Code:=Try.f121.body.getD .skip
def N_23 (_:XK E_23.params) (r:YH E_23.results):E_23.B:=r
def E_24:Entry where
 params:= [.v .int,.v y6]
 results:= [.mv y6 1]
 B:=(List (List ((List Int)×Int×(List (List Int)))))
 run:=λa=>CB a.1 a.2
 out:=λb=>((),())
 res:=λb=>b
def S_24L7 (n:Nat):LoopSpec where
 sh:= [(1,.v y6),(5,.mv y6 1),(6,.v .int),(7,.v .int),(8,.v .int)]
 ex:= [(.exit 2,[(1,.v y6),(5,.mv y6 1),(6,.v .int),(7,.v .int)])]
 run:=AT n
def S_24L3 (n:Nat):LoopSpec where
 sh:= [(1,.v y6),(5,.mv y6 1),(6,.v .int)]
 ex:= [(.exit 0,[(5,.mv y6 1)])]
 run:=AS n
def C_24:Cx where
 tt:=YaU tt
 T:=Ygp [(121,E_23)]
 L:=Ygo [(7,S_24L7 Ac),(3,S_24L3 Ac)]
 dep:=λi=>match i with
  |10=>1
  |_=>0
 n:=2
 fine:=true
def B_24L7:Code:=(Try.f93.body.bind (Yag 7)).getD .skip
def B_24L3:Code:=(Try.f93.body.bind (Yag 3)).getD .skip
def D_24:Code:=Try.f93.body.getD .skip
def N_24 (_:XK E_24.params) (r:YH E_24.results):E_24.B:=r
def E_25:Entry where
 params:= [.v y1]
 results:= [.mv .int 0]
 B:=(List Int)
 run:=λa=>Bc a
 out:=λb=>()
 res:=λb=>b
def C_25:Cx:=cx0 tt [] [] 1
def D_25:Code:=Try.f57.body.getD .skip
def N_25 (_:XK E_25.params) (r:YH E_25.results):E_25.B:=r
def E_26:Entry where
 params:= [.v y1,.v y1]
 results:= [.v .bool]
 B:=Bool
 run:=λa=>CP a.1 a.2
 out:=λb=>((),())
 res:=λb=>b
def S_26L4 (n:Nat):LoopSpec where
 sh:= [(0,.v y1),(1,.v y1),(5,.v .int)]
 ex:= [(.exit 0,[]),(.ret,[(4,.v .bool)])]
 run:=Bz n
def C_26:Cx:=cx0 tt [] [(4,S_26L4 Ac)] 2
def B_26L4:Code:=(Try.f116.body.bind (Yag 4)).getD .skip
def D_26:Code:=Try.f116.body.getD .skip
def N_26 (_:XK E_26.params) (r:YH E_26.results):E_26.B:=r
def E_27:Entry where
 params:= [.v y5,.v y1]
 results:= [.v .int,.v .bool]
 B:=Int×Bool
 run:=λa=>CT a.1 a.2
 out:=λb=>((),())
 res:=λb=>(b.1,b.2)
def S_27L2 (n:Nat):LoopSpec where
 sh:= [(0,.v y5),(1,.v y1),(6,.v .int),(7,.v .int)]
 ex:= [(.exit 0,[(0,.v y5),(1,.v y1),(6,.v .int)])]
 run:=Ba n
def C_27:Cx:=cx0 tt [(115,E_17),(116,E_26)] [(2,S_27L2 Ac)] 2
def B_27L2:Code:=(Try.f89.body.bind (Yag 2)).getD .skip
def D_27:Code:=Try.f89.body.getD .skip
def N_27 (_:XK E_27.params) (r:YH E_27.results):E_27.B:=(r.1,r.2)
def E_28:Entry where
 params:= [.v y7,.v y1]
 results:= [.v .bool]
 B:=Bool
 run:=λa=>Di a.1 a.2
 out:=λb=>((),())
 res:=λb=>b
def C_28:Cx:=cx0 tt [(89,E_27)] [] 2
def D_28:Code:=Try.f140.body.getD .skip
def N_28 (_:XK E_28.params) (r:YH E_28.results):E_28.B:=r
def E_29:Entry where
 params:= [.v y0,.v y1]
 results:= [.v .bool]
 B:=Bool
 run:=λa=>BV a.1 a.2
 out:=λb=>((),())
 res:=λb=>b
def S_29L3 (n:Nat):LoopSpec where
 sh:= [(1,.v y1),(2,.bx (.v y0)),(5,.mv .int 0),(6,.v .int)]
 ex:= [(.exit 0,[(2,.bx (.v y0)),(5,.mv .int 0)])]
 run:=AI n
def C_29:Cx:=cx0 tt [(140,E_28)] [(3,S_29L3 Ac)] 2
def B_29L3:Code:=(Try.f120.body.bind (Yag 3)).getD .skip
def D_29:Code:=Try.f120.body.getD .skip
def N_29 (_:XK E_29.params) (r:YH E_29.results):E_29.B:=r
def E_30_of (rec:(Int×(List (List ((List Int)×Int×(List (List Int)))))×(List Int)×(List Int)×((List (List Int))×(Int×Int×Bool)))->Option (((List (List Int))×(Int×Int×Bool)))):Entry where
 params:= [.v .int,.v y9,.v y1,.v y1,.pr (.mv y1 1) (.v y4)]
 results:= [.pr (.mv y1 1) (.v y4)]
 B:=((List (List Int))×(Int×Int×Bool))
 run:=rec
 out:=λb=>((),(),(),(),((),()))
 res:=λb=>b
def E_30 (d:Nat):Entry:=E_30_of (Aj d)
def S_30L14 (rec:(Int×(List (List ((List Int)×Int×(List (List Int)))))×(List Int)×(List Int)×((List (List Int))×(Int×Int×Bool)))->Option (((List (List Int))×(Int×Int×Bool)))) (n:Nat):LoopSpec where
 sh:= [(0,.v .int),(1,.v y9),(2,.v y1),(3,.v y1),(9,.bx (.pr (.mv y1 1) (.v y4))),(10,.bx (.pr (.mv y1 1) (.v y4))),(11,.v .int),(12,.v .int),(13,.mv .int 0),(14,.v .bool),(15,.v .int)]
 ex:= [(.exit 2,[(0,.v .int),(1,.v y9),(2,.v y1),(3,.v y1),(9,.bx (.pr (.mv y1 1) (.v y4))),(10,.bx (.pr (.mv y1 1) (.v y4))),(11,.v .int),(12,.v .int),(13,.mv .int 0),(14,.v .bool)])]
 run:=Am rec n
def S_30L8 (rec:(Int×(List (List ((List Int)×Int×(List (List Int)))))×(List Int)×(List Int)×((List (List Int))×(Int×Int×Bool)))->Option (((List (List Int))×(Int×Int×Bool)))) (n:Nat):LoopSpec where
 sh:= [(0,.v .int),(1,.v y9),(2,.v y1),(3,.v y1),(9,.bx (.pr (.mv y1 1) (.v y4))),(10,.bx (.pr (.mv y1 1) (.v y4))),(11,.v .int),(12,.v .int)]
 ex:= [(.exit 0,[(9,.bx (.pr (.mv y1 1) (.v y4))),(10,.bx (.pr (.mv y1 1) (.v y4)))])]
 run:=Ad rec n
def C_30 (rec:(Int×(List (List ((List Int)×Int×(List (List Int)))))×(List Int)×(List Int)×((List (List Int))×(Int×Int×Bool)))->Option (((List (List Int))×(Int×Int×Bool)))):Cx where
 tt:=YaU tt
 T:=Ygp [(57,E_25),(92,E_30_of rec),(120,E_29)]
 L:=Ygo [(14,S_30L14 rec Ac),(8,S_30L8 rec Ac)]
 dep:=λi=>match i with
  |36=>1
  |37=>1
  |_=>0
 n:=5
def B_30L14:Code:=(Try.f92.body.bind (Yag 14)).getD .skip
def B_30L8:Code:=(Try.f92.body.bind (Yag 8)).getD .skip
def D_30:Code:=Try.f92.body.getD .skip
def N_30 (_:XK [.v .int,.v y9,.v y1,.v y1,.pr (.mv y1 1) (.v y4)]) (r:YH [.pr (.mv y1 1) (.v y4)]):((List (List Int))×(Int×Int×Bool)):=r
def E_31:Entry where
 params:= [.v y3,.v y6,.v y1,.v .int,.v .bool]
 results:= [.pr (.mv y1 1) (.v y4)]
 B:=((List (List Int))×(Int×Int×Bool))
 run:=λa=>B7 a.1 a.2.1 a.2.2.1 a.2.2.2.1 a.2.2.2.2
 out:=λb=>((),(),(),(),())
 res:=λb=>b
def C_31:Cx:=cx0 tt [(92,E_30 Ac),(93,E_24)] [] 5
def D_31:Code:=Try.f66.body.getD .skip
def N_31 (_:XK E_31.params) (r:YH E_31.results):E_31.B:=r
def E_32:Entry where
 params:= [.v y3,.v y1]
 results:= [.pr (.v .int) (.mv y1 0),.v .bool]
 B:=(Int×(List (List Int)))×Bool
 run:=λa=>AP a.1 a.2
 out:=λb=>((),())
 res:=λb=>(b.1,b.2)
def S_32L10 (n:Nat):LoopSpec where
 sh:= [(1,.v y1),(2,.bx (.v y3)),(4,.bx (.pr (.v .int) (.mv y1 0))),(6,.bx (.pr (.v .int) (.mv y1 0))),(7,.v .int),(8,.mv .int 0),(9,.mv .int 0),(10,.v .bool),(11,.v .int)]
 ex:= [(.exit 2,[(1,.v y1),(2,.bx (.v y3)),(4,.bx (.pr (.v .int) (.mv y1 0))),(6,.bx (.pr (.v .int) (.mv y1 0))),(7,.v .int),(8,.mv .int 0),(9,.mv .int 0),(10,.v .bool)])]
 run:=Ah n
def S_32L5 (n:Nat):LoopSpec where
 sh:= [(1,.v y1),(2,.bx (.v y3)),(4,.bx (.pr (.v .int) (.mv y1 0))),(6,.bx (.pr (.v .int) (.mv y1 0))),(7,.v .int)]
 ex:= [(.exit 0,[(4,.bx (.pr (.v .int) (.mv y1 0))),(6,.bx (.pr (.v .int) (.mv y1 0)))])]
 run:=Ak n
def C_32:Cx:=cx0 tt [(52,E_14),(58,E_21),(62,E_20),(63,E_13),(64,E_15),(65,E_22),(66,E_31)] [(10,S_32L10 Ac),(5,S_32L5 Ac)] 2
def B_32L10:Code:=(Try.f25.body.bind (Yag 10)).getD .skip
def B_32L5:Code:=(Try.f25.body.bind (Yag 5)).getD .skip
def D_32:Code:=Try.f25.body.getD .skip
def N_32 (_:XK E_32.params) (r:YH E_32.results):E_32.B:=(r.1,r.2)
def E_33:Entry where
 params:= [.v .int]
 results:= [.v .bool]
 B:=Bool
 run:=λa=>B6 a
 out:=λb=>()
 res:=λb=>b
def C_33:Cx:=cx0 tt [] [] 1
def D_33:Code:=Try.f95.body.getD .skip
def N_33 (_:XK E_33.params) (r:YH E_33.results):E_33.B:=r
def E_34:Entry where
 params:= [.v y1,.v .int]
 results:= [.v .bool]
 B:=Bool
 run:=λa=>B2 a.1 a.2
 out:=λb=>((),())
 res:=λb=>b
def S_34L2 (n:Nat):LoopSpec where
 sh:= [(1,.v .int),(7,.v y1),(8,.v .int),(9,.v .int)]
 ex:= [(.exit 0,[]),(.ret,[(4,.v .bool)])]
 run:=Bs n
def C_34:Cx:=cx0 tt [] [(2,S_34L2 Ac)] 2
def B_34L2:Code:=(Try.f42.body.bind (Yag 2)).getD .skip
def D_34:Code:=Try.f42.body.getD .skip
def N_34 (_:XK E_34.params) (r:YH E_34.results):E_34.B:=r
def E_35:Entry where
 params:= [.v y1,.v y1]
 results:= [.v .int]
 B:=Int
 run:=λa=>Cl a.1 a.2
 out:=λb=>((),())
 res:=λb=>b
def S_35L2 (n:Nat):LoopSpec where
 sh:= [(0,.v y1),(1,.v y1),(5,.v .int)]
 ex:= [(.exit 0,[(0,.v y1),(1,.v y1)]),(.ret,[(4,.v .int)])]
 run:=Ar n
def C_35:Cx:=cx0 tt [] [(2,S_35L2 Ac)] 2
def B_35L2:Code:=(Try.f56.body.bind (Yag 2)).getD .skip
def D_35:Code:=Try.f56.body.getD .skip
def N_35 (_:XK E_35.params) (r:YH E_35.results):E_35.B:=r
def E_36:Entry where
 params:= [.v .int,.v y7]
 results:= [.v .bool]
 B:=Bool
 run:=λa=>B4 a.1 a.2
 out:=λb=>((),())
 res:=λb=>b
def S_36L4 (n:Nat):LoopSpec where
 sh:= [(0,.v .int),(3,.bx (.v y7)),(16,.v y5),(17,.v .int),(18,.v .int)]
 ex:= [(.exit 0,[]),(.ret,[(4,.v .bool)])]
 run:=AG n
def C_36:Cx:=cx0 tt [(42,E_34),(56,E_35)] [(4,S_36L4 Ac)] 2
def B_36L4:Code:=(Try.f123.body.bind (Yag 4)).getD .skip
def D_36:Code:=Try.f123.body.getD .skip
def N_36 (_:XK E_36.params) (r:YH E_36.results):E_36.B:=r
def E_37:Entry where
 params:= [.v .int,.v .int,.v y0]
 results:= [.v .bool]
 B:=Bool
 run:=λa=>BN a.1 a.2.1 a.2.2
 out:=λb=>((),(),())
 res:=λb=>b
def C_37:Cx:=cx0 tt [(42,E_34),(123,E_36)] [] 3
def D_37:Code:=Try.f96.body.getD .skip
def N_37 (_:XK E_37.params) (r:YH E_37.results):E_37.B:=r
def E_38:Entry where
 params:= [.v y3]
 results:= [.v .bool]
 B:=Bool
 run:=λa=>B9 a
 out:=λb=>()
 res:=λb=>b
def S_38L4 (n:Nat):LoopSpec where
 sh:= [(1,.bx (.v y3)),(26,.v y6),(27,.v .int),(28,.v .int)]
 ex:= [(.exit 0,[]),(.ret,[(2,.v .bool)])]
 run:=AU n
def C_38:Cx:=cx0 tt [(95,E_33),(96,E_37)] [(4,S_38L4 Ac)] 1
def B_38L4:Code:=(Try.f68.body.bind (Yag 4)).getD .skip
def D_38:Code:=Try.f68.body.getD .skip
def N_38 (_:XK E_38.params) (r:YH E_38.results):E_38.B:=r
def E_39:Entry where
 params:= [.v y1]
 results:= [.v .str]
 B:=ByteArray
 run:=λa=>BI a
 out:=λb=>()
 res:=λb=>b
def S_39L3 (n:Nat):LoopSpec where
 sh:= [(3,.mv (.num .u8) 0),(10,.v y1),(11,.v .int),(12,.v .int)]
 ex:= [(.exit 0,[(3,.mv (.num .u8) 0)])]
 run:=Bl n
def C_39:Cx:=cx0 tt [] [(3,S_39L3 Ac)] 1
def B_39L3:Code:=(Try.f72.body.bind (Yag 3)).getD .skip
def D_39:Code:=Try.f72.body.getD .skip
def N_39 (_:XK E_39.params) (r:YH E_39.results):E_39.B:=r
def E_40:Entry where
 params:= [.v y7]
 results:= [.v (.smap .sb)]
 B:=(List ByteArray)
 run:=λa=>Cp a
 out:=λb=>()
 res:=λb=>b
def S_40L3 (n:Nat):LoopSpec where
 sh:= [(3,(.mp .sb)),(8,.v y5),(9,.v .int),(10,.v .int)]
 ex:= [(.exit 0,[(3,(.mp .sb))])]
 run:=A7 n
def C_40:Cx:=cx0 tt [(72,E_39)] [(3,S_40L3 Ac)] 1
def B_40L3:Code:=(Try.f124.body.bind (Yag 3)).getD .skip
def D_40:Code:=Try.f124.body.getD .skip
def N_40 (_:XK E_40.params) (r:YH E_40.results):E_40.B:=r
def E_41:Entry where
 params:= [.v y3]
 results:= [.v (.ptr y2)]
 B:=(Bool×Int×(List (List (List Int)))×(List (List (List ByteArray))))
 run:=λa=>BP a
 out:=λb=>()
 res:=λb=>b
def S_41L7 (n:Nat):LoopSpec where
 sh:= [(3,.bx (.pr (.v .int) (.pr (.mv y5 1) (.mv y8 1)))),(5,.bx (.v y0)),(6,.v .int),(20,.v y6),(21,.v .int),(22,.v .int),(27,.v y1),(28,.v .int),(29,.v .int)]
 ex:= [(.exit 2,[(3,.bx (.pr (.v .int) (.pr (.mv y5 1) (.mv y8 1)))),(5,.bx (.v y0)),(6,.v .int),(20,.v y6),(21,.v .int),(22,.v .int)])]
 run:=Av n
def S_41L3 (n:Nat):LoopSpec where
 sh:= [(3,.bx (.pr (.v .int) (.pr (.mv y5 1) (.mv y8 1)))),(20,.v y6),(21,.v .int),(22,.v .int)]
 ex:= [(.exit 0,[(3,.bx (.pr (.v .int) (.pr (.mv y5 1) (.mv y8 1))))])]
 run:=Au n
def C_41:Cx where
 tt:=YaU tt
 T:=Ygp [(124,E_40)]
 L:=Ygo [(7,S_41L7 Ac),(3,S_41L3 Ac)]
 dep:=λi=>match i with
  |13=>1
  |16=>1
  |_=>0
 n:=1
 fine:=true
def B_41L7:Code:=(Try.f97.body.bind (Yag 7)).getD .skip
def B_41L3:Code:=(Try.f97.body.bind (Yag 3)).getD .skip
def D_41:Code:=Try.f97.body.getD .skip
def N_41 (_:XK E_41.params) (r:YH E_41.results):E_41.B:=r
def E_42:Entry where
 params:= [.v .int]
 results:= [.mv .int 0]
 B:=(List Int)
 run:=λa=>Cc a
 out:=λb=>()
 res:=λb=>b
def S_42L3 (n:Nat):LoopSpec where
 sh:= [(3,.mv .int 0),(8,.v .int),(9,.v .int)]
 ex:= [(.exit 0,[(3,.mv .int 0)])]
 run:=AK n
def C_42:Cx:=cx0 tt [] [(3,S_42L3 Ac)] 1
def B_42L3:Code:=(Try.f99.body.bind (Yag 3)).getD .skip
def D_42:Code:=Try.f99.body.getD .skip
def N_42 (_:XK E_42.params) (r:YH E_42.results):E_42.B:=r
def E_43:Entry where
 params:= [.v y1]
 results:= [.mv .int 0]
 B:=(List Int)
 run:=λa=>C0 a
 out:=λb=>()
 res:=λb=>b
def C_43:Cx:=cx0 tt [] [] 1
def D_43:Code:=Try.f81.body.getD .skip
def N_43 (_:XK E_43.params) (r:YH E_43.results):E_43.B:=r
def E_44:Entry where
 params:= [.v y5]
 results:= [.mv y1 1]
 B:=(List (List Int))
 run:=λa=>Ca a
 out:=λb=>()
 res:=λb=>b
def S_44L3 (n:Nat):LoopSpec where
 sh:= [(3,.mv y1 1),(7,.v y5),(8,.v .int),(9,.v .int)]
 ex:= [(.exit 0,[(3,.mv y1 1)])]
 run:=AJ n
def C_44:Cx where
 tt:=YaU tt
 T:=Ygp [(81,E_43)]
 L:=Ygo [(3,S_44L3 Ac)]
 dep:=λi=>match i with
  |6=>1
  |16=>1
  |17=>1
  |_=>0
 n:=1
def B_44L3:Code:=(Try.f80.body.bind (Yag 3)).getD .skip
def D_44:Code:=Try.f80.body.getD .skip
def N_44 (_:XK E_44.params) (r:YH E_44.results):E_44.B:=r
def E_45:Entry where
 params:= [.io y1 1,.v (.fn 56)]
 results:= []
 B:=List (List Int)
 run:=λa=>AA a.1 a.2
 out:=λb=>(b,())
 res:=λb=>()
def D_45:Code:=Try.f55.body.getD .skip
def E_46:Entry where
 params:= [.v y5]
 results:= [.mv y1 1]
 B:=(List (List Int))
 run:=λa=>BQ a
 out:=λb=>()
 res:=λb=>b
def C_46:Cx:=cx0 tt [(80,E_44),(3735607,E_45)] [] 1
def D_46:Code:=Try.f101.body.getD .skip
def N_46 (_:XK E_46.params) (r:YH E_46.results):E_46.B:=r
def E_47:Entry where
 params:= [.v y1,.v y1]
 results:= [.v .bool]
 B:=Bool
 run:=λa=>FU a.1 a.2
 out:=λb=>((),())
 res:=λb=>b
def S_47L4 (n:Nat):LoopSpec where
 sh:= [(1,.v y1),(12,.v y1),(13,.v .int),(14,.v .int)]
 ex:= [(.exit 0,[]),(.ret,[(4,.v .bool)])]
 run:=Cq n
def C_47:Cx:=cx0 tt [] [(4,S_47L4 Ac)] 2
def B_47L4:Code:=(Try.f126.body.bind (Yag 4)).getD .skip
def D_47:Code:=Try.f126.body.getD .skip
def N_47 (_:XK E_47.params) (r:YH E_47.results):E_47.B:=r
def E_48:Entry where
 params:= [.mv y1 1]
 results:= [.mv y1 1]
 B:=List (List Int)
 run:=λa=>Cb a
 out:=λb=>()
 res:=λb=>b
def D_48:Code:=Try.f100.body.getD .skip
def E_49:Entry where
 params:= [.v .int,.v y5]
 results:= [.pr (.v .int) (.mv y1 1)]
 B:=(Int×(List (List Int)))
 run:=λa=>BO a.1 a.2
 out:=λb=>((),())
 res:=λb=>b
def C_49:Cx:=cx0 tt [(100,E_48),(101,E_46)] [] 2
def D_49:Code:=Try.f73.body.getD .skip
def N_49 (_:XK E_49.params) (r:YH E_49.results):E_49.B:=r
def E_50:Entry where
 params:= [.v y1,.v y1]
 results:= [.mv .int 0]
 B:=(List Int)
 run:=λa=>BC a.1 a.2
 out:=λb=>((),())
 res:=λb=>b
def S_50L3 (n:Nat):LoopSpec where
 sh:= [(1,.v y1),(5,.mv .int 0),(11,.v y1),(12,.v .int),(13,.v .int)]
 ex:= [(.exit 0,[(5,.mv .int 0)])]
 run:=Bd n
def C_50:Cx:=cx0 tt [] [(3,S_50L3 Ac)] 2
def B_50L3:Code:=(Try.f71.body.bind (Yag 3)).getD .skip
def D_50:Code:=Try.f71.body.getD .skip
def N_50 (_:XK E_50.params) (r:YH E_50.results):E_50.B:=r
def E_51:Entry where
 params:= [.v y1,.pz y1,.bx ((.mp .sb)),.bx (.mv y1 1)]
 results:= [.v .bool]
 B:=(List ByteArray)×(List (List Int))×Bool
 run:=λa=>AH a.1 a.2.1 a.2.2.1 a.2.2.2
 out:=λb=>((),(),b.1,b.2.1)
 res:=λb=>b.2.2
def C_51:Cx where
 tt:=YaU tt
 T:=Ygp [(71,E_50),(72,E_39)]
 L:=Ygo []
 dep:=λi=>match i with
  |21=>1
  |22=>1
  |_=>0
 n:=4
def D_51:Code:=Try.f70.body.getD .skip
def N_51 (o:XK E_51.params) (r:YH E_51.results):E_51.B:=(o.2.2.1,o.2.2.2,r)
def E_52_of (rec:(Int×(List Int)×((List Int)×((List ByteArray)×(List (List Int))))×(Bool×Int×(List (List (List Int)))×(List (List (List ByteArray))))×(List Int)×Unit)->Option ((List Int)×(Unit×((List ByteArray)×(List (List Int))))×(Bool×Int×(List (List (List Int)))×(List (List (List ByteArray))))×(List Int)×Bool)):Entry where
 params:= [.v .int,.bx (.mv .int 0),.pr (.pz y1) (.pr (.bx ((.mp .sb))) (.bx (.mv y1 1))),.bx (.v (.ptr y2)),.bx (.v y1),.jk 1]
 results:= [.v .bool]
 cod:= [(2,.kb 70),(5,.kn 125 1 5)]
 B:=(List Int)×(Unit×((List ByteArray)×(List (List Int))))×(Bool×Int×(List (List (List Int)))×(List (List (List ByteArray))))×(List Int)×Bool
 run:=rec
 out:=λb=>((),b.1,b.2.1,b.2.2.1,b.2.2.2.1,())
 res:=λb=>b.2.2.2.2
def E_52 (d:Nat):Entry:=E_52_of (Ag d)
def S_52L10 (rec:(Int×(List Int)×((List Int)×((List ByteArray)×(List (List Int))))×(Bool×Int×(List (List (List Int)))×(List (List (List ByteArray))))×(List Int)×Unit)->Option ((List Int)×(Unit×((List ByteArray)×(List (List Int))))×(Bool×Int×(List (List (List Int)))×(List (List (List ByteArray))))×(List Int)×Bool)) (n:Nat):LoopSpec where
 sh:= [(0,.v .int),(1,.bx (.mv .int 0)),(2,.pr (.pz y1) (.pr (.bx ((.mp .sb))) (.bx (.mv y1 1)))),(3,.bx (.v (.ptr y2))),(4,.bx (.v y1)),(5,.jk 1),(8,.v .int),(9,.v .bool),(50,.v y5),(51,.v .int),(52,.v .int)]
 ex:= [(.exit 2,[(0,.v .int),(1,.bx (.mv .int 0)),(2,.pr (.pz y1) (.pr (.bx ((.mp .sb))) (.bx (.mv y1 1)))),(3,.bx (.v (.ptr y2))),(4,.bx (.v y1)),(5,.jk 1),(8,.v .int),(9,.v .bool)])]
 run:=Ab rec n
def S_52L4 (rec:(Int×(List Int)×((List Int)×((List ByteArray)×(List (List Int))))×(Bool×Int×(List (List (List Int)))×(List (List (List ByteArray))))×(List Int)×Unit)->Option ((List Int)×(Unit×((List ByteArray)×(List (List Int))))×(Bool×Int×(List (List (List Int)))×(List (List (List ByteArray))))×(List Int)×Bool)) (n:Nat):LoopSpec where
 sh:= [(0,.v .int),(1,.bx (.mv .int 0)),(2,.pr (.pz y1) (.pr (.bx ((.mp .sb))) (.bx (.mv y1 1)))),(3,.bx (.v (.ptr y2))),(4,.bx (.v y1)),(5,.jk 1),(8,.v .int)]
 ex:= [(.exit 0,[(1,.bx (.mv .int 0)),(2,.pr (.pz y1) (.pr (.bx ((.mp .sb))) (.bx (.mv y1 1)))),(3,.bx (.v (.ptr y2))),(4,.bx (.v y1)),(5,.jk 1)]),(.ret,[(1,.bx (.mv .int 0)),(2,.pr (.pz y1) (.pr (.bx ((.mp .sb))) (.bx (.mv y1 1)))),(3,.bx (.v (.ptr y2))),(4,.bx (.v y1)),(5,.jk 1),(7,.v .bool)])]
 run:=Aa rec n
def C_52 (rec:(Int×(List Int)×((List Int)×((List ByteArray)×(List (List Int))))×(Bool×Int×(List (List (List Int)))×(List (List (List ByteArray))))×(List Int)×Unit)->Option ((List Int)×(Unit×((List ByteArray)×(List (List Int))))×(Bool×Int×(List (List (List Int)))×(List (List (List ByteArray))))×(List Int)×Bool)):Cx where
 tt:=YaU tt
 T:=Ygp [(70,E_51),(71,E_50),(72,E_39),(4653181,E_52_of rec)]
 L:=Ygo [(10,S_52L10 rec Ac),(4,S_52L4 rec Ac)]
 dep:=λi=>0
 n:=6
 cod:= [(2,.kb 70),(5,.kn 125 1 5)]
def B_52L10:Code:=(Try.f125.body.bind (Yag 10)).getD .skip
def B_52L4:Code:=(Try.f125.body.bind (Yag 4)).getD .skip
def D_52:Code:=Try.f125.body.getD .skip
def N_52 (o:XK [.v .int,.bx (.mv .int 0),.pr (.pz y1) (.pr (.bx ((.mp .sb))) (.bx (.mv y1 1))),.bx (.v (.ptr y2)),.bx (.v y1),.jk 1]) (r:YH [.v .bool]):(List Int)×(Unit×((List ByteArray)×(List (List Int))))×(Bool×Int×(List (List (List Int)))×(List (List (List ByteArray))))×(List Int)×Bool:=(o.2.1,o.2.2.1,o.2.2.2.1,o.2.2.2.2.1,r)
def E_53:Entry where
 params:= [.v (.ptr y2),.v y1,.pr (.pz y1) (.pr (.bx ((.mp .sb))) (.bx (.mv y1 1)))]
 results:= []
 cod:= [(2,.cl 70)]
 B:=(Unit×((List ByteArray)×(List (List Int))))
 run:=λa=>As a.1 a.2.1 a.2.2
 out:=λb=>((),(),b)
 res:=λb=>()
def C_53:Cx where
 tt:=YaU tt
 T:=Ygp [(4653181,E_52 Ac)]
 L:=Ygo []
 dep:=λi=>0
 n:=3
 cod:= [(2,.cl 70)]
def D_53:Code:=Try.f98.body.getD .skip
def N_53 (o:XK E_53.params) (_:YH E_53.results):E_53.B:=o.2.2
def E_54:Entry where
 params:= [.v y3,.pr (.pz y1) (.pr (.bx ((.mp .sb))) (.bx (.mv y1 1)))]
 results:= []
 cod:= [(1,.cl 70)]
 B:=(Unit×((List ByteArray)×(List (List Int))))
 run:=λa=>An a.1 a.2
 out:=λb=>((),b)
 res:=λb=>()
def C_54:Cx where
 tt:=YaU tt
 T:=Ygp [(97,E_41),(99,E_42),(4653154,E_53)]
 L:=Ygo []
 dep:=λi=>0
 n:=2
 cod:= [(1,.cl 70)]
def D_54:Code:=Try.f69.body.getD .skip
def N_54 (o:XK E_54.params) (_:YH E_54.results):E_54.B:=o.2
def E_55:Entry where
 params:= [.v y3,.v y1]
 results:= [.pr (.v .int) (.mv y1 1),.v .bool]
 B:=(Int×(List (List Int)))×Bool
 run:=λa=>AB a.1 a.2
 out:=λb=>((),())
 res:=λb=>(b.1,b.2)
def C_55:Cx where
 tt:=YaU tt
 T:=Ygp [(42,E_34),(68,E_38),(73,E_49),(4653125,E_54)]
 L:=Ygo []
 dep:=λi=>match i with
  |30=>1
  |_=>0
 n:=2
def D_55:Code:=Try.f28.body.getD .skip
def N_55 (_:XK E_55.params) (r:YH E_55.results):E_55.B:=(r.1,r.2)
def E_56:Entry where
 params:= [.v y1,.v y1]
 results:= [.v .bool]
 B:=Bool
 run:=λa=>B3 a.1 a.2
 out:=λb=>((),())
 res:=λb=>b
def S_56L4 (n:Nat):LoopSpec where
 sh:= [(0,.v y1),(1,.v y1),(5,.v .int)]
 ex:= [(.exit 0,[]),(.ret,[(4,.v .bool)])]
 run:=Bt n
def C_56:Cx:=cx0 tt [] [(4,S_56L4 Ac)] 2
def B_56L4:Code:=(Try.f31.body.bind (Yag 4)).getD .skip
def D_56:Code:=Try.f31.body.getD .skip
def N_56 (_:XK E_56.params) (r:YH E_56.results):E_56.B:=r
def E_57:Entry where
 params:= [.v y5,.v y5]
 results:= [.v .bool]
 B:=Bool
 run:=λa=>Cu a.1 a.2
 out:=λb=>((),())
 res:=λb=>b
def S_57L4 (n:Nat):LoopSpec where
 sh:= [(0,.v y5),(1,.v y5),(5,.v .int)]
 ex:= [(.exit 0,[]),(.ret,[(4,.v .bool)])]
 run:=Bf n
def C_57:Cx:=cx0 tt [(31,E_56)] [(4,S_57L4 Ac)] 2
def B_57L4:Code:=(Try.f74.body.bind (Yag 4)).getD .skip
def D_57:Code:=Try.f74.body.getD .skip
def N_57 (_:XK E_57.params) (r:YH E_57.results):E_57.B:=r
def E_58:Entry where
 params:= [.v y7,.v y7]
 results:= [.v .bool]
 B:=Bool
 run:=λa=>Az a.1 a.2
 out:=λb=>((),())
 res:=λb=>b
def C_58:Cx:=cx0 tt [(74,E_57)] [] 2
def D_58:Code:=Try.f29.body.getD .skip
def N_58 (_:XK E_58.params) (r:YH E_58.results):E_58.B:=r
def E_59:Entry where
 params:= [.v y0,.v y0]
 results:= [.v .bool]
 B:=Bool
 run:=λa=>Bm a.1 a.2
 out:=λb=>((),())
 res:=λb=>b
def C_59:Cx:=cx0 tt [(29,E_58),(31,E_56)] [] 2
def D_59:Code:=Try.f102.body.getD .skip
def N_59 (_:XK E_59.params) (r:YH E_59.results):E_59.B:=r
def E_60:Entry where
 params:= [.v y6,.v y6]
 results:= [.v .bool]
 B:=Bool
 run:=λa=>Ce a.1 a.2
 out:=λb=>((),())
 res:=λb=>b
def S_60L4 (n:Nat):LoopSpec where
 sh:= [(0,.v y6),(1,.v y6),(5,.v .int)]
 ex:= [(.exit 0,[]),(.ret,[(4,.v .bool)])]
 run:=AC n
def C_60:Cx:=cx0 tt [(102,E_59)] [(4,S_60L4 Ac)] 2
def B_60L4:Code:=(Try.f75.body.bind (Yag 4)).getD .skip
def D_60:Code:=Try.f75.body.getD .skip
def N_60 (_:XK E_60.params) (r:YH E_60.results):E_60.B:=r
def E_61:Entry where
 params:= [.v y3,.v y3]
 results:= [.v .bool]
 B:=Bool
 run:=λa=>Bu a.1 a.2
 out:=λb=>((),())
 res:=λb=>b
def C_61:Cx:=cx0 tt [(75,E_60)] [] 2
def D_61:Code:=Try.f30.body.getD .skip
def N_61 (_:XK E_61.params) (r:YH E_61.results):E_61.B:=r
def E_62:Entry where
 params:= [.io .int 0,.v .int]
 results:= [.v .int]
 B:=(List Int)×Int
 run:=λa=>BG a.1 a.2
 out:=λb=>(b.1,())
 res:=λb=>b.2
def S_62L2 (n:Nat):LoopSpec where
 sh:= [(0,.io .int 0),(1,.v .int),(5,.v .int)]
 ex:= [(.exit 0,[(0,.io .int 0),(1,.v .int)])]
 run:=A9 n
def C_62:Cx:=cx0 tt [] [(2,S_62L2 Ac)] 2
def B_62L2:Code:=(Try.f33.body.bind (Yag 2)).getD .skip
def D_62:Code:=Try.f33.body.getD .skip
def N_62 (o:XK E_62.params) (r:YH E_62.results):E_62.B:=(o.1,r)
def E_63:Entry where
 params:= [.io y1 1,.v .int]
 results:= [.v .int]
 B:=(List (List Int))×Int
 run:=λa=>BS a.1 a.2
 out:=λb=>(b.1,())
 res:=λb=>b.2
def S_63L2 (n:Nat):LoopSpec where
 sh:= [(0,.io y1 1),(1,.v .int),(5,.v .int)]
 ex:= [(.exit 0,[(0,.io y1 1),(1,.v .int)])]
 run:=AX n
def C_63:Cx:=cx0 tt [(33,E_62)] [(2,S_63L2 Ac)] 2
def B_63L2:Code:=(Try.f77.body.bind (Yag 2)).getD .skip
def D_63:Code:=Try.f77.body.getD .skip
def N_63 (o:XK E_63.params) (r:YH E_63.results):E_63.B:=(o.1,r)
def E_64:Entry where
 params:= [.io y0 2,.v .int]
 results:= [.v .int]
 B:=(List ((List Int)×Int×(List (List Int))))×Int
 run:=λa=>Bv a.1 a.2
 out:=λb=>(b.1,())
 res:=λb=>b.2
def S_64L2 (n:Nat):LoopSpec where
 sh:= [(0,.io y0 2),(1,.v .int),(5,.v .int)]
 ex:= [(.exit 0,[(0,.io y0 2),(1,.v .int)])]
 run:=Aw n
def C_64:Cx:=cx0 tt [(33,E_62),(77,E_63)] [(2,S_64L2 Ac)] 2
def B_64L2:Code:=(Try.f76.body.bind (Yag 2)).getD .skip
def D_64:Code:=Try.f76.body.getD .skip
def N_64 (o:XK E_64.params) (r:YH E_64.results):E_64.B:=(o.1,r)
def E_65:Entry where
 params:= [.pr (.v .int) (.pr (.v .int) (.io y0 2)),.v .int]
 results:= [.v .int]
 B:=(Unit×(Unit×(List ((List Int)×Int×(List (List Int))))))×Int
 run:=λa=>BD a.1 a.2
 out:=λb=>(b.1,())
 res:=λb=>b.2
def C_65:Cx:=cx0 tt [(76,E_64)] [] 2
def D_65:Code:=Try.f32.body.getD .skip
def N_65 (o:XK E_65.params) (r:YH E_65.results):E_65.B:=(o.1,r)
def E_66:Entry where
 params:= [.pr (.v .int) (.io y1 1),.v .int]
 results:= [.v .int]
 B:=(Unit×(List (List Int)))×Int
 run:=λa=>BT a.1 a.2
 out:=λb=>(b.1,())
 res:=λb=>b.2
def C_66:Cx:=cx0 tt [(77,E_63)] [] 2
def D_66:Code:=Try.f34.body.getD .skip
def N_66 (o:XK E_66.params) (r:YH E_66.results):E_66.B:=(o.1,r)
def E_67:Entry where
 params:= [.v y1,.v .int]
 results:= [.v .int]
 B:=Int
 run:=λa=>B1 a.1 a.2
 out:=λb=>((),())
 res:=λb=>b
def S_67L2 (n:Nat):LoopSpec where
 sh:= [(0,.v y1),(1,.v .int),(5,.v .int)]
 ex:= [(.exit 0,[(1,.v .int)]),(.ret,[(4,.v .int)])]
 run:=A8 n
def C_67:Cx:=cx0 tt [] [(2,S_67L2 Ac)] 2
def B_67L2:Code:=(Try.f103.body.bind (Yag 2)).getD .skip
def D_67:Code:=Try.f103.body.getD .skip
def N_67 (_:XK E_67.params) (r:YH E_67.results):E_67.B:=r
def E_68:Entry where
 params:= [.v y5,.v .int]
 results:= [.v .int]
 B:=Int
 run:=λa=>Cf a.1 a.2
 out:=λb=>((),())
 res:=λb=>b
def S_68L2 (n:Nat):LoopSpec where
 sh:= [(0,.v y5),(1,.v .int),(5,.v .int)]
 ex:= [(.exit 0,[(1,.v .int)]),(.ret,[(4,.v .int)])]
 run:=AW n
def C_68:Cx:=cx0 tt [(103,E_67)] [(2,S_68L2 Ac)] 2
def B_68L2:Code:=(Try.f78.body.bind (Yag 2)).getD .skip
def D_68:Code:=Try.f78.body.getD .skip
def N_68 (_:XK E_68.params) (r:YH E_68.results):E_68.B:=r
def E_69:Entry where
 params:= [.v y7,.v .int]
 results:= [.v .int]
 B:=Int
 run:=λa=>Bn a.1 a.2
 out:=λb=>((),())
 res:=λb=>b
def C_69:Cx:=cx0 tt [(78,E_68)] [] 2
def D_69:Code:=Try.f35.body.getD .skip
def N_69 (_:XK E_69.params) (r:YH E_69.results):E_69.B:=r
def E_70:Entry where
 params:= [.v y3,.v y1]
 results:= [.v .bool]
 B:=Bool
 run:=λa=>Be a.1 a.2
 out:=λb=>((),())
 res:=λb=>b
def C_70:Cx:=cx0 tt [(24,E_6),(25,E_32),(26,E_12),(27,E_7),(28,E_55),(29,E_58),(30,E_61),(31,E_56),(32,E_65),(33,E_62),(34,E_66),(35,E_69)] [] 2
def D_70:Code:=Try.f4.body.getD .skip
def N_70 (_:XK E_70.params) (r:YH E_70.results):E_70.B:=r
end
end T
