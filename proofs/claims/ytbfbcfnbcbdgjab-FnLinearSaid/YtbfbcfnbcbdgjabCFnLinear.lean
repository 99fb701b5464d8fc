/- Contexts of the typed functions; no conditions. -/
import Derived.Test.YtbfbcfnbcbdgjabV5
import Derived.Test.YtbfbcfnbcbdgjabProg
import Derived.Test.YtbfbcfnbcbdgjabPFnLinear
import Derived.KernelRfl
set_option linter.all false
set_option linter.unusedVariables false
set_option maxRecDepth 10000
open Go Go.Va Go.Proofs
namespace T
noncomputable section
abbrev y0:Ty:= .slice .int
abbrev y1:Ty:= .pair .int (.pair .int (.slice y0))
abbrev y2:Ty:= .pair .int (.pair .int (.pair (.slice y0) (.pair .int y0)))
abbrev y3:Ty:= .pair (.slice (.num .u8)) (.pair .int (.num .u64))
abbrev y4:Ty:= .slice y0
abbrev y5:Ty:= .pair y4 (.pair y0 y4)
abbrev y6:Ty:= .slice (.num .u8)
abbrev y7:Ty:= .pair .int (.pair .int (.pair .bool (.num .u8)))
def tt:List (Nat×TI):= [
 (2,{ ty:= .int }),
 (3,{ ty:= .int }),
 (4,{ ty:= .bool }),
 (5,{ ty:=(.num .u8) }),
 (6,{ ty:=(.num .u8) }),
 (7,{ ty:=y7,fields:= [2,3,4,6] }),
 (8,{ ty:=y7,fields:= [2,3,4,6] }),
 (22,{ ty:=y6,elem:=5 }),
 (24,{ ty:=y4,elem:=32 }),
 (26,{ ty:=y1,fields:= [3,3,24] }),
 (32,{ ty:=y0,elem:=3 }),
 (65,{ ty:=y5,fields:= [24,32,24] }),
 (80,{ ty:=(.op false) }),
 (102,{ ty:=(.num .u64) }),
 (104,{ ty:=y3,fields:= [22,3,102] }),
 (107,{ ty:=y2,fields:= [3,3,24,3,32] }),
 (129,{ ty:=(.num .u64) })]
theorem tabT:Yif Try.prog tt=true:=by kernel_rfl
theorem mixT:Try.prog.follows .mixedOrders=true:=by kernel_rfl
def E_1:Entry where
 params:= [.v y6]
 results:= [.v .bool]
 B:=Bool
 run:=λa=>EZ a
 out:=λb=>()
 res:=λb=>b
def C_1:Cx:=cx0 tt [] [] 1
def D_1:Code:=Try.f5.body.getD .skip
def N_1 (_:XK E_1.params) (r:YH E_1.results):E_1.B:=r
def E_2:Entry where
 params:= [.bx (.v y3)]
 results:= [.v .int]
 B:=((List Int)×Int×Int)×Int
 run:=λa=>BL a
 out:=λb=>b.1
 res:=λb=>b.2
def C_2:Cx:=cx0 tt [] [] 1
def D_2:Code:=Try.f127.body.getD .skip
def N_2 (o:XK E_2.params) (r:YH E_2.results):E_2.B:=(o,r)
def E_3:Entry where
 params:= [.bx (.v y3),.v .int]
 results:= [.v .int]
 B:=((List Int)×Int×Int)×Int
 run:=λa=>Al a.1 a.2
 out:=λb=>(b.1,())
 res:=λb=>b.2
def C_3:Cx:=cx0 tt [(127,E_2)] [] 2
def D_3:Code:=Try.f105.body.getD .skip
def N_3 (o:XK E_3.params) (r:YH E_3.results):E_3.B:=(o.1,r)
def E_4:Entry where
 params:= [.bx (.v y3),.v y0]
 results:= [.v .int]
 B:=((List Int)×Int×Int)×Int
 run:=λa=>Ap a.1 a.2
 out:=λb=>(b.1,())
 res:=λb=>b.2
def C_4:Cx:=cx0 tt [(105,E_3)] [] 2
def D_4:Code:=Try.f104.body.getD .skip
def N_4 (o:XK E_4.params) (r:YH E_4.results):E_4.B:=(o.1,r)
def E_5:Entry where
 params:= [.bx (.v y3),.v .int]
 results:= [.v .bool]
 B:=((List Int)×Int×Int)×Bool
 run:=λa=>B1 a.1 a.2
 out:=λb=>(b.1,())
 res:=λb=>b.2
def C_5:Cx:=cx0 tt [(105,E_3)] [] 2
def D_5:Code:=Try.f106.body.getD .skip
def N_5 (o:XK E_5.params) (r:YH E_5.results):E_5.B:=(o.1,r)
def E_6:Entry where
 params:= [.v .int,.v y0,.v .int]
 results:= [.mv .int 0]
 B:=(List Int)
 run:=λa=>CV a.1 a.2.1 a.2.2
 out:=λb=>((),(),())
 res:=λb=>b
def S_6L3 (n:Nat):LoopSpec where
 sh:= [(0,.v .int),(1,.v y0),(2,.v .int),(7,.mv .int 0),(8,.v .int)]
 ex:= [(.exit 0,[(7,.mv .int 0)])]
 run:=BH n
def C_6:Cx:=cx0 tt [] [(3,S_6L3 Aa)] 3
def B_6L3:Code:=(Try.f107.body.bind (Yag 3)).getD .skip
def D_6:Code:=Try.f107.body.getD .skip
def N_6 (_:XK E_6.params) (r:YH E_6.results):E_6.B:=r
def E_7:Entry where
 params:= [.bx (.v y3)]
 results:= [.pr (.v .int) (.pr (.v .int) (.mv y0 1))]
 B:=((List Int)×Int×Int)×(Int×(Int×(List (List Int))))
 run:=λa=>CK a
 out:=λb=>b.1
 res:=λb=>b.2
def S_7L8 (n:Nat):LoopSpec where
 sh:= [(0,.bx (.v y3)),(2,.bx (.pr (.v .int) (.pr (.v .int) (.mv y0 1)))),(3,.v .int),(4,.bx (.pr (.v .int) (.pr (.v .int) (.mv y0 1)))),(5,.v .int),(6,.mv .int 0),(7,.v .int)]
 ex:= [(.exit 2,[(0,.bx (.v y3)),(2,.bx (.pr (.v .int) (.pr (.v .int) (.mv y0 1)))),(3,.v .int),(4,.bx (.pr (.v .int) (.pr (.v .int) (.mv y0 1)))),(5,.v .int),(6,.mv .int 0)])]
 run:=Bc n
def S_7L4 (n:Nat):LoopSpec where
 sh:= [(0,.bx (.v y3)),(2,.bx (.pr (.v .int) (.pr (.v .int) (.mv y0 1)))),(3,.v .int),(4,.bx (.pr (.v .int) (.pr (.v .int) (.mv y0 1)))),(5,.v .int)]
 ex:= [(.exit 0,[(0,.bx (.v y3)),(2,.bx (.pr (.v .int) (.pr (.v .int) (.mv y0 1)))),(3,.v .int),(4,.bx (.pr (.v .int) (.pr (.v .int) (.mv y0 1))))])]
 run:=As n
def S_7L22 (n:Nat):LoopSpec where
 sh:= [(0,.bx (.v y3)),(2,.bx (.pr (.v .int) (.pr (.v .int) (.mv y0 1)))),(4,.bx (.pr (.v .int) (.pr (.v .int) (.mv y0 1))))]
 ex:= [(.exit 5,[(0,.bx (.v y3)),(2,.bx (.pr (.v .int) (.pr (.v .int) (.mv y0 1)))),(4,.bx (.pr (.v .int) (.pr (.v .int) (.mv y0 1))))])]
 run:=A7 n
def C_7:Cx where
 tt:=YaU tt
 T:=Ygp [(104,E_4),(105,E_3),(106,E_5),(107,E_6)]
 L:=Ygo [(8,S_7L8 Aa),(4,S_7L4 Aa),(22,S_7L22 Aa)]
 dep:=λi=>match i with
  |15=>1
  |66=>1
  |67=>1
  |101=>1
  |102=>1
  |_=>0
 n:=1
 fine:=true
def B_7L8:Code:=(Try.f79.body.bind (Yag 8)).getD .skip
def B_7L4:Code:=(Try.f79.body.bind (Yag 4)).getD .skip
def B_7L22:Code:=(Try.f79.body.bind (Yag 22)).getD .skip
def D_7:Code:=Try.f79.body.getD .skip
def N_7 (o:XK E_7.params) (r:YH E_7.results):E_7.B:=(o,r)
def E_8:Entry where
 params:= [.v y6]
 results:= [.pr (.v .int) (.pr (.v .int) (.mv y0 1))]
 B:=(Int×(Int×(List (List Int))))
 run:=λa=>Dg a
 out:=λb=>()
 res:=λb=>b
def C_8:Cx:=cx0 tt [(79,E_7)] [] 1
def D_8:Code:=Try.f36.body.getD .skip
def N_8 (_:XK E_8.params) (r:YH E_8.results):E_8.B:=r
def E_9:Entry where
 params:= [.v y6]
 results:= [.pr (.v .int) (.pr (.v .int) (.mv y0 1))]
 B:=(Int×(Int×(List (List Int))))
 run:=λa=>CA a
 out:=λb=>()
 res:=λb=>b
def C_9:Cx:=cx0 tt [(36,E_8)] [] 1
def D_9:Code:=Try.f6.body.getD .skip
def N_9 (_:XK E_9.params) (r:YH E_9.results):E_9.B:=r
def E_10:Entry where
 params:= [.v .int]
 results:= [.v .bool]
 B:=Bool
 run:=λa=>Do a
 out:=λb=>()
 res:=λb=>b
def C_10:Cx:=cx0 tt [] [] 1
def D_10:Code:=Try.f41.body.getD .skip
def N_10 (_:XK E_10.params) (r:YH E_10.results):E_10.B:=r
def E_11:Entry where
 params:= [.v y0,.v .int]
 results:= [.v .bool]
 B:=Bool
 run:=λa=>DA a.1 a.2
 out:=λb=>((),())
 res:=λb=>b
def S_11L2 (n:Nat):LoopSpec where
 sh:= [(1,.v .int),(7,.v y0),(8,.v .int),(9,.v .int)]
 ex:= [(.exit 0,[]),(.ret,[(4,.v .bool)])]
 run:=Ck n
def C_11:Cx:=cx0 tt [] [(2,S_11L2 Aa)] 2
def B_11L2:Code:=(Try.f42.body.bind (Yag 2)).getD .skip
def D_11:Code:=Try.f42.body.getD .skip
def N_11 (_:XK E_11.params) (r:YH E_11.results):E_11.B:=r
def E_12:Entry where
 params:= [.v y1]
 results:= [.v .bool]
 B:=Bool
 run:=λa=>Bp a
 out:=λb=>()
 res:=λb=>b
def S_12L4 (n:Nat):LoopSpec where
 sh:= [(1,.bx (.v y1)),(26,.v y4),(27,.v .int),(28,.v .int)]
 ex:= [(.exit 0,[]),(.ret,[(2,.v .bool)])]
 run:=BY n
def C_12:Cx:=cx0 tt [(41,E_10),(42,E_11)] [(4,S_12L4 Aa)] 1
def B_12L4:Code:=(Try.f9.body.bind (Yag 4)).getD .skip
def D_12:Code:=Try.f9.body.getD .skip
def N_12 (_:XK E_12.params) (r:YH E_12.results):E_12.B:=r
def E_13:Entry where
 params:= [.v y0]
 results:= [.mv .int 0]
 B:=(List Int)
 run:=λa=>CO a
 out:=λb=>()
 res:=λb=>b
def C_13:Cx:=cx0 tt [] [] 1
def D_13:Code:=Try.f81.body.getD .skip
def N_13 (_:XK E_13.params) (r:YH E_13.results):E_13.B:=r
def E_14:Entry where
 params:= [.v y4]
 results:= [.mv y0 1]
 B:=(List (List Int))
 run:=λa=>BZ a
 out:=λb=>()
 res:=λb=>b
def S_14L3 (n:Nat):LoopSpec where
 sh:= [(3,.mv y0 1),(7,.v y4),(8,.v .int),(9,.v .int)]
 ex:= [(.exit 0,[(3,.mv y0 1)])]
 run:=Bv n
def C_14:Cx where
 tt:=YaU tt
 T:=Ygp [(81,E_13)]
 L:=Ygo [(3,S_14L3 Aa)]
 dep:=λi=>match i with
  |6=>1
  |16=>1
  |17=>1
  |_=>0
 n:=1
def B_14L3:Code:=(Try.f80.body.bind (Yag 3)).getD .skip
def D_14:Code:=Try.f80.body.getD .skip
def N_14 (_:XK E_14.params) (r:YH E_14.results):E_14.B:=r
def E_15:Entry where
 params:= [.v .int]
 results:= [.mv .int 0]
 B:=(List Int)
 run:=λa=>Cj a
 out:=λb=>()
 res:=λb=>b
def S_15L3 (n:Nat):LoopSpec where
 sh:= [(3,.mv .int 0),(8,.v .int),(9,.v .int)]
 ex:= [(.exit 0,[(3,.mv .int 0)])]
 run:=By n
def C_15:Cx:=cx0 tt [] [(3,S_15L3 Aa)] 1
def B_15L3:Code:=(Try.f99.body.bind (Yag 3)).getD .skip
def D_15:Code:=Try.f99.body.getD .skip
def N_15 (_:XK E_15.params) (r:YH E_15.results):E_15.B:=r
def E_16:Entry where
 params:= [.v .int,.v .int]
 results:= [.v .int]
 B:=Int
 run:=λa=>Cl a.1 a.2
 out:=λb=>((),())
 res:=λb=>b
def S_16L2 (n:Nat):LoopSpec where
 sh:= [(0,.v .int),(1,.v .int),(5,.v .int)]
 ex:= [(.exit 0,[]),(.ret,[(4,.v .int)])]
 run:=De n
def C_16:Cx:=cx0 tt [] [(2,S_16L2 Aa)] 2
def B_16L2:Code:=(Try.f108.body.bind (Yag 2)).getD .skip
def D_16:Code:=Try.f108.body.getD .skip
def N_16 (_:XK E_16.params) (r:YH E_16.results):E_16.B:=r
def E_17:Entry where
 params:= [.v .int,.v .int,.v y4]
 results:= [.v (.ptr y2)]
 B:=(Bool×Int×Int×(List (List Int))×Int×(List Int))
 run:=λa=>B0 a.1 a.2.1 a.2.2
 out:=λb=>((),(),())
 res:=λb=>b
def S_17L6 (n:Nat):LoopSpec where
 sh:= [(0,.v .int),(1,.v .int),(7,.bx (.pr (.v .int) (.pr (.v .int) (.pr (.mv y0 1) (.pr (.v .int) (.mv .int 0)))))),(8,.v .int),(9,.v .int)]
 ex:= [(.exit 2,[(0,.v .int),(1,.v .int),(7,.bx (.pr (.v .int) (.pr (.v .int) (.pr (.mv y0 1) (.pr (.v .int) (.mv .int 0)))))),(8,.v .int),(9,.v .int)])]
 run:=AY n
def S_17L14 (n:Nat):LoopSpec where
 sh:= [(12885426186,.v .int),(0,.v .int),(1,.v .int),(7,.bx (.pr (.v .int) (.pr (.v .int) (.pr (.mv y0 1) (.pr (.v .int) (.mv .int 0)))))),(8,.v .int),(11,.v .int),(110,.v .int),(111,.v .int)]
 ex:= [(.exit 4,[(12885426186,.v .int),(0,.v .int),(1,.v .int),(7,.bx (.pr (.v .int) (.pr (.v .int) (.pr (.mv y0 1) (.pr (.v .int) (.mv .int 0)))))),(8,.v .int)])]
 run:=AQ n
def S_17L24 (n:Nat):LoopSpec where
 sh:= [(12885426186,.v .int),(12885426190,.v .int),(12885426305,.jk 1),(0,.v .int),(1,.v .int),(7,.bx (.pr (.v .int) (.pr (.v .int) (.pr (.mv y0 1) (.pr (.v .int) (.mv .int 0)))))),(8,.v .int),(15,.v .int),(130,.v .int),(131,.v .int),(151,.v .int),(152,.v .int)]
 ex:= [(.exit 8,[(12885426186,.v .int),(12885426305,.jk 1),(0,.v .int),(1,.v .int),(7,.bx (.pr (.v .int) (.pr (.v .int) (.pr (.mv y0 1) (.pr (.v .int) (.mv .int 0)))))),(8,.v .int),(130,.v .int),(131,.v .int)])]
 run:=AR n
def S_17L19 (n:Nat):LoopSpec where
 sh:= [(12885426186,.v .int),(12885426305,.jk 1),(0,.v .int),(1,.v .int),(7,.bx (.pr (.v .int) (.pr (.v .int) (.pr (.mv y0 1) (.pr (.v .int) (.mv .int 0)))))),(8,.v .int),(130,.v .int),(131,.v .int)]
 ex:= [(.exit 6,[(0,.v .int),(1,.v .int),(7,.bx (.pr (.v .int) (.pr (.v .int) (.pr (.mv y0 1) (.pr (.v .int) (.mv .int 0)))))),(8,.v .int)])]
 run:=Az n
def S_17L3 (n:Nat):LoopSpec where
 sh:= [(0,.v .int),(1,.v .int),(7,.bx (.pr (.v .int) (.pr (.v .int) (.pr (.mv y0 1) (.pr (.v .int) (.mv .int 0)))))),(8,.v .int)]
 ex:= [(.exit 0,[(7,.bx (.pr (.v .int) (.pr (.v .int) (.pr (.mv y0 1) (.pr (.v .int) (.mv .int 0))))))])]
 run:=AG n
def C_17:Cx where
 tt:=YaU tt
 T:=Ygp [(80,E_14),(99,E_15),(108,E_16)]
 L:=Ygo [(6,S_17L6 Aa),(14,S_17L14 Aa),(24,S_17L24 Aa),(19,S_17L19 Aa),(3,S_17L3 Aa)]
 dep:=λi=>match i with
  |69=>99
  |_=>0
 n:=3
def B_17L6:Code:=(Try.f82.body.bind (Yag 6)).getD .skip
def B_17L14:Code:=(Try.f82.body.bind (Yag 14)).getD .skip
def B_17L24:Code:=(Try.f82.body.bind (Yag 24)).getD .skip
def B_17L19:Code:=(Try.f82.body.bind (Yag 19)).getD .skip
def B_17L3:Code:=(Try.f82.body.bind (Yag 3)).getD .skip
def D_17:Code:=Try.f82.body.getD .skip
def N_17 (_:XK E_17.params) (r:YH E_17.results):E_17.B:=r
def E_18:Entry where
 params:= [.v y1]
 results:= [.v (.ptr y2)]
 B:=(Bool×Int×Int×(List (List Int))×Int×(List Int))
 run:=λa=>Am a
 out:=λb=>()
 res:=λb=>b
def C_18:Cx:=cx0 tt [(82,E_17)] [] 1
def D_18:Code:=Try.f38.body.getD .skip
def N_18 (_:XK E_18.params) (r:YH E_18.results):E_18.B:=r
def E_19:Entry where
 params:= [.v (.ptr y2)]
 results:= [.pr (.v .int) (.pr (.v .int) (.mv y0 1))]
 B:=(Int×(Int×(List (List Int))))
 run:=λa=>C4 a
 out:=λb=>()
 res:=λb=>b
def S_19L3 (n:Nat):LoopSpec where
 sh:= [(0,.v (.ptr y2)),(2,.bx (.pr (.v .int) (.pr (.v .int) (.mv y0 1)))),(3,.bx (.pr (.v .int) (.pr (.v .int) (.mv y0 1)))),(33,.v y4),(34,.v .int),(35,.v .int)]
 ex:= [(.exit 0,[(2,.bx (.pr (.v .int) (.pr (.v .int) (.mv y0 1)))),(3,.bx (.pr (.v .int) (.pr (.v .int) (.mv y0 1))))])]
 run:=Ba n
def C_19:Cx where
 tt:=YaU tt
 T:=Ygp [(80,E_14),(81,E_13)]
 L:=Ygo [(3,S_19L3 Aa)]
 dep:=λi=>match i with
  |51=>1
  |52=>1
  |_=>0
 n:=1
def B_19L3:Code:=(Try.f37.body.bind (Yag 3)).getD .skip
def D_19:Code:=Try.f37.body.getD .skip
def N_19 (_:XK E_19.params) (r:YH E_19.results):E_19.B:=r
def E_20:Entry where
 params:= [.v y1]
 results:= [.pr (.v .int) (.pr (.v .int) (.mv y0 1)),.v .bool]
 B:=(Int×(Int×(List (List Int))))×Bool
 run:=λa=>BX a
 out:=λb=>()
 res:=λb=>(b.1,b.2)
def C_20:Cx:=cx0 tt [(9,E_12),(37,E_19),(38,E_18)] [] 1
def D_20:Code:=Try.f7.body.getD .skip
def N_20 (_:XK E_20.params) (r:YH E_20.results):E_20.B:=(r.1,r.2)
def E_21:Entry where
 params:= [.v .int]
 results:= [.v .bool]
 B:=Bool
 run:=λa=>Dj a
 out:=λb=>()
 res:=λb=>b
def C_21:Cx:=cx0 tt [] [] 1
def D_21:Code:=Try.f83.body.getD .skip
def N_21 (_:XK E_21.params) (r:YH E_21.results):E_21.B:=r
def E_22:Entry where
 params:= [.v .int,.v .int,.v .int]
 results:= [.v .bool]
 B:=Bool
 run:=λa=>DJ a.1 a.2.1 a.2.2
 out:=λb=>((),(),())
 res:=λb=>b
def C_22:Cx:=cx0 tt [] [] 3
def D_22:Code:=Try.f63.body.getD .skip
def N_22 (_:XK E_22.params) (r:YH E_22.results):E_22.B:=r
def E_23:Entry where
 params:= [.v .int,.v y0]
 results:= [.v .bool]
 B:=Bool
 run:=λa=>C6 a.1 a.2
 out:=λb=>((),())
 res:=λb=>b
def S_23L2 (n:Nat):LoopSpec where
 sh:= [(0,.v .int),(1,.v y0),(5,.v .int)]
 ex:= [(.exit 0,[]),(.ret,[(4,.v .bool)])]
 run:=BK n
def C_23:Cx:=cx0 tt [(63,E_22)] [(2,S_23L2 Aa)] 2
def B_23L2:Code:=(Try.f64.body.bind (Yag 2)).getD .skip
def D_23:Code:=Try.f64.body.getD .skip
def N_23 (_:XK E_23.params) (r:YH E_23.results):E_23.B:=r
def E_24:Entry where
 params:= [.v .int,.v .int,.v y0]
 results:= [.v .bool]
 B:=Bool
 run:=λa=>Dt a.1 a.2.1 a.2.2
 out:=λb=>((),(),())
 res:=λb=>b
def C_24:Cx:=cx0 tt [(64,E_23)] [] 3
def D_24:Code:=Try.f109.body.getD .skip
def N_24 (_:XK E_24.params) (r:YH E_24.results):E_24.B:=r
def E_25:Entry where
 params:= [.v .int,.v .int,.v y4]
 results:= [.v .bool]
 B:=Bool
 run:=λa=>Ds a.1 a.2.1 a.2.2
 out:=λb=>((),(),())
 res:=λb=>b
def S_25L2 (n:Nat):LoopSpec where
 sh:= [(0,.v .int),(1,.v .int),(2,.v y4),(7,.v .int)]
 ex:= [(.exit 0,[]),(.ret,[(6,.v .bool)])]
 run:=Cb n
def C_25:Cx:=cx0 tt [(109,E_24)] [(2,S_25L2 Aa)] 3
def B_25L2:Code:=(Try.f84.body.bind (Yag 2)).getD .skip
def D_25:Code:=Try.f84.body.getD .skip
def N_25 (_:XK E_25.params) (r:YH E_25.results):E_25.B:=r
def E_26:Entry where
 params:= [.v y1]
 results:= [.v .bool]
 B:=Bool
 run:=λa=>Bj a
 out:=λb=>()
 res:=λb=>b
def C_26:Cx:=cx0 tt [(63,E_22),(83,E_21),(84,E_25)] [] 1
def D_26:Code:=Try.f39.body.getD .skip
def N_26 (_:XK E_26.params) (r:YH E_26.results):E_26.B:=r
def E_27:Entry where
 params:= [.v y0]
 results:= [.mv .int 0]
 B:=(List Int)
 run:=λa=>Dr a
 out:=λb=>()
 res:=λb=>b
def C_27:Cx:=cx0 tt [] [] 1
def D_27:Code:=Try.f57.body.getD .skip
def N_27 (_:XK E_27.params) (r:YH E_27.results):E_27.B:=r
def E_28:Entry where
 params:= [.v .int,.v .int]
 results:= [.v .int]
 B:=Int
 run:=λa=>C5 a.1 a.2
 out:=λb=>((),())
 res:=λb=>b
def S_28L2 (n:Nat):LoopSpec where
 sh:= [(0,.v .int),(1,.v .int),(5,.v .int)]
 ex:= [(.exit 0,[(5,.v .int)])]
 run:=Dc n
def C_28:Cx:=cx0 tt [] [(2,S_28L2 Aa)] 2
def B_28L2:Code:=(Try.f110.body.bind (Yag 2)).getD .skip
def D_28:Code:=Try.f110.body.getD .skip
def N_28 (_:XK E_28.params) (r:YH E_28.results):E_28.B:=r
def E_29:Entry where
 params:= [.v .int,.v y0,.v y0,.v .int]
 results:= [.mv .int 0]
 B:=(List Int)
 run:=λa=>BQ a.1 a.2.1 a.2.2.1 a.2.2.2
 out:=λb=>((),(),(),())
 res:=λb=>b
def S_29L3 (n:Nat):LoopSpec where
 sh:= [(0,.v .int),(1,.v y0),(2,.v y0),(3,.v .int),(9,.mv .int 0),(10,.v .int)]
 ex:= [(.exit 0,[(9,.mv .int 0)])]
 run:=AW n
def C_29:Cx:=cx0 tt [] [(3,S_29L3 Aa)] 4
def B_29L3:Code:=(Try.f59.body.bind (Yag 3)).getD .skip
def D_29:Code:=Try.f59.body.getD .skip
def N_29 (_:XK E_29.params) (r:YH E_29.results):E_29.B:=r
def E_30:Entry where
 params:= [.v .int,.v .int,.v y4]
 results:= [.pr (.mv y0 0) (.pr (.mv .int 0) (.v y4))]
 B:=((List (List Int))×((List Int)×(List (List Int))))
 run:=λa=>Ch a.1 a.2.1 a.2.2
 out:=λb=>((),(),())
 res:=λb=>b
def S_30L3 (n:Nat):LoopSpec where
 sh:= [(0,.v .int),(1,.v .int),(2,.v y4),(6,.bx (.pr (.mv y0 0) (.pr (.mv .int 0) (.mv y0 0)))),(7,.bx (.pr (.mv y0 0) (.pr (.mv .int 0) (.mv y0 0)))),(8,.v .int)]
 ex:= [(.exit 0,[(0,.v .int),(1,.v .int),(6,.bx (.pr (.mv y0 0) (.pr (.mv .int 0) (.mv y0 0)))),(7,.bx (.pr (.mv y0 0) (.pr (.mv .int 0) (.mv y0 0))))])]
 run:=Bd n
def S_30L10 (n:Nat):LoopSpec where
 sh:= [(0,.v .int),(1,.v .int),(6,.bx (.pr (.mv y0 0) (.pr (.mv .int 0) (.v y4)))),(7,.bx (.pr (.mv y0 0) (.pr (.mv .int 0) (.v y4)))),(9,.v .int),(10,.v .int)]
 ex:= [(.exit 4,[(0,.v .int),(1,.v .int),(6,.bx (.pr (.mv y0 0) (.pr (.mv .int 0) (.v y4)))),(7,.bx (.pr (.mv y0 0) (.pr (.mv .int 0) (.v y4)))),(9,.v .int),(10,.v .int)])]
 run:=AM n
def S_30L16 (n:Nat):LoopSpec where
 sh:= [(0,.v .int),(1,.v .int),(6,.bx (.pr (.mv y0 0) (.pr (.mv .int 0) (.v y4)))),(7,.bx (.pr (.mv y0 0) (.pr (.mv .int 0) (.v y4)))),(9,.v .int),(11,.mv .int 0),(12,.mv y0 0),(13,.v .int)]
 ex:= [(.exit 6,[(0,.v .int),(1,.v .int),(6,.bx (.pr (.mv y0 0) (.pr (.mv .int 0) (.v y4)))),(7,.bx (.pr (.mv y0 0) (.pr (.mv .int 0) (.v y4)))),(9,.v .int),(11,.mv .int 0),(12,.mv y0 0)])]
 run:=AN n
def S_30L20 (n:Nat):LoopSpec where
 sh:= [(0,.v .int),(1,.v .int),(6,.bx (.pr (.mv y0 0) (.pr (.mv .int 0) (.v y4)))),(7,.bx (.pr (.mv y0 0) (.pr (.mv .int 0) (.v y4)))),(9,.v .int),(11,.mv .int 0),(12,.mv y0 0),(14,.v .int)]
 ex:= [(.exit 8,[(0,.v .int),(1,.v .int),(6,.bx (.pr (.mv y0 0) (.pr (.mv .int 0) (.v y4)))),(7,.bx (.pr (.mv y0 0) (.pr (.mv .int 0) (.v y4)))),(9,.v .int),(11,.mv .int 0),(12,.mv y0 0)])]
 run:=AO n
def S_30L7 (n:Nat):LoopSpec where
 sh:= [(0,.v .int),(1,.v .int),(6,.bx (.pr (.mv y0 0) (.pr (.mv .int 0) (.v y4)))),(7,.bx (.pr (.mv y0 0) (.pr (.mv .int 0) (.v y4)))),(9,.v .int)]
 ex:= [(.exit 2,[(6,.bx (.pr (.mv y0 0) (.pr (.mv .int 0) (.v y4)))),(7,.bx (.pr (.mv y0 0) (.pr (.mv .int 0) (.v y4))))])]
 run:=AU n
def C_30:Cx:=cx0 tt [(57,E_27),(59,E_29),(107,E_6),(110,E_28)] [(3,S_30L3 Aa),(10,S_30L10 Aa),(16,S_30L16 Aa),(20,S_30L20 Aa),(7,S_30L7 Aa)] 3
def B_30L3:Code:=(Try.f85.body.bind (Yag 3)).getD .skip
def B_30L10:Code:=(Try.f85.body.bind (Yag 10)).getD .skip
def B_30L16:Code:=(Try.f85.body.bind (Yag 16)).getD .skip
def B_30L20:Code:=(Try.f85.body.bind (Yag 20)).getD .skip
def B_30L7:Code:=(Try.f85.body.bind (Yag 7)).getD .skip
def D_30:Code:=Try.f85.body.getD .skip
def N_30 (_:XK E_30.params) (r:YH E_30.results):E_30.B:=r
def E_31:Entry where
 params:= [.v y1]
 results:= [.pr (.mv y0 0) (.pr (.mv .int 0) (.v y4))]
 B:=((List (List Int))×((List Int)×(List (List Int))))
 run:=λa=>BS a
 out:=λb=>()
 res:=λb=>b
def C_31:Cx:=cx0 tt [(85,E_30)] [] 1
def D_31:Code:=Try.f40.body.getD .skip
def N_31 (_:XK E_31.params) (r:YH E_31.results):E_31.B:=r
def E_32:Entry where
 params:= [.v y1]
 results:= [.pr (.v .int) (.pr (.v .int) (.mv y0 0)),.v .bool]
 B:=(Int×(Int×(List (List Int))))×Bool
 run:=λa=>CJ a
 out:=λb=>()
 res:=λb=>(b.1,b.2)
def S_32L6 (n:Nat):LoopSpec where
 sh:= [(1,.bx (.v y1)),(2,.bx (.pr (.v .int) (.pr (.v .int) (.mv y0 0)))),(4,.bx (.pr (.jk 1) (.pr (.mv .int 0) (.v y4)))),(5,.bx (.pr (.v .int) (.pr (.v .int) (.mv y0 0)))),(6,.v .int)]
 ex:= [(.exit 0,[(2,.bx (.pr (.v .int) (.pr (.v .int) (.mv y0 0)))),(5,.bx (.pr (.v .int) (.pr (.v .int) (.mv y0 0))))])]
 run:=Bi n
def C_32:Cx:=cx0 tt [(39,E_26),(40,E_31)] [(6,S_32L6 Aa)] 1
def B_32L6:Code:=(Try.f8.body.bind (Yag 6)).getD .skip
def D_32:Code:=Try.f8.body.getD .skip
def N_32 (_:XK E_32.params) (r:YH E_32.results):E_32.B:=(r.1,r.2)
def E_33:Entry where
 params:= [.v y0,.v y0]
 results:= [.v .bool]
 B:=Bool
 run:=λa=>Cm a.1 a.2
 out:=λb=>((),())
 res:=λb=>b
def S_33L4 (n:Nat):LoopSpec where
 sh:= [(0,.v y0),(1,.v y0),(5,.v .int)]
 ex:= [(.exit 0,[]),(.ret,[(4,.v .bool)])]
 run:=Cw n
def C_33:Cx:=cx0 tt [] [(4,S_33L4 Aa)] 2
def B_33L4:Code:=(Try.f13.body.bind (Yag 4)).getD .skip
def D_33:Code:=Try.f13.body.getD .skip
def N_33 (_:XK E_33.params) (r:YH E_33.results):E_33.B:=r
def E_34:Entry where
 params:= [.v y4,.v y4]
 results:= [.v .bool]
 B:=Bool
 run:=λa=>BP a.1 a.2
 out:=λb=>((),())
 res:=λb=>b
def S_34L4 (n:Nat):LoopSpec where
 sh:= [(0,.v y4),(1,.v y4),(5,.v .int)]
 ex:= [(.exit 0,[]),(.ret,[(4,.v .bool)])]
 run:=Cn n
def C_34:Cx:=cx0 tt [(13,E_33)] [(4,S_34L4 Aa)] 2
def B_34L4:Code:=(Try.f18.body.bind (Yag 4)).getD .skip
def D_34:Code:=Try.f18.body.getD .skip
def N_34 (_:XK E_34.params) (r:YH E_34.results):E_34.B:=r
def E_35:Entry where
 params:= [.v y1,.v y1]
 results:= [.v .bool]
 B:=Bool
 run:=λa=>CH a.1 a.2
 out:=λb=>((),())
 res:=λb=>b
def C_35:Cx:=cx0 tt [(18,E_34)] [] 2
def D_35:Code:=Try.f10.body.getD .skip
def N_35 (_:XK E_35.params) (r:YH E_35.results):E_35.B:=r
def E_36:Entry where
 params:= [.bx (.pr (.v .int) (.pr (.v .int) (.pr (.mv y0 1) (.pr (.v .int) (.mv .int 0)))))]
 results:= [.mv .int 0]
 B:=(Int×(Int×((List (List Int))×(Int×(List Int)))))×(List Int)
 run:=λa=>AK a
 out:=λb=>b.1
 res:=λb=>b.2
def S_36L3 (n:Nat):LoopSpec where
 sh:= [(21474902026,.jk 1),(0,.bx (.pr (.v .int) (.pr (.v .int) (.pr (.mv y0 1) (.pr (.v .int) (.mv .int 0)))))),(3,.mv .int 0),(11,.v .int),(12,.v .int)]
 ex:= [(.exit 0,[(0,.bx (.pr (.v .int) (.pr (.v .int) (.pr (.mv y0 1) (.pr (.v .int) (.mv .int 0)))))),(3,.mv .int 0)])]
 run:=Aq n
def C_36:Cx:=cx0 tt [] [(3,S_36L3 Aa)] 1
def B_36L3:Code:=(Try.f45.body.bind (Yag 3)).getD .skip
def D_36:Code:=Try.f45.body.getD .skip
def N_36 (o:XK E_36.params) (r:YH E_36.results):E_36.B:=(o,r)
def E_37:Entry where
 params:= [.bx (.pr (.v .int) (.pr (.v .int) (.pr (.mv y0 1) (.pr (.v .int) (.mv .int 0))))),.v y0]
 results:= [.mv .int 0]
 B:=(Int×(Int×((List (List Int))×(Int×(List Int)))))×(List Int)
 run:=λa=>Bq a.1 a.2
 out:=λb=>(b.1,())
 res:=λb=>b.2
def S_37L4 (n:Nat):LoopSpec where
 sh:= [(458773,.jk 1),(0,.bx (.pr (.v .int) (.pr (.v .int) (.pr (.mv y0 1) (.pr (.v .int) (.mv .int 0)))))),(1,.v y0),(5,.mv .int 0),(6,.mv .int 0),(22,.v .int),(23,.v .int)]
 ex:= [(.exit 0,[(0,.bx (.pr (.v .int) (.pr (.v .int) (.pr (.mv y0 1) (.pr (.v .int) (.mv .int 0)))))),(1,.v y0),(5,.mv .int 0),(6,.mv .int 0)])]
 run:=AB n
def S_37L14 (n:Nat):LoopSpec where
 sh:= [(21474902055,.jk 1),(458813,.jk 1),(0,.bx (.pr (.v .int) (.pr (.v .int) (.pr (.mv y0 1) (.pr (.v .int) (.mv .int 0)))))),(1,.v y0),(5,.mv .int 0),(6,.mv .int 0),(9,.v .int),(10,.v .int),(11,.v .int),(40,.v .int),(41,.v .int),(62,.v .int),(63,.v .int)]
 ex:= [(.exit 4,[(21474902055,.jk 1),(0,.bx (.pr (.v .int) (.pr (.v .int) (.pr (.mv y0 1) (.pr (.v .int) (.mv .int 0)))))),(1,.v y0),(5,.mv .int 0),(6,.mv .int 0),(9,.v .int),(11,.v .int),(40,.v .int),(41,.v .int)])]
 run:=Ax n
def S_37L9 (n:Nat):LoopSpec where
 sh:= [(21474902055,.jk 1),(0,.bx (.pr (.v .int) (.pr (.v .int) (.pr (.mv y0 1) (.pr (.v .int) (.mv .int 0)))))),(1,.v y0),(5,.mv .int 0),(6,.mv .int 0),(40,.v .int),(41,.v .int)]
 ex:= [(.exit 2,[(0,.bx (.pr (.v .int) (.pr (.v .int) (.pr (.mv y0 1) (.pr (.v .int) (.mv .int 0)))))),(5,.mv .int 0)])]
 run:=Ar n
def C_37:Cx:=cx0 tt [(45,E_36)] [(4,S_37L4 Aa),(14,S_37L14 Aa),(9,S_37L9 Aa)] 2
def B_37L4:Code:=(Try.f53.body.bind (Yag 4)).getD .skip
def B_37L14:Code:=(Try.f53.body.bind (Yag 14)).getD .skip
def B_37L9:Code:=(Try.f53.body.bind (Yag 9)).getD .skip
def D_37:Code:=Try.f53.body.getD .skip
def N_37 (o:XK E_37.params) (r:YH E_37.results):E_37.B:=(o.1,r)
def E_38:Entry where
 params:= [.v (.ptr y2)]
 results:= [.v .bool]
 B:=Bool
 run:=λa=>Bw a
 out:=λb=>()
 res:=λb=>b
def S_38L2 (n:Nat):LoopSpec where
 sh:= [(0,.v (.ptr y2)),(13,.v y4),(14,.v .int),(15,.v .int)]
 ex:= [(.exit 0,[]),(.ret,[(2,.v .bool)])]
 run:=AS n
def C_38:Cx:=cx0 tt [] [(2,S_38L2 Aa)] 1
def B_38L2:Code:=(Try.f49.body.bind (Yag 2)).getD .skip
def D_38:Code:=Try.f49.body.getD .skip
def N_38 (_:XK E_38.params) (r:YH E_38.results):E_38.B:=r
def E_39:Entry where
 params:= [.v (.ptr y2)]
 results:= [.mv .int 0]
 B:=(List Int)
 run:=λa=>Aj a
 out:=λb=>()
 res:=λb=>b
def S_39L3 (n:Nat):LoopSpec where
 sh:= [(3,.mv .int 0),(10,.v y0),(11,.v .int),(12,.v .int)]
 ex:= [(.exit 0,[(3,.mv .int 0)])]
 run:=An n
def C_39:Cx:=cx0 tt [] [(3,S_39L3 Aa)] 1
def B_39L3:Code:=(Try.f45.body.bind (Yag 3)).getD .skip
def D_39:Code:=Try.f45.body.getD .skip
def N_39 (_:XK E_39.params) (r:YH E_39.results):E_39.B:=r
def E_40:Entry where
 params:= [.v (.ptr y2),.v y0]
 results:= [.mv .int 0]
 B:=(List Int)
 run:=λa=>AF a.1 a.2
 out:=λb=>((),())
 res:=λb=>b
def S_40L4 (n:Nat):LoopSpec where
 sh:= [(458773,.jk 1),(0,.v (.ptr y2)),(1,.v y0),(5,.mv .int 0),(6,.mv .int 0),(22,.v .int),(23,.v .int)]
 ex:= [(.exit 0,[(0,.v (.ptr y2)),(1,.v y0),(5,.mv .int 0),(6,.mv .int 0)])]
 run:=Ag n
def S_40L14 (n:Nat):LoopSpec where
 sh:= [(458813,.jk 1),(0,.v (.ptr y2)),(1,.v y0),(5,.mv .int 0),(6,.mv .int 0),(9,.v .int),(10,.v .int),(11,.v .int),(39,.v y0),(40,.v .int),(41,.v .int),(62,.v .int),(63,.v .int)]
 ex:= [(.exit 4,[(0,.v (.ptr y2)),(1,.v y0),(5,.mv .int 0),(6,.mv .int 0),(9,.v .int),(11,.v .int),(39,.v y0),(40,.v .int),(41,.v .int)])]
 run:=Af n
def S_40L9 (n:Nat):LoopSpec where
 sh:= [(0,.v (.ptr y2)),(1,.v y0),(5,.mv .int 0),(6,.mv .int 0),(39,.v y0),(40,.v .int),(41,.v .int)]
 ex:= [(.exit 2,[(5,.mv .int 0)])]
 run:=Ad n
def C_40:Cx:=cx0 tt [(45,E_39)] [(4,S_40L4 Aa),(14,S_40L14 Aa),(9,S_40L9 Aa)] 2
def B_40L4:Code:=(Try.f53.body.bind (Yag 4)).getD .skip
def B_40L14:Code:=(Try.f53.body.bind (Yag 14)).getD .skip
def B_40L9:Code:=(Try.f53.body.bind (Yag 9)).getD .skip
def D_40:Code:=Try.f53.body.getD .skip
def N_40 (_:XK E_40.params) (r:YH E_40.results):E_40.B:=r
def E_41:Entry where
 params:= [.v (.ptr y2)]
 results:= [.mv .int 0,.v .bool]
 B:=(List Int)×Bool
 run:=λa=>Bl a
 out:=λb=>()
 res:=λb=>(b.1,b.2)
def C_41:Cx:=cx0 tt [(49,E_38),(53,E_40)] [] 1
def D_41:Code:=Try.f43.body.getD .skip
def N_41 (_:XK E_41.params) (r:YH E_41.results):E_41.B:=(r.1,r.2)
def E_42:Entry where
 params:= [.v y1]
 results:= [.mv .int 0,.v .bool]
 B:=(List Int)×Bool
 run:=λa=>BG a
 out:=λb=>()
 res:=λb=>(b.1,b.2)
def C_42:Cx:=cx0 tt [(9,E_12),(38,E_18),(43,E_41)] [] 1
def D_42:Code:=Try.f11.body.getD .skip
def N_42 (_:XK E_42.params) (r:YH E_42.results):E_42.B:=(r.1,r.2)
def E_43:Entry where
 params:= [.v y5,.v .int]
 results:= [.v .bool]
 B:=Bool
 run:=λa=>Cc a.1 a.2
 out:=λb=>((),())
 res:=λb=>b
def S_43L2 (n:Nat):LoopSpec where
 sh:= [(1,.v .int),(2,.bx (.v y5)),(5,.v .int)]
 ex:= [(.exit 0,[]),(.ret,[(4,.v .bool)])]
 run:=B2 n
def C_43:Cx:=cx0 tt [] [(2,S_43L2 Aa)] 2
def B_43L2:Code:=(Try.f51.body.bind (Yag 2)).getD .skip
def D_43:Code:=Try.f51.body.getD .skip
def N_43 (_:XK E_43.params) (r:YH E_43.results):E_43.B:=r
def E_44:Entry where
 params:= [.v .int,.v .int,.v y4]
 results:= [.mv .int 0,.v .bool]
 B:=(List Int)×Bool
 run:=λa=>CX a.1 a.2.1 a.2.2
 out:=λb=>((),(),())
 res:=λb=>(b.1,b.2)
def S_44L6 (n:Nat):LoopSpec where
 sh:= [(1,.v .int),(8,.bx (.pr (.mv y0 0) (.pr (.mv .int 0) (.v y4)))),(9,.mv .int 0),(10,.v .int)]
 ex:= [(.exit 0,[(9,.mv .int 0)])]
 run:=BI n
def C_44:Cx:=cx0 tt [(51,E_43),(85,E_30)] [(6,S_44L6 Aa)] 3
def B_44L6:Code:=(Try.f44.body.bind (Yag 6)).getD .skip
def D_44:Code:=Try.f44.body.getD .skip
def N_44 (_:XK E_44.params) (r:YH E_44.results):E_44.B:=(r.1,r.2)
def E_45:Entry where
 params:= [.v y1]
 results:= [.mv .int 0,.v .bool]
 B:=(List Int)×Bool
 run:=λa=>Ct a
 out:=λb=>()
 res:=λb=>(b.1,b.2)
def C_45:Cx:=cx0 tt [(39,E_26),(44,E_44)] [] 1
def D_45:Code:=Try.f12.body.getD .skip
def N_45 (_:XK E_45.params) (r:YH E_45.results):E_45.B:=(r.1,r.2)
def E_46:Entry where
 params:= [.v y1]
 results:= [.mv .int 0,.v .bool]
 B:=(List Int)×Bool
 run:=λa=>CS a
 out:=λb=>()
 res:=λb=>(b.1,b.2)
def C_46:Cx:=cx0 tt [(9,E_12),(38,E_18),(45,E_39)] [] 1
def D_46:Code:=Try.f14.body.getD .skip
def N_46 (_:XK E_46.params) (r:YH E_46.results):E_46.B:=(r.1,r.2)
def E_47:Entry where
 params:= [.v y0,.v .int]
 results:= [.v .bool]
 B:=Bool
 run:=λa=>DY a.1 a.2
 out:=λb=>((),())
 res:=λb=>b
def S_47L2 (n:Nat):LoopSpec where
 sh:= [(0,.v y0),(1,.v .int),(5,.v .int)]
 ex:= [(.exit 0,[]),(.ret,[(4,.v .bool)])]
 run:=Cy n
def C_47:Cx:=cx0 tt [] [(2,S_47L2 Aa)] 2
def B_47L2:Code:=(Try.f86.body.bind (Yag 2)).getD .skip
def D_47:Code:=Try.f86.body.getD .skip
def N_47 (_:XK E_47.params) (r:YH E_47.results):E_47.B:=r
def E_48:Entry where
 params:= [.v y5,.v .int]
 results:= [.mv .int 0]
 B:=(List Int)
 run:=λa=>Cu a.1 a.2
 out:=λb=>((),())
 res:=λb=>b
def S_48L3 (n:Nat):LoopSpec where
 sh:= [(1,.v .int),(2,.bx (.v y5)),(5,.mv .int 0),(6,.v .int)]
 ex:= [(.exit 0,[(5,.mv .int 0)])]
 run:=BC n
def C_48:Cx:=cx0 tt [(86,E_47)] [(3,S_48L3 Aa)] 2
def B_48L3:Code:=(Try.f46.body.bind (Yag 3)).getD .skip
def D_48:Code:=Try.f46.body.getD .skip
def N_48 (_:XK E_48.params) (r:YH E_48.results):E_48.B:=r
def E_49:Entry where
 params:= [.v y1]
 results:= [.mv .int 0,.v .bool]
 B:=(List Int)×Bool
 run:=λa=>CU a
 out:=λb=>()
 res:=λb=>(b.1,b.2)
def C_49:Cx:=cx0 tt [(39,E_26),(40,E_31),(46,E_48)] [] 1
def D_49:Code:=Try.f15.body.getD .skip
def N_49 (_:XK E_49.params) (r:YH E_49.results):E_49.B:=(r.1,r.2)
def E_50:Entry where
 params:= [.bx (.pr (.v .int) (.pr (.v .int) (.pr (.mv y0 1) (.pr (.v .int) (.mv .int 0)))))]
 results:= [.mv y0 1]
 B:=(Int×(Int×((List (List Int))×(Int×(List Int)))))×(List (List Int))
 run:=λa=>BF a
 out:=λb=>b.1
 res:=λb=>b.2
def S_50L2 (n:Nat):LoopSpec where
 sh:= [(12884967436,.jk 1),(0,.bx (.pr (.v .int) (.pr (.v .int) (.pr (.mv y0 1) (.pr (.v .int) (.mv .int 0)))))),(13,.v .int),(14,.v .int)]
 ex:= [(.exit 0,[(0,.bx (.pr (.v .int) (.pr (.v .int) (.pr (.mv y0 1) (.pr (.v .int) (.mv .int 0))))))])]
 run:=Aw n
def S_50L9 (n:Nat):LoopSpec where
 sh:= [(0,.bx (.pr (.v .int) (.pr (.v .int) (.pr (.mv y0 1) (.pr (.v .int) (.mv .int 0)))))),(5,.mv y0 1),(6,.mv .int 0),(29,.v .int),(30,.v .int)]
 ex:= [(.exit 2,[(0,.bx (.pr (.v .int) (.pr (.v .int) (.pr (.mv y0 1) (.pr (.v .int) (.mv .int 0)))))),(5,.mv y0 1)])]
 run:=AH n
def C_50:Cx where
 tt:=YaU tt
 T:=Ygp [(45,E_36),(53,E_37)]
 L:=Ygo [(2,S_50L2 Aa),(9,S_50L9 Aa)]
 dep:=λi=>match i with
  |25=>1
  |43=>1
  |44=>1
  |_=>0
 n:=1
def B_50L2:Code:=(Try.f47.body.bind (Yag 2)).getD .skip
def B_50L9:Code:=(Try.f47.body.bind (Yag 9)).getD .skip
def D_50:Code:=Try.f47.body.getD .skip
def N_50 (o:XK E_50.params) (r:YH E_50.results):E_50.B:=(o,r)
def E_51:Entry where
 params:= [.v .int,.v .int,.v y4]
 results:= [.bx (.pr (.v .int) (.pr (.v .int) (.pr (.mv y0 1) (.pr (.v .int) (.mv .int 0)))))]
 B:=(Int×(Int×((List (List Int))×(Int×(List Int)))))
 run:=λa=>Cr a.1 a.2.1 a.2.2
 out:=λb=>((),(),())
 res:=λb=>b
def S_51L6 (n:Nat):LoopSpec where
 sh:= [(0,.v .int),(1,.v .int),(7,.bx (.pr (.v .int) (.pr (.v .int) (.pr (.mv y0 1) (.pr (.v .int) (.mv .int 0)))))),(8,.v .int),(9,.v .int)]
 ex:= [(.exit 2,[(0,.v .int),(1,.v .int),(7,.bx (.pr (.v .int) (.pr (.v .int) (.pr (.mv y0 1) (.pr (.v .int) (.mv .int 0)))))),(8,.v .int),(9,.v .int)])]
 run:=BU n
def S_51L14 (n:Nat):LoopSpec where
 sh:= [(12885426186,.v .int),(0,.v .int),(1,.v .int),(7,.bx (.pr (.v .int) (.pr (.v .int) (.pr (.mv y0 1) (.pr (.v .int) (.mv .int 0)))))),(8,.v .int),(11,.v .int),(110,.v .int),(111,.v .int)]
 ex:= [(.exit 4,[(12885426186,.v .int),(0,.v .int),(1,.v .int),(7,.bx (.pr (.v .int) (.pr (.v .int) (.pr (.mv y0 1) (.pr (.v .int) (.mv .int 0)))))),(8,.v .int)])]
 run:=BN n
def S_51L24 (n:Nat):LoopSpec where
 sh:= [(12885426186,.v .int),(12885426190,.v .int),(12885426305,.jk 1),(0,.v .int),(1,.v .int),(7,.bx (.pr (.v .int) (.pr (.v .int) (.pr (.mv y0 1) (.pr (.v .int) (.mv .int 0)))))),(8,.v .int),(15,.v .int),(130,.v .int),(131,.v .int),(151,.v .int),(152,.v .int)]
 ex:= [(.exit 8,[(12885426186,.v .int),(12885426305,.jk 1),(0,.v .int),(1,.v .int),(7,.bx (.pr (.v .int) (.pr (.v .int) (.pr (.mv y0 1) (.pr (.v .int) (.mv .int 0)))))),(8,.v .int),(130,.v .int),(131,.v .int)])]
 run:=BO n
def S_51L19 (n:Nat):LoopSpec where
 sh:= [(12885426186,.v .int),(12885426305,.jk 1),(0,.v .int),(1,.v .int),(7,.bx (.pr (.v .int) (.pr (.v .int) (.pr (.mv y0 1) (.pr (.v .int) (.mv .int 0)))))),(8,.v .int),(130,.v .int),(131,.v .int)]
 ex:= [(.exit 6,[(0,.v .int),(1,.v .int),(7,.bx (.pr (.v .int) (.pr (.v .int) (.pr (.mv y0 1) (.pr (.v .int) (.mv .int 0)))))),(8,.v .int)])]
 run:=Bb n
def S_51L3 (n:Nat):LoopSpec where
 sh:= [(0,.v .int),(1,.v .int),(7,.bx (.pr (.v .int) (.pr (.v .int) (.pr (.mv y0 1) (.pr (.v .int) (.mv .int 0)))))),(8,.v .int)]
 ex:= [(.exit 0,[(7,.bx (.pr (.v .int) (.pr (.v .int) (.pr (.mv y0 1) (.pr (.v .int) (.mv .int 0))))))])]
 run:=BD n
def C_51:Cx where
 tt:=YaU tt
 T:=Ygp [(80,E_14),(99,E_15),(108,E_16)]
 L:=Ygo [(6,S_51L6 Aa),(14,S_51L14 Aa),(24,S_51L24 Aa),(19,S_51L19 Aa),(3,S_51L3 Aa)]
 dep:=λi=>match i with
  |69=>99
  |_=>0
 n:=3
def B_51L6:Code:=(Try.f82.body.bind (Yag 6)).getD .skip
def B_51L14:Code:=(Try.f82.body.bind (Yag 14)).getD .skip
def B_51L24:Code:=(Try.f82.body.bind (Yag 24)).getD .skip
def B_51L19:Code:=(Try.f82.body.bind (Yag 19)).getD .skip
def B_51L3:Code:=(Try.f82.body.bind (Yag 3)).getD .skip
def D_51:Code:=Try.f82.body.getD .skip
def N_51 (_:XK E_51.params) (r:YH E_51.results):E_51.B:=r
def E_52:Entry where
 params:= [.v y1]
 results:= [.bx (.pr (.v .int) (.pr (.v .int) (.pr (.mv y0 1) (.pr (.v .int) (.mv .int 0)))))]
 B:=(Int×(Int×((List (List Int))×(Int×(List Int)))))
 run:=λa=>CG a
 out:=λb=>()
 res:=λb=>b
def C_52:Cx:=cx0 tt [(82,E_51)] [] 1
def D_52:Code:=Try.f38.body.getD .skip
def N_52 (_:XK E_52.params) (r:YH E_52.results):E_52.B:=r
def E_53:Entry where
 params:= [.v y1]
 results:= [.mv y0 1,.v .bool]
 B:=(List (List Int))×Bool
 run:=λa=>Cd a
 out:=λb=>()
 res:=λb=>(b.1,b.2)
def C_53:Cx where
 tt:=YaU tt
 T:=Ygp [(9,E_12),(38,E_52),(47,E_50)]
 L:=Ygo []
 dep:=λi=>match i with
  |7=>1
  |_=>0
 n:=1
def D_53:Code:=Try.f16.body.getD .skip
def N_53 (_:XK E_53.params) (r:YH E_53.results):E_53.B:=(r.1,r.2)
def E_54:Entry where
 params:= [.v y5,.v .int,.v .int]
 results:= [.mv y0 0]
 B:=(List (List Int))
 run:=λa=>B3 a.1 a.2.1 a.2.2
 out:=λb=>((),(),())
 res:=λb=>b
def S_54L8 (n:Nat):LoopSpec where
 sh:= [(1,.v .int),(2,.v .int),(3,.bx (.v y5)),(7,.mv y0 0),(8,.mv .int 0),(9,.v .int),(10,.mv .int 0),(11,.v .int)]
 ex:= [(.exit 2,[(1,.v .int),(2,.v .int),(3,.bx (.v y5)),(7,.mv y0 0),(8,.mv .int 0),(9,.v .int),(10,.mv .int 0)])]
 run:=BB n
def S_54L3 (n:Nat):LoopSpec where
 sh:= [(1,.v .int),(2,.v .int),(3,.bx (.v y5)),(7,.mv y0 0),(8,.mv .int 0),(9,.v .int)]
 ex:= [(.exit 0,[(7,.mv y0 0)])]
 run:=BA n
def C_54:Cx:=cx0 tt [(46,E_48)] [(8,S_54L8 Aa),(3,S_54L3 Aa)] 3
def B_54L8:Code:=(Try.f48.body.bind (Yag 8)).getD .skip
def B_54L3:Code:=(Try.f48.body.bind (Yag 3)).getD .skip
def D_54:Code:=Try.f48.body.getD .skip
def N_54 (_:XK E_54.params) (r:YH E_54.results):E_54.B:=r
def E_55:Entry where
 params:= [.v y1]
 results:= [.mv y0 0,.v .bool]
 B:=(List (List Int))×Bool
 run:=λa=>Cg a
 out:=λb=>()
 res:=λb=>(b.1,b.2)
def C_55:Cx:=cx0 tt [(39,E_26),(40,E_31),(48,E_54)] [] 1
def D_55:Code:=Try.f17.body.getD .skip
def N_55 (_:XK E_55.params) (r:YH E_55.results):E_55.B:=(r.1,r.2)
def E_56:Entry where
 params:= [.v .int,.v .int]
 results:= [.v .int]
 B:=Int
 run:=λa=>DU a.1 a.2
 out:=λb=>((),())
 res:=λb=>b
def S_56L2 (n:Nat):LoopSpec where
 sh:= [(0,.v .int),(1,.v .int),(5,.v .int)]
 ex:= [(.exit 0,[(5,.v .int)])]
 run:=CT n
def C_56:Cx:=cx0 tt [] [(2,S_56L2 Aa)] 2
def B_56L2:Code:=(Try.f50.body.bind (Yag 2)).getD .skip
def D_56:Code:=Try.f50.body.getD .skip
def N_56 (_:XK E_56.params) (r:YH E_56.results):E_56.B:=r
def E_57:Entry where
 params:= [.v y1]
 results:= [.v .int,.v .bool]
 B:=Int×Bool
 run:=λa=>AX a
 out:=λb=>()
 res:=λb=>(b.1,b.2)
def C_57:Cx:=cx0 tt [(9,E_12),(38,E_18),(45,E_39),(49,E_38),(50,E_56)] [] 1
def D_57:Code:=Try.f19.body.getD .skip
def N_57 (_:XK E_57.params) (r:YH E_57.results):E_57.B:=(r.1,r.2)
def E_58:Entry where
 params:= [.v .int,.v .int]
 results:= [.v .int]
 B:=Int
 run:=λa=>D0 a.1 a.2
 out:=λb=>((),())
 res:=λb=>b
def S_58L2 (n:Nat):LoopSpec where
 sh:= [(0,.v .int),(1,.v .int),(5,.v .int)]
 ex:= [(.exit 0,[(5,.v .int)])]
 run:=CY n
def C_58:Cx:=cx0 tt [] [(2,S_58L2 Aa)] 2
def B_58L2:Code:=(Try.f52.body.bind (Yag 2)).getD .skip
def D_58:Code:=Try.f52.body.getD .skip
def N_58 (_:XK E_58.params) (r:YH E_58.results):E_58.B:=r
def E_59:Entry where
 params:= [.v y1]
 results:= [.v .int,.v .bool]
 B:=Int×Bool
 run:=λa=>Bn a
 out:=λb=>()
 res:=λb=>(b.1,b.2)
def C_59:Cx:=cx0 tt [(39,E_26),(40,E_31),(51,E_43),(52,E_58)] [] 1
def D_59:Code:=Try.f20.body.getD .skip
def N_59 (_:XK E_59.params) (r:YH E_59.results):E_59.B:=(r.1,r.2)
def E_60:Entry where
 params:= [.v .int,.v .int,.v .int]
 results:= [.mv .int 0]
 B:=(List Int)
 run:=λa=>Dz a.1 a.2.1 a.2.2
 out:=λb=>((),(),())
 res:=λb=>b
def S_60L3 (n:Nat):LoopSpec where
 sh:= [(0,.v .int),(2,.v .int),(7,.mv .int 0),(8,.v .int)]
 ex:= [(.exit 0,[(7,.mv .int 0)])]
 run:=Ci n
def C_60:Cx:=cx0 tt [] [(3,S_60L3 Aa)] 3
def B_60L3:Code:=(Try.f54.body.bind (Yag 3)).getD .skip
def D_60:Code:=Try.f54.body.getD .skip
def N_60 (_:XK E_60.params) (r:YH E_60.results):E_60.B:=r
def E_61:Entry where
 params:= [.io y0 1,.v (.fn 56)]
 results:= []
 B:=List (List Int)
 run:=λa=>AC a.1 a.2
 out:=λb=>(b,())
 res:=λb=>()
def D_61:Code:=Try.f55.body.getD .skip
def E_62:Entry where
 params:= [.v y1]
 results:= [.mv y0 1,.v .bool]
 B:=(List (List Int))×Bool
 run:=λa=>AP a
 out:=λb=>()
 res:=λb=>(b.1,b.2)
def S_62L8 (n:Nat):LoopSpec where
 sh:= [(1,.bx (.v y1)),(4,.v .int),(6,.v (.ptr y2)),(7,.v .int),(8,.mv y0 1),(9,.v .int)]
 ex:= [(.exit 0,[(8,.mv y0 1)])]
 run:=AE n
def C_62:Cx where
 tt:=YaU tt
 T:=Ygp [(19,E_57),(38,E_18),(45,E_39),(53,E_40),(54,E_60),(3735607,E_61)]
 L:=Ygo [(8,S_62L8 Aa)]
 dep:=λi=>match i with
  |21=>1
  |27=>1
  |41=>1
  |42=>1
  |_=>0
 n:=1
def B_62L8:Code:=(Try.f21.body.bind (Yag 8)).getD .skip
def D_62:Code:=Try.f21.body.getD .skip
def N_62 (_:XK E_62.params) (r:YH E_62.results):E_62.B:=(r.1,r.2)
def E_63:Entry where
 params:= [.v .int,.v .int,.v .int]
 results:= [.mv .int 0]
 B:=(List Int)
 run:=λa=>DE a.1 a.2.1 a.2.2
 out:=λb=>((),(),())
 res:=λb=>b
def S_63L3 (n:Nat):LoopSpec where
 sh:= [(0,.v .int),(2,.v .int),(7,.mv .int 0),(8,.v .int)]
 ex:= [(.exit 0,[(7,.mv .int 0)])]
 run:=Cp n
def C_63:Cx:=cx0 tt [] [(3,S_63L3 Aa)] 3
def B_63L3:Code:=(Try.f58.body.bind (Yag 3)).getD .skip
def D_63:Code:=Try.f58.body.getD .skip
def N_63 (_:XK E_63.params) (r:YH E_63.results):E_63.B:=r
def E_64:Entry where
 params:= [.v y0,.v y0]
 results:= [.v .bool]
 B:=Bool
 run:=λa=>Em a.1 a.2
 out:=λb=>((),())
 res:=λb=>b
def S_64L2 (n:Nat):LoopSpec where
 sh:= [(0,.v y0),(1,.v y0),(5,.v .int)]
 ex:= [(.exit 0,[]),(.ret,[(4,.v .bool)])]
 run:=Cq n
def C_64:Cx:=cx0 tt [] [(2,S_64L2 Aa)] 2
def B_64L2:Code:=(Try.f115.body.bind (Yag 2)).getD .skip
def D_64:Code:=Try.f115.body.getD .skip
def N_64 (_:XK E_64.params) (r:YH E_64.results):E_64.B:=r
def E_65:Entry where
 params:= [.v y0,.v y0]
 results:= [.v .bool]
 B:=Bool
 run:=λa=>DD a.1 a.2
 out:=λb=>((),())
 res:=λb=>b
def S_65L4 (n:Nat):LoopSpec where
 sh:= [(0,.v y0),(1,.v y0),(5,.v .int)]
 ex:= [(.exit 0,[]),(.ret,[(4,.v .bool)])]
 run:=Co n
def C_65:Cx:=cx0 tt [] [(4,S_65L4 Aa)] 2
def B_65L4:Code:=(Try.f116.body.bind (Yag 4)).getD .skip
def D_65:Code:=Try.f116.body.getD .skip
def N_65 (_:XK E_65.params) (r:YH E_65.results):E_65.B:=r
def E_66:Entry where
 params:= [.v y4,.v y0]
 results:= [.v .int,.v .bool]
 B:=Int×Bool
 run:=λa=>DG a.1 a.2
 out:=λb=>((),())
 res:=λb=>(b.1,b.2)
def S_66L2 (n:Nat):LoopSpec where
 sh:= [(0,.v y4),(1,.v y0),(6,.v .int),(7,.v .int)]
 ex:= [(.exit 0,[(0,.v y4),(1,.v y0),(6,.v .int)])]
 run:=B4 n
def C_66:Cx:=cx0 tt [(115,E_64),(116,E_65)] [(2,S_66L2 Aa)] 2
def B_66L2:Code:=(Try.f89.body.bind (Yag 2)).getD .skip
def D_66:Code:=Try.f89.body.getD .skip
def N_66 (_:XK E_66.params) (r:YH E_66.results):E_66.B:=(r.1,r.2)
def E_67:Entry where
 params:= [.v y4,.v y0]
 results:= [.v y4]
 B:=(List (List Int))
 run:=λa=>Dd a.1 a.2
 out:=λb=>((),())
 res:=λb=>b
def C_67:Cx:=cx0 tt [(89,E_66)] [] 2
def D_67:Code:=Try.f60.body.getD .skip
def N_67 (_:XK E_67.params) (r:YH E_67.results):E_67.B:=r
def E_68:Entry where
 params:= [.v y1]
 results:= [.v y4,.v .bool]
 B:=(List (List Int))×Bool
 run:=λa=>AT a
 out:=λb=>()
 res:=λb=>(b.1,b.2)
def S_68L12 (n:Nat):LoopSpec where
 sh:= [(1,.bx (.v y1)),(4,.v y4),(5,.v .int),(7,.mv .int 0),(8,.v .bool),(9,.mv y0 0),(10,.v .int),(11,.mv .int 0),(12,.mv .int 0),(13,.v .int)]
 ex:= [(.exit 2,[(1,.bx (.v y1)),(4,.v y4),(5,.v .int),(7,.mv .int 0),(8,.v .bool),(9,.mv y0 0),(10,.v .int),(11,.mv .int 0)])]
 run:=AA n
def S_68L8 (n:Nat):LoopSpec where
 sh:= [(1,.bx (.v y1)),(4,.v y4),(5,.v .int),(7,.mv .int 0),(8,.v .bool),(9,.mv y0 0),(10,.v .int)]
 ex:= [(.exit 0,[(4,.v y4)])]
 run:=Ao n
def C_68:Cx:=cx0 tt [(20,E_59),(40,E_31),(44,E_44),(48,E_54),(57,E_27),(58,E_63),(59,E_29),(60,E_67)] [(12,S_68L12 Aa),(8,S_68L8 Aa)] 1
def B_68L12:Code:=(Try.f22.body.bind (Yag 12)).getD .skip
def B_68L8:Code:=(Try.f22.body.bind (Yag 8)).getD .skip
def D_68:Code:=Try.f22.body.getD .skip
def N_68 (_:XK E_68.params) (r:YH E_68.results):E_68.B:=(r.1,r.2)
def E_69:Entry where
 params:= [.v y4,.v y0]
 results:= [.v .bool]
 B:=Bool
 run:=λa=>Da a.1 a.2
 out:=λb=>((),())
 res:=λb=>b
def S_69L2 (n:Nat):LoopSpec where
 sh:= [(0,.v y4),(1,.v y0),(5,.v .int)]
 ex:= [(.exit 0,[]),(.ret,[(4,.v .bool)])]
 run:=C3 n
def C_69:Cx:=cx0 tt [(13,E_33)] [(2,S_69L2 Aa)] 2
def B_69L2:Code:=(Try.f23.body.bind (Yag 2)).getD .skip
def D_69:Code:=Try.f23.body.getD .skip
def N_69 (_:XK E_69.params) (r:YH E_69.results):E_69.B:=r
def E_70:Entry where
 params:= [.v y6]
 results:= [.v .bool]
 B:=Bool
 run:=λa=>DN a
 out:=λb=>()
 res:=λb=>b
def S_70L32 (n:Nat):LoopSpec where
 sh:= [(3,.bx (.v y1)),(8,.mv .int 0),(9,.v .bool),(12,.mv .int 0),(16,.mv y0 1),(20,.v .int),(28,.v .int),(29,.v .int)]
 ex:= [(.exit 0,[(3,.bx (.v y1)),(8,.mv .int 0),(9,.v .bool),(16,.mv y0 1),(20,.v .int),(28,.v .int)])]
 run:=Bf n
def S_70L42 (n:Nat):LoopSpec where
 sh:= [(3,.bx (.v y1)),(8,.mv .int 0),(9,.v .bool),(16,.mv y0 1),(20,.v .int),(30,.v .int),(31,.v .int),(32,.v .int)]
 ex:= [(.exit 4,[(3,.bx (.v y1)),(8,.mv .int 0),(9,.v .bool),(16,.mv y0 1),(20,.v .int),(30,.v .int),(31,.v .int)])]
 run:=Bg n
def S_70L52 (n:Nat):LoopSpec where
 sh:= [(3,.bx (.v y1)),(8,.mv .int 0),(9,.v .bool),(16,.mv y0 1),(20,.v .int),(30,.v .int),(31,.v .int),(33,.v .int),(34,.v .int)]
 ex:= [(.exit 8,[(3,.bx (.v y1)),(8,.mv .int 0),(9,.v .bool),(16,.mv y0 1),(20,.v .int),(30,.v .int),(31,.v .int),(33,.v .int)])]
 run:=Bh n
def S_70L48 (n:Nat):LoopSpec where
 sh:= [(3,.bx (.v y1)),(8,.mv .int 0),(9,.v .bool),(16,.mv y0 1),(20,.v .int),(30,.v .int),(33,.v .int)]
 ex:= [(.exit 6,[(3,.bx (.v y1)),(8,.mv .int 0),(9,.v .bool),(16,.mv y0 1),(20,.v .int),(30,.v .int)]),(.ret,[(2,.v .bool)])]
 run:=AZ n
def S_70L38 (n:Nat):LoopSpec where
 sh:= [(3,.bx (.v y1)),(8,.mv .int 0),(9,.v .bool),(16,.mv y0 1),(20,.v .int),(30,.v .int)]
 ex:= [(.exit 2,[(3,.bx (.v y1)),(8,.mv .int 0),(9,.v .bool),(20,.v .int)]),(.ret,[(2,.v .bool)])]
 run:=Ay n
def C_70:Cx:=cx0 tt [(5,E_1),(6,E_9),(7,E_20),(8,E_32),(9,E_12),(10,E_35),(11,E_42),(12,E_45),(13,E_33),(14,E_46),(15,E_49),(16,E_53),(17,E_55),(18,E_34),(19,E_57),(20,E_59),(21,E_62),(22,E_68),(23,E_69)] [(32,S_70L32 Aa),(42,S_70L42 Aa),(52,S_70L52 Aa),(48,S_70L48 Aa),(38,S_70L38 Aa)] 1
def B_70L32:Code:=(Try.f3.body.bind (Yag 32)).getD .skip
def B_70L42:Code:=(Try.f3.body.bind (Yag 42)).getD .skip
def B_70L52:Code:=(Try.f3.body.bind (Yag 52)).getD .skip
def B_70L48:Code:=(Try.f3.body.bind (Yag 48)).getD .skip
def B_70L38:Code:=(Try.f3.body.bind (Yag 38)).getD .skip
def D_70:Code:=Try.f3.body.getD .skip
def N_70 (_:XK E_70.params) (r:YH E_70.results):E_70.B:=r
end
end T
