/- Each typed function is what the program computes; no conditions. -/
import Derived.Test.YtdjeihpjpaaoeabGreatSFnSolutionsKept
import Derived.Test.YtdjeihpjpaaoeabGreatCFnSolutionsKept
set_option linter.all false
set_option maxRecDepth 10000
open Go Go.Va Go.Proofs
namespace T
theorem F_1 (a:YG [.v (.slice (.num .u8))]):E_1.run a=Yhu C_1 Tryz.f7 [.v (.slice (.num .u8))] [.v .bool] a (fun o r=>some (N_1 o r)):=by
 kernel_rfl
theorem W_1:X0 D_1= []:=by kernel_rfl
theorem Q_1 : Tryz.prog.funcs[7]? = some Tryz.f7 ∧ (Tryz.f7.name == "runtime.NumGoroutine") = false ∧ Tryz.f7.body = some D_1 := ⟨Tryz.func7, by kernel_rfl, by kernel_rfl⟩
theorem H_1:Holds Tryz.prog 7 E_1:=
 Yhw (cx:=C_1) (YhE tabT rfl).1 (Ygf trivial) mixT Q_1.1 Q_1.2.2 (Yhz W_1 trivial) (enc:=N_1) (fun _ _=>⟨rfl,rfl⟩) F_1
theorem F_2 (a:YG [.bx (.v (.pair (.slice (.num .u8)) (.pair .int (.num .u64))))]):E_2.run a=Yhu C_2 Tryz.f153 [.bx (.v (.pair (.slice (.num .u8)) (.pair .int (.num .u64))))] [.v .int] a (fun o r=>some (N_2 o r)):=by
 kernel_rfl
theorem W_2:X0 D_2= []:=by kernel_rfl
theorem Q_2 : Tryz.prog.funcs[153]? = some Tryz.f153 ∧ (Tryz.f153.name == "runtime.NumGoroutine") = false ∧ Tryz.f153.body = some D_2 := ⟨Tryz.func153, by kernel_rfl, by kernel_rfl⟩
theorem H_2:Holds Tryz.prog 153 E_2:=
 Yhw (cx:=C_2) (YhE tabT rfl).1 (Ygf trivial) mixT Q_2.1 Q_2.2.2 (Yhz W_2 trivial) (enc:=N_2) (fun _ _=>⟨rfl,rfl⟩) F_2
theorem F_3 (a:YG [.bx (.v (.pair (.slice (.num .u8)) (.pair .int (.num .u64)))),.v .int]):E_3.run a=Yhu C_3 Tryz.f61 [.bx (.v (.pair (.slice (.num .u8)) (.pair .int (.num .u64)))),.v .int] [.v .int] a (fun o r=>some (N_3 o r)):=by
 kernel_rfl
theorem W_3:X0 D_3= []:=by kernel_rfl
theorem Q_3 : Tryz.prog.funcs[61]? = some Tryz.f61 ∧ (Tryz.f61.name == "runtime.NumGoroutine") = false ∧ Tryz.f61.body = some D_3 := ⟨Tryz.func61, by kernel_rfl, by kernel_rfl⟩
theorem H_3:Holds Tryz.prog 61 E_3:=
 Yhw (cx:=C_3) (YhE tabT rfl).1 (Ygf ⟨⟨H_2,_,_,Q_2⟩,trivial⟩) mixT Q_3.1 Q_3.2.2 (Yhz W_3 trivial) (enc:=N_3) (fun _ _=>⟨rfl,rfl⟩) F_3
theorem F_4 (a:YG [.bx (.v (.pair (.slice (.num .u8)) (.pair .int (.num .u64)))),.v .int]):E_4.run a=Yhu C_4 Tryz.f60 [.bx (.v (.pair (.slice (.num .u8)) (.pair .int (.num .u64)))),.v .int] [.v .bool] a (fun o r=>some (N_4 o r)):=by
 kernel_rfl
theorem W_4:X0 D_4= []:=by kernel_rfl
theorem Q_4 : Tryz.prog.funcs[60]? = some Tryz.f60 ∧ (Tryz.f60.name == "runtime.NumGoroutine") = false ∧ Tryz.f60.body = some D_4 := ⟨Tryz.func60, by kernel_rfl, by kernel_rfl⟩
theorem H_4:Holds Tryz.prog 60 E_4:=
 Yhw (cx:=C_4) (YhE tabT rfl).1 (Ygf ⟨⟨H_3,_,_,Q_3⟩,trivial⟩) mixT Q_4.1 Q_4.2.2 (Yhz W_4 trivial) (enc:=N_4) (fun _ _=>⟨rfl,rfl⟩) F_4
theorem F_5 (a:YG [.v .int]):E_5.run a=Yhu C_5 Tryz.f210 [.v .int] [.v .int,.mv (.pair .int (.slice (.slice .int))) 0] a (fun o r=>some (N_5 o r)):=by
 kernel_rfl
theorem W_5:X0 D_5= []:=by kernel_rfl
theorem Q_5 : Tryz.prog.funcs[210]? = some Tryz.f210 ∧ (Tryz.f210.name == "runtime.NumGoroutine") = false ∧ Tryz.f210.body = some D_5 := ⟨Tryz.func210, by kernel_rfl, by kernel_rfl⟩
theorem H_5:Holds Tryz.prog 210 E_5:=
 Yhw (cx:=C_5) (YhE tabT rfl).1 (Ygf trivial) mixT Q_5.1 Q_5.2.2 (Yhz W_5 trivial) (enc:=N_5) (fun _ _=>⟨rfl,rfl⟩) F_5
theorem F_6 (a:YG [.v (.slice .int)]):E_6.run a=Yhu C_6 Tryz.f127 [.v (.slice .int)] [.mv .int 0] a (fun o r=>some (N_6 o r)):=by
 kernel_rfl
theorem W_6:X0 D_6= []:=by kernel_rfl
theorem Q_6 : Tryz.prog.funcs[127]? = some Tryz.f127 ∧ (Tryz.f127.name == "runtime.NumGoroutine") = false ∧ Tryz.f127.body = some D_6 := ⟨Tryz.func127, by kernel_rfl, by kernel_rfl⟩
theorem H_6:Holds Tryz.prog 127 E_6:=
 Yhw (cx:=C_6) (YhE tabT rfl).1 (Ygf trivial) mixT Q_6.1 Q_6.2.2 (Yhz W_6 trivial) (enc:=N_6) (fun _ _=>⟨rfl,rfl⟩) F_6
theorem F_7 (a:YG [.bx (.v (.pair (.slice (.num .u8)) (.pair .int (.num .u64)))),.v (.slice .int)]):E_7.run a=Yhu C_7 Tryz.f62 [.bx (.v (.pair (.slice (.num .u8)) (.pair .int (.num .u64)))),.v (.slice .int)] [.v .int] a (fun o r=>some (N_7 o r)):=by
 kernel_rfl
theorem W_7:X0 D_7= []:=by kernel_rfl
theorem Q_7 : Tryz.prog.funcs[62]? = some Tryz.f62 ∧ (Tryz.f62.name == "runtime.NumGoroutine") = false ∧ Tryz.f62.body = some D_7 := ⟨Tryz.func62, by kernel_rfl, by kernel_rfl⟩
theorem H_7:Holds Tryz.prog 62 E_7:=
 Yhw (cx:=C_7) (YhE tabT rfl).1 (Ygf ⟨⟨H_3,_,_,Q_3⟩,trivial⟩) mixT Q_7.1 Q_7.2.2 (Yhz W_7 trivial) (enc:=N_7) (fun _ _=>⟨rfl,rfl⟩) F_7
theorem F_8 (a:YG [.v .int,.v .int,.v .int]):E_8.run a=Yhu C_8 Tryz.f151 [.v .int,.v .int,.v .int] [.v .bool] a (fun o r=>some (N_8 o r)):=by
 kernel_rfl
theorem W_8:X0 D_8= []:=by kernel_rfl
theorem Q_8 : Tryz.prog.funcs[151]? = some Tryz.f151 ∧ (Tryz.f151.name == "runtime.NumGoroutine") = false ∧ Tryz.f151.body = some D_8 := ⟨Tryz.func151, by kernel_rfl, by kernel_rfl⟩
theorem H_8:Holds Tryz.prog 151 E_8:=
 Yhw (cx:=C_8) (YhE tabT rfl).1 (Ygf trivial) mixT Q_8.1 Q_8.2.2 (Yhz W_8 trivial) (enc:=N_8) (fun _ _=>⟨rfl,rfl⟩) F_8
theorem F_9 (a:YG [.v .int]):E_9.run a=Yhu C_9 Tryz.f134 [.v .int] [.v .bool] a (fun o r=>some (N_9 o r)):=by
 kernel_rfl
theorem W_9:X0 D_9= []:=by kernel_rfl
theorem Q_9 : Tryz.prog.funcs[134]? = some Tryz.f134 ∧ (Tryz.f134.name == "runtime.NumGoroutine") = false ∧ Tryz.f134.body = some D_9 := ⟨Tryz.func134, by kernel_rfl, by kernel_rfl⟩
theorem H_9:Holds Tryz.prog 134 E_9:=
 Yhw (cx:=C_9) (YhE tabT rfl).1 (Ygf ⟨⟨H_8,_,_,Q_8⟩,trivial⟩) mixT Q_9.1 Q_9.2.2 (Yhz W_9 trivial) (enc:=N_9) (fun _ _=>⟨rfl,rfl⟩) F_9
theorem K_10L2 (n:Nat) (x):CZ (n+1) x=YfX C_10 B_10L2 (S_10L2 Aa) x (CZ n):=by
 obtain⟨_,_,_⟩:=x
 kernel_rfl
theorem F_10 (a:YG [.v (.slice .int),.v (.slice .int)]):E_10.run a=Yhu C_10 Tryz.f197 [.v (.slice .int),.v (.slice .int)] [.v .bool] a (fun o r=>some (N_10 o r)):=by
 kernel_rfl
theorem W_10:X0 D_10= [B_10L2]:=by kernel_rfl
theorem R_10L2:Y8 B_10L2=2:=by kernel_rfl
theorem Q_10 : Tryz.prog.funcs[197]? = some Tryz.f197 ∧ (Tryz.f197.name == "runtime.NumGoroutine") = false ∧ Tryz.f197.body = some D_10 := ⟨Tryz.func197, by kernel_rfl, by kernel_rfl⟩
theorem H_10:Holds Tryz.prog 197 E_10:=
 Yhw (cx:=C_10) (YhE tabT rfl).1 (Ygf trivial) mixT Q_10.1 Q_10.2.2 (Yhz W_10 ⟨YhF (cx:=C_10) (L:=S_10L2 Aa) rfl (by rw[R_10L2];rfl) ⟨CZ,fun _=>rfl,fun n x=>K_10L2 n x,Aa,fun _=>rfl⟩,trivial⟩) (enc:=N_10) (fun _ _=>⟨rfl,rfl⟩) F_10
theorem K_11L4 (n:Nat) (x):CX (n+1) x=YfX C_11 B_11L4 (S_11L4 Aa) x (CX n):=by
 obtain⟨_,_,_⟩:=x
 kernel_rfl
theorem F_11 (a:YG [.v (.slice .int),.v (.slice .int)]):E_11.run a=Yhu C_11 Tryz.f185 [.v (.slice .int),.v (.slice .int)] [.v .bool] a (fun o r=>some (N_11 o r)):=by
 kernel_rfl
theorem W_11:X0 D_11= [B_11L4]:=by kernel_rfl
theorem R_11L4:Y8 B_11L4=4:=by kernel_rfl
theorem Q_11 : Tryz.prog.funcs[185]? = some Tryz.f185 ∧ (Tryz.f185.name == "runtime.NumGoroutine") = false ∧ Tryz.f185.body = some D_11 := ⟨Tryz.func185, by kernel_rfl, by kernel_rfl⟩
theorem H_11:Holds Tryz.prog 185 E_11:=
 Yhw (cx:=C_11) (YhE tabT rfl).1 (Ygf trivial) mixT Q_11.1 Q_11.2.2 (Yhz W_11 ⟨YhF (cx:=C_11) (L:=S_11L4 Aa) rfl (by rw[R_11L4];rfl) ⟨CX,fun _=>rfl,fun n x=>K_11L4 n x,Aa,fun _=>rfl⟩,trivial⟩) (enc:=N_11) (fun _ _=>⟨rfl,rfl⟩) F_11
theorem K_12L2 (n:Nat) (x):Cz (n+1) x=YfX C_12 B_12L2 (S_12L2 Aa) x (Cz n):=by
 obtain⟨_,_,_,_⟩:=x
 kernel_rfl
theorem F_12 (a:YG [.v (.slice (.slice .int)),.v (.slice .int)]):E_12.run a=Yhu C_12 Tryz.f198 [.v (.slice (.slice .int)),.v (.slice .int)] [.v .int,.v .bool] a (fun o r=>some (N_12 o r)):=by
 kernel_rfl
theorem W_12:X0 D_12= [B_12L2]:=by kernel_rfl
theorem R_12L2:Y8 B_12L2=2:=by kernel_rfl
theorem Q_12 : Tryz.prog.funcs[198]? = some Tryz.f198 ∧ (Tryz.f198.name == "runtime.NumGoroutine") = false ∧ Tryz.f198.body = some D_12 := ⟨Tryz.func198, by kernel_rfl, by kernel_rfl⟩
theorem H_12:Holds Tryz.prog 198 E_12:=
 Yhw (cx:=C_12) (YhE tabT rfl).1 (Ygf ⟨⟨H_11,_,_,Q_11⟩,⟨⟨H_10,_,_,Q_10⟩,trivial⟩⟩) mixT Q_12.1 Q_12.2.2 (Yhz W_12 ⟨YhF (cx:=C_12) (L:=S_12L2 Aa) rfl (by rw[R_12L2];rfl) ⟨Cz,fun _=>rfl,fun n x=>K_12L2 n x,Aa,fun _=>rfl⟩,trivial⟩) (enc:=N_12) (fun _ _=>⟨rfl,rfl⟩) F_12
theorem F_13 (a:YG [.v (.slice (.slice .int)),.v (.slice .int)]):E_13.run a=Yhu C_13 Tryz.f177 [.v (.slice (.slice .int)),.v (.slice .int)] [.v (.slice (.slice .int))] a (fun o r=>some (N_13 o r)):=by
 kernel_rfl
theorem W_13:X0 D_13= []:=by kernel_rfl
theorem Q_13 : Tryz.prog.funcs[177]? = some Tryz.f177 ∧ (Tryz.f177.name == "runtime.NumGoroutine") = false ∧ Tryz.f177.body = some D_13 := ⟨Tryz.func177, by kernel_rfl, by kernel_rfl⟩
theorem H_13:Holds Tryz.prog 177 E_13:=
 Yhw (cx:=C_13) (YhE tabT rfl).1 (Ygf ⟨⟨H_12,_,_,Q_12⟩,trivial⟩) mixT Q_13.1 Q_13.2.2 (Yhz W_13 trivial) (enc:=N_13) (fun _ _=>⟨rfl,rfl⟩) F_13
theorem K_14L3 (n:Nat) (x):AB (n+1) x=YfX C_14 B_14L3 (S_14L3 Aa) x (AB n):=by
 obtain⟨_,_,_,_⟩:=x
 kernel_rfl
theorem F_14 (a:YG [.bx (.v (.pair (.slice (.num .u8)) (.pair .int (.num .u64)))),.v .int]):E_14.run a=Yhu C_14 Tryz.f212 [.bx (.v (.pair (.slice (.num .u8)) (.pair .int (.num .u64)))),.v .int] [.mv .int 0] a (fun o r=>some (N_14 o r)):=by
 kernel_rfl
theorem W_14:X0 D_14= [B_14L3]:=by kernel_rfl
theorem R_14L3:Y8 B_14L3=3:=by kernel_rfl
theorem Q_14 : Tryz.prog.funcs[212]? = some Tryz.f212 ∧ (Tryz.f212.name == "runtime.NumGoroutine") = false ∧ Tryz.f212.body = some D_14 := ⟨Tryz.func212, by kernel_rfl, by kernel_rfl⟩
theorem H_14:Holds Tryz.prog 212 E_14:=
 Yhw (cx:=C_14) (YhE tabT rfl).1 (Ygf ⟨⟨H_3,_,_,Q_3⟩,trivial⟩) mixT Q_14.1 Q_14.2.2 (Yhz W_14 ⟨YhF (cx:=C_14) (L:=S_14L3 Aa) rfl (by rw[R_14L3];rfl) ⟨AB,fun _=>rfl,fun n x=>K_14L3 n x,Aa,fun _=>rfl⟩,trivial⟩) (enc:=N_14) (fun _ _=>⟨rfl,rfl⟩) F_14
theorem K_15L6 (n:Nat) (x):AN (n+1) x=YfX C_15 B_15L6 (S_15L6 Aa) x (AN n):=by
 obtain⟨_,_,_,_,_⟩:=x
 kernel_rfl
theorem K_15L3 (n:Nat) (x):Bc (n+1) x=YfX C_15 B_15L3 (S_15L3 Aa) x (Bc n):=by
 obtain⟨_,_,_,_⟩:=x
 kernel_rfl
theorem F_15 (a:YG [.v (.slice .int)]):E_15.run a=Yhu C_15 Tryz.f211 [.v (.slice .int)] [.pr (.v .int) (.mv (.slice .int) 0)] a (fun o r=>some (N_15 o r)):=by
 kernel_rfl
theorem W_15:X0 D_15= [B_15L3,B_15L6]:=by kernel_rfl
theorem R_15L6:Y8 B_15L6=6:=by kernel_rfl
theorem R_15L3:Y8 B_15L3=3:=by kernel_rfl
theorem Q_15 : Tryz.prog.funcs[211]? = some Tryz.f211 ∧ (Tryz.f211.name == "runtime.NumGoroutine") = false ∧ Tryz.f211.body = some D_15 := ⟨Tryz.func211, by kernel_rfl, by kernel_rfl⟩
theorem H_15:Holds Tryz.prog 211 E_15:=
 Yhw (cx:=C_15) (YhE tabT rfl).1 (Ygf trivial) mixT Q_15.1 Q_15.2.2 (Yhz W_15 ⟨YhF (cx:=C_15) (L:=S_15L3 Aa) rfl (by rw[R_15L3];rfl) ⟨Bc,fun _=>rfl,fun n x=>K_15L3 n x,Aa,fun _=>rfl⟩,⟨YhF (cx:=C_15) (L:=S_15L6 Aa) rfl (by rw[R_15L6];rfl) ⟨AN,fun _=>rfl,fun n x=>K_15L6 n x,Aa,fun _=>rfl⟩,trivial⟩⟩) (enc:=N_15) (fun _ _=>⟨rfl,rfl⟩) F_15
theorem K_16L2 (n:Nat) (x):Cn (n+1) x=YfX C_16 B_16L2 (S_16L2 Aa) x (Cn n):=by
 obtain⟨_,_,_⟩:=x
 kernel_rfl
theorem F_16 (a:YG [.v .int,.v .int]):E_16.run a=Yhu C_16 Tryz.f104 [.v .int,.v .int] [.v .int] a (fun o r=>some (N_16 o r)):=by
 kernel_rfl
theorem W_16:X0 D_16= [B_16L2]:=by kernel_rfl
theorem R_16L2:Y8 B_16L2=2:=by kernel_rfl
theorem Q_16 : Tryz.prog.funcs[104]? = some Tryz.f104 ∧ (Tryz.f104.name == "runtime.NumGoroutine") = false ∧ Tryz.f104.body = some D_16 := ⟨Tryz.func104, by kernel_rfl, by kernel_rfl⟩
theorem H_16:Holds Tryz.prog 104 E_16:=
 Yhw (cx:=C_16) (YhE tabT rfl).1 (Ygf trivial) mixT Q_16.1 Q_16.2.2 (Yhz W_16 ⟨YhF (cx:=C_16) (L:=S_16L2 Aa) rfl (by rw[R_16L2];rfl) ⟨Cn,fun _=>rfl,fun n x=>K_16L2 n x,Aa,fun _=>rfl⟩,trivial⟩) (enc:=N_16) (fun _ _=>⟨rfl,rfl⟩) F_16
theorem K_17L3 (n:Nat) (x):CY (n+1) x=YfX C_17 B_17L3 (S_17L3 Aa) x (CY n):=by
 obtain⟨_,_,_,_⟩:=x
 kernel_rfl
theorem F_17 (a:YG [.v .int,.v .int,.v .int]):E_17.run a=Yhu C_17 Tryz.f222 [.v .int,.v .int,.v .int] [.mv .int 0] a (fun o r=>some (N_17 o r)):=by
 kernel_rfl
theorem W_17:X0 D_17= [B_17L3]:=by kernel_rfl
theorem R_17L3:Y8 B_17L3=3:=by kernel_rfl
theorem Q_17 : Tryz.prog.funcs[222]? = some Tryz.f222 ∧ (Tryz.f222.name == "runtime.NumGoroutine") = false ∧ Tryz.f222.body = some D_17 := ⟨Tryz.func222, by kernel_rfl, by kernel_rfl⟩
theorem H_17:Holds Tryz.prog 222 E_17:=
 Yhw (cx:=C_17) (YhE tabT rfl).1 (Ygf trivial) mixT Q_17.1 Q_17.2.2 (Yhz W_17 ⟨YhF (cx:=C_17) (L:=S_17L3 Aa) rfl (by rw[R_17L3];rfl) ⟨CY,fun _=>rfl,fun n x=>K_17L3 n x,Aa,fun _=>rfl⟩,trivial⟩) (enc:=N_17) (fun _ _=>⟨rfl,rfl⟩) F_17
theorem K_18L3 (n:Nat) (x):B8 (n+1) x=YfX C_18 B_18L3 (S_18L3 Aa) x (B8 n):=by
 obtain⟨_,_,_,_,_⟩:=x
 kernel_rfl
theorem F_18 (a:YG [.v .int,.v .int]):E_18.run a=Yhu C_18 Tryz.f213 [.v .int,.v .int] [.pr (.v .int) (.mv (.slice .int) 0)] a (fun o r=>some (N_18 o r)):=by
 kernel_rfl
theorem W_18:X0 D_18= [B_18L3]:=by kernel_rfl
theorem R_18L3:Y8 B_18L3=3:=by kernel_rfl
theorem Q_18 : Tryz.prog.funcs[213]? = some Tryz.f213 ∧ (Tryz.f213.name == "runtime.NumGoroutine") = false ∧ Tryz.f213.body = some D_18 := ⟨Tryz.func213, by kernel_rfl, by kernel_rfl⟩
theorem H_18:Holds Tryz.prog 213 E_18:=
 Yhw (cx:=C_18) (YhE tabT rfl).1 (Ygf ⟨⟨H_16,_,_,Q_16⟩,⟨⟨H_17,_,_,Q_17⟩,trivial⟩⟩) mixT Q_18.1 Q_18.2.2 (Yhz W_18 ⟨YhF (cx:=C_18) (L:=S_18L3 Aa) rfl (by rw[R_18L3];rfl) ⟨B8,fun _=>rfl,fun n x=>K_18L3 n x,Aa,fun _=>rfl⟩,trivial⟩) (enc:=N_18) (fun _ _=>⟨rfl,rfl⟩) F_18
theorem F_19 (a:YG [.mv (.slice .int) 0,.v (.slice .int)]):E_19.run a=Yhu C_19 Tryz.f177 [.mv (.slice .int) 0,.v (.slice .int)] [.mv (.slice .int) 0] a (fun o r=>some (N_19 o r)):=by
 kernel_rfl
theorem W_19:X0 D_19= []:=by kernel_rfl
theorem Q_19 : Tryz.prog.funcs[177]? = some Tryz.f177 ∧ (Tryz.f177.name == "runtime.NumGoroutine") = false ∧ Tryz.f177.body = some D_19 := ⟨Tryz.func177, by kernel_rfl, by kernel_rfl⟩
theorem H_19:Holds Tryz.prog 177 E_19:=
 Yhw (cx:=C_19) (YhE tabT rfl).1 (Ygf ⟨⟨H_12,_,_,Q_12⟩,trivial⟩) mixT Q_19.1 Q_19.2.2 (Yhz W_19 trivial) (enc:=N_19) (fun _ _=>⟨rfl,rfl⟩) F_19
theorem K_20L9 (n:Nat) (x):Bf (n+1) x=YfX C_20 B_20L9 (S_20L9 Aa) x (Bf n):=by
 obtain⟨_,_,_,_,_,_,_,_⟩:=x
 kernel_rfl
theorem K_20L5 (n:Nat) (x):Be (n+1) x=YfX C_20 B_20L5 (S_20L5 Aa) x (Be n):=by
 obtain⟨_,_,_,_,_,_⟩:=x
 kernel_rfl
theorem F_20 (a:YG [.bx (.v (.pair (.slice (.num .u8)) (.pair .int (.num .u64)))),.v .int,.v .int]):E_20.run a=Yhu C_20 Tryz.f149 [.bx (.v (.pair (.slice (.num .u8)) (.pair .int (.num .u64)))),.v .int,.v .int] [.v (.pair .int (.slice (.slice .int)))] a (fun o r=>some (N_20 o r)):=by
 kernel_rfl
theorem W_20:X0 D_20= [B_20L5,B_20L9]:=by kernel_rfl
theorem R_20L9:Y8 B_20L9=9:=by kernel_rfl
theorem R_20L5:Y8 B_20L5=5:=by kernel_rfl
theorem Q_20 : Tryz.prog.funcs[149]? = some Tryz.f149 ∧ (Tryz.f149.name == "runtime.NumGoroutine") = false ∧ Tryz.f149.body = some D_20 := ⟨Tryz.func149, by kernel_rfl, by kernel_rfl⟩
theorem H_20:Holds Tryz.prog 149 E_20:=
 Yhw (cx:=C_20) (YhE tabT rfl).1 (Ygf ⟨⟨H_4,_,_,Q_4⟩,⟨⟨H_3,_,_,Q_3⟩,⟨⟨H_7,_,_,Q_7⟩,⟨⟨H_9,_,_,Q_9⟩,⟨⟨H_8,_,_,Q_8⟩,⟨⟨H_19,_,_,Q_19⟩,⟨⟨H_15,_,_,Q_15⟩,⟨⟨H_14,_,_,Q_14⟩,⟨⟨H_18,_,_,Q_18⟩,trivial⟩⟩⟩⟩⟩⟩⟩⟩⟩) mixT Q_20.1 Q_20.2.2 (Yhz W_20 ⟨YhF (cx:=C_20) (L:=S_20L5 Aa) rfl (by rw[R_20L5];rfl) ⟨Be,fun _=>rfl,fun n x=>K_20L5 n x,Aa,fun _=>rfl⟩,⟨YhF (cx:=C_20) (L:=S_20L9 Aa) rfl (by rw[R_20L9];rfl) ⟨Bf,fun _=>rfl,fun n x=>K_20L9 n x,Aa,fun _=>rfl⟩,trivial⟩⟩) (enc:=N_20) (fun _ _=>⟨rfl,rfl⟩) F_20
theorem K_21L9 (n:Nat) (x):AP (n+1) x=YfX C_21 B_21L9 (S_21L9 Aa) x (AP n):=by
 obtain⟨_,_,_,_,_,_,_⟩:=x
 kernel_rfl
theorem K_21L5 (n:Nat) (x):AO (n+1) x=YfX C_21 B_21L5 (S_21L5 Aa) x (AO n):=by
 obtain⟨_,_,_,_,_⟩:=x
 kernel_rfl
theorem K_21L17 (n:Nat) (x):AZ (n+1) x=YfX C_21 B_21L17 (S_21L17 Aa) x (AZ n):=by
 obtain⟨_,_,_,_⟩:=x
 kernel_rfl
theorem F_21 (a:YG [.bx (.v (.pair (.slice (.num .u8)) (.pair .int (.num .u64))))]):E_21.run a=Yhu C_21 Tryz.f148 [.bx (.v (.pair (.slice (.num .u8)) (.pair .int (.num .u64))))] [.v .int,.mv (.pair .int (.slice (.slice .int))) 0] a (fun o r=>some (N_21 o r)):=by
 kernel_rfl
theorem W_21:X0 D_21= [B_21L5,B_21L9,B_21L17]:=by kernel_rfl
theorem R_21L9:Y8 B_21L9=9:=by kernel_rfl
theorem R_21L5:Y8 B_21L5=5:=by kernel_rfl
theorem R_21L17:Y8 B_21L17=17:=by kernel_rfl
theorem Q_21 : Tryz.prog.funcs[148]? = some Tryz.f148 ∧ (Tryz.f148.name == "runtime.NumGoroutine") = false ∧ Tryz.f148.body = some D_21 := ⟨Tryz.func148, by kernel_rfl, by kernel_rfl⟩
theorem H_21:Holds Tryz.prog 148 E_21:=
 Yhw (cx:=C_21) (YhE tabT rfl).1 (Ygf ⟨⟨H_4,_,_,Q_4⟩,⟨⟨H_3,_,_,Q_3⟩,⟨⟨H_7,_,_,Q_7⟩,⟨⟨H_6,_,_,Q_6⟩,⟨⟨H_20,_,_,Q_20⟩,⟨⟨H_5,_,_,Q_5⟩,trivial⟩⟩⟩⟩⟩⟩) mixT Q_21.1 Q_21.2.2 (Yhz W_21 ⟨YhF (cx:=C_21) (L:=S_21L5 Aa) rfl (by rw[R_21L5];rfl) ⟨AO,fun _=>rfl,fun n x=>K_21L5 n x,Aa,fun _=>rfl⟩,⟨YhF (cx:=C_21) (L:=S_21L9 Aa) rfl (by rw[R_21L9];rfl) ⟨AP,fun _=>rfl,fun n x=>K_21L9 n x,Aa,fun _=>rfl⟩,⟨YhF (cx:=C_21) (L:=S_21L17 Aa) rfl (by rw[R_21L17];rfl) ⟨AZ,fun _=>rfl,fun n x=>K_21L17 n x,Aa,fun _=>rfl⟩,trivial⟩⟩⟩) (enc:=N_21) (fun _ _=>⟨rfl,rfl⟩) F_21
theorem F_22 (a:YG [.v .int,.v .int]):E_22.run a=Yhu C_22 Tryz.f150 [.v .int,.v .int] [.v .int] a (fun o r=>some (N_22 o r)):=by
 kernel_rfl
theorem W_22:X0 D_22= []:=by kernel_rfl
theorem Q_22 : Tryz.prog.funcs[150]? = some Tryz.f150 ∧ (Tryz.f150.name == "runtime.NumGoroutine") = false ∧ Tryz.f150.body = some D_22 := ⟨Tryz.func150, by kernel_rfl, by kernel_rfl⟩
theorem H_22:Holds Tryz.prog 150 E_22:=
 Yhw (cx:=C_22) (YhE tabT rfl).1 (Ygf trivial) mixT Q_22.1 Q_22.2.2 (Yhz W_22 trivial) (enc:=N_22) (fun _ _=>⟨rfl,rfl⟩) F_22
theorem K_23L11 (n:Nat) (x):Aw (n+1) x=YfX C_23 B_23L11 (S_23L11 Aa) x (Aw n):=by
 obtain⟨_,_,_,_,_,_,_,_,_⟩:=x
 kernel_rfl
theorem K_23L4 (n:Nat) (x):AA (n+1) x=YfX C_23 B_23L4 (S_23L4 Aa) x (AA n):=by
 obtain⟨_,_,_,_,_,_⟩:=x
 kernel_rfl
theorem K_23L23 (n:Nat) (x):Bd (n+1) x=YfX C_23 B_23L23 (S_23L23 Aa) x (Bd n):=by
 obtain⟨_,_,_,_⟩:=x
 kernel_rfl
theorem F_23 (a:YG [.bx (.v (.pair (.slice (.num .u8)) (.pair .int (.num .u64))))]):E_23.run a=Yhu C_23 Tryz.f57 [.bx (.v (.pair (.slice (.num .u8)) (.pair .int (.num .u64))))] [.v (.pair .int (.pair .int (.slice (.pair (.slice .int) (.pair .int (.slice (.slice .int)))))))] a (fun o r=>some (N_23 o r)):=by
 kernel_rfl
theorem W_23:X0 D_23= [B_23L4,B_23L11,B_23L23]:=by kernel_rfl
theorem R_23L11:Y8 B_23L11=11:=by kernel_rfl
theorem R_23L4:Y8 B_23L4=4:=by kernel_rfl
theorem R_23L23:Y8 B_23L23=23:=by kernel_rfl
theorem Q_23 : Tryz.prog.funcs[57]? = some Tryz.f57 ∧ (Tryz.f57.name == "runtime.NumGoroutine") = false ∧ Tryz.f57.body = some D_23 := ⟨Tryz.func57, by kernel_rfl, by kernel_rfl⟩
theorem H_23:Holds Tryz.prog 57 E_23:=
 Yhw (cx:=C_23) (YhE tabT rfl).1 (Ygf ⟨⟨H_4,_,_,Q_4⟩,⟨⟨H_3,_,_,Q_3⟩,⟨⟨H_7,_,_,Q_7⟩,⟨⟨H_21,_,_,Q_21⟩,⟨⟨H_20,_,_,Q_20⟩,⟨⟨H_22,_,_,Q_22⟩,trivial⟩⟩⟩⟩⟩⟩) mixT Q_23.1 Q_23.2.2 (Yhz W_23 ⟨YhF (cx:=C_23) (L:=S_23L4 Aa) rfl (by rw[R_23L4];rfl) ⟨AA,fun _=>rfl,fun n x=>K_23L4 n x,Aa,fun _=>rfl⟩,⟨YhF (cx:=C_23) (L:=S_23L11 Aa) rfl (by rw[R_23L11];rfl) ⟨Aw,fun _=>rfl,fun n x=>K_23L11 n x,Aa,fun _=>rfl⟩,⟨YhF (cx:=C_23) (L:=S_23L23 Aa) rfl (by rw[R_23L23];rfl) ⟨Bd,fun _=>rfl,fun n x=>K_23L23 n x,Aa,fun _=>rfl⟩,trivial⟩⟩⟩) (enc:=N_23) (fun _ _=>⟨rfl,rfl⟩) F_23
theorem F_24 (a:YG [.v (.slice (.num .u8))]):E_24.run a=Yhu C_24 Tryz.f86 [.v (.slice (.num .u8))] [.v (.pair .int (.pair .int (.slice (.pair (.slice .int) (.pair .int (.slice (.slice .int)))))))] a (fun o r=>some (N_24 o r)):=by
 kernel_rfl
theorem W_24:X0 D_24= []:=by kernel_rfl
theorem Q_24 : Tryz.prog.funcs[86]? = some Tryz.f86 ∧ (Tryz.f86.name == "runtime.NumGoroutine") = false ∧ Tryz.f86.body = some D_24 := ⟨Tryz.func86, by kernel_rfl, by kernel_rfl⟩
theorem H_24:Holds Tryz.prog 86 E_24:=
 Yhw (cx:=C_24) (YhE tabT rfl).1 (Ygf ⟨⟨H_23,_,_,Q_23⟩,trivial⟩) mixT Q_24.1 Q_24.2.2 (Yhz W_24 trivial) (enc:=N_24) (fun _ _=>⟨rfl,rfl⟩) F_24
theorem F_25 (a:YG [.v (.slice (.num .u8))]):E_25.run a=Yhu C_25 Tryz.f24 [.v (.slice (.num .u8))] [.v (.pair .int (.pair .int (.slice (.pair (.slice .int) (.pair .int (.slice (.slice .int)))))))] a (fun o r=>some (N_25 o r)):=by
 kernel_rfl
theorem W_25:X0 D_25= []:=by kernel_rfl
theorem Q_25 : Tryz.prog.funcs[24]? = some Tryz.f24 ∧ (Tryz.f24.name == "runtime.NumGoroutine") = false ∧ Tryz.f24.body = some D_25 := ⟨Tryz.func24, by kernel_rfl, by kernel_rfl⟩
theorem H_25:Holds Tryz.prog 24 E_25:=
 Yhw (cx:=C_25) (YhE tabT rfl).1 (Ygf ⟨⟨H_24,_,_,Q_24⟩,trivial⟩) mixT Q_25.1 Q_25.2.2 (Yhz W_25 trivial) (enc:=N_25) (fun _ _=>⟨rfl,rfl⟩) F_25
theorem F_26 (a:YG [.v .int]):E_26.run a=Yhu C_26 Tryz.f70 [.v .int] [.v .bool] a (fun o r=>some (N_26 o r)):=by
 kernel_rfl
theorem W_26:X0 D_26= []:=by kernel_rfl
theorem Q_26 : Tryz.prog.funcs[70]? = some Tryz.f70 ∧ (Tryz.f70.name == "runtime.NumGoroutine") = false ∧ Tryz.f70.body = some D_26 := ⟨Tryz.func70, by kernel_rfl, by kernel_rfl⟩
theorem H_26:Holds Tryz.prog 70 E_26:=
 Yhw (cx:=C_26) (YhE tabT rfl).1 (Ygf trivial) mixT Q_26.1 Q_26.2.2 (Yhz W_26 trivial) (enc:=N_26) (fun _ _=>⟨rfl,rfl⟩) F_26
theorem K_27L2 (n:Nat) (x):CU (n+1) x=YfX C_27 B_27L2 (S_27L2 Aa) x (CU n):=by
 obtain⟨_,_,_,_⟩:=x
 kernel_rfl
theorem F_27 (a:YG [.v (.slice .int),.v .int]):E_27.run a=Yhu C_27 Tryz.f137 [.v (.slice .int),.v .int] [.v .bool] a (fun o r=>some (N_27 o r)):=by
 kernel_rfl
theorem W_27:X0 D_27= [B_27L2]:=by kernel_rfl
theorem R_27L2:Y8 B_27L2=2:=by kernel_rfl
theorem Q_27 : Tryz.prog.funcs[137]? = some Tryz.f137 ∧ (Tryz.f137.name == "runtime.NumGoroutine") = false ∧ Tryz.f137.body = some D_27 := ⟨Tryz.func137, by kernel_rfl, by kernel_rfl⟩
theorem H_27:Holds Tryz.prog 137 E_27:=
 Yhw (cx:=C_27) (YhE tabT rfl).1 (Ygf trivial) mixT Q_27.1 Q_27.2.2 (Yhz W_27 ⟨YhF (cx:=C_27) (L:=S_27L2 Aa) rfl (by rw[R_27L2];rfl) ⟨CU,fun _=>rfl,fun n x=>K_27L2 n x,Aa,fun _=>rfl⟩,trivial⟩) (enc:=N_27) (fun _ _=>⟨rfl,rfl⟩) F_27
theorem K_28L2 (n:Nat) (x):Bp (n+1) x=YfX C_28 B_28L2 (S_28L2 Aa) x (Bp n):=by
 obtain⟨_,_,_⟩:=x
 kernel_rfl
theorem F_28 (a:YG [.v (.slice .int),.v (.slice .int)]):E_28.run a=Yhu C_28 Tryz.f145 [.v (.slice .int),.v (.slice .int)] [.v .int] a (fun o r=>some (N_28 o r)):=by
 kernel_rfl
theorem W_28:X0 D_28= [B_28L2]:=by kernel_rfl
theorem R_28L2:Y8 B_28L2=2:=by kernel_rfl
theorem Q_28 : Tryz.prog.funcs[145]? = some Tryz.f145 ∧ (Tryz.f145.name == "runtime.NumGoroutine") = false ∧ Tryz.f145.body = some D_28 := ⟨Tryz.func145, by kernel_rfl, by kernel_rfl⟩
theorem H_28:Holds Tryz.prog 145 E_28:=
 Yhw (cx:=C_28) (YhE tabT rfl).1 (Ygf trivial) mixT Q_28.1 Q_28.2.2 (Yhz W_28 ⟨YhF (cx:=C_28) (L:=S_28L2 Aa) rfl (by rw[R_28L2];rfl) ⟨Bp,fun _=>rfl,fun n x=>K_28L2 n x,Aa,fun _=>rfl⟩,trivial⟩) (enc:=N_28) (fun _ _=>⟨rfl,rfl⟩) F_28
theorem K_29L4 (n:Nat) (x):BB (n+1) x=YfX C_29 B_29L4 (S_29L4 Aa) x (BB n):=by
 obtain⟨_,_,_,_,_⟩:=x
 kernel_rfl
theorem F_29 (a:YG [.v .int,.v (.pair .int (.slice (.slice .int)))]):E_29.run a=Yhu C_29 Tryz.f160 [.v .int,.v (.pair .int (.slice (.slice .int)))] [.v .bool] a (fun o r=>some (N_29 o r)):=by
 kernel_rfl
theorem W_29:X0 D_29= [B_29L4]:=by kernel_rfl
theorem R_29L4:Y8 B_29L4=4:=by kernel_rfl
theorem Q_29 : Tryz.prog.funcs[160]? = some Tryz.f160 ∧ (Tryz.f160.name == "runtime.NumGoroutine") = false ∧ Tryz.f160.body = some D_29 := ⟨Tryz.func160, by kernel_rfl, by kernel_rfl⟩
theorem H_29:Holds Tryz.prog 160 E_29:=
 Yhw (cx:=C_29) (YhE tabT rfl).1 (Ygf ⟨⟨H_27,_,_,Q_27⟩,⟨⟨H_28,_,_,Q_28⟩,trivial⟩⟩) mixT Q_29.1 Q_29.2.2 (Yhz W_29 ⟨YhF (cx:=C_29) (L:=S_29L4 Aa) rfl (by rw[R_29L4];rfl) ⟨BB,fun _=>rfl,fun n x=>K_29L4 n x,Aa,fun _=>rfl⟩,trivial⟩) (enc:=N_29) (fun _ _=>⟨rfl,rfl⟩) F_29
theorem F_30 (a:YG [.v .int,.v .int,.v (.pair (.slice .int) (.pair .int (.slice (.slice .int))))]):E_30.run a=Yhu C_30 Tryz.f71 [.v .int,.v .int,.v (.pair (.slice .int) (.pair .int (.slice (.slice .int))))] [.v .bool] a (fun o r=>some (N_30 o r)):=by
 kernel_rfl
theorem W_30:X0 D_30= []:=by kernel_rfl
theorem Q_30 : Tryz.prog.funcs[71]? = some Tryz.f71 ∧ (Tryz.f71.name == "runtime.NumGoroutine") = false ∧ Tryz.f71.body = some D_30 := ⟨Tryz.func71, by kernel_rfl, by kernel_rfl⟩
theorem H_30:Holds Tryz.prog 71 E_30:=
 Yhw (cx:=C_30) (YhE tabT rfl).1 (Ygf ⟨⟨H_27,_,_,Q_27⟩,⟨⟨H_29,_,_,Q_29⟩,trivial⟩⟩) mixT Q_30.1 Q_30.2.2 (Yhz W_30 trivial) (enc:=N_30) (fun _ _=>⟨rfl,rfl⟩) F_30
theorem K_31L4 (n:Nat) (x):Ci (n+1) x=YfX C_31 B_31L4 (S_31L4 Aa) x (Ci n):=by
 obtain⟨_,_,_,_⟩:=x
 kernel_rfl
theorem F_31 (a:YG [.v (.pair .int (.pair .int (.slice (.pair (.slice .int) (.pair .int (.slice (.slice .int)))))))]):E_31.run a=Yhu C_31 Tryz.f13 [.v (.pair .int (.pair .int (.slice (.pair (.slice .int) (.pair .int (.slice (.slice .int)))))))] [.v .bool] a (fun o r=>some (N_31 o r)):=by
 kernel_rfl
theorem W_31:X0 D_31= [B_31L4]:=by kernel_rfl
theorem R_31L4:Y8 B_31L4=4:=by kernel_rfl
theorem Q_31 : Tryz.prog.funcs[13]? = some Tryz.f13 ∧ (Tryz.f13.name == "runtime.NumGoroutine") = false ∧ Tryz.f13.body = some D_31 := ⟨Tryz.func13, by kernel_rfl, by kernel_rfl⟩
theorem H_31:Holds Tryz.prog 13 E_31:=
 Yhw (cx:=C_31) (YhE tabT rfl).1 (Ygf ⟨⟨H_26,_,_,Q_26⟩,⟨⟨H_30,_,_,Q_30⟩,trivial⟩⟩) mixT Q_31.1 Q_31.2.2 (Yhz W_31 ⟨YhF (cx:=C_31) (L:=S_31L4 Aa) rfl (by rw[R_31L4];rfl) ⟨Ci,fun _=>rfl,fun n x=>K_31L4 n x,Aa,fun _=>rfl⟩,trivial⟩) (enc:=N_31) (fun _ _=>⟨rfl,rfl⟩) F_31
theorem K_32L3 (n:Nat) (x):CJ (n+1) x=YfX C_32 B_32L3 (S_32L3 Aa) x (CJ n):=by
 obtain⟨_,_,_,_⟩:=x
 kernel_rfl
theorem F_32 (a:YG [.v (.slice .int)]):E_32.run a=Yhu C_32 Tryz.f205 [.v (.slice .int)] [.v .str] a (fun o r=>some (N_32 o r)):=by
 kernel_rfl
theorem W_32:X0 D_32= [B_32L3]:=by kernel_rfl
theorem R_32L3:Y8 B_32L3=3:=by kernel_rfl
theorem Q_32 : Tryz.prog.funcs[205]? = some Tryz.f205 ∧ (Tryz.f205.name == "runtime.NumGoroutine") = false ∧ Tryz.f205.body = some D_32 := ⟨Tryz.func205, by kernel_rfl, by kernel_rfl⟩
theorem H_32:Holds Tryz.prog 205 E_32:=
 Yhw (cx:=C_32) (YhE tabT rfl).1 (Ygf trivial) mixT Q_32.1 Q_32.2.2 (Yhz W_32 ⟨YhF (cx:=C_32) (L:=S_32L3 Aa) rfl (by rw[R_32L3];rfl) ⟨CJ,fun _=>rfl,fun n x=>K_32L3 n x,Aa,fun _=>rfl⟩,trivial⟩) (enc:=N_32) (fun _ _=>⟨rfl,rfl⟩) F_32
theorem K_33L3 (n:Nat) (x):Ct (n+1) x=YfX C_33 B_33L3 (S_33L3 Aa) x (Ct n):=by
 obtain⟨_,_,_,_⟩:=x
 kernel_rfl
theorem F_33 (a:YG [.v (.pair .int (.slice (.slice .int)))]):E_33.run a=Yhu C_33 Tryz.f204 [.v (.pair .int (.slice (.slice .int)))] [.v .smap] a (fun o r=>some (N_33 o r)):=by
 kernel_rfl
theorem W_33:X0 D_33= [B_33L3]:=by kernel_rfl
theorem R_33L3:Y8 B_33L3=3:=by kernel_rfl
theorem Q_33 : Tryz.prog.funcs[204]? = some Tryz.f204 ∧ (Tryz.f204.name == "runtime.NumGoroutine") = false ∧ Tryz.f204.body = some D_33 := ⟨Tryz.func204, by kernel_rfl, by kernel_rfl⟩
theorem H_33:Holds Tryz.prog 204 E_33:=
 Yhw (cx:=C_33) (YhE tabT rfl).1 (Ygf ⟨⟨H_32,_,_,Q_32⟩,trivial⟩) mixT Q_33.1 Q_33.2.2 (Yhz W_33 ⟨YhF (cx:=C_33) (L:=S_33L3 Aa) rfl (by rw[R_33L3];rfl) ⟨Ct,fun _=>rfl,fun n x=>K_33L3 n x,Aa,fun _=>rfl⟩,trivial⟩) (enc:=N_33) (fun _ _=>⟨rfl,rfl⟩) F_33
theorem K_34L7 (n:Nat) (x):Bs (n+1) x=YfX C_34 B_34L7 (S_34L7 Aa) x (Bs n):=by
 obtain⟨_,_,_,_,_,_,_,_,_⟩:=x
 kernel_rfl
theorem K_34L3 (n:Nat) (x):Bq (n+1) x=YfX C_34 B_34L3 (S_34L3 Aa) x (Bq n):=by
 obtain⟨_,_,_,_⟩:=x
 kernel_rfl
theorem F_34 (a:YG [.v (.pair .int (.pair .int (.slice (.pair (.slice .int) (.pair .int (.slice (.slice .int)))))))]):E_34.run a=Yhu C_34 Tryz.f179 [.v (.pair .int (.pair .int (.slice (.pair (.slice .int) (.pair .int (.slice (.slice .int)))))))] [.v (.ptr (.pair .int (.pair (.slice (.slice (.slice .int))) (.slice (.slice .smap)))))] a (fun o r=>some (N_34 o r)):=by
 kernel_rfl
theorem W_34:X0 D_34= [B_34L3,B_34L7]:=by kernel_rfl
theorem R_34L7:Y8 B_34L7=7:=by kernel_rfl
theorem R_34L3:Y8 B_34L3=3:=by kernel_rfl
theorem Q_34 : Tryz.prog.funcs[179]? = some Tryz.f179 ∧ (Tryz.f179.name == "runtime.NumGoroutine") = false ∧ Tryz.f179.body = some D_34 := ⟨Tryz.func179, by kernel_rfl, by kernel_rfl⟩
theorem H_34:Holds Tryz.prog 179 E_34:=
 Yhw (cx:=C_34) (YhE tabT rfl).1 (Ygf ⟨⟨H_33,_,_,Q_33⟩,trivial⟩) mixT Q_34.1 Q_34.2.2 (Yhz W_34 ⟨YhF (cx:=C_34) (L:=S_34L3 Aa) rfl (by rw[R_34L3];rfl) ⟨Bq,fun _=>rfl,fun n x=>K_34L3 n x,Aa,fun _=>rfl⟩,⟨YhF (cx:=C_34) (L:=S_34L7 Aa) rfl (by rw[R_34L7];rfl) ⟨Bs,fun _=>rfl,fun n x=>K_34L7 n x,Aa,fun _=>rfl⟩,trivial⟩⟩) (enc:=N_34) (fun _ _=>⟨rfl,rfl⟩) F_34
theorem K_35L3 (n:Nat) (x):BL (n+1) x=YfX C_35 B_35L3 (S_35L3 Aa) x (BL n):=by
 obtain⟨_,_,_⟩:=x
 kernel_rfl
theorem F_35 (a:YG [.v .int]):E_35.run a=Yhu C_35 Tryz.f101 [.v .int] [.mv .int 0] a (fun o r=>some (N_35 o r)):=by
 kernel_rfl
theorem W_35:X0 D_35= [B_35L3]:=by kernel_rfl
theorem R_35L3:Y8 B_35L3=3:=by kernel_rfl
theorem Q_35 : Tryz.prog.funcs[101]? = some Tryz.f101 ∧ (Tryz.f101.name == "runtime.NumGoroutine") = false ∧ Tryz.f101.body = some D_35 := ⟨Tryz.func101, by kernel_rfl, by kernel_rfl⟩
theorem H_35:Holds Tryz.prog 101 E_35:=
 Yhw (cx:=C_35) (YhE tabT rfl).1 (Ygf trivial) mixT Q_35.1 Q_35.2.2 (Yhz W_35 ⟨YhF (cx:=C_35) (L:=S_35L3 Aa) rfl (by rw[R_35L3];rfl) ⟨BL,fun _=>rfl,fun n x=>K_35L3 n x,Aa,fun _=>rfl⟩,trivial⟩) (enc:=N_35) (fun _ _=>⟨rfl,rfl⟩) F_35
theorem F_36 (a:YG [.v (.slice .int)]):E_36.run a=Yhu C_36 Tryz.f96 [.v (.slice .int)] [.mv .int 0] a (fun o r=>some (N_36 o r)):=by
 kernel_rfl
theorem W_36:X0 D_36= []:=by kernel_rfl
theorem Q_36 : Tryz.prog.funcs[96]? = some Tryz.f96 ∧ (Tryz.f96.name == "runtime.NumGoroutine") = false ∧ Tryz.f96.body = some D_36 := ⟨Tryz.func96, by kernel_rfl, by kernel_rfl⟩
theorem H_36:Holds Tryz.prog 96 E_36:=
 Yhw (cx:=C_36) (YhE tabT rfl).1 (Ygf trivial) mixT Q_36.1 Q_36.2.2 (Yhz W_36 trivial) (enc:=N_36) (fun _ _=>⟨rfl,rfl⟩) F_36
theorem F_37 (a:YG [.v (.slice .int),.bx (.mv (.slice .int) 1)]):E_37.run a=Yhu C_37 Tryz.f95 [.v (.slice .int),.bx (.mv (.slice .int) 1)] [.v .bool] a (fun o r=>some (N_37 o r)):=by
 kernel_rfl
theorem W_37:X0 D_37= []:=by kernel_rfl
theorem Q_37 : Tryz.prog.funcs[95]? = some Tryz.f95 ∧ (Tryz.f95.name == "runtime.NumGoroutine") = false ∧ Tryz.f95.body = some D_37 := ⟨Tryz.func95, by kernel_rfl, by kernel_rfl⟩
theorem H_37:Holds Tryz.prog 95 E_37:=
 Yhw (cx:=C_37) (YhE tabT rfl).1 (Ygf ⟨⟨H_36,_,_,Q_36⟩,trivial⟩) mixT Q_37.1 Q_37.2.2 (Yhz W_37 trivial) (enc:=N_37) (fun _ _=>⟨rfl,rfl⟩) F_37
theorem K_38L3 (n:Nat) (x):CE (n+1) x=YfX C_38 B_38L3 (S_38L3 Aa) x (CE n):=by
 obtain⟨_,_,_,_,_⟩:=x
 kernel_rfl
theorem F_38 (a:YG [.v (.slice .int),.v (.slice .int)]):E_38.run a=Yhu C_38 Tryz.f173 [.v (.slice .int),.v (.slice .int)] [.mv .int 0] a (fun o r=>some (N_38 o r)):=by
 kernel_rfl
theorem W_38:X0 D_38= [B_38L3]:=by kernel_rfl
theorem R_38L3:Y8 B_38L3=3:=by kernel_rfl
theorem Q_38 : Tryz.prog.funcs[173]? = some Tryz.f173 ∧ (Tryz.f173.name == "runtime.NumGoroutine") = false ∧ Tryz.f173.body = some D_38 := ⟨Tryz.func173, by kernel_rfl, by kernel_rfl⟩
theorem H_38:Holds Tryz.prog 173 E_38:=
 Yhw (cx:=C_38) (YhE tabT rfl).1 (Ygf trivial) mixT Q_38.1 Q_38.2.2 (Yhz W_38 ⟨YhF (cx:=C_38) (L:=S_38L3 Aa) rfl (by rw[R_38L3];rfl) ⟨CE,fun _=>rfl,fun n x=>K_38L3 n x,Aa,fun _=>rfl⟩,trivial⟩) (enc:=N_38) (fun _ _=>⟨rfl,rfl⟩) F_38
theorem K_39L10 (rec:(Int×(List Int)×(List (List Int))×(Bool×Int×(List (List (List Int)))×(List (List (List ByteArray))))×(List Int)×Unit)→Option ((List Int)×(List (List Int))×(Bool×Int×(List (List (List Int)))×(List (List (List ByteArray))))×(List Int)×Bool)) (n:Nat) (x):Al rec (n+1) x=YfX (C_39 rec) B_39L10 (S_39L10 rec Aa) x (Al rec n):=by
 obtain⟨_,_,_,_,_,_,_,_,_,_,_⟩:=x
 kernel_rfl
theorem K_39L4 (rec:(Int×(List Int)×(List (List Int))×(Bool×Int×(List (List (List Int)))×(List (List (List ByteArray))))×(List Int)×Unit)→Option ((List Int)×(List (List Int))×(Bool×Int×(List (List (List Int)))×(List (List (List ByteArray))))×(List Int)×Bool)) (n:Nat) (x):Ag rec (n+1) x=YfX (C_39 rec) B_39L4 (S_39L4 rec Aa) x (Ag rec n):=by
 obtain⟨_,_,_,_,_,_,_⟩:=x
 kernel_rfl
theorem F_39 (rec:(Int×(List Int)×(List (List Int))×(Bool×Int×(List (List (List Int)))×(List (List (List ByteArray))))×(List Int)×Unit)→Option ((List Int)×(List (List Int))×(Bool×Int×(List (List (List Int)))×(List (List (List ByteArray))))×(List Int)×Bool)) (a:YG [.v .int,.bx (.mv .int 0),.bx (.mv (.slice .int) 1),.bx (.v (.ptr (.pair .int (.pair (.slice (.slice (.slice .int))) (.slice (.slice .smap)))))),.bx (.v (.slice .int)),.jk 1]):Bg rec a.1 a.2.1 a.2.2.1 a.2.2.2.1 a.2.2.2.2.1 a.2.2.2.2.2=Yhu (C_39 rec) Tryz.f225 [.v .int,.bx (.mv .int 0),.bx (.mv (.slice .int) 1),.bx (.v (.ptr (.pair .int (.pair (.slice (.slice (.slice .int))) (.slice (.slice .smap)))))),.bx (.v (.slice .int)),.jk 1] [.v .bool] a (fun o r=>some (N_39 o r)):=by
 kernel_rfl
theorem W_39:X0 D_39= [B_39L4,B_39L10]:=by kernel_rfl
theorem R_39L10:Y8 B_39L10=10:=by kernel_rfl
theorem R_39L4:Y8 B_39L4=4:=by kernel_rfl
theorem Q_39 : Tryz.prog.funcs[225]? = some Tryz.f225 ∧ (Tryz.f225.name == "runtime.NumGoroutine") = false ∧ Tryz.f225.body = some D_39 := ⟨Tryz.func225, by kernel_rfl, by kernel_rfl⟩
theorem H_39: ∀d,Holds Tryz.prog 225 (E_39 d)
 |0=>fun _ b h=>absurd (show(none:Option _)=some b from h) (by simp)
 |d+1=>Yhw (en:=E_39 (d+1)) (cx:=(C_39 (An d))) (YhE tabT rfl).1 (Ygf ⟨⟨H_37,_,_,Q_37⟩,⟨⟨H_38,_,_,Q_38⟩,⟨⟨H_32,_,_,Q_32⟩,⟨⟨H_39 d,_,_,Q_39⟩,trivial⟩⟩⟩⟩) mixT Q_39.1 Q_39.2.2 (Yhz W_39 ⟨YhF (cx:=(C_39 (An d))) (L:=S_39L4 (An d) Aa) rfl (by rw[R_39L4];rfl) ⟨Ag (An d),fun _=>rfl,fun n x=>K_39L4 (An d) n x,Aa,fun _=>rfl⟩,⟨YhF (cx:=(C_39 (An d))) (L:=S_39L10 (An d) Aa) rfl (by rw[R_39L10];rfl) ⟨Al (An d),fun _=>rfl,fun n x=>K_39L10 (An d) n x,Aa,fun _=>rfl⟩,trivial⟩⟩) (enc:=N_39) (fun _ _=>⟨rfl,rfl⟩) (F_39 (An d)) rfl
theorem F_40 (a:YG [.v (.ptr (.pair .int (.pair (.slice (.slice (.slice .int))) (.slice (.slice .smap))))),.v (.slice .int),.bx (.mv (.slice .int) 1)]):E_40.run a=Yhu C_40 Tryz.f180 [.v (.ptr (.pair .int (.pair (.slice (.slice (.slice .int))) (.slice (.slice .smap))))),.v (.slice .int),.bx (.mv (.slice .int) 1)] [] a (fun o r=>some (N_40 o r)):=by
 kernel_rfl
theorem W_40:X0 D_40= []:=by kernel_rfl
theorem Q_40 : Tryz.prog.funcs[180]? = some Tryz.f180 ∧ (Tryz.f180.name == "runtime.NumGoroutine") = false ∧ Tryz.f180.body = some D_40 := ⟨Tryz.func180, by kernel_rfl, by kernel_rfl⟩
theorem H_40:Holds Tryz.prog 180 E_40:=
 Yhw (cx:=C_40) (YhE tabT rfl).1 (Ygf ⟨⟨H_39 Aa,_,_,Q_39⟩,trivial⟩) mixT Q_40.1 Q_40.2.2 (Yhz W_40 trivial) (enc:=N_40) (fun _ _=>⟨rfl,rfl⟩) F_40
theorem F_41 (a:YG [.v (.pair .int (.pair .int (.slice (.pair (.slice .int) (.pair .int (.slice (.slice .int))))))),.bx (.mv (.slice .int) 1)]):E_41.run a=Yhu C_41 Tryz.f94 [.v (.pair .int (.pair .int (.slice (.pair (.slice .int) (.pair .int (.slice (.slice .int))))))),.bx (.mv (.slice .int) 1)] [] a (fun o r=>some (N_41 o r)):=by
 kernel_rfl
theorem W_41:X0 D_41= []:=by kernel_rfl
theorem Q_41 : Tryz.prog.funcs[94]? = some Tryz.f94 ∧ (Tryz.f94.name == "runtime.NumGoroutine") = false ∧ Tryz.f94.body = some D_41 := ⟨Tryz.func94, by kernel_rfl, by kernel_rfl⟩
theorem H_41:Holds Tryz.prog 94 E_41:=
 Yhw (cx:=C_41) (YhE tabT rfl).1 (Ygf ⟨⟨H_35,_,_,Q_35⟩,⟨⟨H_34,_,_,Q_34⟩,⟨⟨H_40,_,_,Q_40⟩,trivial⟩⟩⟩) mixT Q_41.1 Q_41.2.2 (Yhz W_41 trivial) (enc:=N_41) (fun _ _=>⟨rfl,rfl⟩) F_41
theorem F_42 (a:YG [.v (.pair .int (.pair .int (.slice (.pair (.slice .int) (.pair .int (.slice (.slice .int)))))))]):E_42.run a=Yhu C_42 Tryz.f25 [.v (.pair .int (.pair .int (.slice (.pair (.slice .int) (.pair .int (.slice (.slice .int)))))))] [.mv (.slice .int) 1,.v .bool] a (fun o r=>some (N_42 o r)):=by
 kernel_rfl
theorem W_42:X0 D_42= []:=by kernel_rfl
theorem Q_42 : Tryz.prog.funcs[25]? = some Tryz.f25 ∧ (Tryz.f25.name == "runtime.NumGoroutine") = false ∧ Tryz.f25.body = some D_42 := ⟨Tryz.func25, by kernel_rfl, by kernel_rfl⟩
theorem H_42:Holds Tryz.prog 25 E_42:=
 Yhw (cx:=C_42) (YhE tabT rfl).1 (Ygf ⟨⟨H_31,_,_,Q_31⟩,⟨⟨H_41,_,_,Q_41⟩,trivial⟩⟩) mixT Q_42.1 Q_42.2.2 (Yhz W_42 trivial) (enc:=N_42) (fun _ _=>⟨rfl,rfl⟩) F_42
theorem K_43L2 (n:Nat) (x):B6 (n+1) x=YfX C_43 B_43L2 (S_43L2 Aa) x (B6 n):=by
 obtain⟨_,_,_⟩:=x
 kernel_rfl
theorem F_43 (a:YG [.v .int,.v (.slice .int)]):E_43.run a=Yhu C_43 Tryz.f215 [.v .int,.v (.slice .int)] [.v .bool] a (fun o r=>some (N_43 o r)):=by
 kernel_rfl
theorem W_43:X0 D_43= [B_43L2]:=by kernel_rfl
theorem R_43L2:Y8 B_43L2=2:=by kernel_rfl
theorem Q_43 : Tryz.prog.funcs[215]? = some Tryz.f215 ∧ (Tryz.f215.name == "runtime.NumGoroutine") = false ∧ Tryz.f215.body = some D_43 := ⟨Tryz.func215, by kernel_rfl, by kernel_rfl⟩
theorem H_43:Holds Tryz.prog 215 E_43:=
 Yhw (cx:=C_43) (YhE tabT rfl).1 (Ygf ⟨⟨H_8,_,_,Q_8⟩,trivial⟩) mixT Q_43.1 Q_43.2.2 (Yhz W_43 ⟨YhF (cx:=C_43) (L:=S_43L2 Aa) rfl (by rw[R_43L2];rfl) ⟨B6,fun _=>rfl,fun n x=>K_43L2 n x,Aa,fun _=>rfl⟩,trivial⟩) (enc:=N_43) (fun _ _=>⟨rfl,rfl⟩) F_43
theorem F_44 (a:YG [.v .int,.v .int,.v (.slice .int)]):E_44.run a=Yhu C_44 Tryz.f196 [.v .int,.v .int,.v (.slice .int)] [.v .bool] a (fun o r=>some (N_44 o r)):=by
 kernel_rfl
theorem W_44:X0 D_44= []:=by kernel_rfl
theorem Q_44 : Tryz.prog.funcs[196]? = some Tryz.f196 ∧ (Tryz.f196.name == "runtime.NumGoroutine") = false ∧ Tryz.f196.body = some D_44 := ⟨Tryz.func196, by kernel_rfl, by kernel_rfl⟩
theorem H_44:Holds Tryz.prog 196 E_44:=
 Yhw (cx:=C_44) (YhE tabT rfl).1 (Ygf ⟨⟨H_43,_,_,Q_43⟩,trivial⟩) mixT Q_44.1 Q_44.2.2 (Yhz W_44 trivial) (enc:=N_44) (fun _ _=>⟨rfl,rfl⟩) F_44
theorem K_45L4 (n:Nat) (x):B9 (n+1) x=YfX C_45 B_45L4 (S_45L4 Aa) x (B9 n):=by
 obtain⟨_,_,_⟩:=x
 kernel_rfl
theorem F_45 (a:YG [.v .int,.v (.pair .int (.slice (.slice .int)))]):E_45.run a=Yhu C_45 Tryz.f152 [.v .int,.v (.pair .int (.slice (.slice .int)))] [.v .bool] a (fun o r=>some (N_45 o r)):=by
 kernel_rfl
theorem W_45:X0 D_45= [B_45L4]:=by kernel_rfl
theorem R_45L4:Y8 B_45L4=4:=by kernel_rfl
theorem Q_45 : Tryz.prog.funcs[152]? = some Tryz.f152 ∧ (Tryz.f152.name == "runtime.NumGoroutine") = false ∧ Tryz.f152.body = some D_45 := ⟨Tryz.func152, by kernel_rfl, by kernel_rfl⟩
theorem H_45:Holds Tryz.prog 152 E_45:=
 Yhw (cx:=C_45) (YhE tabT rfl).1 (Ygf ⟨⟨H_16,_,_,Q_16⟩,⟨⟨H_8,_,_,Q_8⟩,⟨⟨H_44,_,_,Q_44⟩,⟨⟨H_10,_,_,Q_10⟩,trivial⟩⟩⟩⟩) mixT Q_45.1 Q_45.2.2 (Yhz W_45 ⟨YhF (cx:=C_45) (L:=S_45L4 Aa) rfl (by rw[R_45L4];rfl) ⟨B9,fun _=>rfl,fun n x=>K_45L4 n x,Aa,fun _=>rfl⟩,trivial⟩) (enc:=N_45) (fun _ _=>⟨rfl,rfl⟩) F_45
theorem F_46 (a:YG [.v .int,.v .int,.v (.pair (.slice .int) (.pair .int (.slice (.slice .int))))]):E_46.run a=Yhu C_46 Tryz.f156 [.v .int,.v .int,.v (.pair (.slice .int) (.pair .int (.slice (.slice .int))))] [.v .bool] a (fun o r=>some (N_46 o r)):=by
 kernel_rfl
theorem W_46:X0 D_46= []:=by kernel_rfl
theorem Q_46 : Tryz.prog.funcs[156]? = some Tryz.f156 ∧ (Tryz.f156.name == "runtime.NumGoroutine") = false ∧ Tryz.f156.body = some D_46 := ⟨Tryz.func156, by kernel_rfl, by kernel_rfl⟩
theorem H_46:Holds Tryz.prog 156 E_46:=
 Yhw (cx:=C_46) (YhE tabT rfl).1 (Ygf ⟨⟨H_45,_,_,Q_45⟩,⟨⟨H_43,_,_,Q_43⟩,trivial⟩⟩) mixT Q_46.1 Q_46.2.2 (Yhz W_46 trivial) (enc:=N_46) (fun _ _=>⟨rfl,rfl⟩) F_46
theorem K_47L4 (n:Nat) (x):CH (n+1) x=YfX C_47 B_47L4 (S_47L4 Aa) x (CH n):=by
 obtain⟨_,_⟩:=x
 kernel_rfl
theorem F_47 (a:YG [.v (.pair .int (.pair .int (.slice (.pair (.slice .int) (.pair .int (.slice (.slice .int)))))))]):E_47.run a=Yhu C_47 Tryz.f66 [.v (.pair .int (.pair .int (.slice (.pair (.slice .int) (.pair .int (.slice (.slice .int)))))))] [.v .bool] a (fun o r=>some (N_47 o r)):=by
 kernel_rfl
theorem W_47:X0 D_47= [B_47L4]:=by kernel_rfl
theorem R_47L4:Y8 B_47L4=4:=by kernel_rfl
theorem Q_47 : Tryz.prog.funcs[66]? = some Tryz.f66 ∧ (Tryz.f66.name == "runtime.NumGoroutine") = false ∧ Tryz.f66.body = some D_47 := ⟨Tryz.func66, by kernel_rfl, by kernel_rfl⟩
theorem H_47:Holds Tryz.prog 66 E_47:=
 Yhw (cx:=C_47) (YhE tabT rfl).1 (Ygf ⟨⟨H_8,_,_,Q_8⟩,⟨⟨H_46,_,_,Q_46⟩,trivial⟩⟩) mixT Q_47.1 Q_47.2.2 (Yhz W_47 ⟨YhF (cx:=C_47) (L:=S_47L4 Aa) rfl (by rw[R_47L4];rfl) ⟨CH,fun _=>rfl,fun n x=>K_47L4 n x,Aa,fun _=>rfl⟩,trivial⟩) (enc:=N_47) (fun _ _=>⟨rfl,rfl⟩) F_47
theorem K_48L3 (n:Nat) (x):Ca (n+1) x=YfX C_48 B_48L3 (S_48L3 Aa) x (Ca n):=by
 obtain⟨_,_,_⟩:=x
 kernel_rfl
theorem F_48 (a:YG [.v .int]):E_48.run a=Yhu C_48 Tryz.f98 [.v .int] [.mv .int 0] a (fun o r=>some (N_48 o r)):=by
 kernel_rfl
theorem W_48:X0 D_48= [B_48L3]:=by kernel_rfl
theorem R_48L3:Y8 B_48L3=3:=by kernel_rfl
theorem Q_48 : Tryz.prog.funcs[98]? = some Tryz.f98 ∧ (Tryz.f98.name == "runtime.NumGoroutine") = false ∧ Tryz.f98.body = some D_48 := ⟨Tryz.func98, by kernel_rfl, by kernel_rfl⟩
theorem H_48:Holds Tryz.prog 98 E_48:=
 Yhw (cx:=C_48) (YhE tabT rfl).1 (Ygf trivial) mixT Q_48.1 Q_48.2.2 (Yhz W_48 ⟨YhF (cx:=C_48) (L:=S_48L3 Aa) rfl (by rw[R_48L3];rfl) ⟨Ca,fun _=>rfl,fun n x=>K_48L3 n x,Aa,fun _=>rfl⟩,trivial⟩) (enc:=N_48) (fun _ _=>⟨rfl,rfl⟩) F_48
theorem K_49L7 (n:Nat) (x):Ce (n+1) x=YfX C_49 B_49L7 (S_49L7 Aa) x (Ce n):=by
 obtain⟨_,_,_,_,_⟩:=x
 kernel_rfl
theorem K_49L3 (n:Nat) (x):Cd (n+1) x=YfX C_49 B_49L3 (S_49L3 Aa) x (Cd n):=by
 obtain⟨_,_,_⟩:=x
 kernel_rfl
theorem F_49 (a:YG [.v .int,.v (.slice (.pair (.slice .int) (.pair .int (.slice (.slice .int)))))]):E_49.run a=Yhu C_49 Tryz.f183 [.v .int,.v (.slice (.pair (.slice .int) (.pair .int (.slice (.slice .int)))))] [.mv (.slice (.pair (.slice .int) (.pair .int (.slice (.slice .int))))) 1] a (fun o r=>some (N_49 o r)):=by
 kernel_rfl
theorem W_49:X0 D_49= [B_49L3,B_49L7]:=by kernel_rfl
theorem R_49L7:Y8 B_49L7=7:=by kernel_rfl
theorem R_49L3:Y8 B_49L3=3:=by kernel_rfl
theorem Q_49 : Tryz.prog.funcs[183]? = some Tryz.f183 ∧ (Tryz.f183.name == "runtime.NumGoroutine") = false ∧ Tryz.f183.body = some D_49 := ⟨Tryz.func183, by kernel_rfl, by kernel_rfl⟩
theorem H_49:Holds Tryz.prog 183 E_49:=
 Yhw (cx:=C_49) (YhE tabT rfl).1 (Ygf ⟨⟨H_22,_,_,Q_22⟩,trivial⟩) mixT Q_49.1 Q_49.2.2 (Yhz W_49 ⟨YhF (cx:=C_49) (L:=S_49L3 Aa) rfl (by rw[R_49L3];rfl) ⟨Cd,fun _=>rfl,fun n x=>K_49L3 n x,Aa,fun _=>rfl⟩,⟨YhF (cx:=C_49) (L:=S_49L7 Aa) rfl (by rw[R_49L7];rfl) ⟨Ce,fun _=>rfl,fun n x=>K_49L7 n x,Aa,fun _=>rfl⟩,trivial⟩⟩) (enc:=N_49) (fun _ _=>⟨rfl,rfl⟩) F_49
theorem F_50 (a:YG [.v (.pair .int (.slice (.slice .int))),.v (.slice .int)]):E_50.run a=Yhu C_50 Tryz.f239 [.v (.pair .int (.slice (.slice .int))),.v (.slice .int)] [.v .bool] a (fun o r=>some (N_50 o r)):=by
 kernel_rfl
theorem W_50:X0 D_50= []:=by kernel_rfl
theorem Q_50 : Tryz.prog.funcs[239]? = some Tryz.f239 ∧ (Tryz.f239.name == "runtime.NumGoroutine") = false ∧ Tryz.f239.body = some D_50 := ⟨Tryz.func239, by kernel_rfl, by kernel_rfl⟩
theorem H_50:Holds Tryz.prog 239 E_50:=
 Yhw (cx:=C_50) (YhE tabT rfl).1 (Ygf ⟨⟨H_12,_,_,Q_12⟩,trivial⟩) mixT Q_50.1 Q_50.2.2 (Yhz W_50 trivial) (enc:=N_50) (fun _ _=>⟨rfl,rfl⟩) F_50
theorem K_51L3 (n:Nat) (x):BI (n+1) x=YfX C_51 B_51L3 (S_51L3 Aa) x (BI n):=by
 obtain⟨_,_,_,_⟩:=x
 kernel_rfl
theorem F_51 (a:YG [.v (.pair (.slice .int) (.pair .int (.slice (.slice .int)))),.v (.slice .int)]):E_51.run a=Yhu C_51 Tryz.f226 [.v (.pair (.slice .int) (.pair .int (.slice (.slice .int)))),.v (.slice .int)] [.v .bool] a (fun o r=>some (N_51 o r)):=by
 kernel_rfl
theorem W_51:X0 D_51= [B_51L3]:=by kernel_rfl
theorem R_51L3:Y8 B_51L3=3:=by kernel_rfl
theorem Q_51 : Tryz.prog.funcs[226]? = some Tryz.f226 ∧ (Tryz.f226.name == "runtime.NumGoroutine") = false ∧ Tryz.f226.body = some D_51 := ⟨Tryz.func226, by kernel_rfl, by kernel_rfl⟩
theorem H_51:Holds Tryz.prog 226 E_51:=
 Yhw (cx:=C_51) (YhE tabT rfl).1 (Ygf ⟨⟨H_50,_,_,Q_50⟩,trivial⟩) mixT Q_51.1 Q_51.2.2 (Yhz W_51 ⟨YhF (cx:=C_51) (L:=S_51L3 Aa) rfl (by rw[R_51L3];rfl) ⟨BI,fun _=>rfl,fun n x=>K_51L3 n x,Aa,fun _=>rfl⟩,trivial⟩) (enc:=N_51) (fun _ _=>⟨rfl,rfl⟩) F_51
theorem K_52L14 (rec:(Int×(List (List ((List Int)×Int×(List (List Int)))))×(List Int)×(List Int)×((List (List Int))×(Int×Int×Bool)))→Option (((List (List Int))×(Int×Int×Bool)))) (n:Nat) (x):AI rec (n+1) x=YfX (C_52 rec) B_52L14 (S_52L14 rec Aa) x (AI rec n):=by
 obtain⟨_,_,_,_,_,_,_,_,_,_,_⟩:=x
 kernel_rfl
theorem K_52L8 (rec:(Int×(List (List ((List Int)×Int×(List (List Int)))))×(List Int)×(List Int)×((List (List Int))×(Int×Int×Bool)))→Option (((List (List Int))×(Int×Int×Bool)))) (n:Nat) (x):Ao rec (n+1) x=YfX (C_52 rec) B_52L8 (S_52L8 rec Aa) x (Ao rec n):=by
 obtain⟨_,_,_,_,_,_,_,_⟩:=x
 kernel_rfl
theorem F_52 (rec:(Int×(List (List ((List Int)×Int×(List (List Int)))))×(List Int)×(List Int)×((List (List Int))×(Int×Int×Bool)))→Option (((List (List Int))×(Int×Int×Bool)))) (a:YG [.v .int,.v (.slice (.slice (.pair (.slice .int) (.pair .int (.slice (.slice .int)))))),.v (.slice .int),.v (.slice .int),.pr (.mv (.slice .int) 1) (.v (.pair .int (.pair .int .bool)))]):DS rec a.1 a.2.1 a.2.2.1 a.2.2.2.1 a.2.2.2.2=Yhu (C_52 rec) Tryz.f182 [.v .int,.v (.slice (.slice (.pair (.slice .int) (.pair .int (.slice (.slice .int)))))),.v (.slice .int),.v (.slice .int),.pr (.mv (.slice .int) 1) (.v (.pair .int (.pair .int .bool)))] [.pr (.mv (.slice .int) 1) (.v (.pair .int (.pair .int .bool)))] a (fun o r=>some (N_52 o r)):=by
 kernel_rfl
theorem W_52:X0 D_52= [B_52L8,B_52L14]:=by kernel_rfl
theorem R_52L14:Y8 B_52L14=14:=by kernel_rfl
theorem R_52L8:Y8 B_52L8=8:=by kernel_rfl
theorem Q_52 : Tryz.prog.funcs[182]? = some Tryz.f182 ∧ (Tryz.f182.name == "runtime.NumGoroutine") = false ∧ Tryz.f182.body = some D_52 := ⟨Tryz.func182, by kernel_rfl, by kernel_rfl⟩
theorem H_52: ∀d,Holds Tryz.prog 182 (E_52 d)
 |0=>fun _ b h=>absurd (show(none:Option _)=some b from h) (by simp)
 |d+1=>Yhw (en:=E_52 (d+1)) (cx:=(C_52 (Av d))) (YhE tabT rfl).1 (Ygf ⟨⟨H_6,_,_,Q_6⟩,⟨⟨H_52 d,_,_,Q_52⟩,⟨⟨H_51,_,_,Q_51⟩,trivial⟩⟩⟩) mixT Q_52.1 Q_52.2.2 (Yhz W_52 ⟨YhF (cx:=(C_52 (Av d))) (L:=S_52L8 (Av d) Aa) rfl (by rw[R_52L8];rfl) ⟨Ao (Av d),fun _=>rfl,fun n x=>K_52L8 (Av d) n x,Aa,fun _=>rfl⟩,⟨YhF (cx:=(C_52 (Av d))) (L:=S_52L14 (Av d) Aa) rfl (by rw[R_52L14];rfl) ⟨AI (Av d),fun _=>rfl,fun n x=>K_52L14 (Av d) n x,Aa,fun _=>rfl⟩,trivial⟩⟩) (enc:=N_52) (fun _ _=>⟨rfl,rfl⟩) (F_52 (Av d)) rfl
theorem F_53 (a:YG [.v (.pair .int (.pair .int (.slice (.pair (.slice .int) (.pair .int (.slice (.slice .int))))))),.v (.slice (.pair (.slice .int) (.pair .int (.slice (.slice .int))))),.v (.slice .int),.v .int,.v .bool]):E_53.run a=Yhu C_53 Tryz.f97 [.v (.pair .int (.pair .int (.slice (.pair (.slice .int) (.pair .int (.slice (.slice .int))))))),.v (.slice (.pair (.slice .int) (.pair .int (.slice (.slice .int))))),.v (.slice .int),.v .int,.v .bool] [.pr (.mv (.slice .int) 1) (.v (.pair .int (.pair .int .bool)))] a (fun o r=>some (N_53 o r)):=by
 kernel_rfl
theorem W_53:X0 D_53= []:=by kernel_rfl
theorem Q_53 : Tryz.prog.funcs[97]? = some Tryz.f97 ∧ (Tryz.f97.name == "runtime.NumGoroutine") = false ∧ Tryz.f97.body = some D_53 := ⟨Tryz.func97, by kernel_rfl, by kernel_rfl⟩
theorem H_53:Holds Tryz.prog 97 E_53:=
 Yhw (cx:=C_53) (YhE tabT rfl).1 (Ygf ⟨⟨H_52 Aa,_,_,Q_52⟩,⟨⟨H_49,_,_,Q_49⟩,trivial⟩⟩) mixT Q_53.1 Q_53.2.2 (Yhz W_53 trivial) (enc:=N_53) (fun _ _=>⟨rfl,rfl⟩) F_53
theorem F_54 (a:YG [.v (.pair .int (.pair .int (.slice (.pair (.slice .int) (.pair .int (.slice (.slice .int)))))))]):E_54.run a=Yhu C_54 Tryz.f26 [.v (.pair .int (.pair .int (.slice (.pair (.slice .int) (.pair .int (.slice (.slice .int)))))))] [.mv (.slice .int) 1,.v .bool] a (fun o r=>some (N_54 o r)):=by
 kernel_rfl
theorem W_54:X0 D_54= []:=by kernel_rfl
theorem Q_54 : Tryz.prog.funcs[26]? = some Tryz.f26 ∧ (Tryz.f26.name == "runtime.NumGoroutine") = false ∧ Tryz.f26.body = some D_54 := ⟨Tryz.func26, by kernel_rfl, by kernel_rfl⟩
theorem H_54:Holds Tryz.prog 26 E_54:=
 Yhw (cx:=C_54) (YhE tabT rfl).1 (Ygf ⟨⟨H_47,_,_,Q_47⟩,⟨⟨H_53,_,_,Q_53⟩,⟨⟨H_48,_,_,Q_48⟩,trivial⟩⟩⟩) mixT Q_54.1 Q_54.2.2 (Yhz W_54 trivial) (enc:=N_54) (fun _ _=>⟨rfl,rfl⟩) F_54
theorem K_55L4 (n:Nat) (x):CK (n+1) x=YfX C_55 B_55L4 (S_55L4 Aa) x (CK n):=by
 obtain⟨_,_,_⟩:=x
 kernel_rfl
theorem F_55 (a:YG [.v (.slice .int),.v (.slice .int)]):E_55.run a=Yhu C_55 Tryz.f11 [.v (.slice .int),.v (.slice .int)] [.v .bool] a (fun o r=>some (N_55 o r)):=by
 kernel_rfl
theorem W_55:X0 D_55= [B_55L4]:=by kernel_rfl
theorem R_55L4:Y8 B_55L4=4:=by kernel_rfl
theorem Q_55 : Tryz.prog.funcs[11]? = some Tryz.f11 ∧ (Tryz.f11.name == "runtime.NumGoroutine") = false ∧ Tryz.f11.body = some D_55 := ⟨Tryz.func11, by kernel_rfl, by kernel_rfl⟩
theorem H_55:Holds Tryz.prog 11 E_55:=
 Yhw (cx:=C_55) (YhE tabT rfl).1 (Ygf trivial) mixT Q_55.1 Q_55.2.2 (Yhz W_55 ⟨YhF (cx:=C_55) (L:=S_55L4 Aa) rfl (by rw[R_55L4];rfl) ⟨CK,fun _=>rfl,fun n x=>K_55L4 n x,Aa,fun _=>rfl⟩,trivial⟩) (enc:=N_55) (fun _ _=>⟨rfl,rfl⟩) F_55
theorem K_56L4 (n:Nat) (x):Cu (n+1) x=YfX C_56 B_56L4 (S_56L4 Aa) x (Cu n):=by
 obtain⟨_,_,_⟩:=x
 kernel_rfl
theorem F_56 (a:YG [.v (.slice (.slice .int)),.v (.slice (.slice .int))]):E_56.run a=Yhu C_56 Tryz.f12 [.v (.slice (.slice .int)),.v (.slice (.slice .int))] [.v .bool] a (fun o r=>some (N_56 o r)):=by
 kernel_rfl
theorem W_56:X0 D_56= [B_56L4]:=by kernel_rfl
theorem R_56L4:Y8 B_56L4=4:=by kernel_rfl
theorem Q_56 : Tryz.prog.funcs[12]? = some Tryz.f12 ∧ (Tryz.f12.name == "runtime.NumGoroutine") = false ∧ Tryz.f12.body = some D_56 := ⟨Tryz.func12, by kernel_rfl, by kernel_rfl⟩
theorem H_56:Holds Tryz.prog 12 E_56:=
 Yhw (cx:=C_56) (YhE tabT rfl).1 (Ygf ⟨⟨H_55,_,_,Q_55⟩,trivial⟩) mixT Q_56.1 Q_56.2.2 (Yhz W_56 ⟨YhF (cx:=C_56) (L:=S_56L4 Aa) rfl (by rw[R_56L4];rfl) ⟨Cu,fun _=>rfl,fun n x=>K_56L4 n x,Aa,fun _=>rfl⟩,trivial⟩) (enc:=N_56) (fun _ _=>⟨rfl,rfl⟩) F_56
theorem K_57L4 (n:Nat) (x):B4 (n+1) x=YfX C_57 B_57L4 (S_57L4 Aa) x (B4 n):=by
 obtain⟨_,_,_,_⟩:=x
 kernel_rfl
theorem F_57 (a:YG [.v .int,.v (.slice (.pair .int (.slice (.slice .int))))]):E_57.run a=Yhu C_57 Tryz.f161 [.v .int,.v (.slice (.pair .int (.slice (.slice .int))))] [.v .bool] a (fun o r=>some (N_57 o r)):=by
 kernel_rfl
theorem W_57:X0 D_57= [B_57L4]:=by kernel_rfl
theorem R_57L4:Y8 B_57L4=4:=by kernel_rfl
theorem Q_57 : Tryz.prog.funcs[161]? = some Tryz.f161 ∧ (Tryz.f161.name == "runtime.NumGoroutine") = false ∧ Tryz.f161.body = some D_57 := ⟨Tryz.func161, by kernel_rfl, by kernel_rfl⟩
theorem H_57:Holds Tryz.prog 161 E_57:=
 Yhw (cx:=C_57) (YhE tabT rfl).1 (Ygf ⟨⟨H_29,_,_,Q_29⟩,trivial⟩) mixT Q_57.1 Q_57.2.2 (Yhz W_57 ⟨YhF (cx:=C_57) (L:=S_57L4 Aa) rfl (by rw[R_57L4];rfl) ⟨B4,fun _=>rfl,fun n x=>K_57L4 n x,Aa,fun _=>rfl⟩,trivial⟩) (enc:=N_57) (fun _ _=>⟨rfl,rfl⟩) F_57
theorem K_58L4 (n:Nat) (x):Cr (n+1) x=YfX C_58 B_58L4 (S_58L4 Aa) x (Cr n):=by
 obtain⟨_,_,_,_⟩:=x
 kernel_rfl
theorem F_58 (a:YG [.v .int,.v (.slice (.pair .int (.slice (.slice .int)))),.v .int]):E_58.run a=Yhu C_58 Tryz.f72 [.v .int,.v (.slice (.pair .int (.slice (.slice .int)))),.v .int] [.v .bool] a (fun o r=>some (N_58 o r)):=by
 kernel_rfl
theorem W_58:X0 D_58= [B_58L4]:=by kernel_rfl
theorem R_58L4:Y8 B_58L4=4:=by kernel_rfl
theorem Q_58 : Tryz.prog.funcs[72]? = some Tryz.f72 ∧ (Tryz.f72.name == "runtime.NumGoroutine") = false ∧ Tryz.f72.body = some D_58 := ⟨Tryz.func72, by kernel_rfl, by kernel_rfl⟩
theorem H_58:Holds Tryz.prog 72 E_58:=
 Yhw (cx:=C_58) (YhE tabT rfl).1 (Ygf ⟨⟨H_26,_,_,Q_26⟩,⟨⟨H_57,_,_,Q_57⟩,trivial⟩⟩) mixT Q_58.1 Q_58.2.2 (Yhz W_58 ⟨YhF (cx:=C_58) (L:=S_58L4 Aa) rfl (by rw[R_58L4];rfl) ⟨Cr,fun _=>rfl,fun n x=>K_58L4 n x,Aa,fun _=>rfl⟩,trivial⟩) (enc:=N_58) (fun _ _=>⟨rfl,rfl⟩) F_58
theorem K_59L2 (n:Nat) (x):Cm (n+1) x=YfX C_59 B_59L2 (S_59L2 Aa) x (Cm n):=by
 obtain⟨_,_,_⟩:=x
 kernel_rfl
theorem F_59 (a:YG [.v .int,.v .int]):E_59.run a=Yhu C_59 Tryz.f102 [.v .int,.v .int] [.v .int] a (fun o r=>some (N_59 o r)):=by
 kernel_rfl
theorem W_59:X0 D_59= [B_59L2]:=by kernel_rfl
theorem R_59L2:Y8 B_59L2=2:=by kernel_rfl
theorem Q_59 : Tryz.prog.funcs[102]? = some Tryz.f102 ∧ (Tryz.f102.name == "runtime.NumGoroutine") = false ∧ Tryz.f102.body = some D_59 := ⟨Tryz.func102, by kernel_rfl, by kernel_rfl⟩
theorem H_59:Holds Tryz.prog 102 E_59:=
 Yhw (cx:=C_59) (YhE tabT rfl).1 (Ygf trivial) mixT Q_59.1 Q_59.2.2 (Yhz W_59 ⟨YhF (cx:=C_59) (L:=S_59L2 Aa) rfl (by rw[R_59L2];rfl) ⟨Cm,fun _=>rfl,fun n x=>K_59L2 n x,Aa,fun _=>rfl⟩,trivial⟩) (enc:=N_59) (fun _ _=>⟨rfl,rfl⟩) F_59
theorem F_60 (a:YG [.v .int,.v .int]):E_60.run a=Yhu C_60 Tryz.f99 [.v .int,.v .int] [.v .bool] a (fun o r=>some (N_60 o r)):=by
 kernel_rfl
theorem W_60:X0 D_60= []:=by kernel_rfl
theorem Q_60 : Tryz.prog.funcs[99]? = some Tryz.f99 ∧ (Tryz.f99.name == "runtime.NumGoroutine") = false ∧ Tryz.f99.body = some D_60 := ⟨Tryz.func99, by kernel_rfl, by kernel_rfl⟩
theorem H_60:Holds Tryz.prog 99 E_60:=
 Yhw (cx:=C_60) (YhE tabT rfl).1 (Ygf ⟨⟨H_59,_,_,Q_59⟩,trivial⟩) mixT Q_60.1 Q_60.2.2 (Yhz W_60 trivial) (enc:=N_60) (fun _ _=>⟨rfl,rfl⟩) F_60
theorem K_61L3 (n:Nat) (x):CS (n+1) x=YfX C_61 B_61L3 (S_61L3 Aa) x (CS n):=by
 obtain⟨_,_,_,_⟩:=x
 kernel_rfl
theorem F_61 (a:YG [.v .int,.v .int,.v .int]):E_61.run a=Yhu C_61 Tryz.f116 [.v .int,.v .int,.v .int] [.mv .int 0] a (fun o r=>some (N_61 o r)):=by
 kernel_rfl
theorem W_61:X0 D_61= [B_61L3]:=by kernel_rfl
theorem R_61L3:Y8 B_61L3=3:=by kernel_rfl
theorem Q_61 : Tryz.prog.funcs[116]? = some Tryz.f116 ∧ (Tryz.f116.name == "runtime.NumGoroutine") = false ∧ Tryz.f116.body = some D_61 := ⟨Tryz.func116, by kernel_rfl, by kernel_rfl⟩
theorem H_61:Holds Tryz.prog 116 E_61:=
 Yhw (cx:=C_61) (YhE tabT rfl).1 (Ygf trivial) mixT Q_61.1 Q_61.2.2 (Yhz W_61 ⟨YhF (cx:=C_61) (L:=S_61L3 Aa) rfl (by rw[R_61L3];rfl) ⟨CS,fun _=>rfl,fun n x=>K_61L3 n x,Aa,fun _=>rfl⟩,trivial⟩) (enc:=N_61) (fun _ _=>⟨rfl,rfl⟩) F_61
theorem K_62L17 (n:Nat) (x):Ba (n+1) x=YfX C_62 B_62L17 (S_62L17 Aa) x (Ba n):=by
 obtain⟨_,_,_,_,_,_,_,_,_,_,_,_,_,_,_,_,_,_,_⟩:=x
 kernel_rfl
theorem K_62L14 (n:Nat) (x):A9 (n+1) x=YfX C_62 B_62L14 (S_62L14 Aa) x (A9 n):=by
 obtain⟨_,_,_,_,_,_,_,_,_,_,_,_,_,_,_⟩:=x
 kernel_rfl
theorem K_62L8 (n:Nat) (x):AU (n+1) x=YfX C_62 B_62L8 (S_62L8 Aa) x (AU n):=by
 obtain⟨_,_,_,_,_,_,_,_,_,_⟩:=x
 kernel_rfl
theorem K_62L3 (n:Nat) (x):Bk (n+1) x=YfX C_62 B_62L3 (S_62L3 Aa) x (Bk n):=by
 obtain⟨_,_,_,_,_,_⟩:=x
 kernel_rfl
theorem F_62 (a:YG [.v .int,.v (.slice (.pair .int (.slice (.slice .int)))),.v .int]):E_62.run a=Yhu C_62 Tryz.f162 [.v .int,.v (.slice (.pair .int (.slice (.slice .int)))),.v .int] [.v (.ptr (.pair .int (.pair .int (.slice (.slice (.pair (.slice .int) .smap))))))] a (fun o r=>some (N_62 o r)):=by
 kernel_rfl
theorem W_62:X0 D_62= [B_62L3,B_62L8,B_62L14,B_62L17]:=by kernel_rfl
theorem R_62L17:Y8 B_62L17=17:=by kernel_rfl
theorem R_62L14:Y8 B_62L14=14:=by kernel_rfl
theorem R_62L8:Y8 B_62L8=8:=by kernel_rfl
theorem R_62L3:Y8 B_62L3=3:=by kernel_rfl
theorem Q_62 : Tryz.prog.funcs[162]? = some Tryz.f162 ∧ (Tryz.f162.name == "runtime.NumGoroutine") = false ∧ Tryz.f162.body = some D_62 := ⟨Tryz.func162, by kernel_rfl, by kernel_rfl⟩
theorem H_62:Holds Tryz.prog 162 E_62:=
 Yhw (cx:=C_62) (YhE tabT rfl).1 (Ygf ⟨⟨H_59,_,_,Q_59⟩,⟨⟨H_61,_,_,Q_61⟩,⟨⟨H_33,_,_,Q_33⟩,⟨⟨H_32,_,_,Q_32⟩,trivial⟩⟩⟩⟩) mixT Q_62.1 Q_62.2.2 (Yhz W_62 ⟨YhF (cx:=C_62) (L:=S_62L3 Aa) rfl (by rw[R_62L3];rfl) ⟨Bk,fun _=>rfl,fun n x=>K_62L3 n x,Aa,fun _=>rfl⟩,⟨YhF (cx:=C_62) (L:=S_62L8 Aa) rfl (by rw[R_62L8];rfl) ⟨AU,fun _=>rfl,fun n x=>K_62L8 n x,Aa,fun _=>rfl⟩,⟨YhF (cx:=C_62) (L:=S_62L14 Aa) rfl (by rw[R_62L14];rfl) ⟨A9,fun _=>rfl,fun n x=>K_62L14 n x,Aa,fun _=>rfl⟩,⟨YhF (cx:=C_62) (L:=S_62L17 Aa) rfl (by rw[R_62L17];rfl) ⟨Ba,fun _=>rfl,fun n x=>K_62L17 n x,Aa,fun _=>rfl⟩,trivial⟩⟩⟩⟩) (enc:=N_62) (fun _ _=>⟨rfl,rfl⟩) F_62
theorem F_63 (a:YG [.v (.slice .int),.bx (.mv (.pair .int (.slice .int)) 1),.bx (.v .int)]):E_63.run a=Yhu C_63 Tryz.f184 [.v (.slice .int),.bx (.mv (.pair .int (.slice .int)) 1),.bx (.v .int)] [.v .bool] a (fun o r=>some (N_63 o r)):=by
 kernel_rfl
theorem W_63:X0 D_63= []:=by kernel_rfl
theorem Q_63 : Tryz.prog.funcs[184]? = some Tryz.f184 ∧ (Tryz.f184.name == "runtime.NumGoroutine") = false ∧ Tryz.f184.body = some D_63 := ⟨Tryz.func184, by kernel_rfl, by kernel_rfl⟩
theorem H_63:Holds Tryz.prog 184 E_63:=
 Yhw (cx:=C_63) (YhE tabT rfl).1 (Ygf ⟨⟨H_36,_,_,Q_36⟩,trivial⟩) mixT Q_63.1 Q_63.2.2 (Yhz W_63 trivial) (enc:=N_63) (fun _ _=>⟨rfl,rfl⟩) F_63
theorem K_64L2 (n:Nat) (x):AJ (n+1) x=YfX C_64 B_64L2 (S_64L2 Aa) x (AJ n):=by
 obtain⟨_,_,_,_⟩:=x
 kernel_rfl
theorem F_64 (a:YG [.v (.ptr (.pair .int (.pair .int (.slice (.slice (.pair (.slice .int) .smap)))))),.v (.slice .int),.v .int]):E_64.run a=Yhu C_64 Tryz.f218 [.v (.ptr (.pair .int (.pair .int (.slice (.slice (.pair (.slice .int) .smap)))))),.v (.slice .int),.v .int] [.v .bool] a (fun o r=>some (N_64 o r)):=by
 kernel_rfl
theorem W_64:X0 D_64= [B_64L2]:=by kernel_rfl
theorem R_64L2:Y8 B_64L2=2:=by kernel_rfl
theorem Q_64 : Tryz.prog.funcs[218]? = some Tryz.f218 ∧ (Tryz.f218.name == "runtime.NumGoroutine") = false ∧ Tryz.f218.body = some D_64 := ⟨Tryz.func218, by kernel_rfl, by kernel_rfl⟩
theorem H_64:Holds Tryz.prog 218 E_64:=
 Yhw (cx:=C_64) (YhE tabT rfl).1 (Ygf ⟨⟨H_38,_,_,Q_38⟩,⟨⟨H_32,_,_,Q_32⟩,trivial⟩⟩) mixT Q_64.1 Q_64.2.2 (Yhz W_64 ⟨YhF (cx:=C_64) (L:=S_64L2 Aa) rfl (by rw[R_64L2];rfl) ⟨AJ,fun _=>rfl,fun n x=>K_64L2 n x,Aa,fun _=>rfl⟩,trivial⟩) (enc:=N_64) (fun _ _=>⟨rfl,rfl⟩) F_64
theorem K_65L4 (rec:(Int×(List Int)×((List (Int×(List Int)))×Int)×(Bool×Int×Int×(List (List ((List Int)×(List ByteArray)))))×(List Int)×Unit)→Option ((List Int)×((List (Int×(List Int)))×Int)×(Bool×Int×Int×(List (List ((List Int)×(List ByteArray)))))×(List Int)×Bool)) (n:Nat) (x):Ah rec (n+1) x=YfX (C_65 rec) B_65L4 (S_65L4 rec Aa) x (Ah rec n):=by
 obtain⟨_,_,_,_,_,_,_⟩:=x
 kernel_rfl
theorem F_65 (rec:(Int×(List Int)×((List (Int×(List Int)))×Int)×(Bool×Int×Int×(List (List ((List Int)×(List ByteArray)))))×(List Int)×Unit)→Option ((List Int)×((List (Int×(List Int)))×Int)×(Bool×Int×Int×(List (List ((List Int)×(List ByteArray)))))×(List Int)×Bool)) (a:YG [.v .int,.bx (.mv .int 0),.pr (.bx (.mv (.pair .int (.slice .int)) 1)) (.bx (.v .int)),.bx (.v (.ptr (.pair .int (.pair .int (.slice (.slice (.pair (.slice .int) .smap))))))),.bx (.v (.slice .int)),.jk 1]):Bl rec a.1 a.2.1 a.2.2.1 a.2.2.2.1 a.2.2.2.2.1 a.2.2.2.2.2=Yhu (C_65 rec) Tryz.f217 [.v .int,.bx (.mv .int 0),.pr (.bx (.mv (.pair .int (.slice .int)) 1)) (.bx (.v .int)),.bx (.v (.ptr (.pair .int (.pair .int (.slice (.slice (.pair (.slice .int) .smap))))))),.bx (.v (.slice .int)),.jk 1] [.v .bool] a (fun o r=>some (N_65 o r)):=by
 kernel_rfl
theorem W_65:X0 D_65= [B_65L4]:=by kernel_rfl
theorem R_65L4:Y8 B_65L4=4:=by kernel_rfl
theorem Q_65 : Tryz.prog.funcs[217]? = some Tryz.f217 ∧ (Tryz.f217.name == "runtime.NumGoroutine") = false ∧ Tryz.f217.body = some D_65 := ⟨Tryz.func217, by kernel_rfl, by kernel_rfl⟩
theorem H_65: ∀d,Holds Tryz.prog 217 (E_65 d)
 |0=>fun _ b h=>absurd (show(none:Option _)=some b from h) (by simp)
 |d+1=>Yhw (en:=E_65 (d+1)) (cx:=(C_65 (Ar d))) (YhE tabT rfl).1 (Ygf ⟨⟨H_63,_,_,Q_63⟩,⟨⟨H_64,_,_,Q_64⟩,⟨⟨H_65 d,_,_,Q_65⟩,trivial⟩⟩⟩) mixT Q_65.1 Q_65.2.2 (Yhz W_65 ⟨YhF (cx:=(C_65 (Ar d))) (L:=S_65L4 (Ar d) Aa) rfl (by rw[R_65L4];rfl) ⟨Ah (Ar d),fun _=>rfl,fun n x=>K_65L4 (Ar d) n x,Aa,fun _=>rfl⟩,trivial⟩) (enc:=N_65) (fun _ _=>⟨rfl,rfl⟩) (F_65 (Ar d)) rfl
theorem F_66 (a:YG [.v (.ptr (.pair .int (.pair .int (.slice (.slice (.pair (.slice .int) .smap)))))),.v (.slice .int),.pr (.bx (.mv (.pair .int (.slice .int)) 1)) (.bx (.v .int))]):E_66.run a=Yhu C_66 Tryz.f163 [.v (.ptr (.pair .int (.pair .int (.slice (.slice (.pair (.slice .int) .smap)))))),.v (.slice .int),.pr (.bx (.mv (.pair .int (.slice .int)) 1)) (.bx (.v .int))] [] a (fun o r=>some (N_66 o r)):=by
 kernel_rfl
theorem W_66:X0 D_66= []:=by kernel_rfl
theorem Q_66 : Tryz.prog.funcs[163]? = some Tryz.f163 ∧ (Tryz.f163.name == "runtime.NumGoroutine") = false ∧ Tryz.f163.body = some D_66 := ⟨Tryz.func163, by kernel_rfl, by kernel_rfl⟩
theorem H_66:Holds Tryz.prog 163 E_66:=
 Yhw (cx:=C_66) (YhE tabT rfl).1 (Ygf ⟨⟨H_65 Aa,_,_,Q_65⟩,trivial⟩) mixT Q_66.1 Q_66.2.2 (Yhz W_66 trivial) (enc:=N_66) (fun _ _=>⟨rfl,rfl⟩) F_66
theorem F_67 (a:YG [.v .int,.v (.slice (.pair .int (.slice (.slice .int)))),.v .int,.v (.slice .int)]):E_67.run a=Yhu C_67 Tryz.f100 [.v .int,.v (.slice (.pair .int (.slice (.slice .int)))),.v .int,.v (.slice .int)] [.mv (.pair .int (.slice .int)) 1,.v .bool] a (fun o r=>some (N_67 o r)):=by
 kernel_rfl
theorem W_67:X0 D_67= []:=by kernel_rfl
theorem Q_67 : Tryz.prog.funcs[100]? = some Tryz.f100 ∧ (Tryz.f100.name == "runtime.NumGoroutine") = false ∧ Tryz.f100.body = some D_67 := ⟨Tryz.func100, by kernel_rfl, by kernel_rfl⟩
theorem H_67:Holds Tryz.prog 100 E_67:=
 Yhw (cx:=C_67) (YhE tabT rfl).1 (Ygf ⟨⟨H_62,_,_,Q_62⟩,⟨⟨H_66,_,_,Q_66⟩,trivial⟩⟩) mixT Q_67.1 Q_67.2.2 (Yhz W_67 trivial) (enc:=N_67) (fun _ _=>⟨rfl,rfl⟩) F_67
theorem F_68 (a:YG [.v .int,.v (.slice (.pair .int (.slice (.slice .int)))),.v .int]):E_68.run a=Yhu C_68 Tryz.f27 [.v .int,.v (.slice (.pair .int (.slice (.slice .int)))),.v .int] [.mv (.pair .int (.slice .int)) 1,.v .bool] a (fun o r=>some (N_68 o r)):=by
 kernel_rfl
theorem W_68:X0 D_68= []:=by kernel_rfl
theorem Q_68 : Tryz.prog.funcs[27]? = some Tryz.f27 ∧ (Tryz.f27.name == "runtime.NumGoroutine") = false ∧ Tryz.f27.body = some D_68 := ⟨Tryz.func27, by kernel_rfl, by kernel_rfl⟩
theorem H_68:Holds Tryz.prog 27 E_68:=
 Yhw (cx:=C_68) (YhE tabT rfl).1 (Ygf ⟨⟨H_58,_,_,Q_58⟩,⟨⟨H_60,_,_,Q_60⟩,⟨⟨H_67,_,_,Q_67⟩,⟨⟨H_35,_,_,Q_35⟩,⟨⟨H_59,_,_,Q_59⟩,trivial⟩⟩⟩⟩⟩) mixT Q_68.1 Q_68.2.2 (Yhz W_68 trivial) (enc:=N_68) (fun _ _=>⟨rfl,rfl⟩) F_68
theorem F_69 (a:YG [.v .int]):E_69.run a=Yhu C_69 Tryz.f58 [.v .int] [.v .bool] a (fun o r=>some (N_69 o r)):=by
 kernel_rfl
theorem W_69:X0 D_69= []:=by kernel_rfl
theorem Q_69 : Tryz.prog.funcs[58]? = some Tryz.f58 ∧ (Tryz.f58.name == "runtime.NumGoroutine") = false ∧ Tryz.f58.body = some D_69 := ⟨Tryz.func58, by kernel_rfl, by kernel_rfl⟩
theorem H_69:Holds Tryz.prog 58 E_69:=
 Yhw (cx:=C_69) (YhE tabT rfl).1 (Ygf ⟨⟨H_8,_,_,Q_8⟩,trivial⟩) mixT Q_69.1 Q_69.2.2 (Yhz W_69 trivial) (enc:=N_69) (fun _ _=>⟨rfl,rfl⟩) F_69
theorem K_70L4 (n:Nat) (x):CG (n+1) x=YfX C_70 B_70L4 (S_70L4 Aa) x (CG n):=by
 obtain⟨_,_,_⟩:=x
 kernel_rfl
theorem F_70 (a:YG [.v .int,.v (.slice (.pair .int (.slice (.slice .int))))]):E_70.run a=Yhu C_70 Tryz.f59 [.v .int,.v (.slice (.pair .int (.slice (.slice .int))))] [.v .bool] a (fun o r=>some (N_70 o r)):=by
 kernel_rfl
theorem W_70:X0 D_70= [B_70L4]:=by kernel_rfl
theorem R_70L4:Y8 B_70L4=4:=by kernel_rfl
theorem Q_70 : Tryz.prog.funcs[59]? = some Tryz.f59 ∧ (Tryz.f59.name == "runtime.NumGoroutine") = false ∧ Tryz.f59.body = some D_70 := ⟨Tryz.func59, by kernel_rfl, by kernel_rfl⟩
theorem H_70:Holds Tryz.prog 59 E_70:=
 Yhw (cx:=C_70) (YhE tabT rfl).1 (Ygf ⟨⟨H_45,_,_,Q_45⟩,trivial⟩) mixT Q_70.1 Q_70.2.2 (Yhz W_70 ⟨YhF (cx:=C_70) (L:=S_70L4 Aa) rfl (by rw[R_70L4];rfl) ⟨CG,fun _=>rfl,fun n x=>K_70L4 n x,Aa,fun _=>rfl⟩,trivial⟩) (enc:=N_70) (fun _ _=>⟨rfl,rfl⟩) F_70
theorem K_71L4 (n:Nat) (x):B0 (n+1) x=YfX C_71 B_71L4 (S_71L4 Aa) x (B0 n):=by
 obtain⟨_,_,_⟩:=x
 kernel_rfl
theorem F_71 (a:YG [.v .int,.v (.slice (.pair .int (.slice (.slice .int)))),.v .int]):E_71.run a=Yhu C_71 Tryz.f77 [.v .int,.v (.slice (.pair .int (.slice (.slice .int)))),.v .int] [.v .bool] a (fun o r=>some (N_71 o r)):=by
 kernel_rfl
theorem W_71:X0 D_71= [B_71L4]:=by kernel_rfl
theorem R_71L4:Y8 B_71L4=4:=by kernel_rfl
theorem Q_71 : Tryz.prog.funcs[77]? = some Tryz.f77 ∧ (Tryz.f77.name == "runtime.NumGoroutine") = false ∧ Tryz.f77.body = some D_71 := ⟨Tryz.func77, by kernel_rfl, by kernel_rfl⟩
theorem H_71:Holds Tryz.prog 77 E_71:=
 Yhw (cx:=C_71) (YhE tabT rfl).1 (Ygf ⟨⟨H_69,_,_,Q_69⟩,⟨⟨H_70,_,_,Q_70⟩,⟨⟨H_8,_,_,Q_8⟩,trivial⟩⟩⟩) mixT Q_71.1 Q_71.2.2 (Yhz W_71 ⟨YhF (cx:=C_71) (L:=S_71L4 Aa) rfl (by rw[R_71L4];rfl) ⟨B0,fun _=>rfl,fun n x=>K_71L4 n x,Aa,fun _=>rfl⟩,trivial⟩) (enc:=N_71) (fun _ _=>⟨rfl,rfl⟩) F_71
theorem F_72 (a:YG [.v .int,.v (.slice (.pair .int (.slice (.slice .int)))),.v .int]):E_72.run a=Yhu C_72 Tryz.f103 [.v .int,.v (.slice (.pair .int (.slice (.slice .int)))),.v .int] [.v .bool] a (fun o r=>some (N_72 o r)):=by
 kernel_rfl
theorem W_72:X0 D_72= []:=by kernel_rfl
theorem Q_72 : Tryz.prog.funcs[103]? = some Tryz.f103 ∧ (Tryz.f103.name == "runtime.NumGoroutine") = false ∧ Tryz.f103.body = some D_72 := ⟨Tryz.func103, by kernel_rfl, by kernel_rfl⟩
theorem H_72:Holds Tryz.prog 103 E_72:=
 Yhw (cx:=C_72) (YhE tabT rfl).1 (Ygf ⟨⟨H_71,_,_,Q_71⟩,⟨⟨H_16,_,_,Q_16⟩,trivial⟩⟩) mixT Q_72.1 Q_72.2.2 (Yhz W_72 trivial) (enc:=N_72) (fun _ _=>⟨rfl,rfl⟩) F_72
theorem K_73L3 (n:Nat) (x):BY (n+1) x=YfX C_73 B_73L3 (S_73L3 Aa) x (BY n):=by
 obtain⟨_,_,_,_,_⟩:=x
 kernel_rfl
theorem K_73L21 (n:Nat) (x):BQ (n+1) x=YfX C_73 B_73L21 (S_73L21 Aa) x (BQ n):=by
 obtain⟨_,_,_,_,_,_,_,_,_,_,_,_,_⟩:=x
 kernel_rfl
theorem K_73L17 (n:Nat) (x):BP (n+1) x=YfX C_73 B_73L17 (S_73L17 Aa) x (BP n):=by
 obtain⟨_,_,_,_,_,_,_,_,_,_,_⟩:=x
 kernel_rfl
theorem K_73L11 (n:Nat) (x):BO (n+1) x=YfX C_73 B_73L11 (S_73L11 Aa) x (BO n):=by
 obtain⟨_,_,_,_,_,_,_⟩:=x
 kernel_rfl
theorem K_73L7 (n:Nat) (x):BZ (n+1) x=YfX C_73 B_73L7 (S_73L7 Aa) x (BZ n):=by
 obtain⟨_,_,_,_,_⟩:=x
 kernel_rfl
theorem F_73 (a:YG [.v .int,.v (.slice (.pair .int (.slice (.slice .int)))),.v .int]):E_73.run a=Yhu C_73 Tryz.f169 [.v .int,.v (.slice (.pair .int (.slice (.slice .int)))),.v .int] [.mv (.slice (.pair (.slice .int) (.pair .int (.slice (.slice .int))))) 1] a (fun o r=>some (N_73 o r)):=by
 kernel_rfl
theorem W_73:X0 D_73= [B_73L3,B_73L7,B_73L11,B_73L17,B_73L21]:=by kernel_rfl
theorem R_73L3:Y8 B_73L3=3:=by kernel_rfl
theorem R_73L21:Y8 B_73L21=21:=by kernel_rfl
theorem R_73L17:Y8 B_73L17=17:=by kernel_rfl
theorem R_73L11:Y8 B_73L11=11:=by kernel_rfl
theorem R_73L7:Y8 B_73L7=7:=by kernel_rfl
theorem Q_73 : Tryz.prog.funcs[169]? = some Tryz.f169 ∧ (Tryz.f169.name == "runtime.NumGoroutine") = false ∧ Tryz.f169.body = some D_73 := ⟨Tryz.func169, by kernel_rfl, by kernel_rfl⟩
theorem H_73:Holds Tryz.prog 169 E_73:=
 Yhw (cx:=C_73) (YhE tabT rfl).1 (Ygf ⟨⟨H_16,_,_,Q_16⟩,⟨⟨H_22,_,_,Q_22⟩,⟨⟨H_17,_,_,Q_17⟩,trivial⟩⟩⟩) mixT Q_73.1 Q_73.2.2 (Yhz W_73 ⟨YhF (cx:=C_73) (L:=S_73L3 Aa) rfl (by rw[R_73L3];rfl) ⟨BY,fun _=>rfl,fun n x=>K_73L3 n x,Aa,fun _=>rfl⟩,⟨YhF (cx:=C_73) (L:=S_73L7 Aa) rfl (by rw[R_73L7];rfl) ⟨BZ,fun _=>rfl,fun n x=>K_73L7 n x,Aa,fun _=>rfl⟩,⟨YhF (cx:=C_73) (L:=S_73L11 Aa) rfl (by rw[R_73L11];rfl) ⟨BO,fun _=>rfl,fun n x=>K_73L11 n x,Aa,fun _=>rfl⟩,⟨YhF (cx:=C_73) (L:=S_73L17 Aa) rfl (by rw[R_73L17];rfl) ⟨BP,fun _=>rfl,fun n x=>K_73L17 n x,Aa,fun _=>rfl⟩,⟨YhF (cx:=C_73) (L:=S_73L21 Aa) rfl (by rw[R_73L21];rfl) ⟨BQ,fun _=>rfl,fun n x=>K_73L21 n x,Aa,fun _=>rfl⟩,trivial⟩⟩⟩⟩⟩) (enc:=N_73) (fun _ _=>⟨rfl,rfl⟩) F_73
theorem K_74L6 (n:Nat) (x):BX (n+1) x=YfX C_74 B_74L6 (S_74L6 Aa) x (BX n):=by
 obtain⟨_,_,_,_,_⟩:=x
 kernel_rfl
theorem K_74L2 (n:Nat) (x):BW (n+1) x=YfX C_74 B_74L2 (S_74L2 Aa) x (BW n):=by
 obtain⟨_,_,_⟩:=x
 kernel_rfl
theorem F_74 (a:YG [.v (.slice (.pair (.slice .int) (.pair .int (.slice (.slice .int))))),.v (.slice .int)]):E_74.run a=Yhu C_74 Tryz.f221 [.v (.slice (.pair (.slice .int) (.pair .int (.slice (.slice .int))))),.v (.slice .int)] [.v .bool] a (fun o r=>some (N_74 o r)):=by
 kernel_rfl
theorem W_74:X0 D_74= [B_74L2,B_74L6]:=by kernel_rfl
theorem R_74L6:Y8 B_74L6=6:=by kernel_rfl
theorem R_74L2:Y8 B_74L2=2:=by kernel_rfl
theorem Q_74 : Tryz.prog.funcs[221]? = some Tryz.f221 ∧ (Tryz.f221.name == "runtime.NumGoroutine") = false ∧ Tryz.f221.body = some D_74 := ⟨Tryz.func221, by kernel_rfl, by kernel_rfl⟩
theorem H_74:Holds Tryz.prog 221 E_74:=
 Yhw (cx:=C_74) (YhE tabT rfl).1 (Ygf ⟨⟨H_50,_,_,Q_50⟩,trivial⟩) mixT Q_74.1 Q_74.2.2 (Yhz W_74 ⟨YhF (cx:=C_74) (L:=S_74L2 Aa) rfl (by rw[R_74L2];rfl) ⟨BW,fun _=>rfl,fun n x=>K_74L2 n x,Aa,fun _=>rfl⟩,⟨YhF (cx:=C_74) (L:=S_74L6 Aa) rfl (by rw[R_74L6];rfl) ⟨BX,fun _=>rfl,fun n x=>K_74L6 n x,Aa,fun _=>rfl⟩,trivial⟩⟩) (enc:=N_74) (fun _ _=>⟨rfl,rfl⟩) F_74
theorem K_75L8 (rec:(Int×(List (List ((List Int)×Int×(List (List Int)))))×(List Int)×(List Int)×((List (List Int))×(Int×Int)))→Option (((List (List Int))×(Int×Int)))) (n:Nat) (x):Au rec (n+1) x=YfX (C_75 rec) B_75L8 (S_75L8 rec Aa) x (Au rec n):=by
 obtain⟨_,_,_,_,_,_,_,_⟩:=x
 kernel_rfl
theorem F_75 (rec:(Int×(List (List ((List Int)×Int×(List (List Int)))))×(List Int)×(List Int)×((List (List Int))×(Int×Int)))→Option (((List (List Int))×(Int×Int)))) (a:YG [.v .int,.v (.slice (.slice (.pair (.slice .int) (.pair .int (.slice (.slice .int)))))),.v (.slice .int),.v (.slice .int),.pr (.mv (.slice .int) 1) (.v (.pair .int .int))]):DQ rec a.1 a.2.1 a.2.2.1 a.2.2.2.1 a.2.2.2.2=Yhu (C_75 rec) Tryz.f168 [.v .int,.v (.slice (.slice (.pair (.slice .int) (.pair .int (.slice (.slice .int)))))),.v (.slice .int),.v (.slice .int),.pr (.mv (.slice .int) 1) (.v (.pair .int .int))] [.pr (.mv (.slice .int) 1) (.v (.pair .int .int))] a (fun o r=>some (N_75 o r)):=by
 kernel_rfl
theorem W_75:X0 D_75= [B_75L8]:=by kernel_rfl
theorem R_75L8:Y8 B_75L8=8:=by kernel_rfl
theorem Q_75 : Tryz.prog.funcs[168]? = some Tryz.f168 ∧ (Tryz.f168.name == "runtime.NumGoroutine") = false ∧ Tryz.f168.body = some D_75 := ⟨Tryz.func168, by kernel_rfl, by kernel_rfl⟩
theorem H_75: ∀d,Holds Tryz.prog 168 (E_75 d)
 |0=>fun _ b h=>absurd (show(none:Option _)=some b from h) (by simp)
 |d+1=>Yhw (en:=E_75 (d+1)) (cx:=(C_75 (BC d))) (YhE tabT rfl).1 (Ygf ⟨⟨H_6,_,_,Q_6⟩,⟨⟨H_75 d,_,_,Q_75⟩,⟨⟨H_74,_,_,Q_74⟩,trivial⟩⟩⟩) mixT Q_75.1 Q_75.2.2 (Yhz W_75 ⟨YhF (cx:=(C_75 (BC d))) (L:=S_75L8 (BC d) Aa) rfl (by rw[R_75L8];rfl) ⟨Au (BC d),fun _=>rfl,fun n x=>K_75L8 (BC d) n x,Aa,fun _=>rfl⟩,trivial⟩) (enc:=N_75) (fun _ _=>⟨rfl,rfl⟩) (F_75 (BC d)) rfl
theorem F_76 (a:YG [.v .int,.v (.slice (.pair .int (.slice (.slice .int)))),.v .int,.v (.slice .int),.v .int]):E_76.run a=Yhu C_76 Tryz.f78 [.v .int,.v (.slice (.pair .int (.slice (.slice .int)))),.v .int,.v (.slice .int),.v .int] [.pr (.mv (.slice .int) 1) (.v (.pair .int .int))] a (fun o r=>some (N_76 o r)):=by
 kernel_rfl
theorem W_76:X0 D_76= []:=by kernel_rfl
theorem Q_76 : Tryz.prog.funcs[78]? = some Tryz.f78 ∧ (Tryz.f78.name == "runtime.NumGoroutine") = false ∧ Tryz.f78.body = some D_76 := ⟨Tryz.func78, by kernel_rfl, by kernel_rfl⟩
theorem H_76:Holds Tryz.prog 78 E_76:=
 Yhw (cx:=C_76) (YhE tabT rfl).1 (Ygf ⟨⟨H_75 Aa,_,_,Q_75⟩,⟨⟨H_73,_,_,Q_73⟩,trivial⟩⟩) mixT Q_76.1 Q_76.2.2 (Yhz W_76 trivial) (enc:=N_76) (fun _ _=>⟨rfl,rfl⟩) F_76
theorem K_77L3 (n:Nat) (x):Cv (n+1) x=YfX C_77 B_77L3 (S_77L3 Aa) x (Cv n):=by
 obtain⟨_,_,_,_⟩:=x
 kernel_rfl
theorem F_77 (a:YG [.v .int,.v (.slice (.slice .int))]):E_77.run a=Yhu C_77 Tryz.f105 [.v .int,.v (.slice (.slice .int))] [.mv (.pair .int (.slice .int)) 0] a (fun o r=>some (N_77 o r)):=by
 kernel_rfl
theorem W_77:X0 D_77= [B_77L3]:=by kernel_rfl
theorem R_77L3:Y8 B_77L3=3:=by kernel_rfl
theorem Q_77 : Tryz.prog.funcs[105]? = some Tryz.f105 ∧ (Tryz.f105.name == "runtime.NumGoroutine") = false ∧ Tryz.f105.body = some D_77 := ⟨Tryz.func105, by kernel_rfl, by kernel_rfl⟩
theorem H_77:Holds Tryz.prog 105 E_77:=
 Yhw (cx:=C_77) (YhE tabT rfl).1 (Ygf ⟨⟨H_6,_,_,Q_6⟩,trivial⟩) mixT Q_77.1 Q_77.2.2 (Yhz W_77 ⟨YhF (cx:=C_77) (L:=S_77L3 Aa) rfl (by rw[R_77L3];rfl) ⟨Cv,fun _=>rfl,fun n x=>K_77L3 n x,Aa,fun _=>rfl⟩,trivial⟩) (enc:=N_77) (fun _ _=>⟨rfl,rfl⟩) F_77
theorem F_78 (a:YG [.v .int,.v (.slice (.pair .int (.slice (.slice .int)))),.v .int]):E_78.run a=Yhu C_78 Tryz.f28 [.v .int,.v (.slice (.pair .int (.slice (.slice .int)))),.v .int] [.mv (.pair .int (.slice .int)) 0,.v .bool] a (fun o r=>some (N_78 o r)):=by
 kernel_rfl
theorem W_78:X0 D_78= []:=by kernel_rfl
theorem Q_78 : Tryz.prog.funcs[28]? = some Tryz.f28 ∧ (Tryz.f28.name == "runtime.NumGoroutine") = false ∧ Tryz.f28.body = some D_78 := ⟨Tryz.func28, by kernel_rfl, by kernel_rfl⟩
theorem H_78:Holds Tryz.prog 28 E_78:=
 Yhw (cx:=C_78) (YhE tabT rfl).1 (Ygf ⟨⟨H_76,_,_,Q_76⟩,⟨⟨H_48,_,_,Q_48⟩,⟨⟨H_72,_,_,Q_72⟩,⟨⟨H_16,_,_,Q_16⟩,⟨⟨H_77,_,_,Q_77⟩,trivial⟩⟩⟩⟩⟩) mixT Q_78.1 Q_78.2.2 (Yhz W_78 trivial) (enc:=N_78) (fun _ _=>⟨rfl,rfl⟩) F_78
theorem F_79 (a:YG [.v (.pair .int (.slice .int)),.v (.pair .int (.slice .int))]):E_79.run a=Yhu C_79 Tryz.f16 [.v (.pair .int (.slice .int)),.v (.pair .int (.slice .int))] [.v .bool] a (fun o r=>some (N_79 o r)):=by
 kernel_rfl
theorem W_79:X0 D_79= []:=by kernel_rfl
theorem Q_79 : Tryz.prog.funcs[16]? = some Tryz.f16 ∧ (Tryz.f16.name == "runtime.NumGoroutine") = false ∧ Tryz.f16.body = some D_79 := ⟨Tryz.func16, by kernel_rfl, by kernel_rfl⟩
theorem H_79:Holds Tryz.prog 16 E_79:=
 Yhw (cx:=C_79) (YhE tabT rfl).1 (Ygf ⟨⟨H_55,_,_,Q_55⟩,trivial⟩) mixT Q_79.1 Q_79.2.2 (Yhz W_79 trivial) (enc:=N_79) (fun _ _=>⟨rfl,rfl⟩) F_79
theorem K_80L4 (n:Nat) (x):C3 (n+1) x=YfX C_80 B_80L4 (S_80L4 Aa) x (C3 n):=by
 obtain⟨_,_,_⟩:=x
 kernel_rfl
theorem F_80 (a:YG [.v (.slice (.pair .int (.slice .int))),.v (.slice (.pair .int (.slice .int)))]):E_80.run a=Yhu C_80 Tryz.f29 [.v (.slice (.pair .int (.slice .int))),.v (.slice (.pair .int (.slice .int)))] [.v .bool] a (fun o r=>some (N_80 o r)):=by
 kernel_rfl
theorem W_80:X0 D_80= [B_80L4]:=by kernel_rfl
theorem R_80L4:Y8 B_80L4=4:=by kernel_rfl
theorem Q_80 : Tryz.prog.funcs[29]? = some Tryz.f29 ∧ (Tryz.f29.name == "runtime.NumGoroutine") = false ∧ Tryz.f29.body = some D_80 := ⟨Tryz.func29, by kernel_rfl, by kernel_rfl⟩
theorem H_80:Holds Tryz.prog 29 E_80:=
 Yhw (cx:=C_80) (YhE tabT rfl).1 (Ygf ⟨⟨H_79,_,_,Q_79⟩,trivial⟩) mixT Q_80.1 Q_80.2.2 (Yhz W_80 ⟨YhF (cx:=C_80) (L:=S_80L4 Aa) rfl (by rw[R_80L4];rfl) ⟨C3,fun _=>rfl,fun n x=>K_80L4 n x,Aa,fun _=>rfl⟩,trivial⟩) (enc:=N_80) (fun _ _=>⟨rfl,rfl⟩) F_80
theorem F_81 (a:YG [.v (.pair .int (.pair .int (.slice (.pair (.slice .int) (.pair .int (.slice (.slice .int))))))),.v (.slice .int)]):E_81.run a=Yhu C_81 Tryz.f84 [.v (.pair .int (.pair .int (.slice (.pair (.slice .int) (.pair .int (.slice (.slice .int))))))),.v (.slice .int)] [.v .bool] a (fun o r=>some (N_81 o r)):=by
 kernel_rfl
theorem W_81:X0 D_81= []:=by kernel_rfl
theorem Q_81 : Tryz.prog.funcs[84]? = some Tryz.f84 ∧ (Tryz.f84.name == "runtime.NumGoroutine") = false ∧ Tryz.f84.body = some D_81 := ⟨Tryz.func84, by kernel_rfl, by kernel_rfl⟩
theorem H_81:Holds Tryz.prog 84 E_81:=
 Yhw (cx:=C_81) (YhE tabT rfl).1 (Ygf ⟨⟨H_27,_,_,Q_27⟩,trivial⟩) mixT Q_81.1 Q_81.2.2 (Yhz W_81 trivial) (enc:=N_81) (fun _ _=>⟨rfl,rfl⟩) F_81
theorem K_82L4 (n:Nat) (x):Cs (n+1) x=YfX C_82 B_82L4 (S_82L4 Aa) x (Cs n):=by
 obtain⟨_,_,_,_⟩:=x
 kernel_rfl
theorem F_82 (a:YG [.v (.slice .int),.v (.slice .int)]):E_82.run a=Yhu C_82 Tryz.f224 [.v (.slice .int),.v (.slice .int)] [.v .bool] a (fun o r=>some (N_82 o r)):=by
 kernel_rfl
theorem W_82:X0 D_82= [B_82L4]:=by kernel_rfl
theorem R_82L4:Y8 B_82L4=4:=by kernel_rfl
theorem Q_82 : Tryz.prog.funcs[224]? = some Tryz.f224 ∧ (Tryz.f224.name == "runtime.NumGoroutine") = false ∧ Tryz.f224.body = some D_82 := ⟨Tryz.func224, by kernel_rfl, by kernel_rfl⟩
theorem H_82:Holds Tryz.prog 224 E_82:=
 Yhw (cx:=C_82) (YhE tabT rfl).1 (Ygf trivial) mixT Q_82.1 Q_82.2.2 (Yhz W_82 ⟨YhF (cx:=C_82) (L:=S_82L4 Aa) rfl (by rw[R_82L4];rfl) ⟨Cs,fun _=>rfl,fun n x=>K_82L4 n x,Aa,fun _=>rfl⟩,trivial⟩) (enc:=N_82) (fun _ _=>⟨rfl,rfl⟩) F_82
theorem K_83L2 (n:Nat) (x):CT (n+1) x=YfX C_83 B_83L2 (S_83L2 Aa) x (CT n):=by
 obtain⟨_,_,_,_⟩:=x
 kernel_rfl
theorem F_83 (a:YG [.v (.pair .int (.slice (.slice .int))),.v (.slice .int)]):E_83.run a=Yhu C_83 Tryz.f172 [.v (.pair .int (.slice (.slice .int))),.v (.slice .int)] [.v .bool] a (fun o r=>some (N_83 o r)):=by
 kernel_rfl
theorem W_83:X0 D_83= [B_83L2]:=by kernel_rfl
theorem R_83L2:Y8 B_83L2=2:=by kernel_rfl
theorem Q_83 : Tryz.prog.funcs[172]? = some Tryz.f172 ∧ (Tryz.f172.name == "runtime.NumGoroutine") = false ∧ Tryz.f172.body = some D_83 := ⟨Tryz.func172, by kernel_rfl, by kernel_rfl⟩
theorem H_83:Holds Tryz.prog 172 E_83:=
 Yhw (cx:=C_83) (YhE tabT rfl).1 (Ygf ⟨⟨H_82,_,_,Q_82⟩,trivial⟩) mixT Q_83.1 Q_83.2.2 (Yhz W_83 ⟨YhF (cx:=C_83) (L:=S_83L2 Aa) rfl (by rw[R_83L2];rfl) ⟨CT,fun _=>rfl,fun n x=>K_83L2 n x,Aa,fun _=>rfl⟩,trivial⟩) (enc:=N_83) (fun _ _=>⟨rfl,rfl⟩) F_83
theorem K_84L2 (n:Nat) (x):Bv (n+1) x=YfX C_84 B_84L2 (S_84L2 Aa) x (Bv n):=by
 obtain⟨_,_,_,_⟩:=x
 kernel_rfl
theorem F_84 (a:YG [.v (.pair .int (.pair .int (.slice (.pair (.slice .int) (.pair .int (.slice (.slice .int))))))),.v (.slice .int)]):E_84.run a=Yhu C_84 Tryz.f85 [.v (.pair .int (.pair .int (.slice (.pair (.slice .int) (.pair .int (.slice (.slice .int))))))),.v (.slice .int)] [.v .int] a (fun o r=>some (N_84 o r)):=by
 kernel_rfl
theorem W_84:X0 D_84= [B_84L2]:=by kernel_rfl
theorem R_84L2:Y8 B_84L2=2:=by kernel_rfl
theorem Q_84 : Tryz.prog.funcs[85]? = some Tryz.f85 ∧ (Tryz.f85.name == "runtime.NumGoroutine") = false ∧ Tryz.f85.body = some D_84 := ⟨Tryz.func85, by kernel_rfl, by kernel_rfl⟩
theorem H_84:Holds Tryz.prog 85 E_84:=
 Yhw (cx:=C_84) (YhE tabT rfl).1 (Ygf ⟨⟨H_83,_,_,Q_83⟩,⟨⟨H_38,_,_,Q_38⟩,trivial⟩⟩) mixT Q_84.1 Q_84.2.2 (Yhz W_84 ⟨YhF (cx:=C_84) (L:=S_84L2 Aa) rfl (by rw[R_84L2];rfl) ⟨Bv,fun _=>rfl,fun n x=>K_84L2 n x,Aa,fun _=>rfl⟩,trivial⟩) (enc:=N_84) (fun _ _=>⟨rfl,rfl⟩) F_84
theorem F_85 (a:YG [.v (.pair .int (.pair .int (.slice (.pair (.slice .int) (.pair .int (.slice (.slice .int))))))),.v (.slice .int)]):E_85.run a=Yhu C_85 Tryz.f19 [.v (.pair .int (.pair .int (.slice (.pair (.slice .int) (.pair .int (.slice (.slice .int))))))),.v (.slice .int)] [.v .bool,.v .bool] a (fun o r=>some (N_85 o r)):=by
 kernel_rfl
theorem W_85:X0 D_85= []:=by kernel_rfl
theorem Q_85 : Tryz.prog.funcs[19]? = some Tryz.f19 ∧ (Tryz.f19.name == "runtime.NumGoroutine") = false ∧ Tryz.f19.body = some D_85 := ⟨Tryz.func19, by kernel_rfl, by kernel_rfl⟩
theorem H_85:Holds Tryz.prog 19 E_85:=
 Yhw (cx:=C_85) (YhE tabT rfl).1 (Ygf ⟨⟨H_31,_,_,Q_31⟩,⟨⟨H_81,_,_,Q_81⟩,⟨⟨H_84,_,_,Q_84⟩,trivial⟩⟩⟩) mixT Q_85.1 Q_85.2.2 (Yhz W_85 trivial) (enc:=N_85) (fun _ _=>⟨rfl,rfl⟩) F_85
theorem K_86L5 (n:Nat) (x):AH (n+1) x=YfX C_86 B_86L5 (S_86L5 Aa) x (AH n):=by
 obtain⟨_,_,_,_,_,_⟩:=x
 kernel_rfl
theorem F_86 (a:YG [.v (.slice (.num .u8))]):E_86.run a=Yhu C_86 Tryz.f30 [.v (.slice (.num .u8))] [.v (.pair .int (.pair .int (.slice (.pair (.slice .int) (.pair .int (.slice (.slice .int))))))),.pr (.v .int) (.mv .int 0)] a (fun o r=>some (N_86 o r)):=by
 kernel_rfl
theorem W_86:X0 D_86= [B_86L5]:=by kernel_rfl
theorem R_86L5:Y8 B_86L5=5:=by kernel_rfl
theorem Q_86 : Tryz.prog.funcs[30]? = some Tryz.f30 ∧ (Tryz.f30.name == "runtime.NumGoroutine") = false ∧ Tryz.f30.body = some D_86 := ⟨Tryz.func30, by kernel_rfl, by kernel_rfl⟩
theorem H_86:Holds Tryz.prog 30 E_86:=
 Yhw (cx:=C_86) (YhE tabT rfl).1 (Ygf ⟨⟨H_23,_,_,Q_23⟩,⟨⟨H_4,_,_,Q_4⟩,⟨⟨H_3,_,_,Q_3⟩,⟨⟨H_7,_,_,Q_7⟩,trivial⟩⟩⟩⟩) mixT Q_86.1 Q_86.2.2 (Yhz W_86 ⟨YhF (cx:=C_86) (L:=S_86L5 Aa) rfl (by rw[R_86L5];rfl) ⟨AH,fun _=>rfl,fun n x=>K_86L5 n x,Aa,fun _=>rfl⟩,trivial⟩) (enc:=N_86) (fun _ _=>⟨rfl,rfl⟩) F_86
theorem F_87 (a:YG [.v (.pair .int (.slice .int)),.v .int]):E_87.run a=Yhu C_87 Tryz.f63 [.v (.pair .int (.slice .int)),.v .int] [.v .bool] a (fun o r=>some (N_87 o r)):=by
 kernel_rfl
theorem W_87:X0 D_87= []:=by kernel_rfl
theorem Q_87 : Tryz.prog.funcs[63]? = some Tryz.f63 ∧ (Tryz.f63.name == "runtime.NumGoroutine") = false ∧ Tryz.f63.body = some D_87 := ⟨Tryz.func63, by kernel_rfl, by kernel_rfl⟩
theorem H_87:Holds Tryz.prog 63 E_87:=
 Yhw (cx:=C_87) (YhE tabT rfl).1 (Ygf ⟨⟨H_59,_,_,Q_59⟩,⟨⟨H_27,_,_,Q_27⟩,trivial⟩⟩) mixT Q_87.1 Q_87.2.2 (Yhz W_87 trivial) (enc:=N_87) (fun _ _=>⟨rfl,rfl⟩) F_87
theorem K_88L3 (n:Nat) (x):BK (n+1) x=YfX C_88 B_88L3 (S_88L3 Aa) x (BK n):=by
 obtain⟨_,_,_,_⟩:=x
 kernel_rfl
theorem F_88 (a:YG [.v (.slice (.slice .int))]):E_88.run a=Yhu C_88 Tryz.f209 [.v (.slice (.slice .int))] [.mv (.slice .int) 1] a (fun o r=>some (N_88 o r)):=by
 kernel_rfl
theorem W_88:X0 D_88= [B_88L3]:=by kernel_rfl
theorem R_88L3:Y8 B_88L3=3:=by kernel_rfl
theorem Q_88 : Tryz.prog.funcs[209]? = some Tryz.f209 ∧ (Tryz.f209.name == "runtime.NumGoroutine") = false ∧ Tryz.f209.body = some D_88 := ⟨Tryz.func209, by kernel_rfl, by kernel_rfl⟩
theorem H_88:Holds Tryz.prog 209 E_88:=
 Yhw (cx:=C_88) (YhE tabT rfl).1 (Ygf ⟨⟨H_36,_,_,Q_36⟩,trivial⟩) mixT Q_88.1 Q_88.2.2 (Yhz W_88 ⟨YhF (cx:=C_88) (L:=S_88L3 Aa) rfl (by rw[R_88L3];rfl) ⟨BK,fun _=>rfl,fun n x=>K_88L3 n x,Aa,fun _=>rfl⟩,trivial⟩) (enc:=N_88) (fun _ _=>⟨rfl,rfl⟩) F_88
theorem Q_89 : Tryz.prog.funcs[144]? = some Tryz.f144 ∧ (Tryz.f144.name == "runtime.NumGoroutine") = false ∧ Tryz.f144.body = some D_89 := ⟨Tryz.func144, by kernel_rfl, by kernel_rfl⟩
theorem H_89:Holds Tryz.prog 144 E_89:=Go.Proofs.H_sort_cmpL 1
theorem F_90 (a:YG [.v (.slice (.slice .int))]):E_90.run a=Yhu C_90 Tryz.f176 [.v (.slice (.slice .int))] [.mv (.slice .int) 1] a (fun o r=>some (N_90 o r)):=by
 kernel_rfl
theorem W_90:X0 D_90= []:=by kernel_rfl
theorem Q_90 : Tryz.prog.funcs[176]? = some Tryz.f176 ∧ (Tryz.f176.name == "runtime.NumGoroutine") = false ∧ Tryz.f176.body = some D_90 := ⟨Tryz.func176, by kernel_rfl, by kernel_rfl⟩
theorem H_90:Holds Tryz.prog 176 E_90:=
 Yhw (cx:=C_90) (YhE tabT rfl).1 (Ygf ⟨⟨H_88,_,_,Q_88⟩,⟨⟨H_89,_,_,Q_89⟩,trivial⟩⟩) mixT Q_90.1 Q_90.2.2 (Yhz W_90 trivial) (enc:=N_90) (fun _ _=>⟨rfl,rfl⟩) F_90
theorem Q_91 : Tryz.prog.funcs[175]? = some Tryz.f175 ∧ (Tryz.f175.name == "runtime.NumGoroutine") = false ∧ Tryz.f175.body = some D_91 := ⟨Tryz.func175, by kernel_rfl, by kernel_rfl⟩
theorem H_91:Holds Tryz.prog 175 E_91:=Go.Proofs.H_diff 1
theorem F_92 (a:YG [.v .int,.v (.slice (.slice .int))]):E_92.run a=Yhu C_92 Tryz.f88 [.v .int,.v (.slice (.slice .int))] [.pr (.v .int) (.mv (.slice .int) 1)] a (fun o r=>some (N_92 o r)):=by
 kernel_rfl
theorem W_92:X0 D_92= []:=by kernel_rfl
theorem Q_92 : Tryz.prog.funcs[88]? = some Tryz.f88 ∧ (Tryz.f88.name == "runtime.NumGoroutine") = false ∧ Tryz.f88.body = some D_92 := ⟨Tryz.func88, by kernel_rfl, by kernel_rfl⟩
theorem H_92:Holds Tryz.prog 88 E_92:=
 Yhw (cx:=C_92) (YhE tabT rfl).1 (Ygf ⟨⟨H_91,_,_,Q_91⟩,⟨⟨H_90,_,_,Q_90⟩,trivial⟩⟩) mixT Q_92.1 Q_92.2.2 (Yhz W_92 trivial) (enc:=N_92) (fun _ _=>⟨rfl,rfl⟩) F_92
theorem K_93L3 (n:Nat) (x):Bj (n+1) x=YfX C_93 B_93L3 (S_93L3 Aa) x (Bj n):=by
 obtain⟨_,_,_,_,_,_,_⟩:=x
 kernel_rfl
theorem F_93 (a:YG [.v (.pair .int (.slice (.slice .int))),.v (.slice .int)]):E_93.run a=Yhu C_93 Tryz.f106 [.v (.pair .int (.slice (.slice .int))),.v (.slice .int)] [.pr (.v .int) (.mv (.slice .int) 1)] a (fun o r=>some (N_93 o r)):=by
 kernel_rfl
theorem W_93:X0 D_93= [B_93L3]:=by kernel_rfl
theorem R_93L3:Y8 B_93L3=3:=by kernel_rfl
theorem Q_93 : Tryz.prog.funcs[106]? = some Tryz.f106 ∧ (Tryz.f106.name == "runtime.NumGoroutine") = false ∧ Tryz.f106.body = some D_93 := ⟨Tryz.func106, by kernel_rfl, by kernel_rfl⟩
theorem H_93:Holds Tryz.prog 106 E_93:=
 Yhw (cx:=C_93) (YhE tabT rfl).1 (Ygf ⟨⟨H_92,_,_,Q_92⟩,⟨⟨H_38,_,_,Q_38⟩,trivial⟩⟩) mixT Q_93.1 Q_93.2.2 (Yhz W_93 ⟨YhF (cx:=C_93) (L:=S_93L3 Aa) rfl (by rw[R_93L3];rfl) ⟨Bj,fun _=>rfl,fun n x=>K_93L3 n x,Aa,fun _=>rfl⟩,trivial⟩) (enc:=N_93) (fun _ _=>⟨rfl,rfl⟩) F_93
theorem F_94 (a:YG [.v (.pair .int (.pair .int (.slice (.pair (.slice .int) (.pair .int (.slice (.slice .int))))))),.mv (.pair (.slice .int) (.pair .int (.slice (.slice .int)))) 2]):E_94.run a=Yhu C_94 Tryz.f89 [.v (.pair .int (.pair .int (.slice (.pair (.slice .int) (.pair .int (.slice (.slice .int))))))),.mv (.pair (.slice .int) (.pair .int (.slice (.slice .int)))) 2] [.pr (.v .int) (.pr (.v .int) (.mv (.pair (.slice .int) (.pair .int (.slice (.slice .int)))) 2)),.v .bool] a (fun o r=>some (N_94 o r)):=by
 kernel_rfl
theorem W_94:X0 D_94= []:=by kernel_rfl
theorem Q_94 : Tryz.prog.funcs[89]? = some Tryz.f89 ∧ (Tryz.f89.name == "runtime.NumGoroutine") = false ∧ Tryz.f89.body = some D_94 := ⟨Tryz.func89, by kernel_rfl, by kernel_rfl⟩
theorem H_94:Holds Tryz.prog 89 E_94:=
 Yhw (cx:=C_94) (YhE tabT rfl).1 (Ygf trivial) mixT Q_94.1 Q_94.2.2 (Yhz W_94 trivial) (enc:=N_94) (fun _ _=>⟨rfl,rfl⟩) F_94
theorem K_95L5 (n:Nat) (x):AK (n+1) x=YfX C_95 B_95L5 (S_95L5 Aa) x (AK n):=by
 obtain⟨_,_,_,_,_,_,_⟩:=x
 kernel_rfl
theorem F_95 (a:YG [.v (.pair .int (.pair .int (.slice (.pair (.slice .int) (.pair .int (.slice (.slice .int))))))),.v (.pair .int (.slice .int))]):E_95.run a=Yhu C_95 Tryz.f31 [.v (.pair .int (.pair .int (.slice (.pair (.slice .int) (.pair .int (.slice (.slice .int))))))),.v (.pair .int (.slice .int))] [.pr (.v .int) (.pr (.v .int) (.mv (.pair (.slice .int) (.pair .int (.slice (.slice .int)))) 2)),.v .bool] a (fun o r=>some (N_95 o r)):=by
 kernel_rfl
theorem W_95:X0 D_95= [B_95L5]:=by kernel_rfl
theorem R_95L5:Y8 B_95L5=5:=by kernel_rfl
theorem Q_95 : Tryz.prog.funcs[31]? = some Tryz.f31 ∧ (Tryz.f31.name == "runtime.NumGoroutine") = false ∧ Tryz.f31.body = some D_95 := ⟨Tryz.func31, by kernel_rfl, by kernel_rfl⟩
theorem H_95:Holds Tryz.prog 31 E_95:=
 Yhw (cx:=C_95) (YhE tabT rfl).1 (Ygf ⟨⟨H_31,_,_,Q_31⟩,⟨⟨H_87,_,_,Q_87⟩,⟨⟨H_94,_,_,Q_94⟩,⟨⟨H_36,_,_,Q_36⟩,⟨⟨H_93,_,_,Q_93⟩,trivial⟩⟩⟩⟩⟩) mixT Q_95.1 Q_95.2.2 (Yhz W_95 ⟨YhF (cx:=C_95) (L:=S_95L5 Aa) rfl (by rw[R_95L5];rfl) ⟨AK,fun _=>rfl,fun n x=>K_95L5 n x,Aa,fun _=>rfl⟩,trivial⟩) (enc:=N_95) (fun _ _=>⟨rfl,rfl⟩) F_95
theorem K_96L4 (n:Nat) (x):Dw (n+1) x=YfX C_96 B_96L4 (S_96L4 Aa) x (Dw n):=by
 obtain⟨_,_,_⟩:=x
 kernel_rfl
theorem F_96 (a:YG [.v .int,.v (.pair .int (.slice .int))]):E_96.run a=Yhu C_96 Tryz.f67 [.v .int,.v (.pair .int (.slice .int))] [.v .bool] a (fun o r=>some (N_96 o r)):=by
 kernel_rfl
theorem W_96:X0 D_96= [B_96L4]:=by kernel_rfl
theorem R_96L4:Y8 B_96L4=4:=by kernel_rfl
theorem Q_96 : Tryz.prog.funcs[67]? = some Tryz.f67 ∧ (Tryz.f67.name == "runtime.NumGoroutine") = false ∧ Tryz.f67.body = some D_96 := ⟨Tryz.func67, by kernel_rfl, by kernel_rfl⟩
theorem H_96:Holds Tryz.prog 67 E_96:=
 Yhw (cx:=C_96) (YhE tabT rfl).1 (Ygf ⟨⟨H_16,_,_,Q_16⟩,⟨⟨H_8,_,_,Q_8⟩,trivial⟩⟩) mixT Q_96.1 Q_96.2.2 (Yhz W_96 ⟨YhF (cx:=C_96) (L:=S_96L4 Aa) rfl (by rw[R_96L4];rfl) ⟨Dw,fun _=>rfl,fun n x=>K_96L4 n x,Aa,fun _=>rfl⟩,trivial⟩) (enc:=N_96) (fun _ _=>⟨rfl,rfl⟩) F_96
theorem K_97L7 (n:Nat) (x):Cc (n+1) x=YfX C_97 B_97L7 (S_97L7 Aa) x (Cc n):=by
 obtain⟨_,_,_,_,_⟩:=x
 kernel_rfl
theorem K_97L3 (n:Nat) (x):Cb (n+1) x=YfX C_97 B_97L3 (S_97L3 Aa) x (Cb n):=by
 obtain⟨_,_,_⟩:=x
 kernel_rfl
theorem F_97 (a:YG [.v (.slice (.pair (.slice .int) (.pair .int (.slice (.slice .int)))))]):E_97.run a=Yhu C_97 Tryz.f90 [.v (.slice (.pair (.slice .int) (.pair .int (.slice (.slice .int)))))] [.mv (.pair (.slice .int) (.pair .int (.slice (.slice .int)))) 0] a (fun o r=>some (N_97 o r)):=by
 kernel_rfl
theorem W_97:X0 D_97= [B_97L3,B_97L7]:=by kernel_rfl
theorem R_97L7:Y8 B_97L7=7:=by kernel_rfl
theorem R_97L3:Y8 B_97L3=3:=by kernel_rfl
theorem Q_97 : Tryz.prog.funcs[90]? = some Tryz.f90 ∧ (Tryz.f90.name == "runtime.NumGoroutine") = false ∧ Tryz.f90.body = some D_97 := ⟨Tryz.func90, by kernel_rfl, by kernel_rfl⟩
theorem H_97:Holds Tryz.prog 90 E_97:=
 Yhw (cx:=C_97) (YhE tabT rfl).1 (Ygf ⟨⟨H_6,_,_,Q_6⟩,trivial⟩) mixT Q_97.1 Q_97.2.2 (Yhz W_97 ⟨YhF (cx:=C_97) (L:=S_97L3 Aa) rfl (by rw[R_97L3];rfl) ⟨Cb,fun _=>rfl,fun n x=>K_97L3 n x,Aa,fun _=>rfl⟩,⟨YhF (cx:=C_97) (L:=S_97L7 Aa) rfl (by rw[R_97L7];rfl) ⟨Cc,fun _=>rfl,fun n x=>K_97L7 n x,Aa,fun _=>rfl⟩,trivial⟩⟩) (enc:=N_97) (fun _ _=>⟨rfl,rfl⟩) F_97
theorem K_98L2 (n:Nat) (x):BV (n+1) x=YfX C_98 B_98L2 (S_98L2 Aa) x (BV n):=by
 obtain⟨_,_,_⟩:=x
 kernel_rfl
theorem F_98 (a:YG [.v (.slice (.slice .int)),.v (.slice .int)]):E_98.run a=Yhu C_98 Tryz.f107 [.v (.slice (.slice .int)),.v (.slice .int)] [.v .int] a (fun o r=>some (N_98 o r)):=by
 kernel_rfl
theorem W_98:X0 D_98= [B_98L2]:=by kernel_rfl
theorem R_98L2:Y8 B_98L2=2:=by kernel_rfl
theorem Q_98 : Tryz.prog.funcs[107]? = some Tryz.f107 ∧ (Tryz.f107.name == "runtime.NumGoroutine") = false ∧ Tryz.f107.body = some D_98 := ⟨Tryz.func107, by kernel_rfl, by kernel_rfl⟩
theorem H_98:Holds Tryz.prog 107 E_98:=
 Yhw (cx:=C_98) (YhE tabT rfl).1 (Ygf ⟨⟨H_11,_,_,Q_11⟩,trivial⟩) mixT Q_98.1 Q_98.2.2 (Yhz W_98 ⟨YhF (cx:=C_98) (L:=S_98L2 Aa) rfl (by rw[R_98L2];rfl) ⟨BV,fun _=>rfl,fun n x=>K_98L2 n x,Aa,fun _=>rfl⟩,trivial⟩) (enc:=N_98) (fun _ _=>⟨rfl,rfl⟩) F_98
theorem K_99L2 (n:Nat) (x):C0 (n+1) x=YfX C_99 B_99L2 (S_99L2 Aa) x (C0 n):=by
 obtain⟨_,_,_⟩:=x
 kernel_rfl
theorem F_99 (a:YG [.v (.slice .int),.v (.slice .int)]):E_99.run a=Yhu C_99 Tryz.f186 [.v (.slice .int),.v (.slice .int)] [.v .bool] a (fun o r=>some (N_99 o r)):=by
 kernel_rfl
theorem W_99:X0 D_99= [B_99L2]:=by kernel_rfl
theorem R_99L2:Y8 B_99L2=2:=by kernel_rfl
theorem Q_99 : Tryz.prog.funcs[186]? = some Tryz.f186 ∧ (Tryz.f186.name == "runtime.NumGoroutine") = false ∧ Tryz.f186.body = some D_99 := ⟨Tryz.func186, by kernel_rfl, by kernel_rfl⟩
theorem H_99:Holds Tryz.prog 186 E_99:=
 Yhw (cx:=C_99) (YhE tabT rfl).1 (Ygf trivial) mixT Q_99.1 Q_99.2.2 (Yhz W_99 ⟨YhF (cx:=C_99) (L:=S_99L2 Aa) rfl (by rw[R_99L2];rfl) ⟨C0,fun _=>rfl,fun n x=>K_99L2 n x,Aa,fun _=>rfl⟩,trivial⟩) (enc:=N_99) (fun _ _=>⟨rfl,rfl⟩) F_99
theorem K_100L2 (n:Nat) (x):Cy (n+1) x=YfX C_100 B_100L2 (S_100L2 Aa) x (Cy n):=by
 obtain⟨_,_,_⟩:=x
 kernel_rfl
theorem F_100 (a:YG [.v (.slice (.slice .int)),.v (.slice .int)]):E_100.run a=Yhu C_100 Tryz.f108 [.v (.slice (.slice .int)),.v (.slice .int)] [.mv (.slice .int) 0] a (fun o r=>some (N_100 o r)):=by
 kernel_rfl
theorem W_100:X0 D_100= [B_100L2]:=by kernel_rfl
theorem R_100L2:Y8 B_100L2=2:=by kernel_rfl
theorem Q_100 : Tryz.prog.funcs[108]? = some Tryz.f108 ∧ (Tryz.f108.name == "runtime.NumGoroutine") = false ∧ Tryz.f108.body = some D_100 := ⟨Tryz.func108, by kernel_rfl, by kernel_rfl⟩
theorem H_100:Holds Tryz.prog 108 E_100:=
 Yhw (cx:=C_100) (YhE tabT rfl).1 (Ygf ⟨⟨H_99,_,_,Q_99⟩,trivial⟩) mixT Q_100.1 Q_100.2.2 (Yhz W_100 ⟨YhF (cx:=C_100) (L:=S_100L2 Aa) rfl (by rw[R_100L2];rfl) ⟨Cy,fun _=>rfl,fun n x=>K_100L2 n x,Aa,fun _=>rfl⟩,trivial⟩) (enc:=N_100) (fun _ _=>⟨rfl,rfl⟩) F_100
theorem K_101L13 (n:Nat) (x):AY (n+1) x=YfX C_101 B_101L13 (S_101L13 Aa) x (AY n):=by
 obtain⟨_,_,_,_,_,_,_,_⟩:=x
 kernel_rfl
theorem K_101L9 (n:Nat) (x):AM (n+1) x=YfX C_101 B_101L9 (S_101L9 Aa) x (AM n):=by
 obtain⟨_,_,_,_,_,_⟩:=x
 kernel_rfl
theorem K_101L5 (n:Nat) (x):Bb (n+1) x=YfX C_101 B_101L5 (S_101L5 Aa) x (Bb n):=by
 obtain⟨_,_,_,_⟩:=x
 kernel_rfl
theorem F_101 (a:YG [.v (.pair .int (.pair .int (.slice (.pair (.slice .int) (.pair .int (.slice (.slice .int))))))),.v (.pair .int (.slice .int))]):E_101.run a=Yhu C_101 Tryz.f32 [.v (.pair .int (.pair .int (.slice (.pair (.slice .int) (.pair .int (.slice (.slice .int))))))),.v (.pair .int (.slice .int))] [.pr (.v .int) (.pr (.v .int) (.mv (.pair (.slice .int) (.pair .int (.slice (.slice .int)))) 0)),.v .bool] a (fun o r=>some (N_101 o r)):=by
 kernel_rfl
theorem W_101:X0 D_101= [B_101L5,B_101L9,B_101L13]:=by kernel_rfl
theorem R_101L13:Y8 B_101L13=13:=by kernel_rfl
theorem R_101L9:Y8 B_101L9=9:=by kernel_rfl
theorem R_101L5:Y8 B_101L5=5:=by kernel_rfl
theorem Q_101 : Tryz.prog.funcs[32]? = some Tryz.f32 ∧ (Tryz.f32.name == "runtime.NumGoroutine") = false ∧ Tryz.f32.body = some D_101 := ⟨Tryz.func32, by kernel_rfl, by kernel_rfl⟩
theorem H_101:Holds Tryz.prog 32 E_101:=
 Yhw (cx:=C_101) (YhE tabT rfl).1 (Ygf ⟨⟨H_47,_,_,Q_47⟩,⟨⟨H_96,_,_,Q_96⟩,⟨⟨H_97,_,_,Q_97⟩,⟨⟨H_98,_,_,Q_98⟩,⟨⟨H_100,_,_,Q_100⟩,trivial⟩⟩⟩⟩⟩) mixT Q_101.1 Q_101.2.2 (Yhz W_101 ⟨YhF (cx:=C_101) (L:=S_101L5 Aa) rfl (by rw[R_101L5];rfl) ⟨Bb,fun _=>rfl,fun n x=>K_101L5 n x,Aa,fun _=>rfl⟩,⟨YhF (cx:=C_101) (L:=S_101L9 Aa) rfl (by rw[R_101L9];rfl) ⟨AM,fun _=>rfl,fun n x=>K_101L9 n x,Aa,fun _=>rfl⟩,⟨YhF (cx:=C_101) (L:=S_101L13 Aa) rfl (by rw[R_101L13];rfl) ⟨AY,fun _=>rfl,fun n x=>K_101L13 n x,Aa,fun _=>rfl⟩,trivial⟩⟩⟩) (enc:=N_101) (fun _ _=>⟨rfl,rfl⟩) F_101
theorem F_102 (a:YG [.v (.slice .int)]):E_102.run a=Yhu C_102 Tryz.f96 [.v (.slice .int)] [.nv .int 0] a (fun o r=>some (N_102 o r)):=by
 kernel_rfl
theorem W_102:X0 D_102= []:=by kernel_rfl
theorem Q_102 : Tryz.prog.funcs[96]? = some Tryz.f96 ∧ (Tryz.f96.name == "runtime.NumGoroutine") = false ∧ Tryz.f96.body = some D_102 := ⟨Tryz.func96, by kernel_rfl, by kernel_rfl⟩
theorem H_102:Holds Tryz.prog 96 E_102:=
 Yhw (cx:=C_102) (YhE tabT rfl).1 (Ygf trivial) mixT Q_102.1 Q_102.2.2 (Yhz W_102 trivial) (enc:=N_102) (fun _ _=>⟨rfl,rfl⟩) F_102
theorem F_103 (a:YG [.v (.slice .int),.bx (.nv .int 0)]):E_103.run a=Yhu C_103 Tryz.f181 [.v (.slice .int),.bx (.nv .int 0)] [.v .bool] a (fun o r=>some (N_103 o r)):=by
 kernel_rfl
theorem W_103:X0 D_103= []:=by kernel_rfl
theorem Q_103 : Tryz.prog.funcs[181]? = some Tryz.f181 ∧ (Tryz.f181.name == "runtime.NumGoroutine") = false ∧ Tryz.f181.body = some D_103 := ⟨Tryz.func181, by kernel_rfl, by kernel_rfl⟩
theorem H_103:Holds Tryz.prog 181 E_103:=
 Yhw (cx:=C_103) (YhE tabT rfl).1 (Ygf ⟨⟨H_102,_,_,Q_102⟩,trivial⟩) mixT Q_103.1 Q_103.2.2 (Yhz W_103 trivial) (enc:=N_103) (fun _ _=>⟨rfl,rfl⟩) F_103
theorem K_104L10 (rec:(Int×(List Int)×(Bool×(List Int))×(Bool×Int×(List (List (List Int)))×(List (List (List ByteArray))))×(List Int)×Unit)→Option ((List Int)×(Bool×(List Int))×(Bool×Int×(List (List (List Int)))×(List (List (List ByteArray))))×(List Int)×Bool)) (n:Nat) (x):Ak rec (n+1) x=YfX (C_104 rec) B_104L10 (S_104L10 rec Aa) x (Ak rec n):=by
 obtain⟨_,_,_,_,_,_,_,_,_,_,_⟩:=x
 kernel_rfl
theorem K_104L4 (rec:(Int×(List Int)×(Bool×(List Int))×(Bool×Int×(List (List (List Int)))×(List (List (List ByteArray))))×(List Int)×Unit)→Option ((List Int)×(Bool×(List Int))×(Bool×Int×(List (List (List Int)))×(List (List (List ByteArray))))×(List Int)×Bool)) (n:Nat) (x):Af rec (n+1) x=YfX (C_104 rec) B_104L4 (S_104L4 rec Aa) x (Af rec n):=by
 obtain⟨_,_,_,_,_,_,_⟩:=x
 kernel_rfl
theorem F_104 (rec:(Int×(List Int)×(Bool×(List Int))×(Bool×Int×(List (List (List Int)))×(List (List (List ByteArray))))×(List Int)×Unit)→Option ((List Int)×(Bool×(List Int))×(Bool×Int×(List (List (List Int)))×(List (List (List ByteArray))))×(List Int)×Bool)) (a:YG [.v .int,.bx (.mv .int 0),.bx (.nv .int 0),.bx (.v (.ptr (.pair .int (.pair (.slice (.slice (.slice .int))) (.slice (.slice .smap)))))),.bx (.v (.slice .int)),.jk 1]):A8 rec a.1 a.2.1 a.2.2.1 a.2.2.2.1 a.2.2.2.2.1 a.2.2.2.2.2=Yhu (C_104 rec) Tryz.f225 [.v .int,.bx (.mv .int 0),.bx (.nv .int 0),.bx (.v (.ptr (.pair .int (.pair (.slice (.slice (.slice .int))) (.slice (.slice .smap)))))),.bx (.v (.slice .int)),.jk 1] [.v .bool] a (fun o r=>some (N_104 o r)):=by
 kernel_rfl
theorem W_104:X0 D_104= [B_104L4,B_104L10]:=by kernel_rfl
theorem R_104L10:Y8 B_104L10=10:=by kernel_rfl
theorem R_104L4:Y8 B_104L4=4:=by kernel_rfl
theorem Q_104 : Tryz.prog.funcs[225]? = some Tryz.f225 ∧ (Tryz.f225.name == "runtime.NumGoroutine") = false ∧ Tryz.f225.body = some D_104 := ⟨Tryz.func225, by kernel_rfl, by kernel_rfl⟩
theorem H_104: ∀d,Holds Tryz.prog 225 (E_104 d)
 |0=>fun _ b h=>absurd (show(none:Option _)=some b from h) (by simp)
 |d+1=>Yhw (en:=E_104 (d+1)) (cx:=(C_104 (Am d))) (YhE tabT rfl).1 (Ygf ⟨⟨H_38,_,_,Q_38⟩,⟨⟨H_103,_,_,Q_103⟩,⟨⟨H_32,_,_,Q_32⟩,⟨⟨H_104 d,_,_,Q_104⟩,trivial⟩⟩⟩⟩) mixT Q_104.1 Q_104.2.2 (Yhz W_104 ⟨YhF (cx:=(C_104 (Am d))) (L:=S_104L4 (Am d) Aa) rfl (by rw[R_104L4];rfl) ⟨Af (Am d),fun _=>rfl,fun n x=>K_104L4 (Am d) n x,Aa,fun _=>rfl⟩,⟨YhF (cx:=(C_104 (Am d))) (L:=S_104L10 (Am d) Aa) rfl (by rw[R_104L10];rfl) ⟨Ak (Am d),fun _=>rfl,fun n x=>K_104L10 (Am d) n x,Aa,fun _=>rfl⟩,trivial⟩⟩) (enc:=N_104) (fun _ _=>⟨rfl,rfl⟩) (F_104 (Am d)) rfl
theorem F_105 (a:YG [.v (.ptr (.pair .int (.pair (.slice (.slice (.slice .int))) (.slice (.slice .smap))))),.v (.slice .int),.bx (.nv .int 0)]):E_105.run a=Yhu C_105 Tryz.f180 [.v (.ptr (.pair .int (.pair (.slice (.slice (.slice .int))) (.slice (.slice .smap))))),.v (.slice .int),.bx (.nv .int 0)] [] a (fun o r=>some (N_105 o r)):=by
 kernel_rfl
theorem W_105:X0 D_105= []:=by kernel_rfl
theorem Q_105 : Tryz.prog.funcs[180]? = some Tryz.f180 ∧ (Tryz.f180.name == "runtime.NumGoroutine") = false ∧ Tryz.f180.body = some D_105 := ⟨Tryz.func180, by kernel_rfl, by kernel_rfl⟩
theorem H_105:Holds Tryz.prog 180 E_105:=
 Yhw (cx:=C_105) (YhE tabT rfl).1 (Ygf ⟨⟨H_104 Aa,_,_,Q_104⟩,trivial⟩) mixT Q_105.1 Q_105.2.2 (Yhz W_105 trivial) (enc:=N_105) (fun _ _=>⟨rfl,rfl⟩) F_105
theorem F_106 (a:YG [.v (.pair .int (.pair .int (.slice (.pair (.slice .int) (.pair .int (.slice (.slice .int))))))),.v (.slice .int)]):E_106.run a=Yhu C_106 Tryz.f93 [.v (.pair .int (.pair .int (.slice (.pair (.slice .int) (.pair .int (.slice (.slice .int))))))),.v (.slice .int)] [.nv .int 0] a (fun o r=>some (N_106 o r)):=by
 kernel_rfl
theorem W_106:X0 D_106= []:=by kernel_rfl
theorem Q_106 : Tryz.prog.funcs[93]? = some Tryz.f93 ∧ (Tryz.f93.name == "runtime.NumGoroutine") = false ∧ Tryz.f93.body = some D_106 := ⟨Tryz.func93, by kernel_rfl, by kernel_rfl⟩
theorem H_106:Holds Tryz.prog 93 E_106:=
 Yhw (cx:=C_106) (YhE tabT rfl).1 (Ygf ⟨⟨H_34,_,_,Q_34⟩,⟨⟨H_105,_,_,Q_105⟩,trivial⟩⟩) mixT Q_106.1 Q_106.2.2 (Yhz W_106 trivial) (enc:=N_106) (fun _ _=>⟨rfl,rfl⟩) F_106
theorem K_107L4 (n:Nat) (x):Bi (n+1) x=YfX C_107 B_107L4 (S_107L4 Aa) x (Bi n):=by
 obtain⟨_,_,_,_,_⟩:=x
 kernel_rfl
theorem F_107 (a:YG [.v (.pair .int (.pair .int (.slice (.pair (.slice .int) (.pair .int (.slice (.slice .int))))))),.v (.slice .int)]):E_107.run a=Yhu C_107 Tryz.f23 [.v (.pair .int (.pair .int (.slice (.pair (.slice .int) (.pair .int (.slice (.slice .int))))))),.v (.slice .int)] [.mv .int 0,.v .bool] a (fun o r=>some (N_107 o r)):=by
 kernel_rfl
theorem W_107:X0 D_107= [B_107L4]:=by kernel_rfl
theorem R_107L4:Y8 B_107L4=4:=by kernel_rfl
theorem Q_107 : Tryz.prog.funcs[23]? = some Tryz.f23 ∧ (Tryz.f23.name == "runtime.NumGoroutine") = false ∧ Tryz.f23.body = some D_107 := ⟨Tryz.func23, by kernel_rfl, by kernel_rfl⟩
theorem H_107:Holds Tryz.prog 23 E_107:=
 Yhw (cx:=C_107) (YhE tabT rfl).1 (Ygf ⟨⟨H_31,_,_,Q_31⟩,⟨⟨H_106,_,_,Q_106⟩,trivial⟩⟩) mixT Q_107.1 Q_107.2.2 (Yhz W_107 ⟨YhF (cx:=C_107) (L:=S_107L4 Aa) rfl (by rw[R_107L4];rfl) ⟨Bi,fun _=>rfl,fun n x=>K_107L4 n x,Aa,fun _=>rfl⟩,trivial⟩) (enc:=N_107) (fun _ _=>⟨rfl,rfl⟩) F_107
theorem K_108L14 (n:Nat) (x):As (n+1) x=YfX C_108 B_108L14 (S_108L14 Aa) x (As n):=by
 obtain⟨_,_,_,_,_,_,_,_⟩:=x
 kernel_rfl
theorem K_108L10 (n:Nat) (x):Ay (n+1) x=YfX C_108 B_108L10 (S_108L10 Aa) x (Ay n):=by
 obtain⟨_,_,_,_,_,_⟩:=x
 kernel_rfl
theorem K_108L30 (n:Nat) (x):AQ (n+1) x=YfX C_108 B_108L30 (S_108L30 Aa) x (AQ n):=by
 obtain⟨_,_,_,_,_,_,_,_,_⟩:=x
 kernel_rfl
theorem K_108L25 (n:Nat) (x):AC (n+1) x=YfX C_108 B_108L25 (S_108L25 Aa) x (AC n):=by
 obtain⟨_,_,_,_,_⟩:=x
 kernel_rfl
theorem K_108L44 (n:Nat) (x):Ap (n+1) x=YfX C_108 B_108L44 (S_108L44 Aa) x (Ap n):=by
 obtain⟨_,_,_,_,_⟩:=x
 kernel_rfl
theorem K_108L51 (n:Nat) (x):Aq (n+1) x=YfX C_108 B_108L51 (S_108L51 Aa) x (Aq n):=by
 obtain⟨_,_,_,_,_,_⟩:=x
 kernel_rfl
theorem F_108 (a:YG [.v (.slice (.num .u8))]):E_108.run a=Yhu C_108 Tryz.f4 [.v (.slice (.num .u8))] [.v .bool] a (fun o r=>some (N_108 o r)):=by
 kernel_rfl
theorem W_108:X0 D_108= [B_108L10,B_108L14,B_108L25,B_108L30,B_108L44,B_108L51]:=by kernel_rfl
theorem R_108L14:Y8 B_108L14=14:=by kernel_rfl
theorem R_108L10:Y8 B_108L10=10:=by kernel_rfl
theorem R_108L30:Y8 B_108L30=30:=by kernel_rfl
theorem R_108L25:Y8 B_108L25=25:=by kernel_rfl
theorem R_108L44:Y8 B_108L44=44:=by kernel_rfl
theorem R_108L51:Y8 B_108L51=51:=by kernel_rfl
theorem Q_108 : Tryz.prog.funcs[4]? = some Tryz.f4 ∧ (Tryz.f4.name == "runtime.NumGoroutine") = false ∧ Tryz.f4.body = some D_108 := ⟨Tryz.func4, by kernel_rfl, by kernel_rfl⟩
theorem H_108:Holds Tryz.prog 4 E_108:=
 Yhw (cx:=C_108) (YhE tabT rfl).1 (Ygf ⟨⟨H_1,_,_,Q_1⟩,⟨⟨H_56,_,_,Q_56⟩,⟨⟨H_85,_,_,Q_85⟩,⟨⟨H_107,_,_,Q_107⟩,⟨⟨H_25,_,_,Q_25⟩,⟨⟨H_42,_,_,Q_42⟩,⟨⟨H_54,_,_,Q_54⟩,⟨⟨H_68,_,_,Q_68⟩,⟨⟨H_78,_,_,Q_78⟩,⟨⟨H_80,_,_,Q_80⟩,⟨⟨H_86,_,_,Q_86⟩,⟨⟨H_95,_,_,Q_95⟩,⟨⟨H_101,_,_,Q_101⟩,trivial⟩⟩⟩⟩⟩⟩⟩⟩⟩⟩⟩⟩⟩) mixT Q_108.1 Q_108.2.2 (Yhz W_108 ⟨YhF (cx:=C_108) (L:=S_108L10 Aa) rfl (by rw[R_108L10];rfl) ⟨Ay,fun _=>rfl,fun n x=>K_108L10 n x,Aa,fun _=>rfl⟩,⟨YhF (cx:=C_108) (L:=S_108L14 Aa) rfl (by rw[R_108L14];rfl) ⟨As,fun _=>rfl,fun n x=>K_108L14 n x,Aa,fun _=>rfl⟩,⟨YhF (cx:=C_108) (L:=S_108L25 Aa) rfl (by rw[R_108L25];rfl) ⟨AC,fun _=>rfl,fun n x=>K_108L25 n x,Aa,fun _=>rfl⟩,⟨YhF (cx:=C_108) (L:=S_108L30 Aa) rfl (by rw[R_108L30];rfl) ⟨AQ,fun _=>rfl,fun n x=>K_108L30 n x,Aa,fun _=>rfl⟩,⟨YhF (cx:=C_108) (L:=S_108L44 Aa) rfl (by rw[R_108L44];rfl) ⟨Ap,fun _=>rfl,fun n x=>K_108L44 n x,Aa,fun _=>rfl⟩,⟨YhF (cx:=C_108) (L:=S_108L51 Aa) rfl (by rw[R_108L51];rfl) ⟨Aq,fun _=>rfl,fun n x=>K_108L51 n x,Aa,fun _=>rfl⟩,trivial⟩⟩⟩⟩⟩⟩) (enc:=N_108) (fun _ _=>⟨rfl,rfl⟩) F_108
end T
