/- Each typed function is what the program computes; no conditions. -/
import Derived.Test.YtdbnhgpajhaleaaGreatCFnPairs
set_option linter.all false
set_option maxRecDepth 10000
open Go Go.Va Go.Proofs
namespace T
theorem F_1 (a):E_1.run a=Yhq C_1 Tryz.f4 E_1.params E_1.results a λo r=>some (N_1 o r):=by
 kernel_rfl
theorem W_1:XO D_1= []:=by kernel_rfl
theorem Q_1:Qk Tryz.prog 4 Tryz.f4 D_1:=⟨Tryz.func4,by kernel_rfl,by kernel_rfl⟩
theorem H_1:Holds Tryz.prog 4 E_1:=
 YhX tabT mixT Q_1 F_1 rfl trivial W_1 trivial
theorem F_2 (a):E_2.run a=Yhq C_2 Tryz.f97 E_2.params E_2.results a λo r=>some (N_2 o r):=by
 kernel_rfl
theorem W_2:XO D_2= []:=by kernel_rfl
theorem Q_2:Qk Tryz.prog 97 Tryz.f97 D_2:=⟨Tryz.func97,by kernel_rfl,by kernel_rfl⟩
theorem H_2:Holds Tryz.prog 97 E_2:=
 YhX tabT mixT Q_2 F_2 rfl trivial W_2 trivial
theorem F_3 (a):E_3.run a=Yhq C_3 Tryz.f73 E_3.params E_3.results a λo r=>some (N_3 o r):=by
 kernel_rfl
theorem W_3:XO D_3= []:=by kernel_rfl
theorem Q_3:Qk Tryz.prog 73 Tryz.f73 D_3:=⟨Tryz.func73,by kernel_rfl,by kernel_rfl⟩
theorem H_3:Holds Tryz.prog 73 E_3:=
 YhX tabT mixT Q_3 F_3 rfl ⟨⟨H_2,_,_,Q_2⟩,trivial⟩ W_3 trivial
theorem F_4 (a):E_4.run a=Yhq C_4 Tryz.f72 E_4.params E_4.results a λo r=>some (N_4 o r):=by
 kernel_rfl
theorem W_4:XO D_4= []:=by kernel_rfl
theorem Q_4:Qk Tryz.prog 72 Tryz.f72 D_4:=⟨Tryz.func72,by kernel_rfl,by kernel_rfl⟩
theorem H_4:Holds Tryz.prog 72 E_4:=
 YhX tabT mixT Q_4 F_4 rfl ⟨⟨H_3,_,_,Q_3⟩,trivial⟩ W_4 trivial
theorem F_5 (a):E_5.run a=Yhq C_5 Tryz.f91 E_5.params E_5.results a λo r=>some (N_5 o r):=by
 kernel_rfl
theorem W_5:XO D_5= []:=by kernel_rfl
theorem Q_5:Qk Tryz.prog 91 Tryz.f91 D_5:=⟨Tryz.func91,by kernel_rfl,by kernel_rfl⟩
theorem H_5:Holds Tryz.prog 91 E_5:=
 YhX tabT mixT Q_5 F_5 rfl trivial W_5 trivial
theorem F_6 (a):E_6.run a=Yhq C_6 Tryz.f84 E_6.params E_6.results a λo r=>some (N_6 o r):=by
 kernel_rfl
theorem W_6:XO D_6= []:=by kernel_rfl
theorem Q_6:Qk Tryz.prog 84 Tryz.f84 D_6:=⟨Tryz.func84,by kernel_rfl,by kernel_rfl⟩
theorem H_6:Holds Tryz.prog 84 E_6:=
 YhX tabT mixT Q_6 F_6 rfl trivial W_6 trivial
theorem F_7 (a):E_7.run a=Yhq C_7 Tryz.f69 E_7.params E_7.results a λo r=>some (N_7 o r):=by
 kernel_rfl
theorem W_7:XO D_7= []:=by kernel_rfl
theorem Q_7:Qk Tryz.prog 69 Tryz.f69 D_7:=⟨Tryz.func69,by kernel_rfl,by kernel_rfl⟩
theorem H_7:Holds Tryz.prog 69 E_7:=
 YhX tabT mixT Q_7 F_7 rfl ⟨⟨H_3,_,_,Q_3⟩,trivial⟩ W_7 trivial
theorem F_8 (a):E_8.run a=Yhq C_8 Tryz.f44 E_8.params E_8.results a λo r=>some (N_8 o r):=by
 kernel_rfl
theorem W_8:XO D_8= []:=by kernel_rfl
theorem Q_8:Qk Tryz.prog 44 Tryz.f44 D_8:=⟨Tryz.func44,by kernel_rfl,by kernel_rfl⟩
theorem H_8:Holds Tryz.prog 44 E_8:=
 YhX tabT mixT Q_8 F_8 rfl trivial W_8 trivial
theorem F_9 (a):E_9.run a=Yhq C_9 Tryz.f92 E_9.params E_9.results a λo r=>some (N_9 o r):=by
 kernel_rfl
theorem W_9:XO D_9= []:=by kernel_rfl
theorem Q_9:Qk Tryz.prog 92 Tryz.f92 D_9:=⟨Tryz.func92,by kernel_rfl,by kernel_rfl⟩
theorem H_9:Holds Tryz.prog 92 E_9:=
 YhX tabT mixT Q_9 F_9 rfl ⟨⟨H_8,_,_,Q_8⟩,trivial⟩ W_9 trivial
theorem K_10L2 (n:Nat) (x):Dx (n+1) x=YeE C_10 B_10L2 (S_10L2 Aa) x (Dx n):=by
 obtain⟨_,_,_⟩:=x
 kernel_rfl
theorem F_10 (a):E_10.run a=Yhq C_10 Tryz.f101 E_10.params E_10.results a λo r=>some (N_10 o r):=by
 kernel_rfl
theorem W_10:XO D_10= [B_10L2]:=by kernel_rfl
theorem Q_10:Qk Tryz.prog 101 Tryz.f101 D_10:=⟨Tryz.func101,by kernel_rfl,by kernel_rfl⟩
theorem H_10:Holds Tryz.prog 101 E_10:=
 YhX tabT mixT Q_10 F_10 rfl trivial W_10 ⟨Yh2 (L:=S_10L2 Aa) K_10L2 (i:=2) (by kernel_rfl),trivial⟩
theorem K_11L4 (n:Nat) (x):Du (n+1) x=YeE C_11 B_11L4 (S_11L4 Aa) x (Du n):=by
 obtain⟨_,_,_⟩:=x
 kernel_rfl
theorem F_11 (a):E_11.run a=Yhq C_11 Tryz.f107 E_11.params E_11.results a λo r=>some (N_11 o r):=by
 kernel_rfl
theorem W_11:XO D_11= [B_11L4]:=by kernel_rfl
theorem Q_11:Qk Tryz.prog 107 Tryz.f107 D_11:=⟨Tryz.func107,by kernel_rfl,by kernel_rfl⟩
theorem H_11:Holds Tryz.prog 107 E_11:=
 YhX tabT mixT Q_11 F_11 rfl trivial W_11 ⟨Yh2 (L:=S_11L4 Aa) K_11L4 (i:=4) (by kernel_rfl),trivial⟩
theorem K_12L2 (n:Nat) (x):C4 (n+1) x=YeE C_12 B_12L2 (S_12L2 Aa) x (C4 n):=by
 obtain⟨_,_,_,_⟩:=x
 kernel_rfl
theorem F_12 (a):E_12.run a=Yhq C_12 Tryz.f106 E_12.params E_12.results a λo r=>some (N_12 o r):=by
 kernel_rfl
theorem W_12:XO D_12= [B_12L2]:=by kernel_rfl
theorem Q_12:Qk Tryz.prog 106 Tryz.f106 D_12:=⟨Tryz.func106,by kernel_rfl,by kernel_rfl⟩
theorem H_12:Holds Tryz.prog 106 E_12:=
 YhX tabT mixT Q_12 F_12 rfl ⟨⟨H_10,_,_,Q_10⟩,⟨⟨H_11,_,_,Q_11⟩,trivial⟩⟩ W_12 ⟨Yh2 (L:=S_12L2 Aa) K_12L2 (i:=2) (by kernel_rfl),trivial⟩
theorem F_13 (a):E_13.run a=Yhq C_13 Tryz.f93 E_13.params E_13.results a λo r=>some (N_13 o r):=by
 kernel_rfl
theorem W_13:XO D_13= []:=by kernel_rfl
theorem Q_13:Qk Tryz.prog 93 Tryz.f93 D_13:=⟨Tryz.func93,by kernel_rfl,by kernel_rfl⟩
theorem H_13:Holds Tryz.prog 93 E_13:=
 YhX tabT mixT Q_13 F_13 rfl ⟨⟨H_12,_,_,Q_12⟩,trivial⟩ W_13 trivial
theorem K_14L3 (n:Nat) (x):AF (n+1) x=YeE C_14 B_14L3 (S_14L3 Aa) x (AF n):=by
 obtain⟨_,_,_,_⟩:=x
 kernel_rfl
theorem F_14 (a):E_14.run a=Yhq C_14 Tryz.f95 E_14.params E_14.results a λo r=>some (N_14 o r):=by
 kernel_rfl
theorem W_14:XO D_14= [B_14L3]:=by kernel_rfl
theorem Q_14:Qk Tryz.prog 95 Tryz.f95 D_14:=⟨Tryz.func95,by kernel_rfl,by kernel_rfl⟩
theorem H_14:Holds Tryz.prog 95 E_14:=
 YhX tabT mixT Q_14 F_14 rfl ⟨⟨H_3,_,_,Q_3⟩,trivial⟩ W_14 ⟨Yh2 (L:=S_14L3 Aa) K_14L3 (i:=3) (by kernel_rfl),trivial⟩
theorem K_15L6 (n:Nat) (x):AX (n+1) x=YeE C_15 B_15L6 (S_15L6 Aa) x (AX n):=by
 obtain⟨_,_,_,_,_⟩:=x
 kernel_rfl
theorem K_15L3 (n:Nat) (x):Bi (n+1) x=YeE C_15 B_15L3 (S_15L3 Aa) x (Bi n):=by
 obtain⟨_,_,_,_⟩:=x
 kernel_rfl
theorem F_15 (a):E_15.run a=Yhq C_15 Tryz.f94 E_15.params E_15.results a λo r=>some (N_15 o r):=by
 kernel_rfl
theorem W_15:XO D_15= [B_15L3,B_15L6]:=by kernel_rfl
theorem Q_15:Qk Tryz.prog 94 Tryz.f94 D_15:=⟨Tryz.func94,by kernel_rfl,by kernel_rfl⟩
theorem H_15:Holds Tryz.prog 94 E_15:=
 YhX tabT mixT Q_15 F_15 rfl trivial W_15 ⟨Yh2 (L:=S_15L3 Aa) K_15L3 (i:=3) (by kernel_rfl),⟨Yh2 (L:=S_15L6 Aa) K_15L6 (i:=6) (by kernel_rfl),trivial⟩⟩
theorem K_16L2 (n:Nat) (x):CP (n+1) x=YeE C_16 B_16L2 (S_16L2 Aa) x (CP n):=by
 obtain⟨_,_,_⟩:=x
 kernel_rfl
theorem F_16 (a):E_16.run a=Yhq C_16 Tryz.f99 E_16.params E_16.results a λo r=>some (N_16 o r):=by
 kernel_rfl
theorem W_16:XO D_16= [B_16L2]:=by kernel_rfl
theorem Q_16:Qk Tryz.prog 99 Tryz.f99 D_16:=⟨Tryz.func99,by kernel_rfl,by kernel_rfl⟩
theorem H_16:Holds Tryz.prog 99 E_16:=
 YhX tabT mixT Q_16 F_16 rfl trivial W_16 ⟨Yh2 (L:=S_16L2 Aa) K_16L2 (i:=2) (by kernel_rfl),trivial⟩
theorem K_17L3 (n:Nat) (x):Dv (n+1) x=YeE C_17 B_17L3 (S_17L3 Aa) x (Dv n):=by
 obtain⟨_,_,_,_⟩:=x
 kernel_rfl
theorem F_17 (a):E_17.run a=Yhq C_17 Tryz.f105 E_17.params E_17.results a λo r=>some (N_17 o r):=by
 kernel_rfl
theorem W_17:XO D_17= [B_17L3]:=by kernel_rfl
theorem Q_17:Qk Tryz.prog 105 Tryz.f105 D_17:=⟨Tryz.func105,by kernel_rfl,by kernel_rfl⟩
theorem H_17:Holds Tryz.prog 105 E_17:=
 YhX tabT mixT Q_17 F_17 rfl trivial W_17 ⟨Yh2 (L:=S_17L3 Aa) K_17L3 (i:=3) (by kernel_rfl),trivial⟩
theorem K_18L3 (n:Nat) (x):Cz (n+1) x=YeE C_18 B_18L3 (S_18L3 Aa) x (Cz n):=by
 obtain⟨_,_,_,_,_⟩:=x
 kernel_rfl
theorem F_18 (a):E_18.run a=Yhq C_18 Tryz.f96 E_18.params E_18.results a λo r=>some (N_18 o r):=by
 kernel_rfl
theorem W_18:XO D_18= [B_18L3]:=by kernel_rfl
theorem Q_18:Qk Tryz.prog 96 Tryz.f96 D_18:=⟨Tryz.func96,by kernel_rfl,by kernel_rfl⟩
theorem H_18:Holds Tryz.prog 96 E_18:=
 YhX tabT mixT Q_18 F_18 rfl ⟨⟨H_16,_,_,Q_16⟩,⟨⟨H_17,_,_,Q_17⟩,trivial⟩⟩ W_18 ⟨Yh2 (L:=S_18L3 Aa) K_18L3 (i:=3) (by kernel_rfl),trivial⟩
theorem F_19 (a):E_19.run a=Yhq C_19 Tryz.f93 E_19.params E_19.results a λo r=>some (N_19 o r):=by
 kernel_rfl
theorem W_19:XO D_19= []:=by kernel_rfl
theorem Q_19:Qk Tryz.prog 93 Tryz.f93 D_19:=⟨Tryz.func93,by kernel_rfl,by kernel_rfl⟩
theorem H_19:Holds Tryz.prog 93 E_19:=
 YhX tabT mixT Q_19 F_19 rfl ⟨⟨H_12,_,_,Q_12⟩,trivial⟩ W_19 trivial
theorem K_20L9 (n:Nat) (x):Bl (n+1) x=YeE C_20 B_20L9 (S_20L9 Aa) x (Bl n):=by
 obtain⟨_,_,_,_,_,_,_,_⟩:=x
 kernel_rfl
theorem K_20L5 (n:Nat) (x):Bk (n+1) x=YeE C_20 B_20L5 (S_20L5 Aa) x (Bk n):=by
 obtain⟨_,_,_,_,_,_⟩:=x
 kernel_rfl
theorem F_20 (a):E_20.run a=Yhq C_20 Tryz.f70 E_20.params E_20.results a λo r=>some (N_20 o r):=by
 kernel_rfl
theorem W_20:XO D_20= [B_20L5,B_20L9]:=by kernel_rfl
theorem Q_20:Qk Tryz.prog 70 Tryz.f70 D_20:=⟨Tryz.func70,by kernel_rfl,by kernel_rfl⟩
theorem H_20:Holds Tryz.prog 70 E_20:=
 YhX tabT mixT Q_20 F_20 rfl ⟨⟨H_8,_,_,Q_8⟩,⟨⟨H_7,_,_,Q_7⟩,⟨⟨H_4,_,_,Q_4⟩,⟨⟨H_3,_,_,Q_3⟩,⟨⟨H_9,_,_,Q_9⟩,⟨⟨H_19,_,_,Q_19⟩,⟨⟨H_15,_,_,Q_15⟩,⟨⟨H_14,_,_,Q_14⟩,⟨⟨H_18,_,_,Q_18⟩,trivial⟩⟩⟩⟩⟩⟩⟩⟩⟩ W_20 ⟨Yh2 (L:=S_20L5 Aa) K_20L5 (i:=5) (by kernel_rfl),⟨Yh2 (L:=S_20L9 Aa) K_20L9 (i:=9) (by kernel_rfl),trivial⟩⟩
theorem K_21L9 (n:Nat) (x):AZ (n+1) x=YeE C_21 B_21L9 (S_21L9 Aa) x (AZ n):=by
 obtain⟨_,_,_,_,_,_,_⟩:=x
 kernel_rfl
theorem K_21L5 (n:Nat) (x):AY (n+1) x=YeE C_21 B_21L5 (S_21L5 Aa) x (AY n):=by
 obtain⟨_,_,_,_,_⟩:=x
 kernel_rfl
theorem K_21L17 (n:Nat) (x):Bc (n+1) x=YeE C_21 B_21L17 (S_21L17 Aa) x (Bc n):=by
 obtain⟨_,_,_,_⟩:=x
 kernel_rfl
theorem F_21 (a):E_21.run a=Yhq C_21 Tryz.f68 E_21.params E_21.results a λo r=>some (N_21 o r):=by
 kernel_rfl
theorem W_21:XO D_21= [B_21L5,B_21L9,B_21L17]:=by kernel_rfl
theorem Q_21:Qk Tryz.prog 68 Tryz.f68 D_21:=⟨Tryz.func68,by kernel_rfl,by kernel_rfl⟩
theorem H_21:Holds Tryz.prog 68 E_21:=
 YhX tabT mixT Q_21 F_21 rfl ⟨⟨H_7,_,_,Q_7⟩,⟨⟨H_20,_,_,Q_20⟩,⟨⟨H_4,_,_,Q_4⟩,⟨⟨H_3,_,_,Q_3⟩,⟨⟨H_6,_,_,Q_6⟩,⟨⟨H_5,_,_,Q_5⟩,trivial⟩⟩⟩⟩⟩⟩ W_21 ⟨Yh2 (L:=S_21L5 Aa) K_21L5 (i:=5) (by kernel_rfl),⟨Yh2 (L:=S_21L9 Aa) K_21L9 (i:=9) (by kernel_rfl),⟨Yh2 (L:=S_21L17 Aa) K_21L17 (i:=17) (by kernel_rfl),trivial⟩⟩⟩
theorem F_22 (a):E_22.run a=Yhq C_22 Tryz.f71 E_22.params E_22.results a λo r=>some (N_22 o r):=by
 kernel_rfl
theorem W_22:XO D_22= []:=by kernel_rfl
theorem Q_22:Qk Tryz.prog 71 Tryz.f71 D_22:=⟨Tryz.func71,by kernel_rfl,by kernel_rfl⟩
theorem H_22:Holds Tryz.prog 71 E_22:=
 YhX tabT mixT Q_22 F_22 rfl trivial W_22 trivial
theorem K_23L11 (n:Nat) (x):Ay (n+1) x=YeE C_23 B_23L11 (S_23L11 Aa) x (Ay n):=by
 obtain⟨_,_,_,_,_,_,_,_,_⟩:=x
 kernel_rfl
theorem K_23L4 (n:Nat) (x):AB (n+1) x=YeE C_23 B_23L4 (S_23L4 Aa) x (AB n):=by
 obtain⟨_,_,_,_,_,_⟩:=x
 kernel_rfl
theorem K_23L23 (n:Nat) (x):Bj (n+1) x=YeE C_23 B_23L23 (S_23L23 Aa) x (Bj n):=by
 obtain⟨_,_,_,_⟩:=x
 kernel_rfl
theorem F_23 (a):E_23.run a=Yhq C_23 Tryz.f41 E_23.params E_23.results a λo r=>some (N_23 o r):=by
 kernel_rfl
theorem W_23:XO D_23= [B_23L4,B_23L11,B_23L23]:=by kernel_rfl
theorem Q_23:Qk Tryz.prog 41 Tryz.f41 D_23:=⟨Tryz.func41,by kernel_rfl,by kernel_rfl⟩
theorem H_23:Holds Tryz.prog 41 E_23:=
 YhX tabT mixT Q_23 F_23 rfl ⟨⟨H_21,_,_,Q_21⟩,⟨⟨H_7,_,_,Q_7⟩,⟨⟨H_20,_,_,Q_20⟩,⟨⟨H_22,_,_,Q_22⟩,⟨⟨H_4,_,_,Q_4⟩,⟨⟨H_3,_,_,Q_3⟩,trivial⟩⟩⟩⟩⟩⟩ W_23 ⟨Yh2 (L:=S_23L4 Aa) K_23L4 (i:=4) (by kernel_rfl),⟨Yh2 (L:=S_23L11 Aa) K_23L11 (i:=11) (by kernel_rfl),⟨Yh2 (L:=S_23L23 Aa) K_23L23 (i:=23) (by kernel_rfl),trivial⟩⟩⟩
theorem F_24 (a):E_24.run a=Yhq C_24 Tryz.f19 E_24.params E_24.results a λo r=>some (N_24 o r):=by
 kernel_rfl
theorem W_24:XO D_24= []:=by kernel_rfl
theorem Q_24:Qk Tryz.prog 19 Tryz.f19 D_24:=⟨Tryz.func19,by kernel_rfl,by kernel_rfl⟩
theorem H_24:Holds Tryz.prog 19 E_24:=
 YhX tabT mixT Q_24 F_24 rfl ⟨⟨H_23,_,_,Q_23⟩,trivial⟩ W_24 trivial
theorem F_25 (a):E_25.run a=Yhq C_25 Tryz.f5 E_25.params E_25.results a λo r=>some (N_25 o r):=by
 kernel_rfl
theorem W_25:XO D_25= []:=by kernel_rfl
theorem Q_25:Qk Tryz.prog 5 Tryz.f5 D_25:=⟨Tryz.func5,by kernel_rfl,by kernel_rfl⟩
theorem H_25:Holds Tryz.prog 5 E_25:=
 YhX tabT mixT Q_25 F_25 rfl ⟨⟨H_24,_,_,Q_24⟩,trivial⟩ W_25 trivial
theorem F_26 (a):E_26.run a=Yhq C_26 Tryz.f42 E_26.params E_26.results a λo r=>some (N_26 o r):=by
 kernel_rfl
theorem W_26:XO D_26= []:=by kernel_rfl
theorem Q_26:Qk Tryz.prog 42 Tryz.f42 D_26:=⟨Tryz.func42,by kernel_rfl,by kernel_rfl⟩
theorem H_26:Holds Tryz.prog 42 E_26:=
 YhX tabT mixT Q_26 F_26 rfl trivial W_26 trivial
theorem K_27L2 (n:Nat) (x):Do (n+1) x=YeE C_27 B_27L2 (S_27L2 Aa) x (Do n):=by
 obtain⟨_,_,_,_⟩:=x
 kernel_rfl
theorem F_27 (a):E_27.run a=Yhq C_27 Tryz.f65 E_27.params E_27.results a λo r=>some (N_27 o r):=by
 kernel_rfl
theorem W_27:XO D_27= [B_27L2]:=by kernel_rfl
theorem Q_27:Qk Tryz.prog 65 Tryz.f65 D_27:=⟨Tryz.func65,by kernel_rfl,by kernel_rfl⟩
theorem H_27:Holds Tryz.prog 65 E_27:=
 YhX tabT mixT Q_27 F_27 rfl trivial W_27 ⟨Yh2 (L:=S_27L2 Aa) K_27L2 (i:=2) (by kernel_rfl),trivial⟩
theorem K_28L2 (n:Nat) (x):Bx (n+1) x=YeE C_28 B_28L2 (S_28L2 Aa) x (Bx n):=by
 obtain⟨_,_,_⟩:=x
 kernel_rfl
theorem F_28 (a):E_28.run a=Yhq C_28 Tryz.f98 E_28.params E_28.results a λo r=>some (N_28 o r):=by
 kernel_rfl
theorem W_28:XO D_28= [B_28L2]:=by kernel_rfl
theorem Q_28:Qk Tryz.prog 98 Tryz.f98 D_28:=⟨Tryz.func98,by kernel_rfl,by kernel_rfl⟩
theorem H_28:Holds Tryz.prog 98 E_28:=
 YhX tabT mixT Q_28 F_28 rfl trivial W_28 ⟨Yh2 (L:=S_28L2 Aa) K_28L2 (i:=2) (by kernel_rfl),trivial⟩
theorem K_29L4 (n:Nat) (x):BT (n+1) x=YeE C_29 B_29L4 (S_29L4 Aa) x (BT n):=by
 obtain⟨_,_,_,_,_⟩:=x
 kernel_rfl
theorem F_29 (a):E_29.run a=Yhq C_29 Tryz.f74 E_29.params E_29.results a λo r=>some (N_29 o r):=by
 kernel_rfl
theorem W_29:XO D_29= [B_29L4]:=by kernel_rfl
theorem Q_29:Qk Tryz.prog 74 Tryz.f74 D_29:=⟨Tryz.func74,by kernel_rfl,by kernel_rfl⟩
theorem H_29:Holds Tryz.prog 74 E_29:=
 YhX tabT mixT Q_29 F_29 rfl ⟨⟨H_27,_,_,Q_27⟩,⟨⟨H_28,_,_,Q_28⟩,trivial⟩⟩ W_29 ⟨Yh2 (L:=S_29L4 Aa) K_29L4 (i:=4) (by kernel_rfl),trivial⟩
theorem F_30 (a):E_30.run a=Yhq C_30 Tryz.f43 E_30.params E_30.results a λo r=>some (N_30 o r):=by
 kernel_rfl
theorem W_30:XO D_30= []:=by kernel_rfl
theorem Q_30:Qk Tryz.prog 43 Tryz.f43 D_30:=⟨Tryz.func43,by kernel_rfl,by kernel_rfl⟩
theorem H_30:Holds Tryz.prog 43 E_30:=
 YhX tabT mixT Q_30 F_30 rfl ⟨⟨H_27,_,_,Q_27⟩,⟨⟨H_29,_,_,Q_29⟩,trivial⟩⟩ W_30 trivial
theorem K_31L4 (n:Nat) (x):CG (n+1) x=YeE C_31 B_31L4 (S_31L4 Aa) x (CG n):=by
 obtain⟨_,_,_,_⟩:=x
 kernel_rfl
theorem F_31 (a):E_31.run a=Yhq C_31 Tryz.f20 E_31.params E_31.results a λo r=>some (N_31 o r):=by
 kernel_rfl
theorem W_31:XO D_31= [B_31L4]:=by kernel_rfl
theorem Q_31:Qk Tryz.prog 20 Tryz.f20 D_31:=⟨Tryz.func20,by kernel_rfl,by kernel_rfl⟩
theorem H_31:Holds Tryz.prog 20 E_31:=
 YhX tabT mixT Q_31 F_31 rfl ⟨⟨H_26,_,_,Q_26⟩,⟨⟨H_30,_,_,Q_30⟩,trivial⟩⟩ W_31 ⟨Yh2 (L:=S_31L4 Aa) K_31L4 (i:=4) (by kernel_rfl),trivial⟩
theorem K_32L2 (n:Nat) (x):Dm (n+1) x=YeE C_32 B_32L2 (S_32L2 Aa) x (Dm n):=by
 obtain⟨_,_,_,_⟩:=x
 kernel_rfl
theorem F_32 (a):E_32.run a=Yhq C_32 Tryz.f103 E_32.params E_32.results a λo r=>some (N_32 o r):=by
 kernel_rfl
theorem W_32:XO D_32= [B_32L2]:=by kernel_rfl
theorem Q_32:Qk Tryz.prog 103 Tryz.f103 D_32:=⟨Tryz.func103,by kernel_rfl,by kernel_rfl⟩
theorem H_32:Holds Tryz.prog 103 E_32:=
 YhX tabT mixT Q_32 F_32 rfl trivial W_32 ⟨Yh2 (L:=S_32L2 Aa) K_32L2 (i:=2) (by kernel_rfl),trivial⟩
theorem K_33L2 (n:Nat) (x):Dp (n+1) x=YeE C_33 B_33L2 (S_33L2 Aa) x (Dp n):=by
 obtain⟨_,_,_,_⟩:=x
 kernel_rfl
theorem F_33 (a):E_33.run a=Yhq C_33 Tryz.f80 E_33.params E_33.results a λo r=>some (N_33 o r):=by
 kernel_rfl
theorem W_33:XO D_33= [B_33L2]:=by kernel_rfl
theorem Q_33:Qk Tryz.prog 80 Tryz.f80 D_33:=⟨Tryz.func80,by kernel_rfl,by kernel_rfl⟩
theorem H_33:Holds Tryz.prog 80 E_33:=
 YhX tabT mixT Q_33 F_33 rfl ⟨⟨H_32,_,_,Q_32⟩,trivial⟩ W_33 ⟨Yh2 (L:=S_33L2 Aa) K_33L2 (i:=2) (by kernel_rfl),trivial⟩
theorem K_34L3 (n:Nat) (x):CY (n+1) x=YeE C_34 B_34L3 (S_34L3 Aa) x (CY n):=by
 obtain⟨_,_,_,_,_⟩:=x
 kernel_rfl
theorem F_34 (a):E_34.run a=Yhq C_34 Tryz.f50 E_34.params E_34.results a λo r=>some (N_34 o r):=by
 kernel_rfl
theorem W_34:XO D_34= [B_34L3]:=by kernel_rfl
theorem Q_34:Qk Tryz.prog 50 Tryz.f50 D_34:=⟨Tryz.func50,by kernel_rfl,by kernel_rfl⟩
theorem H_34:Holds Tryz.prog 50 E_34:=
 YhX tabT mixT Q_34 F_34 rfl ⟨⟨H_33,_,_,Q_33⟩,trivial⟩ W_34 ⟨Yh2 (L:=S_34L3 Aa) K_34L3 (i:=3) (by kernel_rfl),trivial⟩
theorem K_35L3 (n:Nat) (x):C7 (n+1) x=YeE C_35 B_35L3 (S_35L3 Aa) x (C7 n):=by
 obtain⟨_,_,_,_,_⟩:=x
 kernel_rfl
theorem F_35 (a):E_35.run a=Yhq C_35 Tryz.f67 E_35.params E_35.results a λo r=>some (N_35 o r):=by
 kernel_rfl
theorem W_35:XO D_35= [B_35L3]:=by kernel_rfl
theorem Q_35:Qk Tryz.prog 67 Tryz.f67 D_35:=⟨Tryz.func67,by kernel_rfl,by kernel_rfl⟩
theorem H_35:Holds Tryz.prog 67 E_35:=
 YhX tabT mixT Q_35 F_35 rfl trivial W_35 ⟨Yh2 (L:=S_35L3 Aa) K_35L3 (i:=3) (by kernel_rfl),trivial⟩
theorem K_36L4 (n:Nat) (x):CV (n+1) x=YeE C_36 B_36L4 (S_36L4 Aa) x (CV n):=by
 obtain⟨_,_,_,_⟩:=x
 kernel_rfl
theorem F_36 (a):E_36.run a=Yhq C_36 Tryz.f90 E_36.params E_36.results a λo r=>some (N_36 o r):=by
 kernel_rfl
theorem W_36:XO D_36= [B_36L4]:=by kernel_rfl
theorem Q_36:Qk Tryz.prog 90 Tryz.f90 D_36:=⟨Tryz.func90,by kernel_rfl,by kernel_rfl⟩
theorem H_36:Holds Tryz.prog 90 E_36:=
 YhX tabT mixT Q_36 F_36 rfl trivial W_36 ⟨Yh2 (L:=S_36L4 Aa) K_36L4 (i:=4) (by kernel_rfl),trivial⟩
theorem K_37L2 (n:Nat) (x):Dn (n+1) x=YeE C_37 B_37L2 (S_37L2 Aa) x (Dn n):=by
 obtain⟨_,_,_,_⟩:=x
 kernel_rfl
theorem F_37 (a):E_37.run a=Yhq C_37 Tryz.f66 E_37.params E_37.results a λo r=>some (N_37 o r):=by
 kernel_rfl
theorem W_37:XO D_37= [B_37L2]:=by kernel_rfl
theorem Q_37:Qk Tryz.prog 66 Tryz.f66 D_37:=⟨Tryz.func66,by kernel_rfl,by kernel_rfl⟩
theorem H_37:Holds Tryz.prog 66 E_37:=
 YhX tabT mixT Q_37 F_37 rfl ⟨⟨H_36,_,_,Q_36⟩,trivial⟩ W_37 ⟨Yh2 (L:=S_37L2 Aa) K_37L2 (i:=2) (by kernel_rfl),trivial⟩
theorem K_38L2 (n:Nat) (x):CK (n+1) x=YeE C_38 B_38L2 (S_38L2 Aa) x (CK n):=by
 obtain⟨_,_,_,_⟩:=x
 kernel_rfl
theorem F_38 (a):E_38.run a=Yhq C_38 Tryz.f79 E_38.params E_38.results a λo r=>some (N_38 o r):=by
 kernel_rfl
theorem W_38:XO D_38= [B_38L2]:=by kernel_rfl
theorem Q_38:Qk Tryz.prog 79 Tryz.f79 D_38:=⟨Tryz.func79,by kernel_rfl,by kernel_rfl⟩
theorem H_38:Holds Tryz.prog 79 E_38:=
 YhX tabT mixT Q_38 F_38 rfl ⟨⟨H_37,_,_,Q_37⟩,⟨⟨H_35,_,_,Q_35⟩,trivial⟩⟩ W_38 ⟨Yh2 (L:=S_38L2 Aa) K_38L2 (i:=2) (by kernel_rfl),trivial⟩
theorem K_39L11 (n:Nat) (x):BI (n+1) x=YeE C_39 B_39L11 (S_39L11 Aa) x (BI n):=by
 obtain⟨_,_,_,_,_,_,_,_,_,_⟩:=x
 kernel_rfl
theorem K_39L7 (n:Nat) (x):BS (n+1) x=YeE C_39 B_39L7 (S_39L7 Aa) x (BS n):=by
 obtain⟨_,_,_,_,_,_,_⟩:=x
 kernel_rfl
theorem K_39L3 (n:Nat) (x):BR (n+1) x=YeE C_39 B_39L3 (S_39L3 Aa) x (BR n):=by
 obtain⟨_,_,_,_⟩:=x
 kernel_rfl
theorem K_39L29 (n:Nat) (x):BM (n+1) x=YeE C_39 B_39L29 (S_39L29 Aa) x (BM n):=by
 obtain⟨_,_,_,_,_,_,_,_,_,_⟩:=x
 kernel_rfl
theorem K_39L26 (n:Nat) (x):BL (n+1) x=YeE C_39 B_39L26 (S_39L26 Aa) x (BL n):=by
 obtain⟨_,_,_,_,_,_,_,_,_⟩:=x
 kernel_rfl
theorem K_39L22 (n:Nat) (x):BK (n+1) x=YeE C_39 B_39L22 (S_39L22 Aa) x (BK n):=by
 obtain⟨_,_,_,_,_,_,_⟩:=x
 kernel_rfl
theorem K_39L19 (n:Nat) (x):BJ (n+1) x=YeE C_39 B_39L19 (S_39L19 Aa) x (BJ n):=by
 obtain⟨_,_,_,_,_⟩:=x
 kernel_rfl
theorem F_39 (a):E_39.run a=Yhq C_39 Tryz.f49 E_39.params E_39.results a λo r=>some (N_39 o r):=by
 kernel_rfl
theorem W_39:XO D_39= [B_39L3,B_39L7,B_39L11,B_39L19,B_39L22,B_39L26,B_39L29]:=by kernel_rfl
theorem Q_39:Qk Tryz.prog 49 Tryz.f49 D_39:=⟨Tryz.func49,by kernel_rfl,by kernel_rfl⟩
theorem H_39:Holds Tryz.prog 49 E_39:=
 YhX tabT mixT Q_39 F_39 rfl ⟨⟨H_34,_,_,Q_34⟩,⟨⟨H_38,_,_,Q_38⟩,trivial⟩⟩ W_39 ⟨Yh2 (L:=S_39L3 Aa) K_39L3 (i:=3) (by kernel_rfl),⟨Yh2 (L:=S_39L7 Aa) K_39L7 (i:=7) (by kernel_rfl),⟨Yh2 (L:=S_39L11 Aa) K_39L11 (i:=11) (by kernel_rfl),⟨Yh2 (L:=S_39L19 Aa) K_39L19 (i:=19) (by kernel_rfl),⟨Yh2 (L:=S_39L22 Aa) K_39L22 (i:=22) (by kernel_rfl),⟨Yh2 (L:=S_39L26 Aa) K_39L26 (i:=26) (by kernel_rfl),⟨Yh2 (L:=S_39L29 Aa) K_39L29 (i:=29) (by kernel_rfl),trivial⟩⟩⟩⟩⟩⟩⟩
theorem K_40L2 (n:Nat) (x):Ar (n+1) x=YeE C_40 B_40L2 (S_40L2 Aa) x (Ar n):=by
 obtain⟨_,_,_,_,_,_,_,_⟩:=x
 kernel_rfl
theorem F_40 (a):E_40.run a=Yhq C_40 Tryz.f51 E_40.params E_40.results a λo r=>some (N_40 o r):=by
 kernel_rfl
theorem W_40:XO D_40= [B_40L2]:=by kernel_rfl
theorem Q_40:Qk Tryz.prog 51 Tryz.f51 D_40:=⟨Tryz.func51,by kernel_rfl,by kernel_rfl⟩
theorem H_40:Holds Tryz.prog 51 E_40:=
 YhX tabT mixT Q_40 F_40 rfl ⟨⟨H_38,_,_,Q_38⟩,trivial⟩ W_40 ⟨Yh2 (L:=S_40L2 Aa) K_40L2 (i:=2) (by kernel_rfl),trivial⟩
theorem K_41L18 (n:Nat) (x):Au (n+1) x=YeE C_41 B_41L18 (S_41L18 Aa) x (Au n):=by
 obtain⟨_,_,_,_,_,_,_,_,_,_,_,_,_⟩:=x
 kernel_rfl
theorem K_41L13 (n:Nat) (x):As (n+1) x=YeE C_41 B_41L13 (S_41L13 Aa) x (As n):=by
 obtain⟨_,_,_,_,_,_,_,_,_,_⟩:=x
 kernel_rfl
theorem K_41L10 (n:Nat) (x):Bq (n+1) x=YeE C_41 B_41L10 (S_41L10 Aa) x (Bq n):=by
 obtain⟨_,_,_,_,_,_,_,_⟩:=x
 kernel_rfl
theorem K_41L7 (n:Nat) (x):By (n+1) x=YeE C_41 B_41L7 (S_41L7 Aa) x (By n):=by
 obtain⟨_,_,_,_,_,_⟩:=x
 kernel_rfl
theorem K_41L4 (n:Nat) (x):B3 (n+1) x=YeE C_41 B_41L4 (S_41L4 Aa) x (B3 n):=by
 obtain⟨_,_,_,_⟩:=x
 kernel_rfl
theorem F_41 (a):E_41.run a=Yhq C_41 Tryz.f25 E_41.params E_41.results a λo r=>some (N_41 o r):=by
 kernel_rfl
theorem W_41:XO D_41= [B_41L4,B_41L7,B_41L10,B_41L13,B_41L18]:=by kernel_rfl
theorem Q_41:Qk Tryz.prog 25 Tryz.f25 D_41:=⟨Tryz.func25,by kernel_rfl,by kernel_rfl⟩
theorem H_41:Holds Tryz.prog 25 E_41:=
 YhX tabT mixT Q_41 F_41 rfl ⟨⟨H_39,_,_,Q_39⟩,⟨⟨H_34,_,_,Q_34⟩,⟨⟨H_40,_,_,Q_40⟩,trivial⟩⟩⟩ W_41 ⟨Yh2 (L:=S_41L4 Aa) K_41L4 (i:=4) (by kernel_rfl),⟨Yh2 (L:=S_41L7 Aa) K_41L7 (i:=7) (by kernel_rfl),⟨Yh2 (L:=S_41L10 Aa) K_41L10 (i:=10) (by kernel_rfl),⟨Yh2 (L:=S_41L13 Aa) K_41L13 (i:=13) (by kernel_rfl),⟨Yh2 (L:=S_41L18 Aa) K_41L18 (i:=18) (by kernel_rfl),trivial⟩⟩⟩⟩⟩
theorem K_42L14 (n:Nat) (x):Bw (n+1) x=YeE C_42 B_42L14 (S_42L14 Aa) x (Bw n):=by
 obtain⟨_,_,_,_,_,_,_,_,_,_,_,_,_,_,_⟩:=x
 kernel_rfl
theorem K_42L11 (n:Nat) (x):BU (n+1) x=YeE C_42 B_42L11 (S_42L11 Aa) x (BU n):=by
 obtain⟨_,_,_,_,_,_,_,_,_,_,_⟩:=x
 kernel_rfl
theorem K_42L7 (n:Nat) (x):B6 (n+1) x=YeE C_42 B_42L7 (S_42L7 Aa) x (B6 n):=by
 obtain⟨_,_,_,_,_,_,_⟩:=x
 kernel_rfl
theorem K_42L4 (n:Nat) (x):CJ (n+1) x=YeE C_42 B_42L4 (S_42L4 Aa) x (CJ n):=by
 obtain⟨_,_,_,_,_⟩:=x
 kernel_rfl
theorem F_42 (a):E_42.run a=Yhq C_42 Tryz.f21 E_42.params E_42.results a λo r=>some (N_42 o r):=by
 kernel_rfl
theorem W_42:XO D_42= [B_42L4,B_42L7,B_42L11,B_42L14]:=by kernel_rfl
theorem Q_42:Qk Tryz.prog 21 Tryz.f21 D_42:=⟨Tryz.func21,by kernel_rfl,by kernel_rfl⟩
theorem H_42:Holds Tryz.prog 21 E_42:=
 YhX tabT mixT Q_42 F_42 rfl ⟨⟨H_41,_,_,Q_41⟩,trivial⟩ W_42 ⟨Yh2 (L:=S_42L4 Aa) K_42L4 (i:=4) (by kernel_rfl),⟨Yh2 (L:=S_42L7 Aa) K_42L7 (i:=7) (by kernel_rfl),⟨Yh2 (L:=S_42L11 Aa) K_42L11 (i:=11) (by kernel_rfl),⟨Yh2 (L:=S_42L14 Aa) K_42L14 (i:=14) (by kernel_rfl),trivial⟩⟩⟩⟩
theorem F_43 (a):E_43.run a=Yhq C_43 Tryz.f6 E_43.params E_43.results a λo r=>some (N_43 o r):=by
 kernel_rfl
theorem W_43:XO D_43= []:=by kernel_rfl
theorem Q_43:Qk Tryz.prog 6 Tryz.f6 D_43:=⟨Tryz.func6,by kernel_rfl,by kernel_rfl⟩
theorem H_43:Holds Tryz.prog 6 E_43:=
 YhX tabT mixT Q_43 F_43 rfl ⟨⟨H_31,_,_,Q_31⟩,⟨⟨H_42,_,_,Q_42⟩,trivial⟩⟩ W_43 trivial
theorem K_44L2 (n:Nat) (x):Cw (n+1) x=YeE C_44 B_44L2 (S_44L2 Aa) x (Cw n):=by
 obtain⟨_,_,_⟩:=x
 kernel_rfl
theorem F_44 (a):E_44.run a=Yhq C_44 Tryz.f76 E_44.params E_44.results a λo r=>some (N_44 o r):=by
 kernel_rfl
theorem W_44:XO D_44= [B_44L2]:=by kernel_rfl
theorem Q_44:Qk Tryz.prog 76 Tryz.f76 D_44:=⟨Tryz.func76,by kernel_rfl,by kernel_rfl⟩
theorem H_44:Holds Tryz.prog 76 E_44:=
 YhX tabT mixT Q_44 F_44 rfl ⟨⟨H_8,_,_,Q_8⟩,trivial⟩ W_44 ⟨Yh2 (L:=S_44L2 Aa) K_44L2 (i:=2) (by kernel_rfl),trivial⟩
theorem F_45 (a):E_45.run a=Yhq C_45 Tryz.f100 E_45.params E_45.results a λo r=>some (N_45 o r):=by
 kernel_rfl
theorem W_45:XO D_45= []:=by kernel_rfl
theorem Q_45:Qk Tryz.prog 100 Tryz.f100 D_45:=⟨Tryz.func100,by kernel_rfl,by kernel_rfl⟩
theorem H_45:Holds Tryz.prog 100 E_45:=
 YhX tabT mixT Q_45 F_45 rfl ⟨⟨H_44,_,_,Q_44⟩,trivial⟩ W_45 trivial
theorem K_46L4 (n:Nat) (x):CA (n+1) x=YeE C_46 B_46L4 (S_46L4 Aa) x (CA n):=by
 obtain⟨_,_,_⟩:=x
 kernel_rfl
theorem F_46 (a):E_46.run a=Yhq C_46 Tryz.f75 E_46.params E_46.results a λo r=>some (N_46 o r):=by
 kernel_rfl
theorem W_46:XO D_46= [B_46L4]:=by kernel_rfl
theorem Q_46:Qk Tryz.prog 75 Tryz.f75 D_46:=⟨Tryz.func75,by kernel_rfl,by kernel_rfl⟩
theorem H_46:Holds Tryz.prog 75 E_46:=
 YhX tabT mixT Q_46 F_46 rfl ⟨⟨H_8,_,_,Q_8⟩,⟨⟨H_16,_,_,Q_16⟩,⟨⟨H_45,_,_,Q_45⟩,⟨⟨H_10,_,_,Q_10⟩,trivial⟩⟩⟩⟩ W_46 ⟨Yh2 (L:=S_46L4 Aa) K_46L4 (i:=4) (by kernel_rfl),trivial⟩
theorem F_47 (a):E_47.run a=Yhq C_47 Tryz.f45 E_47.params E_47.results a λo r=>some (N_47 o r):=by
 kernel_rfl
theorem W_47:XO D_47= []:=by kernel_rfl
theorem Q_47:Qk Tryz.prog 45 Tryz.f45 D_47:=⟨Tryz.func45,by kernel_rfl,by kernel_rfl⟩
theorem H_47:Holds Tryz.prog 45 E_47:=
 YhX tabT mixT Q_47 F_47 rfl ⟨⟨H_46,_,_,Q_46⟩,⟨⟨H_44,_,_,Q_44⟩,trivial⟩⟩ W_47 trivial
theorem K_48L4 (n:Nat) (x):Da (n+1) x=YeE C_48 B_48L4 (S_48L4 Aa) x (Da n):=by
 obtain⟨_,_⟩:=x
 kernel_rfl
theorem F_48 (a):E_48.run a=Yhq C_48 Tryz.f22 E_48.params E_48.results a λo r=>some (N_48 o r):=by
 kernel_rfl
theorem W_48:XO D_48= [B_48L4]:=by kernel_rfl
theorem Q_48:Qk Tryz.prog 22 Tryz.f22 D_48:=⟨Tryz.func22,by kernel_rfl,by kernel_rfl⟩
theorem H_48:Holds Tryz.prog 22 E_48:=
 YhX tabT mixT Q_48 F_48 rfl ⟨⟨H_8,_,_,Q_8⟩,⟨⟨H_47,_,_,Q_47⟩,trivial⟩⟩ W_48 ⟨Yh2 (L:=S_48L4 Aa) K_48L4 (i:=4) (by kernel_rfl),trivial⟩
theorem K_49L2 (n:Nat) (x):DG (n+1) x=YeE C_49 B_49L2 (S_49L2 Aa) x (DG n):=by
 obtain⟨_,_,_⟩:=x
 kernel_rfl
theorem F_49 (a):E_49.run a=Yhq C_49 Tryz.f77 E_49.params E_49.results a λo r=>some (N_49 o r):=by
 kernel_rfl
theorem W_49:XO D_49= [B_49L2]:=by kernel_rfl
theorem Q_49:Qk Tryz.prog 77 Tryz.f77 D_49:=⟨Tryz.func77,by kernel_rfl,by kernel_rfl⟩
theorem H_49:Holds Tryz.prog 77 E_49:=
 YhX tabT mixT Q_49 F_49 rfl trivial W_49 ⟨Yh2 (L:=S_49L2 Aa) K_49L2 (i:=2) (by kernel_rfl),trivial⟩
theorem K_50L7 (n:Nat) (x):BG (n+1) x=YeE C_50 B_50L7 (S_50L7 Aa) x (BG n):=by
 obtain⟨_,_,_,_,_,_⟩:=x
 kernel_rfl
theorem K_50L3 (n:Nat) (x):Cb (n+1) x=YeE C_50 B_50L3 (S_50L3 Aa) x (Cb n):=by
 obtain⟨_,_,_,_⟩:=x
 kernel_rfl
theorem F_50 (a):E_50.run a=Yhq C_50 Tryz.f46 E_50.params E_50.results a λo r=>some (N_50 o r):=by
 kernel_rfl
theorem W_50:XO D_50= [B_50L3,B_50L7]:=by kernel_rfl
theorem Q_50:Qk Tryz.prog 46 Tryz.f46 D_50:=⟨Tryz.func46,by kernel_rfl,by kernel_rfl⟩
theorem H_50:Holds Tryz.prog 46 E_50:=
 YhX tabT mixT Q_50 F_50 rfl ⟨⟨H_49,_,_,Q_49⟩,trivial⟩ W_50 ⟨Yh2 (L:=S_50L3 Aa) K_50L3 (i:=3) (by kernel_rfl),⟨Yh2 (L:=S_50L7 Aa) K_50L7 (i:=7) (by kernel_rfl),trivial⟩⟩
theorem F_51 (a):E_51.run a=Yhq C_51 Tryz.f102 E_51.params E_51.results a λo r=>some (N_51 o r):=by
 kernel_rfl
theorem W_51:XO D_51= []:=by kernel_rfl
theorem Q_51:Qk Tryz.prog 102 Tryz.f102 D_51:=⟨Tryz.func102,by kernel_rfl,by kernel_rfl⟩
theorem H_51:Holds Tryz.prog 102 E_51:=
 YhX tabT mixT Q_51 F_51 rfl ⟨⟨H_12,_,_,Q_12⟩,trivial⟩ W_51 trivial
theorem K_52L3 (n:Nat) (x):B4 (n+1) x=YeE C_52 B_52L3 (S_52L3 Aa) x (B4 n):=by
 obtain⟨_,_,_,_⟩:=x
 kernel_rfl
theorem F_52 (a):E_52.run a=Yhq C_52 Tryz.f78 E_52.params E_52.results a λo r=>some (N_52 o r):=by
 kernel_rfl
theorem W_52:XO D_52= [B_52L3]:=by kernel_rfl
theorem Q_52:Qk Tryz.prog 78 Tryz.f78 D_52:=⟨Tryz.func78,by kernel_rfl,by kernel_rfl⟩
theorem H_52:Holds Tryz.prog 78 E_52:=
 YhX tabT mixT Q_52 F_52 rfl ⟨⟨H_51,_,_,Q_51⟩,trivial⟩ W_52 ⟨Yh2 (L:=S_52L3 Aa) K_52L3 (i:=3) (by kernel_rfl),trivial⟩
theorem K_53L2 (n:Nat) (x):Db (n+1) x=YeE C_53 B_53L2 (S_53L2 Aa) x (Db n):=by
 obtain⟨_,_,_⟩:=x
 kernel_rfl
theorem F_53 (a):E_53.run a=Yhq C_53 Tryz.f47 E_53.params E_53.results a λo r=>some (N_53 o r):=by
 kernel_rfl
theorem W_53:XO D_53= [B_53L2]:=by kernel_rfl
theorem Q_53:Qk Tryz.prog 47 Tryz.f47 D_53:=⟨Tryz.func47,by kernel_rfl,by kernel_rfl⟩
theorem H_53:Holds Tryz.prog 47 E_53:=
 YhX tabT mixT Q_53 F_53 rfl ⟨⟨H_52,_,_,Q_52⟩,trivial⟩ W_53 ⟨Yh2 (L:=S_53L2 Aa) K_53L2 (i:=2) (by kernel_rfl),trivial⟩
theorem F_54 (a):E_54.run a=Yhq C_54 Tryz.f27 E_54.params E_54.results a λo r=>some (N_54 o r):=by
 kernel_rfl
theorem W_54:XO D_54= []:=by kernel_rfl
theorem Q_54:Qk Tryz.prog 27 Tryz.f27 D_54:=⟨Tryz.func27,by kernel_rfl,by kernel_rfl⟩
theorem H_54:Holds Tryz.prog 27 E_54:=
 YhX tabT mixT Q_54 F_54 rfl trivial W_54 trivial
theorem K_55L10 (n:Nat) (x):AM (n+1) x=YeE C_55 B_55L10 (S_55L10 Aa) x (AM n):=by
 obtain⟨_,_,_,_,_,_,_,_,_,_,_⟩:=x
 kernel_rfl
theorem K_55L5 (n:Nat) (x):AQ (n+1) x=YeE C_55 B_55L5 (S_55L5 Aa) x (AQ n):=by
 obtain⟨_,_,_,_,_,_,_,_,_⟩:=x
 kernel_rfl
theorem F_55 (a):E_55.run a=Yhq C_55 Tryz.f48 E_55.params E_55.results a λo r=>some (N_55 o r):=by
 kernel_rfl
theorem W_55:XO D_55= [B_55L5,B_55L10]:=by kernel_rfl
theorem Q_55:Qk Tryz.prog 48 Tryz.f48 D_55:=⟨Tryz.func48,by kernel_rfl,by kernel_rfl⟩
theorem H_55:Holds Tryz.prog 48 E_55:=
 YhX tabT mixT Q_55 F_55 rfl ⟨⟨H_54,_,_,Q_54⟩,⟨⟨H_50,_,_,Q_50⟩,⟨⟨H_53,_,_,Q_53⟩,trivial⟩⟩⟩ W_55 ⟨Yh2 (L:=S_55L5 Aa) K_55L5 (i:=5) (by kernel_rfl),⟨Yh2 (L:=S_55L10 Aa) K_55L10 (i:=10) (by kernel_rfl),trivial⟩⟩
theorem K_56L13 (n:Nat) (x):BH (n+1) x=YeE C_56 B_56L13 (S_56L13 Aa) x (BH n):=by
 obtain⟨_,_,_,_,_,_,_,_,_,_⟩:=x
 kernel_rfl
theorem K_56L8 (n:Nat) (x):Ct (n+1) x=YeE C_56 B_56L8 (S_56L8 Aa) x (Ct n):=by
 obtain⟨_,_,_,_,_,_,_⟩:=x
 kernel_rfl
theorem K_56L4 (n:Nat) (x):Cs (n+1) x=YeE C_56 B_56L4 (S_56L4 Aa) x (Cs n):=by
 obtain⟨_,_,_,_,_⟩:=x
 kernel_rfl
theorem K_56L31 (n:Nat) (x):AK (n+1) x=YeE C_56 B_56L31 (S_56L31 Aa) x (AK n):=by
 obtain⟨_,_,_,_,_,_,_⟩:=x
 kernel_rfl
theorem K_56L28 (n:Nat) (x):Cd (n+1) x=YeE C_56 B_56L28 (S_56L28 Aa) x (Cd n):=by
 obtain⟨_,_,_,_,_,_⟩:=x
 kernel_rfl
theorem K_56L25 (n:Nat) (x):Cc (n+1) x=YeE C_56 B_56L25 (S_56L25 Aa) x (Cc n):=by
 obtain⟨_,_,_,_,_⟩:=x
 kernel_rfl
theorem K_56L22 (n:Nat) (x):CN (n+1) x=YeE C_56 B_56L22 (S_56L22 Aa) x (CN n):=by
 obtain⟨_,_,_,_⟩:=x
 kernel_rfl
theorem F_56 (a):E_56.run a=Yhq C_56 Tryz.f23 E_56.params E_56.results a λo r=>some (N_56 o r):=by
 kernel_rfl
theorem W_56:XO D_56= [B_56L4,B_56L8,B_56L13,B_56L22,B_56L25,B_56L28,B_56L31]:=by kernel_rfl
theorem Q_56:Qk Tryz.prog 23 Tryz.f23 D_56:=⟨Tryz.func23,by kernel_rfl,by kernel_rfl⟩
theorem H_56:Holds Tryz.prog 23 E_56:=
 YhX tabT mixT Q_56 F_56 rfl ⟨⟨H_50,_,_,Q_50⟩,⟨⟨H_53,_,_,Q_53⟩,⟨⟨H_55,_,_,Q_55⟩,trivial⟩⟩⟩ W_56 ⟨Yh2 (L:=S_56L4 Aa) K_56L4 (i:=4) (by kernel_rfl),⟨Yh2 (L:=S_56L8 Aa) K_56L8 (i:=8) (by kernel_rfl),⟨Yh2 (L:=S_56L13 Aa) K_56L13 (i:=13) (by kernel_rfl),⟨Yh2 (L:=S_56L22 Aa) K_56L22 (i:=22) (by kernel_rfl),⟨Yh2 (L:=S_56L25 Aa) K_56L25 (i:=25) (by kernel_rfl),⟨Yh2 (L:=S_56L28 Aa) K_56L28 (i:=28) (by kernel_rfl),⟨Yh2 (L:=S_56L31 Aa) K_56L31 (i:=31) (by kernel_rfl),trivial⟩⟩⟩⟩⟩⟩⟩
theorem K_57L3 (n:Nat) (x):CF (n+1) x=YeE C_57 B_57L3 (S_57L3 Aa) x (CF n):=by
 obtain⟨_,_,_,_⟩:=x
 kernel_rfl
theorem F_57 (a):E_57.run a=Yhq C_57 Tryz.f24 E_57.params E_57.results a λo r=>some (N_57 o r):=by
 kernel_rfl
theorem W_57:XO D_57= [B_57L3]:=by kernel_rfl
theorem Q_57:Qk Tryz.prog 24 Tryz.f24 D_57:=⟨Tryz.func24,by kernel_rfl,by kernel_rfl⟩
theorem H_57:Holds Tryz.prog 24 E_57:=
 YhX tabT mixT Q_57 F_57 rfl trivial W_57 ⟨Yh2 (L:=S_57L3 Aa) K_57L3 (i:=3) (by kernel_rfl),trivial⟩
theorem K_58L9 (n:Nat) (x):BC (n+1) x=YeE C_58 B_58L9 (S_58L9 Aa) x (BC n):=by
 obtain⟨_,_,_,_,_⟩:=x
 kernel_rfl
theorem K_58L6 (n:Nat) (x):BB (n+1) x=YeE C_58 B_58L6 (S_58L6 Aa) x (BB n):=by
 obtain⟨_,_,_,_⟩:=x
 kernel_rfl
theorem F_58 (a):E_58.run a=Yhq C_58 Tryz.f7 E_58.params E_58.results a λo r=>some (N_58 o r):=by
 kernel_rfl
theorem W_58:XO D_58= [B_58L6,B_58L9]:=by kernel_rfl
theorem Q_58:Qk Tryz.prog 7 Tryz.f7 D_58:=⟨Tryz.func7,by kernel_rfl,by kernel_rfl⟩
theorem H_58:Holds Tryz.prog 7 E_58:=
 YhX tabT mixT Q_58 F_58 rfl ⟨⟨H_48,_,_,Q_48⟩,⟨⟨H_56,_,_,Q_56⟩,⟨⟨H_57,_,_,Q_57⟩,trivial⟩⟩⟩ W_58 ⟨Yh2 (L:=S_58L6 Aa) K_58L6 (i:=6) (by kernel_rfl),⟨Yh2 (L:=S_58L9 Aa) K_58L9 (i:=9) (by kernel_rfl),trivial⟩⟩
theorem K_59L3 (n:Nat) (x):CU (n+1) x=YeE C_59 B_59L3 (S_59L3 Aa) x (CU n):=by
 obtain⟨_,_,_,_⟩:=x
 kernel_rfl
theorem F_59 (a):E_59.run a=Yhq C_59 Tryz.f26 E_59.params E_59.results a λo r=>some (N_59 o r):=by
 kernel_rfl
theorem W_59:XO D_59= [B_59L3]:=by kernel_rfl
theorem Q_59:Qk Tryz.prog 26 Tryz.f26 D_59:=⟨Tryz.func26,by kernel_rfl,by kernel_rfl⟩
theorem H_59:Holds Tryz.prog 26 E_59:=
 YhX tabT mixT Q_59 F_59 rfl trivial W_59 ⟨Yh2 (L:=S_59L3 Aa) K_59L3 (i:=3) (by kernel_rfl),trivial⟩
theorem K_60L6 (n:Nat) (x):AA (n+1) x=YeE C_60 B_60L6 (S_60L6 Aa) x (AA n):=by
 obtain⟨_,_,_,_⟩:=x
 kernel_rfl
theorem K_60L18 (n:Nat) (x):AS (n+1) x=YeE C_60 B_60L18 (S_60L18 Aa) x (AS n):=by
 obtain⟨_,_,_,_,_,_,_,_,_⟩:=x
 kernel_rfl
theorem K_60L14 (n:Nat) (x):AI (n+1) x=YeE C_60 B_60L14 (S_60L14 Aa) x (AI n):=by
 obtain⟨_,_,_,_,_⟩:=x
 kernel_rfl
theorem K_60L11 (n:Nat) (x):An (n+1) x=YeE C_60 B_60L11 (S_60L11 Aa) x (An n):=by
 obtain⟨_,_,_,_⟩:=x
 kernel_rfl
theorem F_60 (a):E_60.run a=Yhq C_60 Tryz.f8 E_60.params E_60.results a λo r=>some (N_60 o r):=by
 kernel_rfl
theorem W_60:XO D_60= [B_60L6,B_60L11,B_60L14,B_60L18]:=by kernel_rfl
theorem Q_60:Qk Tryz.prog 8 Tryz.f8 D_60:=⟨Tryz.func8,by kernel_rfl,by kernel_rfl⟩
theorem H_60:Holds Tryz.prog 8 E_60:=
 YhX tabT mixT Q_60 F_60 rfl ⟨⟨H_31,_,_,Q_31⟩,⟨⟨H_41,_,_,Q_41⟩,⟨⟨H_59,_,_,Q_59⟩,trivial⟩⟩⟩ W_60 ⟨Yh2 (L:=S_60L6 Aa) K_60L6 (i:=6) (by kernel_rfl),⟨Yh2 (L:=S_60L11 Aa) K_60L11 (i:=11) (by kernel_rfl),⟨Yh2 (L:=S_60L14 Aa) K_60L14 (i:=14) (by kernel_rfl),⟨Yh2 (L:=S_60L18 Aa) K_60L18 (i:=18) (by kernel_rfl),trivial⟩⟩⟩⟩
theorem K_61L14 (n:Nat) (x):AU (n+1) x=YeE C_61 B_61L14 (S_61L14 Aa) x (AU n):=by
 obtain⟨_,_,_,_,_,_,_,_⟩:=x
 kernel_rfl
theorem K_61L20 (n:Nat) (x):AW (n+1) x=YeE C_61 B_61L20 (S_61L20 Aa) x (AW n):=by
 obtain⟨_,_,_,_,_,_,_,_⟩:=x
 kernel_rfl
theorem K_61L10 (n:Nat) (x):AJ (n+1) x=YeE C_61 B_61L10 (S_61L10 Aa) x (AJ n):=by
 obtain⟨_,_,_,_,_,_⟩:=x
 kernel_rfl
theorem K_61L6 (n:Nat) (x):Bt (n+1) x=YeE C_61 B_61L6 (S_61L6 Aa) x (Bt n):=by
 obtain⟨_,_,_,_⟩:=x
 kernel_rfl
theorem F_61 (a):E_61.run a=Yhq C_61 Tryz.f9 E_61.params E_61.results a λo r=>some (N_61 o r):=by
 kernel_rfl
theorem W_61:XO D_61= [B_61L6,B_61L10,B_61L14,B_61L20]:=by kernel_rfl
theorem Q_61:Qk Tryz.prog 9 Tryz.f9 D_61:=⟨Tryz.func9,by kernel_rfl,by kernel_rfl⟩
theorem H_61:Holds Tryz.prog 9 E_61:=
 YhX tabT mixT Q_61 F_61 rfl ⟨⟨H_48,_,_,Q_48⟩,⟨⟨H_56,_,_,Q_56⟩,⟨⟨H_54,_,_,Q_54⟩,trivial⟩⟩⟩ W_61 ⟨Yh2 (L:=S_61L6 Aa) K_61L6 (i:=6) (by kernel_rfl),⟨Yh2 (L:=S_61L10 Aa) K_61L10 (i:=10) (by kernel_rfl),⟨Yh2 (L:=S_61L14 Aa) K_61L14 (i:=14) (by kernel_rfl),⟨Yh2 (L:=S_61L20 Aa) K_61L20 (i:=20) (by kernel_rfl),trivial⟩⟩⟩⟩
theorem K_62L4 (n:Nat) (x):De (n+1) x=YeE C_62 B_62L4 (S_62L4 Aa) x (De n):=by
 obtain⟨_,_,_⟩:=x
 kernel_rfl
theorem F_62 (a):E_62.run a=Yhq C_62 Tryz.f10 E_62.params E_62.results a λo r=>some (N_62 o r):=by
 kernel_rfl
theorem W_62:XO D_62= [B_62L4]:=by kernel_rfl
theorem Q_62:Qk Tryz.prog 10 Tryz.f10 D_62:=⟨Tryz.func10,by kernel_rfl,by kernel_rfl⟩
theorem H_62:Holds Tryz.prog 10 E_62:=
 YhX tabT mixT Q_62 F_62 rfl trivial W_62 ⟨Yh2 (L:=S_62L4 Aa) K_62L4 (i:=4) (by kernel_rfl),trivial⟩
theorem K_63L4 (n:Nat) (x):Ch (n+1) x=YeE C_63 B_63L4 (S_63L4 Aa) x (Ch n):=by
 obtain⟨_,_,_⟩:=x
 kernel_rfl
theorem F_63 (a):E_63.run a=Yhq C_63 Tryz.f11 E_63.params E_63.results a λo r=>some (N_63 o r):=by
 kernel_rfl
theorem W_63:XO D_63= [B_63L4]:=by kernel_rfl
theorem Q_63:Qk Tryz.prog 11 Tryz.f11 D_63:=⟨Tryz.func11,by kernel_rfl,by kernel_rfl⟩
theorem H_63:Holds Tryz.prog 11 E_63:=
 YhX tabT mixT Q_63 F_63 rfl ⟨⟨H_31,_,_,Q_31⟩,⟨⟨H_42,_,_,Q_42⟩,trivial⟩⟩ W_63 ⟨Yh2 (L:=S_63L4 Aa) K_63L4 (i:=4) (by kernel_rfl),trivial⟩
theorem K_64L3 (n:Nat) (x):Dd (n+1) x=YeE C_64 B_64L3 (S_64L3 Aa) x (Dd n):=by
 obtain⟨_,_,_,_⟩:=x
 kernel_rfl
theorem F_64 (a):E_64.run a=Yhq C_64 Tryz.f83 E_64.params E_64.results a λo r=>some (N_64 o r):=by
 kernel_rfl
theorem W_64:XO D_64= [B_64L3]:=by kernel_rfl
theorem Q_64:Qk Tryz.prog 83 Tryz.f83 D_64:=⟨Tryz.func83,by kernel_rfl,by kernel_rfl⟩
theorem H_64:Holds Tryz.prog 83 E_64:=
 YhX tabT mixT Q_64 F_64 rfl trivial W_64 ⟨Yh2 (L:=S_64L3 Aa) K_64L3 (i:=3) (by kernel_rfl),trivial⟩
theorem K_65L3 (n:Nat) (x):CX (n+1) x=YeE C_65 B_65L3 (S_65L3 Aa) x (CX n):=by
 obtain⟨_,_,_,_⟩:=x
 kernel_rfl
theorem F_65 (a):E_65.run a=Yhq C_65 Tryz.f81 E_65.params E_65.results a λo r=>some (N_65 o r):=by
 kernel_rfl
theorem W_65:XO D_65= [B_65L3]:=by kernel_rfl
theorem Q_65:Qk Tryz.prog 81 Tryz.f81 D_65:=⟨Tryz.func81,by kernel_rfl,by kernel_rfl⟩
theorem H_65:Holds Tryz.prog 81 E_65:=
 YhX tabT mixT Q_65 F_65 rfl ⟨⟨H_64,_,_,Q_64⟩,trivial⟩ W_65 ⟨Yh2 (L:=S_65L3 Aa) K_65L3 (i:=3) (by kernel_rfl),trivial⟩
theorem K_66L7 (n:Nat) (x):BA (n+1) x=YeE C_66 B_66L7 (S_66L7 Aa) x (BA n):=by
 obtain⟨_,_,_,_,_,_,_,_,_⟩:=x
 kernel_rfl
theorem K_66L3 (n:Nat) (x):Bz (n+1) x=YeE C_66 B_66L3 (S_66L3 Aa) x (Bz n):=by
 obtain⟨_,_,_,_⟩:=x
 kernel_rfl
theorem F_66 (a):E_66.run a=Yhq C_66 Tryz.f52 E_66.params E_66.results a λo r=>some (N_66 o r):=by
 kernel_rfl
theorem W_66:XO D_66= [B_66L3,B_66L7]:=by kernel_rfl
theorem Q_66:Qk Tryz.prog 52 Tryz.f52 D_66:=⟨Tryz.func52,by kernel_rfl,by kernel_rfl⟩
theorem H_66:Holds Tryz.prog 52 E_66:=
 YhX tabT mixT Q_66 F_66 rfl ⟨⟨H_65,_,_,Q_65⟩,trivial⟩ W_66 ⟨Yh2 (L:=S_66L3 Aa) K_66L3 (i:=3) (by kernel_rfl),⟨Yh2 (L:=S_66L7 Aa) K_66L7 (i:=7) (by kernel_rfl),trivial⟩⟩
theorem F_67 (a):E_67.run a=Yhq C_67 Tryz.f55 E_67.params E_67.results a λo r=>some (N_67 o r):=by
 kernel_rfl
theorem W_67:XO D_67= []:=by kernel_rfl
theorem Q_67:Qk Tryz.prog 55 Tryz.f55 D_67:=⟨Tryz.func55,by kernel_rfl,by kernel_rfl⟩
theorem H_67:Holds Tryz.prog 55 E_67:=
 YhX tabT mixT Q_67 F_67 rfl trivial W_67 trivial
theorem F_68 (a):E_68.run a=Yhq C_68 Tryz.f54 E_68.params E_68.results a λo r=>some (N_68 o r):=by
 kernel_rfl
theorem W_68:XO D_68= []:=by kernel_rfl
theorem Q_68:Qk Tryz.prog 54 Tryz.f54 D_68:=⟨Tryz.func54,by kernel_rfl,by kernel_rfl⟩
theorem H_68:Holds Tryz.prog 54 E_68:=
 YhX tabT mixT Q_68 F_68 rfl ⟨⟨H_67,_,_,Q_67⟩,trivial⟩ W_68 trivial
theorem K_69L10 (rec:(Int×(List Int)×(Bool×(List Int))×(Bool×Int×(List (List (List Int)))×(List (List (List ByteArray))))×(List Int)×Unit)->Option ((List Int)×(Bool×(List Int))×(Bool×Int×(List (List (List Int)))×(List (List (List ByteArray))))×(List Int)×Bool)) (n:Nat) (x):Aj rec (n+1) x=YeE (C_69 rec) B_69L10 (S_69L10 rec Aa) x (Aj rec n):=by
 obtain⟨_,_,_,_,_,_,_,_,_,_,_⟩:=x
 kernel_rfl
theorem K_69L4 (rec:(Int×(List Int)×(Bool×(List Int))×(Bool×Int×(List (List (List Int)))×(List (List (List ByteArray))))×(List Int)×Unit)->Option ((List Int)×(Bool×(List Int))×(Bool×Int×(List (List (List Int)))×(List (List (List ByteArray))))×(List Int)×Bool)) (n:Nat) (x):Ag rec (n+1) x=YeE (C_69 rec) B_69L4 (S_69L4 rec Aa) x (Ag rec n):=by
 obtain⟨_,_,_,_,_,_,_⟩:=x
 kernel_rfl
theorem F_69 (rec:(Int×(List Int)×(Bool×(List Int))×(Bool×Int×(List (List (List Int)))×(List (List (List ByteArray))))×(List Int)×Unit)->Option ((List Int)×(Bool×(List Int))×(Bool×Int×(List (List (List Int)))×(List (List (List ByteArray))))×(List Int)×Bool)) (a:YE [.v .int,.bx (.mv .int 0),.bx (.nv .int 0),.bx (.v (.ptr y7)),.bx (.v y2),.jk 1]):Be rec a.1 a.2.1 a.2.2.1 a.2.2.2.1 a.2.2.2.2.1 a.2.2.2.2.2=Yhq (C_69 rec) Tryz.f82 [.v .int,.bx (.mv .int 0),.bx (.nv .int 0),.bx (.v (.ptr y7)),.bx (.v y2),.jk 1] [.v .bool] a (λo r=>some (N_69 o r)):=by
 kernel_rfl
theorem W_69:XO D_69= [B_69L4,B_69L10]:=by kernel_rfl
theorem R_69L10:YT B_69L10=10:=by kernel_rfl
theorem R_69L4:YT B_69L4=4:=by kernel_rfl
theorem Q_69:Qk Tryz.prog 82 Tryz.f82 D_69:=⟨Tryz.func82,by kernel_rfl,by kernel_rfl⟩
theorem H_69: ∀d,Holds Tryz.prog 82 (E_69 d)
 |0=>λ_ b h=>absurd (show(none:Option _)=some b from h) (by simp)
 |d+1=>YfQ (en:=E_69 (d+1)) (cx:=(C_69 (Al d))) (Ygl tabT rfl).1 (YeU ⟨⟨H_68,_,_,Q_68⟩,⟨⟨H_35,_,_,Q_35⟩,⟨⟨H_64,_,_,Q_64⟩,⟨⟨H_69 d,_,_,Q_69⟩,trivial⟩⟩⟩⟩) mixT Q_69.1 Q_69.2.2 (YfV W_69 ⟨YgI (cx:=(C_69 (Al d))) (L:=S_69L4 (Al d) Aa) rfl (by rw[R_69L4];rfl) ⟨Ag (Al d),λ_=>rfl,λn x=>K_69L4 (Al d) n x,Aa,λ_=>rfl⟩,⟨YgI (cx:=(C_69 (Al d))) (L:=S_69L10 (Al d) Aa) rfl (by rw[R_69L10];rfl) ⟨Aj (Al d),λ_=>rfl,λn x=>K_69L10 (Al d) n x,Aa,λ_=>rfl⟩,trivial⟩⟩) (enc:=N_69) (λ_ _=>⟨rfl,rfl⟩) (F_69 (Al d)) rfl
theorem F_70 (a):E_70.run a=Yhq C_70 Tryz.f53 E_70.params E_70.results a λo r=>some (N_70 o r):=by
 kernel_rfl
theorem W_70:XO D_70= []:=by kernel_rfl
theorem Q_70:Qk Tryz.prog 53 Tryz.f53 D_70:=⟨Tryz.func53,by kernel_rfl,by kernel_rfl⟩
theorem H_70:Holds Tryz.prog 53 E_70:=
 YhX tabT mixT Q_70 F_70 rfl ⟨⟨H_69 Aa,_,_,Q_69⟩,trivial⟩ W_70 trivial
theorem F_71 (a):E_71.run a=Yhq C_71 Tryz.f28 E_71.params E_71.results a λo r=>some (N_71 o r):=by
 kernel_rfl
theorem W_71:XO D_71= []:=by kernel_rfl
theorem Q_71:Qk Tryz.prog 28 Tryz.f28 D_71:=⟨Tryz.func28,by kernel_rfl,by kernel_rfl⟩
theorem H_71:Holds Tryz.prog 28 E_71:=
 YhX tabT mixT Q_71 F_71 rfl ⟨⟨H_66,_,_,Q_66⟩,⟨⟨H_70,_,_,Q_70⟩,trivial⟩⟩ W_71 trivial
theorem K_72L4 (n:Nat) (x):Bp (n+1) x=YeE C_72 B_72L4 (S_72L4 Aa) x (Bp n):=by
 obtain⟨_,_,_,_,_⟩:=x
 kernel_rfl
theorem F_72 (a):E_72.run a=Yhq C_72 Tryz.f12 E_72.params E_72.results a λo r=>some (N_72 o r):=by
 kernel_rfl
theorem W_72:XO D_72= [B_72L4]:=by kernel_rfl
theorem Q_72:Qk Tryz.prog 12 Tryz.f12 D_72:=⟨Tryz.func12,by kernel_rfl,by kernel_rfl⟩
theorem H_72:Holds Tryz.prog 12 E_72:=
 YhX tabT mixT Q_72 F_72 rfl ⟨⟨H_31,_,_,Q_31⟩,⟨⟨H_71,_,_,Q_71⟩,trivial⟩⟩ W_72 ⟨Yh2 (L:=S_72L4 Aa) K_72L4 (i:=4) (by kernel_rfl),trivial⟩
theorem K_73L2 (n:Nat) (x):B0 (n+1) x=YeE C_73 B_73L2 (S_73L2 Aa) x (B0 n):=by
 obtain⟨_,_,_⟩:=x
 kernel_rfl
theorem F_73 (a):E_73.run a=Yhq C_73 Tryz.f29 E_73.params E_73.results a λo r=>some (N_73 o r):=by
 kernel_rfl
theorem W_73:XO D_73= [B_73L2]:=by kernel_rfl
theorem Q_73:Qk Tryz.prog 29 Tryz.f29 D_73:=⟨Tryz.func29,by kernel_rfl,by kernel_rfl⟩
theorem H_73:Holds Tryz.prog 29 E_73:=
 YhX tabT mixT Q_73 F_73 rfl ⟨⟨H_8,_,_,Q_8⟩,trivial⟩ W_73 ⟨Yh2 (L:=S_73L2 Aa) K_73L2 (i:=2) (by kernel_rfl),trivial⟩
theorem K_74L7 (n:Nat) (x):CD (n+1) x=YeE C_74 B_74L7 (S_74L7 Aa) x (CD n):=by
 obtain⟨_,_,_,_,_⟩:=x
 kernel_rfl
theorem K_74L3 (n:Nat) (x):CC (n+1) x=YeE C_74 B_74L3 (S_74L3 Aa) x (CC n):=by
 obtain⟨_,_,_⟩:=x
 kernel_rfl
theorem F_74 (a):E_74.run a=Yhq C_74 Tryz.f57 E_74.params E_74.results a λo r=>some (N_74 o r):=by
 kernel_rfl
theorem W_74:XO D_74= [B_74L3,B_74L7]:=by kernel_rfl
theorem Q_74:Qk Tryz.prog 57 Tryz.f57 D_74:=⟨Tryz.func57,by kernel_rfl,by kernel_rfl⟩
theorem H_74:Holds Tryz.prog 57 E_74:=
 YhX tabT mixT Q_74 F_74 rfl ⟨⟨H_22,_,_,Q_22⟩,trivial⟩ W_74 ⟨Yh2 (L:=S_74L3 Aa) K_74L3 (i:=3) (by kernel_rfl),⟨Yh2 (L:=S_74L7 Aa) K_74L7 (i:=7) (by kernel_rfl),trivial⟩⟩
theorem K_75L14 (rec:(Int×(List (List ((List Int)×Int×(List (List Int)))))×(List Int)×(List Int)×((List (List Int))×(Int×Int×Bool)))->Option (((List (List Int))×(Int×Int×Bool)))) (n:Nat) (x):AO rec (n+1) x=YeE (C_75 rec) B_75L14 (S_75L14 rec Aa) x (AO rec n):=by
 obtain⟨_,_,_,_,_,_,_,_,_,_,_⟩:=x
 kernel_rfl
theorem K_75L8 (rec:(Int×(List (List ((List Int)×Int×(List (List Int)))))×(List Int)×(List Int)×((List (List Int))×(Int×Int×Bool)))->Option (((List (List Int))×(Int×Int×Bool)))) (n:Nat) (x):Am rec (n+1) x=YeE (C_75 rec) B_75L8 (S_75L8 rec Aa) x (Am rec n):=by
 obtain⟨_,_,_,_,_,_,_,_⟩:=x
 kernel_rfl
theorem F_75 (rec:(Int×(List (List ((List Int)×Int×(List (List Int)))))×(List Int)×(List Int)×((List (List Int))×(Int×Int×Bool)))->Option (((List (List Int))×(Int×Int×Bool)))) (a:YE [.v .int,.v y16,.v y2,.v y2,.pr (.mv y2 1) (.v y9)]):Ew rec a.1 a.2.1 a.2.2.1 a.2.2.2.1 a.2.2.2.2=Yhq (C_75 rec) Tryz.f56 [.v .int,.v y16,.v y2,.v y2,.pr (.mv y2 1) (.v y9)] [.pr (.mv y2 1) (.v y9)] a (λo r=>some (N_75 o r)):=by
 kernel_rfl
theorem W_75:XO D_75= [B_75L8,B_75L14]:=by kernel_rfl
theorem R_75L14:YT B_75L14=14:=by kernel_rfl
theorem R_75L8:YT B_75L8=8:=by kernel_rfl
theorem Q_75:Qk Tryz.prog 56 Tryz.f56 D_75:=⟨Tryz.func56,by kernel_rfl,by kernel_rfl⟩
theorem H_75: ∀d,Holds Tryz.prog 56 (E_75 d)
 |0=>λ_ b h=>absurd (show(none:Option _)=some b from h) (by simp)
 |d+1=>YfQ (en:=E_75 (d+1)) (cx:=(C_75 (Ax d))) (Ygl tabT rfl).1 (YeU ⟨⟨H_75 d,_,_,Q_75⟩,⟨⟨H_52,_,_,Q_52⟩,⟨⟨H_6,_,_,Q_6⟩,trivial⟩⟩⟩) mixT Q_75.1 Q_75.2.2 (YfV W_75 ⟨YgI (cx:=(C_75 (Ax d))) (L:=S_75L8 (Ax d) Aa) rfl (by rw[R_75L8];rfl) ⟨Am (Ax d),λ_=>rfl,λn x=>K_75L8 (Ax d) n x,Aa,λ_=>rfl⟩,⟨YgI (cx:=(C_75 (Ax d))) (L:=S_75L14 (Ax d) Aa) rfl (by rw[R_75L14];rfl) ⟨AO (Ax d),λ_=>rfl,λn x=>K_75L14 (Ax d) n x,Aa,λ_=>rfl⟩,trivial⟩⟩) (enc:=N_75) (λ_ _=>⟨rfl,rfl⟩) (F_75 (Ax d)) rfl
theorem F_76 (a):E_76.run a=Yhq C_76 Tryz.f30 E_76.params E_76.results a λo r=>some (N_76 o r):=by
 kernel_rfl
theorem W_76:XO D_76= []:=by kernel_rfl
theorem Q_76:Qk Tryz.prog 30 Tryz.f30 D_76:=⟨Tryz.func30,by kernel_rfl,by kernel_rfl⟩
theorem H_76:Holds Tryz.prog 30 E_76:=
 YhX tabT mixT Q_76 F_76 rfl ⟨⟨H_75 Aa,_,_,Q_75⟩,⟨⟨H_74,_,_,Q_74⟩,trivial⟩⟩ W_76 trivial
theorem F_77 (a):E_77.run a=Yhq C_77 Tryz.f13 E_77.params E_77.results a λo r=>some (N_77 o r):=by
 kernel_rfl
theorem W_77:XO D_77= []:=by kernel_rfl
theorem Q_77:Qk Tryz.prog 13 Tryz.f13 D_77:=⟨Tryz.func13,by kernel_rfl,by kernel_rfl⟩
theorem H_77:Holds Tryz.prog 13 E_77:=
 YhX tabT mixT Q_77 F_77 rfl ⟨⟨H_48,_,_,Q_48⟩,⟨⟨H_73,_,_,Q_73⟩,⟨⟨H_76,_,_,Q_76⟩,trivial⟩⟩⟩ W_77 trivial
theorem K_78L4 (n:Nat) (x):C0 (n+1) x=YeE C_78 B_78L4 (S_78L4 Aa) x (C0 n):=by
 obtain⟨_,_,_⟩:=x
 kernel_rfl
theorem F_78 (a):E_78.run a=Yhq C_78 Tryz.f14 E_78.params E_78.results a λo r=>some (N_78 o r):=by
 kernel_rfl
theorem W_78:XO D_78= [B_78L4]:=by kernel_rfl
theorem Q_78:Qk Tryz.prog 14 Tryz.f14 D_78:=⟨Tryz.func14,by kernel_rfl,by kernel_rfl⟩
theorem H_78:Holds Tryz.prog 14 E_78:=
 YhX tabT mixT Q_78 F_78 rfl ⟨⟨H_62,_,_,Q_62⟩,trivial⟩ W_78 ⟨Yh2 (L:=S_78L4 Aa) K_78L4 (i:=4) (by kernel_rfl),trivial⟩
theorem K_79L4 (n:Nat) (x):Cu (n+1) x=YeE C_79 B_79L4 (S_79L4 Aa) x (Cu n):=by
 obtain⟨_,_,_,_⟩:=x
 kernel_rfl
theorem F_79 (a):E_79.run a=Yhq C_79 Tryz.f58 E_79.params E_79.results a λo r=>some (N_79 o r):=by
 kernel_rfl
theorem W_79:XO D_79= [B_79L4]:=by kernel_rfl
theorem Q_79:Qk Tryz.prog 58 Tryz.f58 D_79:=⟨Tryz.func58,by kernel_rfl,by kernel_rfl⟩
theorem H_79:Holds Tryz.prog 58 E_79:=
 YhX tabT mixT Q_79 F_79 rfl ⟨⟨H_29,_,_,Q_29⟩,trivial⟩ W_79 ⟨Yh2 (L:=S_79L4 Aa) K_79L4 (i:=4) (by kernel_rfl),trivial⟩
theorem K_80L4 (n:Nat) (x):CT (n+1) x=YeE C_80 B_80L4 (S_80L4 Aa) x (CT n):=by
 obtain⟨_,_,_,_⟩:=x
 kernel_rfl
theorem F_80 (a):E_80.run a=Yhq C_80 Tryz.f31 E_80.params E_80.results a λo r=>some (N_80 o r):=by
 kernel_rfl
theorem W_80:XO D_80= [B_80L4]:=by kernel_rfl
theorem Q_80:Qk Tryz.prog 31 Tryz.f31 D_80:=⟨Tryz.func31,by kernel_rfl,by kernel_rfl⟩
theorem H_80:Holds Tryz.prog 31 E_80:=
 YhX tabT mixT Q_80 F_80 rfl ⟨⟨H_26,_,_,Q_26⟩,⟨⟨H_79,_,_,Q_79⟩,trivial⟩⟩ W_80 ⟨Yh2 (L:=S_80L4 Aa) K_80L4 (i:=4) (by kernel_rfl),trivial⟩
theorem K_81L3 (n:Nat) (x):B5 (n+1) x=YeE C_81 B_81L3 (S_81L3 Aa) x (B5 n):=by
 obtain⟨_,_,_⟩:=x
 kernel_rfl
theorem F_81 (a):E_81.run a=Yhq C_81 Tryz.f32 E_81.params E_81.results a λo r=>some (N_81 o r):=by
 kernel_rfl
theorem W_81:XO D_81= [B_81L3]:=by kernel_rfl
theorem Q_81:Qk Tryz.prog 32 Tryz.f32 D_81:=⟨Tryz.func32,by kernel_rfl,by kernel_rfl⟩
theorem H_81:Holds Tryz.prog 32 E_81:=
 YhX tabT mixT Q_81 F_81 rfl trivial W_81 ⟨Yh2 (L:=S_81L3 Aa) K_81L3 (i:=3) (by kernel_rfl),trivial⟩
theorem K_82L3 (n:Nat) (x):Dl (n+1) x=YeE C_82 B_82L3 (S_82L3 Aa) x (Dl n):=by
 obtain⟨_,_,_,_⟩:=x
 kernel_rfl
theorem F_82 (a):E_82.run a=Yhq C_82 Tryz.f33 E_82.params E_82.results a λo r=>some (N_82 o r):=by
 kernel_rfl
theorem W_82:XO D_82= [B_82L3]:=by kernel_rfl
theorem Q_82:Qk Tryz.prog 33 Tryz.f33 D_82:=⟨Tryz.func33,by kernel_rfl,by kernel_rfl⟩
theorem H_82:Holds Tryz.prog 33 E_82:=
 YhX tabT mixT Q_82 F_82 rfl trivial W_82 ⟨Yh2 (L:=S_82L3 Aa) K_82L3 (i:=3) (by kernel_rfl),trivial⟩
theorem K_83L2 (n:Nat) (x):DC (n+1) x=YeE C_83 B_83L2 (S_83L2 Aa) x (DC n):=by
 obtain⟨_,_,_⟩:=x
 kernel_rfl
theorem F_83 (a):E_83.run a=Yhq C_83 Tryz.f85 E_83.params E_83.results a λo r=>some (N_83 o r):=by
 kernel_rfl
theorem W_83:XO D_83= [B_83L2]:=by kernel_rfl
theorem Q_83:Qk Tryz.prog 85 Tryz.f85 D_83:=⟨Tryz.func85,by kernel_rfl,by kernel_rfl⟩
theorem H_83:Holds Tryz.prog 85 E_83:=
 YhX tabT mixT Q_83 F_83 rfl trivial W_83 ⟨Yh2 (L:=S_83L2 Aa) K_83L2 (i:=2) (by kernel_rfl),trivial⟩
theorem K_84L17 (n:Nat) (x):Bg (n+1) x=YeE C_84 B_84L17 (S_84L17 Aa) x (Bg n):=by
 obtain⟨_,_,_,_,_,_,_,_,_,_,_,_,_,_,_,_,_,_,_⟩:=x
 kernel_rfl
theorem K_84L14 (n:Nat) (x):Bf (n+1) x=YeE C_84 B_84L14 (S_84L14 Aa) x (Bf n):=by
 obtain⟨_,_,_,_,_,_,_,_,_,_,_,_,_,_,_⟩:=x
 kernel_rfl
theorem K_84L8 (n:Nat) (x):A8 (n+1) x=YeE C_84 B_84L8 (S_84L8 Aa) x (A8 n):=by
 obtain⟨_,_,_,_,_,_,_,_,_,_⟩:=x
 kernel_rfl
theorem K_84L3 (n:Nat) (x):Bs (n+1) x=YeE C_84 B_84L3 (S_84L3 Aa) x (Bs n):=by
 obtain⟨_,_,_,_,_,_⟩:=x
 kernel_rfl
theorem F_84 (a):E_84.run a=Yhq C_84 Tryz.f59 E_84.params E_84.results a λo r=>some (N_84 o r):=by
 kernel_rfl
theorem W_84:XO D_84= [B_84L3,B_84L8,B_84L14,B_84L17]:=by kernel_rfl
theorem Q_84:Qk Tryz.prog 59 Tryz.f59 D_84:=⟨Tryz.func59,by kernel_rfl,by kernel_rfl⟩
theorem H_84:Holds Tryz.prog 59 E_84:=
 YhX tabT mixT Q_84 F_84 rfl ⟨⟨H_82,_,_,Q_82⟩,⟨⟨H_65,_,_,Q_65⟩,⟨⟨H_64,_,_,Q_64⟩,⟨⟨H_83,_,_,Q_83⟩,trivial⟩⟩⟩⟩ W_84 ⟨Yh2 (L:=S_84L3 Aa) K_84L3 (i:=3) (by kernel_rfl),⟨Yh2 (L:=S_84L8 Aa) K_84L8 (i:=8) (by kernel_rfl),⟨Yh2 (L:=S_84L14 Aa) K_84L14 (i:=14) (by kernel_rfl),⟨Yh2 (L:=S_84L17 Aa) K_84L17 (i:=17) (by kernel_rfl),trivial⟩⟩⟩⟩
theorem F_85 (a):E_85.run a=Yhq C_85 Tryz.f35 E_85.params E_85.results a λo r=>some (N_85 o r):=by
 kernel_rfl
theorem W_85:XO D_85= []:=by kernel_rfl
theorem Q_85:Qk Tryz.prog 35 Tryz.f35 D_85:=⟨Tryz.func35,by kernel_rfl,by kernel_rfl⟩
theorem H_85:Holds Tryz.prog 35 E_85:=
 YhX tabT mixT Q_85 F_85 rfl trivial W_85 trivial
theorem F_86 (a):E_86.run a=Yhq C_86 Tryz.f55 E_86.params E_86.results a λo r=>some (N_86 o r):=by
 kernel_rfl
theorem W_86:XO D_86= []:=by kernel_rfl
theorem Q_86:Qk Tryz.prog 55 Tryz.f55 D_86:=⟨Tryz.func55,by kernel_rfl,by kernel_rfl⟩
theorem H_86:Holds Tryz.prog 55 E_86:=
 YhX tabT mixT Q_86 F_86 rfl trivial W_86 trivial
theorem F_87 (a):E_87.run a=Yhq C_87 Tryz.f61 E_87.params E_87.results a λo r=>some (N_87 o r):=by
 kernel_rfl
theorem W_87:XO D_87= []:=by kernel_rfl
theorem Q_87:Qk Tryz.prog 61 Tryz.f61 D_87:=⟨Tryz.func61,by kernel_rfl,by kernel_rfl⟩
theorem H_87:Holds Tryz.prog 61 E_87:=
 YhX tabT mixT Q_87 F_87 rfl ⟨⟨H_85,_,_,Q_85⟩,⟨⟨H_86,_,_,Q_86⟩,trivial⟩⟩ W_87 trivial
theorem K_88L2 (n:Nat) (x):AR (n+1) x=YeE C_88 B_88L2 (S_88L2 Aa) x (AR n):=by
 obtain⟨_,_,_,_⟩:=x
 kernel_rfl
theorem F_88 (a):E_88.run a=Yhq C_88 Tryz.f87 E_88.params E_88.results a λo r=>some (N_88 o r):=by
 kernel_rfl
theorem W_88:XO D_88= [B_88L2]:=by kernel_rfl
theorem Q_88:Qk Tryz.prog 87 Tryz.f87 D_88:=⟨Tryz.func87,by kernel_rfl,by kernel_rfl⟩
theorem H_88:Holds Tryz.prog 87 E_88:=
 YhX tabT mixT Q_88 F_88 rfl ⟨⟨H_35,_,_,Q_35⟩,⟨⟨H_64,_,_,Q_64⟩,trivial⟩⟩ W_88 ⟨Yh2 (L:=S_88L2 Aa) K_88L2 (i:=2) (by kernel_rfl),trivial⟩
theorem K_89L4 (rec:(Int×(List Int)×(Unit×(Int×((Int×(List Int))×Bool)))×(Bool×Int×Int×(List (List ((List Int)×(List ByteArray)))))×(List Int)×Unit)->Option ((List Int)×(Unit×(Int×((Int×(List Int))×Bool)))×(Bool×Int×Int×(List (List ((List Int)×(List ByteArray)))))×(List Int)×Bool)) (n:Nat) (x):Ae rec (n+1) x=YeE (C_89 rec) B_89L4 (S_89L4 rec Aa) x (Ae rec n):=by
 obtain⟨_,_,_,_,_,_,_⟩:=x
 kernel_rfl
theorem F_89 (rec:(Int×(List Int)×(Unit×(Int×((Int×(List Int))×Bool)))×(Bool×Int×Int×(List (List ((List Int)×(List ByteArray)))))×(List Int)×Unit)->Option ((List Int)×(Unit×(Int×((Int×(List Int))×Bool)))×(Bool×Int×Int×(List (List ((List Int)×(List ByteArray)))))×(List Int)×Bool)) (a:YE [.v .int,.bx (.mv .int 0),.pr (.bx (.v (.fn 35))) (.pr (.bx (.v .int)) (.pr (.bx (.pr (.v .int) (.mv .int 0))) (.bx (.v .bool)))),.bx (.v (.ptr y8)),.bx (.v y2),.jk 1]):AN rec a.1 a.2.1 a.2.2.1 a.2.2.2.1 a.2.2.2.2.1 a.2.2.2.2.2=Yhq (C_89 rec) Tryz.f86 [.v .int,.bx (.mv .int 0),.pr (.bx (.v (.fn 35))) (.pr (.bx (.v .int)) (.pr (.bx (.pr (.v .int) (.mv .int 0))) (.bx (.v .bool)))),.bx (.v (.ptr y8)),.bx (.v y2),.jk 1] [.v .bool] a (λo r=>some (N_89 o r)):=by
 kernel_rfl
theorem W_89:XO D_89= [B_89L4]:=by kernel_rfl
theorem R_89L4:YT B_89L4=4:=by kernel_rfl
theorem Q_89:Qk Tryz.prog 86 Tryz.f86 D_89:=⟨Tryz.func86,by kernel_rfl,by kernel_rfl⟩
theorem H_89: ∀d,Holds Tryz.prog 86 (E_89 d)
 |0=>λ_ b h=>absurd (show(none:Option _)=some b from h) (by simp)
 |d+1=>YfQ (en:=E_89 (d+1)) (cx:=(C_89 (Ak d))) (Ygl tabT rfl).1 (YeU ⟨⟨H_87,_,_,Q_87⟩,⟨⟨H_88,_,_,Q_88⟩,⟨⟨H_89 d,_,_,Q_89⟩,trivial⟩⟩⟩) mixT Q_89.1 Q_89.2.2 (YfV W_89 ⟨YgI (cx:=(C_89 (Ak d))) (L:=S_89L4 (Ak d) Aa) rfl (by rw[R_89L4];rfl) ⟨Ae (Ak d),λ_=>rfl,λn x=>K_89L4 (Ak d) n x,Aa,λ_=>rfl⟩,trivial⟩) (enc:=N_89) (λ_ _=>⟨rfl,rfl⟩) (F_89 (Ak d)) rfl
theorem F_90 (a):E_90.run a=Yhq C_90 Tryz.f60 E_90.params E_90.results a λo r=>some (N_90 o r):=by
 kernel_rfl
theorem W_90:XO D_90= []:=by kernel_rfl
theorem Q_90:Qk Tryz.prog 60 Tryz.f60 D_90:=⟨Tryz.func60,by kernel_rfl,by kernel_rfl⟩
theorem H_90:Holds Tryz.prog 60 E_90:=
 YhX tabT mixT Q_90 F_90 rfl ⟨⟨H_89 Aa,_,_,Q_89⟩,trivial⟩ W_90 trivial
theorem F_91 (a):E_91.run a=Yhq C_91 Tryz.f34 E_91.params E_91.results a λo r=>some (N_91 o r):=by
 kernel_rfl
theorem W_91:XO D_91= []:=by kernel_rfl
theorem Q_91:Qk Tryz.prog 34 Tryz.f34 D_91:=⟨Tryz.func34,by kernel_rfl,by kernel_rfl⟩
theorem H_91:Holds Tryz.prog 34 E_91:=
 YhX tabT mixT Q_91 F_91 rfl ⟨⟨H_84,_,_,Q_84⟩,⟨⟨H_90,_,_,Q_90⟩,trivial⟩⟩ W_91 trivial
theorem K_92L5 (n:Nat) (x):Ao (n+1) x=YeE C_92 B_92L5 (S_92L5 Aa) x (Ao n):=by
 obtain⟨_,_,_,_,_,_⟩:=x
 kernel_rfl
theorem F_92 (a):E_92.run a=Yhq C_92 Tryz.f15 E_92.params E_92.results a λo r=>some (N_92 o r):=by
 kernel_rfl
theorem W_92:XO D_92= [B_92L5]:=by kernel_rfl
theorem Q_92:Qk Tryz.prog 15 Tryz.f15 D_92:=⟨Tryz.func15,by kernel_rfl,by kernel_rfl⟩
theorem H_92:Holds Tryz.prog 15 E_92:=
 YhX tabT mixT Q_92 F_92 rfl ⟨⟨H_80,_,_,Q_80⟩,⟨⟨H_81,_,_,Q_81⟩,⟨⟨H_82,_,_,Q_82⟩,⟨⟨H_91,_,_,Q_91⟩,trivial⟩⟩⟩⟩ W_92 ⟨Yh2 (L:=S_92L5 Aa) K_92L5 (i:=5) (by kernel_rfl),trivial⟩
theorem F_93 (a):E_93.run a=Yhq C_93 Tryz.f62 E_93.params E_93.results a λo r=>some (N_93 o r):=by
 kernel_rfl
theorem W_93:XO D_93= []:=by kernel_rfl
theorem Q_93:Qk Tryz.prog 62 Tryz.f62 D_93:=⟨Tryz.func62,by kernel_rfl,by kernel_rfl⟩
theorem H_93:Holds Tryz.prog 62 E_93:=
 YhX tabT mixT Q_93 F_93 rfl ⟨⟨H_8,_,_,Q_8⟩,trivial⟩ W_93 trivial
theorem K_94L4 (n:Nat) (x):C9 (n+1) x=YeE C_94 B_94L4 (S_94L4 Aa) x (C9 n):=by
 obtain⟨_,_,_⟩:=x
 kernel_rfl
theorem F_94 (a):E_94.run a=Yhq C_94 Tryz.f63 E_94.params E_94.results a λo r=>some (N_94 o r):=by
 kernel_rfl
theorem W_94:XO D_94= [B_94L4]:=by kernel_rfl
theorem Q_94:Qk Tryz.prog 63 Tryz.f63 D_94:=⟨Tryz.func63,by kernel_rfl,by kernel_rfl⟩
theorem H_94:Holds Tryz.prog 63 E_94:=
 YhX tabT mixT Q_94 F_94 rfl ⟨⟨H_46,_,_,Q_46⟩,trivial⟩ W_94 ⟨Yh2 (L:=S_94L4 Aa) K_94L4 (i:=4) (by kernel_rfl),trivial⟩
theorem K_95L4 (n:Nat) (x):Cq (n+1) x=YeE C_95 B_95L4 (S_95L4 Aa) x (Cq n):=by
 obtain⟨_,_,_⟩:=x
 kernel_rfl
theorem F_95 (a):E_95.run a=Yhq C_95 Tryz.f36 E_95.params E_95.results a λo r=>some (N_95 o r):=by
 kernel_rfl
theorem W_95:XO D_95= [B_95L4]:=by kernel_rfl
theorem Q_95:Qk Tryz.prog 36 Tryz.f36 D_95:=⟨Tryz.func36,by kernel_rfl,by kernel_rfl⟩
theorem H_95:Holds Tryz.prog 36 E_95:=
 YhX tabT mixT Q_95 F_95 rfl ⟨⟨H_8,_,_,Q_8⟩,⟨⟨H_93,_,_,Q_93⟩,⟨⟨H_94,_,_,Q_94⟩,trivial⟩⟩⟩ W_95 ⟨Yh2 (L:=S_95L4 Aa) K_95L4 (i:=4) (by kernel_rfl),trivial⟩
theorem K_96L3 (n:Nat) (x):CB (n+1) x=YeE C_96 B_96L3 (S_96L3 Aa) x (CB n):=by
 obtain⟨_,_,_⟩:=x
 kernel_rfl
theorem F_96 (a):E_96.run a=Yhq C_96 Tryz.f37 E_96.params E_96.results a λo r=>some (N_96 o r):=by
 kernel_rfl
theorem W_96:XO D_96= [B_96L3]:=by kernel_rfl
theorem Q_96:Qk Tryz.prog 37 Tryz.f37 D_96:=⟨Tryz.func37,by kernel_rfl,by kernel_rfl⟩
theorem H_96:Holds Tryz.prog 37 E_96:=
 YhX tabT mixT Q_96 F_96 rfl trivial W_96 ⟨Yh2 (L:=S_96L3 Aa) K_96L3 (i:=3) (by kernel_rfl),trivial⟩
theorem K_97L3 (n:Nat) (x):Co (n+1) x=YeE C_97 B_97L3 (S_97L3 Aa) x (Co n):=by
 obtain⟨_,_,_,_,_⟩:=x
 kernel_rfl
theorem K_97L21 (n:Nat) (x):Ca (n+1) x=YeE C_97 B_97L21 (S_97L21 Aa) x (Ca n):=by
 obtain⟨_,_,_,_,_,_,_,_,_,_,_,_,_⟩:=x
 kernel_rfl
theorem K_97L17 (n:Nat) (x):B9 (n+1) x=YeE C_97 B_97L17 (S_97L17 Aa) x (B9 n):=by
 obtain⟨_,_,_,_,_,_,_,_,_,_,_⟩:=x
 kernel_rfl
theorem K_97L11 (n:Nat) (x):B8 (n+1) x=YeE C_97 B_97L11 (S_97L11 Aa) x (B8 n):=by
 obtain⟨_,_,_,_,_,_,_⟩:=x
 kernel_rfl
theorem K_97L7 (n:Nat) (x):Cp (n+1) x=YeE C_97 B_97L7 (S_97L7 Aa) x (Cp n):=by
 obtain⟨_,_,_,_,_⟩:=x
 kernel_rfl
theorem F_97 (a):E_97.run a=Yhq C_97 Tryz.f89 E_97.params E_97.results a λo r=>some (N_97 o r):=by
 kernel_rfl
theorem W_97:XO D_97= [B_97L3,B_97L7,B_97L11,B_97L17,B_97L21]:=by kernel_rfl
theorem Q_97:Qk Tryz.prog 89 Tryz.f89 D_97:=⟨Tryz.func89,by kernel_rfl,by kernel_rfl⟩
theorem H_97:Holds Tryz.prog 89 E_97:=
 YhX tabT mixT Q_97 F_97 rfl ⟨⟨H_22,_,_,Q_22⟩,⟨⟨H_16,_,_,Q_16⟩,⟨⟨H_17,_,_,Q_17⟩,trivial⟩⟩⟩ W_97 ⟨Yh2 (L:=S_97L3 Aa) K_97L3 (i:=3) (by kernel_rfl),⟨Yh2 (L:=S_97L7 Aa) K_97L7 (i:=7) (by kernel_rfl),⟨Yh2 (L:=S_97L11 Aa) K_97L11 (i:=11) (by kernel_rfl),⟨Yh2 (L:=S_97L17 Aa) K_97L17 (i:=17) (by kernel_rfl),⟨Yh2 (L:=S_97L21 Aa) K_97L21 (i:=21) (by kernel_rfl),trivial⟩⟩⟩⟩⟩
theorem K_98L6 (n:Nat) (x):Cn (n+1) x=YeE C_98 B_98L6 (S_98L6 Aa) x (Cn n):=by
 obtain⟨_,_,_,_,_⟩:=x
 kernel_rfl
theorem K_98L2 (n:Nat) (x):Cm (n+1) x=YeE C_98 B_98L2 (S_98L2 Aa) x (Cm n):=by
 obtain⟨_,_,_⟩:=x
 kernel_rfl
theorem F_98 (a):E_98.run a=Yhq C_98 Tryz.f104 E_98.params E_98.results a λo r=>some (N_98 o r):=by
 kernel_rfl
theorem W_98:XO D_98= [B_98L2,B_98L6]:=by kernel_rfl
theorem Q_98:Qk Tryz.prog 104 Tryz.f104 D_98:=⟨Tryz.func104,by kernel_rfl,by kernel_rfl⟩
theorem H_98:Holds Tryz.prog 104 E_98:=
 YhX tabT mixT Q_98 F_98 rfl ⟨⟨H_51,_,_,Q_51⟩,trivial⟩ W_98 ⟨Yh2 (L:=S_98L2 Aa) K_98L2 (i:=2) (by kernel_rfl),⟨Yh2 (L:=S_98L6 Aa) K_98L6 (i:=6) (by kernel_rfl),trivial⟩⟩
theorem K_99L8 (rec:(Int×(List (List ((List Int)×Int×(List (List Int)))))×(List Int)×(List Int)×((List (List Int))×(Int×Int)))->Option (((List (List Int))×(Int×Int)))) (n:Nat) (x):Av rec (n+1) x=YeE (C_99 rec) B_99L8 (S_99L8 rec Aa) x (Av rec n):=by
 obtain⟨_,_,_,_,_,_,_,_⟩:=x
 kernel_rfl
theorem F_99 (rec:(Int×(List (List ((List Int)×Int×(List (List Int)))))×(List Int)×(List Int)×((List (List Int))×(Int×Int)))->Option (((List (List Int))×(Int×Int)))) (a:YE [.v .int,.v y16,.v y2,.v y2,.pr (.mv y2 1) (.v y6)]):Ev rec a.1 a.2.1 a.2.2.1 a.2.2.2.1 a.2.2.2.2=Yhq (C_99 rec) Tryz.f88 [.v .int,.v y16,.v y2,.v y2,.pr (.mv y2 1) (.v y6)] [.pr (.mv y2 1) (.v y6)] a (λo r=>some (N_99 o r)):=by
 kernel_rfl
theorem W_99:XO D_99= [B_99L8]:=by kernel_rfl
theorem R_99L8:YT B_99L8=8:=by kernel_rfl
theorem Q_99:Qk Tryz.prog 88 Tryz.f88 D_99:=⟨Tryz.func88,by kernel_rfl,by kernel_rfl⟩
theorem H_99: ∀d,Holds Tryz.prog 88 (E_99 d)
 |0=>λ_ b h=>absurd (show(none:Option _)=some b from h) (by simp)
 |d+1=>YfQ (en:=E_99 (d+1)) (cx:=(C_99 (BZ d))) (Ygl tabT rfl).1 (YeU ⟨⟨H_6,_,_,Q_6⟩,⟨⟨H_99 d,_,_,Q_99⟩,⟨⟨H_98,_,_,Q_98⟩,trivial⟩⟩⟩) mixT Q_99.1 Q_99.2.2 (YfV W_99 ⟨YgI (cx:=(C_99 (BZ d))) (L:=S_99L8 (BZ d) Aa) rfl (by rw[R_99L8];rfl) ⟨Av (BZ d),λ_=>rfl,λn x=>K_99L8 (BZ d) n x,Aa,λ_=>rfl⟩,trivial⟩) (enc:=N_99) (λ_ _=>⟨rfl,rfl⟩) (F_99 (BZ d)) rfl
theorem F_100 (a):E_100.run a=Yhq C_100 Tryz.f64 E_100.params E_100.results a λo r=>some (N_100 o r):=by
 kernel_rfl
theorem W_100:XO D_100= []:=by kernel_rfl
theorem Q_100:Qk Tryz.prog 64 Tryz.f64 D_100:=⟨Tryz.func64,by kernel_rfl,by kernel_rfl⟩
theorem H_100:Holds Tryz.prog 64 E_100:=
 YhX tabT mixT Q_100 F_100 rfl ⟨⟨H_99 Aa,_,_,Q_99⟩,⟨⟨H_97,_,_,Q_97⟩,trivial⟩⟩ W_100 trivial
theorem F_101 (a):E_101.run a=Yhq C_101 Tryz.f38 E_101.params E_101.results a λo r=>some (N_101 o r):=by
 kernel_rfl
theorem W_101:XO D_101= []:=by kernel_rfl
theorem Q_101:Qk Tryz.prog 38 Tryz.f38 D_101:=⟨Tryz.func38,by kernel_rfl,by kernel_rfl⟩
theorem H_101:Holds Tryz.prog 38 E_101:=
 YhX tabT mixT Q_101 F_101 rfl ⟨⟨H_100,_,_,Q_100⟩,trivial⟩ W_101 trivial
theorem K_102L8 (n:Nat) (x):AH (n+1) x=YeE C_102 B_102L8 (S_102L8 Aa) x (AH n):=by
 obtain⟨_,_,_,_,_,_⟩:=x
 kernel_rfl
theorem K_102L5 (n:Nat) (x):AG (n+1) x=YeE C_102 B_102L5 (S_102L5 Aa) x (AG n):=by
 obtain⟨_,_,_,_,_⟩:=x
 kernel_rfl
theorem F_102 (a):E_102.run a=Yhq C_102 Tryz.f16 E_102.params E_102.results a λo r=>some (N_102 o r):=by
 kernel_rfl
theorem W_102:XO D_102= [B_102L5,B_102L8]:=by kernel_rfl
theorem Q_102:Qk Tryz.prog 16 Tryz.f16 D_102:=⟨Tryz.func16,by kernel_rfl,by kernel_rfl⟩
theorem H_102:Holds Tryz.prog 16 E_102:=
 YhX tabT mixT Q_102 F_102 rfl ⟨⟨H_95,_,_,Q_95⟩,⟨⟨H_96,_,_,Q_96⟩,⟨⟨H_101,_,_,Q_101⟩,trivial⟩⟩⟩ W_102 ⟨Yh2 (L:=S_102L5 Aa) K_102L5 (i:=5) (by kernel_rfl),⟨Yh2 (L:=S_102L8 Aa) K_102L8 (i:=8) (by kernel_rfl),trivial⟩⟩
theorem F_103 (a):E_103.run a=Yhq C_103 Tryz.f17 E_103.params E_103.results a λo r=>some (N_103 o r):=by
 kernel_rfl
theorem W_103:XO D_103= []:=by kernel_rfl
theorem Q_103:Qk Tryz.prog 17 Tryz.f17 D_103:=⟨Tryz.func17,by kernel_rfl,by kernel_rfl⟩
theorem H_103:Holds Tryz.prog 17 E_103:=
 YhX tabT mixT Q_103 F_103 rfl ⟨⟨H_62,_,_,Q_62⟩,trivial⟩ W_103 trivial
theorem F_104 (a):E_104.run a=Yhq C_104 Tryz.f39 E_104.params E_104.results a λo r=>some (N_104 o r):=by
 kernel_rfl
theorem W_104:XO D_104= []:=by kernel_rfl
theorem Q_104:Qk Tryz.prog 39 Tryz.f39 D_104:=⟨Tryz.func39,by kernel_rfl,by kernel_rfl⟩
theorem H_104:Holds Tryz.prog 39 E_104:=
 YhX tabT mixT Q_104 F_104 rfl ⟨⟨H_27,_,_,Q_27⟩,trivial⟩ W_104 trivial
theorem K_105L2 (n:Nat) (x):BN (n+1) x=YeE C_105 B_105L2 (S_105L2 Aa) x (BN n):=by
 obtain⟨_,_,_,_⟩:=x
 kernel_rfl
theorem F_105 (a):E_105.run a=Yhq C_105 Tryz.f40 E_105.params E_105.results a λo r=>some (N_105 o r):=by
 kernel_rfl
theorem W_105:XO D_105= [B_105L2]:=by kernel_rfl
theorem Q_105:Qk Tryz.prog 40 Tryz.f40 D_105:=⟨Tryz.func40,by kernel_rfl,by kernel_rfl⟩
theorem H_105:Holds Tryz.prog 40 E_105:=
 YhX tabT mixT Q_105 F_105 rfl ⟨⟨H_37,_,_,Q_37⟩,⟨⟨H_35,_,_,Q_35⟩,trivial⟩⟩ W_105 ⟨Yh2 (L:=S_105L2 Aa) K_105L2 (i:=2) (by kernel_rfl),trivial⟩
theorem F_106 (a):E_106.run a=Yhq C_106 Tryz.f18 E_106.params E_106.results a λo r=>some (N_106 o r):=by
 kernel_rfl
theorem W_106:XO D_106= []:=by kernel_rfl
theorem Q_106:Qk Tryz.prog 18 Tryz.f18 D_106:=⟨Tryz.func18,by kernel_rfl,by kernel_rfl⟩
theorem H_106:Holds Tryz.prog 18 E_106:=
 YhX tabT mixT Q_106 F_106 rfl ⟨⟨H_31,_,_,Q_31⟩,⟨⟨H_104,_,_,Q_104⟩,⟨⟨H_105,_,_,Q_105⟩,trivial⟩⟩⟩ W_106 trivial
theorem K_107L14 (n:Nat) (x):BV (n+1) x=YeE C_107 B_107L14 (S_107L14 Aa) x (BV n):=by
 obtain⟨_,_,_,_,_,_⟩:=x
 kernel_rfl
theorem K_107L9 (n:Nat) (x):Cg (n+1) x=YeE C_107 B_107L9 (S_107L9 Aa) x (Cg n):=by
 obtain⟨_,_,_,_,_⟩:=x
 kernel_rfl
theorem K_107L27 (n:Nat) (x):BW (n+1) x=YeE C_107 B_107L27 (S_107L27 Aa) x (BW n):=by
 obtain⟨_,_,_,_,_,_,_,_⟩:=x
 kernel_rfl
theorem K_107L34 (n:Nat) (x):Cl (n+1) x=YeE C_107 B_107L34 (S_107L34 Aa) x (Cl n):=by
 obtain⟨_,_,_,_,_,_,_⟩:=x
 kernel_rfl
theorem K_107L51 (n:Nat) (x):BY (n+1) x=YeE C_107 B_107L51 (S_107L51 Aa) x (BY n):=by
 obtain⟨_,_,_,_,_,_,_,_,_,_,_⟩:=x
 kernel_rfl
theorem K_107L47 (n:Nat) (x):CZ (n+1) x=YeE C_107 B_107L47 (S_107L47 Aa) x (CZ n):=by
 obtain⟨_,_,_,_,_,_,_,_,_⟩:=x
 kernel_rfl
theorem K_107L44 (n:Nat) (x):BX (n+1) x=YeE C_107 B_107L44 (S_107L44 Aa) x (BX n):=by
 obtain⟨_,_,_,_,_,_,_,_⟩:=x
 kernel_rfl
theorem K_107L63 (n:Nat) (x):Bh (n+1) x=YeE C_107 B_107L63 (S_107L63 Aa) x (Bh n):=by
 obtain⟨_,_,_,_,_,_,_,_⟩:=x
 kernel_rfl
theorem K_107L59 (n:Nat) (x):A7 (n+1) x=YeE C_107 B_107L59 (S_107L59 Aa) x (A7 n):=by
 obtain⟨_,_,_,_,_,_⟩:=x
 kernel_rfl
theorem F_107 (a):E_107.run a=Yhq C_107 Tryz.f3 E_107.params E_107.results a λo r=>some (N_107 o r):=by
 kernel_rfl
theorem W_107:XO D_107= [B_107L9,B_107L14,B_107L27,B_107L34,B_107L44,B_107L47,B_107L51,B_107L59,B_107L63]:=by kernel_rfl
theorem Q_107:Qk Tryz.prog 3 Tryz.f3 D_107:=⟨Tryz.func3,by kernel_rfl,by kernel_rfl⟩
theorem H_107:Holds Tryz.prog 3 E_107:=
 YhX tabT mixT Q_107 F_107 rfl ⟨⟨H_1,_,_,Q_1⟩,⟨⟨H_25,_,_,Q_25⟩,⟨⟨H_43,_,_,Q_43⟩,⟨⟨H_58,_,_,Q_58⟩,⟨⟨H_60,_,_,Q_60⟩,⟨⟨H_61,_,_,Q_61⟩,⟨⟨H_62,_,_,Q_62⟩,⟨⟨H_63,_,_,Q_63⟩,⟨⟨H_72,_,_,Q_72⟩,⟨⟨H_77,_,_,Q_77⟩,⟨⟨H_78,_,_,Q_78⟩,⟨⟨H_92,_,_,Q_92⟩,⟨⟨H_102,_,_,Q_102⟩,⟨⟨H_103,_,_,Q_103⟩,⟨⟨H_106,_,_,Q_106⟩,trivial⟩⟩⟩⟩⟩⟩⟩⟩⟩⟩⟩⟩⟩⟩⟩ W_107 ⟨Yh2 (L:=S_107L9 Aa) K_107L9 (i:=9) (by kernel_rfl),⟨Yh2 (L:=S_107L14 Aa) K_107L14 (i:=14) (by kernel_rfl),⟨Yh2 (L:=S_107L27 Aa) K_107L27 (i:=27) (by kernel_rfl),⟨Yh2 (L:=S_107L34 Aa) K_107L34 (i:=34) (by kernel_rfl),⟨Yh2 (L:=S_107L44 Aa) K_107L44 (i:=44) (by kernel_rfl),⟨Yh2 (L:=S_107L47 Aa) K_107L47 (i:=47) (by kernel_rfl),⟨Yh2 (L:=S_107L51 Aa) K_107L51 (i:=51) (by kernel_rfl),⟨Yh2 (L:=S_107L59 Aa) K_107L59 (i:=59) (by kernel_rfl),⟨Yh2 (L:=S_107L63 Aa) K_107L63 (i:=63) (by kernel_rfl),trivial⟩⟩⟩⟩⟩⟩⟩⟩⟩
end T
