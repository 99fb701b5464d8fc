/- Each typed function is what the program computes; no conditions. -/
import Derived.Test.YtbfbcfnbcbdgjabGreatSFnFolding
import Derived.Test.YtbfbcfnbcbdgjabGreatCFnFolding
set_option linter.all false
set_option maxRecDepth 10000
open Go Go.Va Go.Proofs
namespace T
theorem F_1 (a):E_1.run a=Yhq C_1 Tryz.f5 E_1.params E_1.results a λo r=>some (N_1 o r):=by
 kernel_rfl
theorem W_1:XO D_1= []:=by kernel_rfl
theorem Q_1:Qk Tryz.prog 5 Tryz.f5 D_1:=⟨Tryz.func5,by kernel_rfl,by kernel_rfl⟩
theorem H_1:Holds Tryz.prog 5 E_1:=
 YhX tabT mixT Q_1 F_1 rfl trivial W_1 trivial
theorem F_2 (a):E_2.run a=Yhq C_2 Tryz.f88 E_2.params E_2.results a λo r=>some (N_2 o r):=by
 kernel_rfl
theorem W_2:XO D_2= []:=by kernel_rfl
theorem Q_2:Qk Tryz.prog 88 Tryz.f88 D_2:=⟨Tryz.func88,by kernel_rfl,by kernel_rfl⟩
theorem H_2:Holds Tryz.prog 88 E_2:=
 YhX tabT mixT Q_2 F_2 rfl trivial W_2 trivial
theorem F_3 (a):E_3.run a=Yhq C_3 Tryz.f35 E_3.params E_3.results a λo r=>some (N_3 o r):=by
 kernel_rfl
theorem W_3:XO D_3= []:=by kernel_rfl
theorem Q_3:Qk Tryz.prog 35 Tryz.f35 D_3:=⟨Tryz.func35,by kernel_rfl,by kernel_rfl⟩
theorem H_3:Holds Tryz.prog 35 E_3:=
 YhX tabT mixT Q_3 F_3 rfl ⟨⟨H_2,_,_,Q_2⟩,trivial⟩ W_3 trivial
theorem F_4 (a):E_4.run a=Yhq C_4 Tryz.f34 E_4.params E_4.results a λo r=>some (N_4 o r):=by
 kernel_rfl
theorem W_4:XO D_4= []:=by kernel_rfl
theorem Q_4:Qk Tryz.prog 34 Tryz.f34 D_4:=⟨Tryz.func34,by kernel_rfl,by kernel_rfl⟩
theorem H_4:Holds Tryz.prog 34 E_4:=
 YhX tabT mixT Q_4 F_4 rfl ⟨⟨H_3,_,_,Q_3⟩,trivial⟩ W_4 trivial
theorem F_5 (a):E_5.run a=Yhq C_5 Tryz.f125 E_5.params E_5.results a λo r=>some (N_5 o r):=by
 kernel_rfl
theorem W_5:XO D_5= []:=by kernel_rfl
theorem Q_5:Qk Tryz.prog 125 Tryz.f125 D_5:=⟨Tryz.func125,by kernel_rfl,by kernel_rfl⟩
theorem H_5:Holds Tryz.prog 125 E_5:=
 YhX tabT mixT Q_5 F_5 rfl trivial W_5 trivial
theorem F_6 (a):E_6.run a=Yhq C_6 Tryz.f114 E_6.params E_6.results a λo r=>some (N_6 o r):=by
 kernel_rfl
theorem W_6:XO D_6= []:=by kernel_rfl
theorem Q_6:Qk Tryz.prog 114 Tryz.f114 D_6:=⟨Tryz.func114,by kernel_rfl,by kernel_rfl⟩
theorem H_6:Holds Tryz.prog 114 E_6:=
 YhX tabT mixT Q_6 F_6 rfl trivial W_6 trivial
theorem F_7 (a):E_7.run a=Yhq C_7 Tryz.f36 E_7.params E_7.results a λo r=>some (N_7 o r):=by
 kernel_rfl
theorem W_7:XO D_7= []:=by kernel_rfl
theorem Q_7:Qk Tryz.prog 36 Tryz.f36 D_7:=⟨Tryz.func36,by kernel_rfl,by kernel_rfl⟩
theorem H_7:Holds Tryz.prog 36 E_7:=
 YhX tabT mixT Q_7 F_7 rfl ⟨⟨H_3,_,_,Q_3⟩,trivial⟩ W_7 trivial
theorem F_8 (a):E_8.run a=Yhq C_8 Tryz.f86 E_8.params E_8.results a λo r=>some (N_8 o r):=by
 kernel_rfl
theorem W_8:XO D_8= []:=by kernel_rfl
theorem Q_8:Qk Tryz.prog 86 Tryz.f86 D_8:=⟨Tryz.func86,by kernel_rfl,by kernel_rfl⟩
theorem H_8:Holds Tryz.prog 86 E_8:=
 YhX tabT mixT Q_8 F_8 rfl trivial W_8 trivial
theorem F_9 (a):E_9.run a=Yhq C_9 Tryz.f126 E_9.params E_9.results a λo r=>some (N_9 o r):=by
 kernel_rfl
theorem W_9:XO D_9= []:=by kernel_rfl
theorem Q_9:Qk Tryz.prog 126 Tryz.f126 D_9:=⟨Tryz.func126,by kernel_rfl,by kernel_rfl⟩
theorem H_9:Holds Tryz.prog 126 E_9:=
 YhX tabT mixT Q_9 F_9 rfl ⟨⟨H_8,_,_,Q_8⟩,trivial⟩ W_9 trivial
theorem K_10L2 (n:Nat) (x):DL (n+1) x=YeE C_10 B_10L2 (S_10L2 Aa) x (DL n):=by
 obtain⟨_,_,_⟩:=x
 kernel_rfl
theorem F_10 (a):E_10.run a=Yhq C_10 Tryz.f131 E_10.params E_10.results a λo r=>some (N_10 o r):=by
 kernel_rfl
theorem W_10:XO D_10= [B_10L2]:=by kernel_rfl
theorem Q_10:Qk Tryz.prog 131 Tryz.f131 D_10:=⟨Tryz.func131,by kernel_rfl,by kernel_rfl⟩
theorem H_10:Holds Tryz.prog 131 E_10:=
 YhX tabT mixT Q_10 F_10 rfl trivial W_10 ⟨Yh2 (L:=S_10L2 Aa) K_10L2 (i:=2) (by kernel_rfl),trivial⟩
theorem K_11L4 (n:Nat) (x):DJ (n+1) x=YeE C_11 B_11L4 (S_11L4 Aa) x (DJ n):=by
 obtain⟨_,_,_⟩:=x
 kernel_rfl
theorem F_11 (a):E_11.run a=Yhq C_11 Tryz.f123 E_11.params E_11.results a λo r=>some (N_11 o r):=by
 kernel_rfl
theorem W_11:XO D_11= [B_11L4]:=by kernel_rfl
theorem Q_11:Qk Tryz.prog 123 Tryz.f123 D_11:=⟨Tryz.func123,by kernel_rfl,by kernel_rfl⟩
theorem H_11:Holds Tryz.prog 123 E_11:=
 YhX tabT mixT Q_11 F_11 rfl trivial W_11 ⟨Yh2 (L:=S_11L4 Aa) K_11L4 (i:=4) (by kernel_rfl),trivial⟩
theorem K_12L2 (n:Nat) (x):Da (n+1) x=YeE C_12 B_12L2 (S_12L2 Aa) x (Da n):=by
 obtain⟨_,_,_,_⟩:=x
 kernel_rfl
theorem F_12 (a):E_12.run a=Yhq C_12 Tryz.f149 E_12.params E_12.results a λo r=>some (N_12 o r):=by
 kernel_rfl
theorem W_12:XO D_12= [B_12L2]:=by kernel_rfl
theorem Q_12:Qk Tryz.prog 149 Tryz.f149 D_12:=⟨Tryz.func149,by kernel_rfl,by kernel_rfl⟩
theorem H_12:Holds Tryz.prog 149 E_12:=
 YhX tabT mixT Q_12 F_12 rfl ⟨⟨H_11,_,_,Q_11⟩,⟨⟨H_10,_,_,Q_10⟩,trivial⟩⟩ W_12 ⟨Yh2 (L:=S_12L2 Aa) K_12L2 (i:=2) (by kernel_rfl),trivial⟩
theorem F_13 (a):E_13.run a=Yhq C_13 Tryz.f115 E_13.params E_13.results a λo r=>some (N_13 o r):=by
 kernel_rfl
theorem W_13:XO D_13= []:=by kernel_rfl
theorem Q_13:Qk Tryz.prog 115 Tryz.f115 D_13:=⟨Tryz.func115,by kernel_rfl,by kernel_rfl⟩
theorem H_13:Holds Tryz.prog 115 E_13:=
 YhX tabT mixT Q_13 F_13 rfl ⟨⟨H_12,_,_,Q_12⟩,trivial⟩ W_13 trivial
theorem K_14L3 (n:Nat) (x):AC (n+1) x=YeE C_14 B_14L3 (S_14L3 Aa) x (AC n):=by
 obtain⟨_,_,_,_⟩:=x
 kernel_rfl
theorem F_14 (a):E_14.run a=Yhq C_14 Tryz.f128 E_14.params E_14.results a λo r=>some (N_14 o r):=by
 kernel_rfl
theorem W_14:XO D_14= [B_14L3]:=by kernel_rfl
theorem Q_14:Qk Tryz.prog 128 Tryz.f128 D_14:=⟨Tryz.func128,by kernel_rfl,by kernel_rfl⟩
theorem H_14:Holds Tryz.prog 128 E_14:=
 YhX tabT mixT Q_14 F_14 rfl ⟨⟨H_3,_,_,Q_3⟩,trivial⟩ W_14 ⟨Yh2 (L:=S_14L3 Aa) K_14L3 (i:=3) (by kernel_rfl),trivial⟩
theorem K_15L6 (n:Nat) (x):AQ (n+1) x=YeE C_15 B_15L6 (S_15L6 Aa) x (AQ n):=by
 obtain⟨_,_,_,_,_⟩:=x
 kernel_rfl
theorem K_15L3 (n:Nat) (x):Bn (n+1) x=YeE C_15 B_15L3 (S_15L3 Aa) x (Bn n):=by
 obtain⟨_,_,_,_⟩:=x
 kernel_rfl
theorem F_15 (a):E_15.run a=Yhq C_15 Tryz.f127 E_15.params E_15.results a λo r=>some (N_15 o r):=by
 kernel_rfl
theorem W_15:XO D_15= [B_15L3,B_15L6]:=by kernel_rfl
theorem Q_15:Qk Tryz.prog 127 Tryz.f127 D_15:=⟨Tryz.func127,by kernel_rfl,by kernel_rfl⟩
theorem H_15:Holds Tryz.prog 127 E_15:=
 YhX tabT mixT Q_15 F_15 rfl trivial W_15 ⟨Yh2 (L:=S_15L3 Aa) K_15L3 (i:=3) (by kernel_rfl),⟨Yh2 (L:=S_15L6 Aa) K_15L6 (i:=6) (by kernel_rfl),trivial⟩⟩
theorem K_16L2 (n:Nat) (x):CT (n+1) x=YeE C_16 B_16L2 (S_16L2 Aa) x (CT n):=by
 obtain⟨_,_,_⟩:=x
 kernel_rfl
theorem F_16 (a):E_16.run a=Yhq C_16 Tryz.f78 E_16.params E_16.results a λo r=>some (N_16 o r):=by
 kernel_rfl
theorem W_16:XO D_16= [B_16L2]:=by kernel_rfl
theorem Q_16:Qk Tryz.prog 78 Tryz.f78 D_16:=⟨Tryz.func78,by kernel_rfl,by kernel_rfl⟩
theorem H_16:Holds Tryz.prog 78 E_16:=
 YhX tabT mixT Q_16 F_16 rfl trivial W_16 ⟨Yh2 (L:=S_16L2 Aa) K_16L2 (i:=2) (by kernel_rfl),trivial⟩
theorem K_17L3 (n:Nat) (x):DK (n+1) x=YeE C_17 B_17L3 (S_17L3 Aa) x (DK n):=by
 obtain⟨_,_,_,_⟩:=x
 kernel_rfl
theorem F_17 (a):E_17.run a=Yhq C_17 Tryz.f144 E_17.params E_17.results a λo r=>some (N_17 o r):=by
 kernel_rfl
theorem W_17:XO D_17= [B_17L3]:=by kernel_rfl
theorem Q_17:Qk Tryz.prog 144 Tryz.f144 D_17:=⟨Tryz.func144,by kernel_rfl,by kernel_rfl⟩
theorem H_17:Holds Tryz.prog 144 E_17:=
 YhX tabT mixT Q_17 F_17 rfl trivial W_17 ⟨Yh2 (L:=S_17L3 Aa) K_17L3 (i:=3) (by kernel_rfl),trivial⟩
theorem K_18L3 (n:Nat) (x):CF (n+1) x=YeE C_18 B_18L3 (S_18L3 Aa) x (CF n):=by
 obtain⟨_,_,_,_,_⟩:=x
 kernel_rfl
theorem F_18 (a):E_18.run a=Yhq C_18 Tryz.f129 E_18.params E_18.results a λo r=>some (N_18 o r):=by
 kernel_rfl
theorem W_18:XO D_18= [B_18L3]:=by kernel_rfl
theorem Q_18:Qk Tryz.prog 129 Tryz.f129 D_18:=⟨Tryz.func129,by kernel_rfl,by kernel_rfl⟩
theorem H_18:Holds Tryz.prog 129 E_18:=
 YhX tabT mixT Q_18 F_18 rfl ⟨⟨H_16,_,_,Q_16⟩,⟨⟨H_17,_,_,Q_17⟩,trivial⟩⟩ W_18 ⟨Yh2 (L:=S_18L3 Aa) K_18L3 (i:=3) (by kernel_rfl),trivial⟩
theorem F_19 (a):E_19.run a=Yhq C_19 Tryz.f115 E_19.params E_19.results a λo r=>some (N_19 o r):=by
 kernel_rfl
theorem W_19:XO D_19= []:=by kernel_rfl
theorem Q_19:Qk Tryz.prog 115 Tryz.f115 D_19:=⟨Tryz.func115,by kernel_rfl,by kernel_rfl⟩
theorem H_19:Holds Tryz.prog 115 E_19:=
 YhX tabT mixT Q_19 F_19 rfl ⟨⟨H_12,_,_,Q_12⟩,trivial⟩ W_19 trivial
theorem K_20L9 (n:Nat) (x):Bs (n+1) x=YeE C_20 B_20L9 (S_20L9 Aa) x (Bs n):=by
 obtain⟨_,_,_,_,_,_,_,_⟩:=x
 kernel_rfl
theorem K_20L5 (n:Nat) (x):Bq (n+1) x=YeE C_20 B_20L5 (S_20L5 Aa) x (Bq n):=by
 obtain⟨_,_,_,_,_,_⟩:=x
 kernel_rfl
theorem F_20 (a):E_20.run a=Yhq C_20 Tryz.f84 E_20.params E_20.results a λo r=>some (N_20 o r):=by
 kernel_rfl
theorem W_20:XO D_20= [B_20L5,B_20L9]:=by kernel_rfl
theorem Q_20:Qk Tryz.prog 84 Tryz.f84 D_20:=⟨Tryz.func84,by kernel_rfl,by kernel_rfl⟩
theorem H_20:Holds Tryz.prog 84 E_20:=
 YhX tabT mixT Q_20 F_20 rfl ⟨⟨H_4,_,_,Q_4⟩,⟨⟨H_3,_,_,Q_3⟩,⟨⟨H_7,_,_,Q_7⟩,⟨⟨H_8,_,_,Q_8⟩,⟨⟨H_19,_,_,Q_19⟩,⟨⟨H_9,_,_,Q_9⟩,⟨⟨H_15,_,_,Q_15⟩,⟨⟨H_14,_,_,Q_14⟩,⟨⟨H_18,_,_,Q_18⟩,trivial⟩⟩⟩⟩⟩⟩⟩⟩⟩ W_20 ⟨Yh2 (L:=S_20L5 Aa) K_20L5 (i:=5) (by kernel_rfl),⟨Yh2 (L:=S_20L9 Aa) K_20L9 (i:=9) (by kernel_rfl),trivial⟩⟩
theorem K_21L9 (n:Nat) (x):AS (n+1) x=YeE C_21 B_21L9 (S_21L9 Aa) x (AS n):=by
 obtain⟨_,_,_,_,_,_,_⟩:=x
 kernel_rfl
theorem K_21L5 (n:Nat) (x):AR (n+1) x=YeE C_21 B_21L5 (S_21L5 Aa) x (AR n):=by
 obtain⟨_,_,_,_,_⟩:=x
 kernel_rfl
theorem K_21L17 (n:Nat) (x):A8 (n+1) x=YeE C_21 B_21L17 (S_21L17 Aa) x (A8 n):=by
 obtain⟨_,_,_,_⟩:=x
 kernel_rfl
theorem F_21 (a):E_21.run a=Yhq C_21 Tryz.f83 E_21.params E_21.results a λo r=>some (N_21 o r):=by
 kernel_rfl
theorem W_21:XO D_21= [B_21L5,B_21L9,B_21L17]:=by kernel_rfl
theorem Q_21:Qk Tryz.prog 83 Tryz.f83 D_21:=⟨Tryz.func83,by kernel_rfl,by kernel_rfl⟩
theorem H_21:Holds Tryz.prog 83 E_21:=
 YhX tabT mixT Q_21 F_21 rfl ⟨⟨H_4,_,_,Q_4⟩,⟨⟨H_3,_,_,Q_3⟩,⟨⟨H_7,_,_,Q_7⟩,⟨⟨H_20,_,_,Q_20⟩,⟨⟨H_6,_,_,Q_6⟩,⟨⟨H_5,_,_,Q_5⟩,trivial⟩⟩⟩⟩⟩⟩ W_21 ⟨Yh2 (L:=S_21L5 Aa) K_21L5 (i:=5) (by kernel_rfl),⟨Yh2 (L:=S_21L9 Aa) K_21L9 (i:=9) (by kernel_rfl),⟨Yh2 (L:=S_21L17 Aa) K_21L17 (i:=17) (by kernel_rfl),trivial⟩⟩⟩
theorem F_22 (a):E_22.run a=Yhq C_22 Tryz.f85 E_22.params E_22.results a λo r=>some (N_22 o r):=by
 kernel_rfl
theorem W_22:XO D_22= []:=by kernel_rfl
theorem Q_22:Qk Tryz.prog 85 Tryz.f85 D_22:=⟨Tryz.func85,by kernel_rfl,by kernel_rfl⟩
theorem H_22:Holds Tryz.prog 85 E_22:=
 YhX tabT mixT Q_22 F_22 rfl trivial W_22 trivial
theorem K_23L11 (n:Nat) (x):Ay (n+1) x=YeE C_23 B_23L11 (S_23L11 Aa) x (Ay n):=by
 obtain⟨_,_,_,_,_,_,_,_,_⟩:=x
 kernel_rfl
theorem K_23L4 (n:Nat) (x):AA (n+1) x=YeE C_23 B_23L4 (S_23L4 Aa) x (AA n):=by
 obtain⟨_,_,_,_,_,_⟩:=x
 kernel_rfl
theorem K_23L23 (n:Nat) (x):Bp (n+1) x=YeE C_23 B_23L23 (S_23L23 Aa) x (Bp n):=by
 obtain⟨_,_,_,_⟩:=x
 kernel_rfl
theorem F_23 (a):E_23.run a=Yhq C_23 Tryz.f31 E_23.params E_23.results a λo r=>some (N_23 o r):=by
 kernel_rfl
theorem W_23:XO D_23= [B_23L4,B_23L11,B_23L23]:=by kernel_rfl
theorem Q_23:Qk Tryz.prog 31 Tryz.f31 D_23:=⟨Tryz.func31,by kernel_rfl,by kernel_rfl⟩
theorem H_23:Holds Tryz.prog 31 E_23:=
 YhX tabT mixT Q_23 F_23 rfl ⟨⟨H_4,_,_,Q_4⟩,⟨⟨H_3,_,_,Q_3⟩,⟨⟨H_7,_,_,Q_7⟩,⟨⟨H_21,_,_,Q_21⟩,⟨⟨H_20,_,_,Q_20⟩,⟨⟨H_22,_,_,Q_22⟩,trivial⟩⟩⟩⟩⟩⟩ W_23 ⟨Yh2 (L:=S_23L4 Aa) K_23L4 (i:=4) (by kernel_rfl),⟨Yh2 (L:=S_23L11 Aa) K_23L11 (i:=11) (by kernel_rfl),⟨Yh2 (L:=S_23L23 Aa) K_23L23 (i:=23) (by kernel_rfl),trivial⟩⟩⟩
theorem F_24 (a):E_24.run a=Yhq C_24 Tryz.f32 E_24.params E_24.results a λo r=>some (N_24 o r):=by
 kernel_rfl
theorem W_24:XO D_24= []:=by kernel_rfl
theorem Q_24:Qk Tryz.prog 32 Tryz.f32 D_24:=⟨Tryz.func32,by kernel_rfl,by kernel_rfl⟩
theorem H_24:Holds Tryz.prog 32 E_24:=
 YhX tabT mixT Q_24 F_24 rfl ⟨⟨H_8,_,_,Q_8⟩,trivial⟩ W_24 trivial
theorem K_25L2 (n:Nat) (x):Cy (n+1) x=YeE C_25 B_25L2 (S_25L2 Aa) x (Cy n):=by
 obtain⟨_,_,_⟩:=x
 kernel_rfl
theorem F_25 (a):E_25.run a=Yhq C_25 Tryz.f133 E_25.params E_25.results a λo r=>some (N_25 o r):=by
 kernel_rfl
theorem W_25:XO D_25= [B_25L2]:=by kernel_rfl
theorem Q_25:Qk Tryz.prog 133 Tryz.f133 D_25:=⟨Tryz.func133,by kernel_rfl,by kernel_rfl⟩
theorem H_25:Holds Tryz.prog 133 E_25:=
 YhX tabT mixT Q_25 F_25 rfl ⟨⟨H_8,_,_,Q_8⟩,trivial⟩ W_25 ⟨Yh2 (L:=S_25L2 Aa) K_25L2 (i:=2) (by kernel_rfl),trivial⟩
theorem F_26 (a):E_26.run a=Yhq C_26 Tryz.f130 E_26.params E_26.results a λo r=>some (N_26 o r):=by
 kernel_rfl
theorem W_26:XO D_26= []:=by kernel_rfl
theorem Q_26:Qk Tryz.prog 130 Tryz.f130 D_26:=⟨Tryz.func130,by kernel_rfl,by kernel_rfl⟩
theorem H_26:Holds Tryz.prog 130 E_26:=
 YhX tabT mixT Q_26 F_26 rfl ⟨⟨H_25,_,_,Q_25⟩,trivial⟩ W_26 trivial
theorem K_27L4 (n:Nat) (x):CG (n+1) x=YeE C_27 B_27L4 (S_27L4 Aa) x (CG n):=by
 obtain⟨_,_,_⟩:=x
 kernel_rfl
theorem F_27 (a):E_27.run a=Yhq C_27 Tryz.f87 E_27.params E_27.results a λo r=>some (N_27 o r):=by
 kernel_rfl
theorem W_27:XO D_27= [B_27L4]:=by kernel_rfl
theorem Q_27:Qk Tryz.prog 87 Tryz.f87 D_27:=⟨Tryz.func87,by kernel_rfl,by kernel_rfl⟩
theorem H_27:Holds Tryz.prog 87 E_27:=
 YhX tabT mixT Q_27 F_27 rfl ⟨⟨H_16,_,_,Q_16⟩,⟨⟨H_8,_,_,Q_8⟩,⟨⟨H_26,_,_,Q_26⟩,⟨⟨H_10,_,_,Q_10⟩,trivial⟩⟩⟩⟩ W_27 ⟨Yh2 (L:=S_27L4 Aa) K_27L4 (i:=4) (by kernel_rfl),trivial⟩
theorem K_28L4 (n:Nat) (x):BZ (n+1) x=YeE C_28 B_28L4 (S_28L4 Aa) x (BZ n):=by
 obtain⟨_,_,_⟩:=x
 kernel_rfl
theorem F_28 (a):E_28.run a=Yhq C_28 Tryz.f33 E_28.params E_28.results a λo r=>some (N_28 o r):=by
 kernel_rfl
theorem W_28:XO D_28= [B_28L4]:=by kernel_rfl
theorem Q_28:Qk Tryz.prog 33 Tryz.f33 D_28:=⟨Tryz.func33,by kernel_rfl,by kernel_rfl⟩
theorem H_28:Holds Tryz.prog 33 E_28:=
 YhX tabT mixT Q_28 F_28 rfl ⟨⟨H_27,_,_,Q_27⟩,trivial⟩ W_28 ⟨Yh2 (L:=S_28L4 Aa) K_28L4 (i:=4) (by kernel_rfl),trivial⟩
theorem K_29L4 (n:Nat) (x):Ct (n+1) x=YeE C_29 B_29L4 (S_29L4 Aa) x (Ct n):=by
 obtain⟨_,_,_⟩:=x
 kernel_rfl
theorem F_29 (a):E_29.run a=Yhq C_29 Tryz.f51 E_29.params E_29.results a λo r=>some (N_29 o r):=by
 kernel_rfl
theorem W_29:XO D_29= [B_29L4]:=by kernel_rfl
theorem Q_29:Qk Tryz.prog 51 Tryz.f51 D_29:=⟨Tryz.func51,by kernel_rfl,by kernel_rfl⟩
theorem H_29:Holds Tryz.prog 51 E_29:=
 YhX tabT mixT Q_29 F_29 rfl ⟨⟨H_24,_,_,Q_24⟩,⟨⟨H_28,_,_,Q_28⟩,⟨⟨H_8,_,_,Q_8⟩,trivial⟩⟩⟩ W_29 ⟨Yh2 (L:=S_29L4 Aa) K_29L4 (i:=4) (by kernel_rfl),trivial⟩
theorem K_30L3 (n:Nat) (x):CH (n+1) x=YeE C_30 B_30L3 (S_30L3 Aa) x (CH n):=by
 obtain⟨_,_,_⟩:=x
 kernel_rfl
theorem F_30 (a):E_30.run a=Yhq C_30 Tryz.f72 E_30.params E_30.results a λo r=>some (N_30 o r):=by
 kernel_rfl
theorem W_30:XO D_30= [B_30L3]:=by kernel_rfl
theorem Q_30:Qk Tryz.prog 72 Tryz.f72 D_30:=⟨Tryz.func72,by kernel_rfl,by kernel_rfl⟩
theorem H_30:Holds Tryz.prog 72 E_30:=
 YhX tabT mixT Q_30 F_30 rfl trivial W_30 ⟨Yh2 (L:=S_30L3 Aa) K_30L3 (i:=3) (by kernel_rfl),trivial⟩
theorem K_31L7 (n:Nat) (x):BG (n+1) x=YeE C_31 B_31L7 (S_31L7 Aa) x (BG n):=by
 obtain⟨_,_,_,_,_,_⟩:=x
 kernel_rfl
theorem K_31L3 (n:Nat) (x):BF (n+1) x=YeE C_31 B_31L3 (S_31L3 Aa) x (BF n):=by
 obtain⟨_,_,_,_⟩:=x
 kernel_rfl
theorem F_31 (a):E_31.run a=Yhq C_31 Tryz.f53 E_31.params E_31.results a λo r=>some (N_31 o r):=by
 kernel_rfl
theorem W_31:XO D_31= [B_31L3,B_31L7]:=by kernel_rfl
theorem Q_31:Qk Tryz.prog 53 Tryz.f53 D_31:=⟨Tryz.func53,by kernel_rfl,by kernel_rfl⟩
theorem H_31:Holds Tryz.prog 53 E_31:=
 YhX tabT mixT Q_31 F_31 rfl ⟨⟨H_30,_,_,Q_30⟩,⟨⟨H_16,_,_,Q_16⟩,trivial⟩⟩ W_31 ⟨Yh2 (L:=S_31L3 Aa) K_31L3 (i:=3) (by kernel_rfl),⟨Yh2 (L:=S_31L7 Aa) K_31L7 (i:=7) (by kernel_rfl),trivial⟩⟩
theorem K_32L3 (n:Nat) (x):Cr (n+1) x=YeE C_32 B_32L3 (S_32L3 Aa) x (Cr n):=by
 obtain⟨_,_,_,_,_⟩:=x
 kernel_rfl
theorem K_32L21 (n:Nat) (x):Cg (n+1) x=YeE C_32 B_32L21 (S_32L21 Aa) x (Cg n):=by
 obtain⟨_,_,_,_,_,_,_,_,_,_,_,_,_⟩:=x
 kernel_rfl
theorem K_32L17 (n:Nat) (x):Cf (n+1) x=YeE C_32 B_32L17 (S_32L17 Aa) x (Cf n):=by
 obtain⟨_,_,_,_,_,_,_,_,_,_,_⟩:=x
 kernel_rfl
theorem K_32L11 (n:Nat) (x):Ce (n+1) x=YeE C_32 B_32L11 (S_32L11 Aa) x (Ce n):=by
 obtain⟨_,_,_,_,_,_,_⟩:=x
 kernel_rfl
theorem K_32L7 (n:Nat) (x):Cs (n+1) x=YeE C_32 B_32L7 (S_32L7 Aa) x (Cs n):=by
 obtain⟨_,_,_,_,_⟩:=x
 kernel_rfl
theorem F_32 (a):E_32.run a=Yhq C_32 Tryz.f106 E_32.params E_32.results a λo r=>some (N_32 o r):=by
 kernel_rfl
theorem W_32:XO D_32= [B_32L3,B_32L7,B_32L11,B_32L17,B_32L21]:=by kernel_rfl
theorem Q_32:Qk Tryz.prog 106 Tryz.f106 D_32:=⟨Tryz.func106,by kernel_rfl,by kernel_rfl⟩
theorem H_32:Holds Tryz.prog 106 E_32:=
 YhX tabT mixT Q_32 F_32 rfl ⟨⟨H_16,_,_,Q_16⟩,⟨⟨H_22,_,_,Q_22⟩,⟨⟨H_17,_,_,Q_17⟩,trivial⟩⟩⟩ W_32 ⟨Yh2 (L:=S_32L3 Aa) K_32L3 (i:=3) (by kernel_rfl),⟨Yh2 (L:=S_32L7 Aa) K_32L7 (i:=7) (by kernel_rfl),⟨Yh2 (L:=S_32L11 Aa) K_32L11 (i:=11) (by kernel_rfl),⟨Yh2 (L:=S_32L17 Aa) K_32L17 (i:=17) (by kernel_rfl),⟨Yh2 (L:=S_32L21 Aa) K_32L21 (i:=21) (by kernel_rfl),trivial⟩⟩⟩⟩⟩
theorem F_33 (a):E_33.run a=Yhq C_33 Tryz.f155 E_33.params E_33.results a λo r=>some (N_33 o r):=by
 kernel_rfl
theorem W_33:XO D_33= []:=by kernel_rfl
theorem Q_33:Qk Tryz.prog 155 Tryz.f155 D_33:=⟨Tryz.func155,by kernel_rfl,by kernel_rfl⟩
theorem H_33:Holds Tryz.prog 155 E_33:=
 YhX tabT mixT Q_33 F_33 rfl ⟨⟨H_12,_,_,Q_12⟩,trivial⟩ W_33 trivial
theorem K_34L6 (n:Nat) (x):Cq (n+1) x=YeE C_34 B_34L6 (S_34L6 Aa) x (Cq n):=by
 obtain⟨_,_,_,_,_⟩:=x
 kernel_rfl
theorem K_34L2 (n:Nat) (x):Cp (n+1) x=YeE C_34 B_34L2 (S_34L2 Aa) x (Cp n):=by
 obtain⟨_,_,_⟩:=x
 kernel_rfl
theorem F_34 (a):E_34.run a=Yhq C_34 Tryz.f143 E_34.params E_34.results a λo r=>some (N_34 o r):=by
 kernel_rfl
theorem W_34:XO D_34= [B_34L2,B_34L6]:=by kernel_rfl
theorem Q_34:Qk Tryz.prog 143 Tryz.f143 D_34:=⟨Tryz.func143,by kernel_rfl,by kernel_rfl⟩
theorem H_34:Holds Tryz.prog 143 E_34:=
 YhX tabT mixT Q_34 F_34 rfl ⟨⟨H_33,_,_,Q_33⟩,trivial⟩ W_34 ⟨Yh2 (L:=S_34L2 Aa) K_34L2 (i:=2) (by kernel_rfl),⟨Yh2 (L:=S_34L6 Aa) K_34L6 (i:=6) (by kernel_rfl),trivial⟩⟩
theorem K_35L8 (rec:(Int×(List (List ((List Int)×Int×(List (List Int)))))×(List Int)×(List Int)×((List (List Int))×(Int×Int)))->Option (((List (List Int))×(Int×Int)))) (n:Nat) (x):Av rec (n+1) x=YeE (C_35 rec) B_35L8 (S_35L8 rec Aa) x (Av rec n):=by
 obtain⟨_,_,_,_,_,_,_,_⟩:=x
 kernel_rfl
theorem F_35 (rec:(Int×(List (List ((List Int)×Int×(List (List Int)))))×(List Int)×(List Int)×((List (List Int))×(Int×Int)))->Option (((List (List Int))×(Int×Int)))) (a:YE [.v .int,.v (.slice y9),.v y1,.v y1,.pr (.mv y1 1) (.v y15)]):EZ rec a.1 a.2.1 a.2.2.1 a.2.2.2.1 a.2.2.2.2=Yhq (C_35 rec) Tryz.f105 [.v .int,.v (.slice y9),.v y1,.v y1,.pr (.mv y1 1) (.v y15)] [.pr (.mv y1 1) (.v y15)] a (λo r=>some (N_35 o r)):=by
 kernel_rfl
theorem W_35:XO D_35= [B_35L8]:=by kernel_rfl
theorem R_35L8:YT B_35L8=8:=by kernel_rfl
theorem Q_35:Qk Tryz.prog 105 Tryz.f105 D_35:=⟨Tryz.func105,by kernel_rfl,by kernel_rfl⟩
theorem H_35: ∀d,Holds Tryz.prog 105 (E_35 d)
 |0=>λ_ b h=>absurd (show(none:Option _)=some b from h) (by simp)
 |d+1=>YfQ (en:=E_35 (d+1)) (cx:=(C_35 (B4 d))) (Ygl tabT rfl).1 (YeU ⟨⟨H_35 d,_,_,Q_35⟩,⟨⟨H_6,_,_,Q_6⟩,⟨⟨H_34,_,_,Q_34⟩,trivial⟩⟩⟩) mixT Q_35.1 Q_35.2.2 (YfV W_35 ⟨YgI (cx:=(C_35 (B4 d))) (L:=S_35L8 (B4 d) Aa) rfl (by rw[R_35L8];rfl) ⟨Av (B4 d),λ_=>rfl,λn x=>K_35L8 (B4 d) n x,Aa,λ_=>rfl⟩,trivial⟩) (enc:=N_35) (λ_ _=>⟨rfl,rfl⟩) (F_35 (B4 d)) rfl
theorem F_36 (a):E_36.run a=Yhq C_36 Tryz.f52 E_36.params E_36.results a λo r=>some (N_36 o r):=by
 kernel_rfl
theorem W_36:XO D_36= []:=by kernel_rfl
theorem Q_36:Qk Tryz.prog 52 Tryz.f52 D_36:=⟨Tryz.func52,by kernel_rfl,by kernel_rfl⟩
theorem H_36:Holds Tryz.prog 52 E_36:=
 YhX tabT mixT Q_36 F_36 rfl ⟨⟨H_35 Aa,_,_,Q_35⟩,⟨⟨H_32,_,_,Q_32⟩,trivial⟩⟩ W_36 trivial
theorem K_37L4 (n:Nat) (x):EC (n+1) x=YeE C_37 B_37L4 (S_37L4 Aa) x (EC n):=by
 obtain⟨_,_,_⟩:=x
 kernel_rfl
theorem F_37 (a):E_37.run a=Yhq C_37 Tryz.f41 E_37.params E_37.results a λo r=>some (N_37 o r):=by
 kernel_rfl
theorem W_37:XO D_37= [B_37L4]:=by kernel_rfl
theorem Q_37:Qk Tryz.prog 41 Tryz.f41 D_37:=⟨Tryz.func41,by kernel_rfl,by kernel_rfl⟩
theorem H_37:Holds Tryz.prog 41 E_37:=
 YhX tabT mixT Q_37 F_37 rfl ⟨⟨H_16,_,_,Q_16⟩,⟨⟨H_8,_,_,Q_8⟩,trivial⟩⟩ W_37 ⟨Yh2 (L:=S_37L4 Aa) K_37L4 (i:=4) (by kernel_rfl),trivial⟩
theorem K_38L4 (n:Nat) (x):EB (n+1) x=YeE C_38 B_38L4 (S_38L4 Aa) x (EB n):=by
 obtain⟨_,_⟩:=x
 kernel_rfl
theorem F_38 (a):E_38.run a=Yhq C_38 Tryz.f145 E_38.params E_38.results a λo r=>some (N_38 o r):=by
 kernel_rfl
theorem W_38:XO D_38= [B_38L4]:=by kernel_rfl
theorem Q_38:Qk Tryz.prog 145 Tryz.f145 D_38:=⟨Tryz.func145,by kernel_rfl,by kernel_rfl⟩
theorem H_38:Holds Tryz.prog 145 E_38:=
 YhX tabT mixT Q_38 F_38 rfl ⟨⟨H_37,_,_,Q_37⟩,⟨⟨H_8,_,_,Q_8⟩,trivial⟩⟩ W_38 ⟨Yh2 (L:=S_38L4 Aa) K_38L4 (i:=4) (by kernel_rfl),trivial⟩
theorem F_39 (a):E_39.run a=Yhq C_39 Tryz.f107 E_39.params E_39.results a λo r=>some (N_39 o r):=by
 kernel_rfl
theorem W_39:XO D_39= []:=by kernel_rfl
theorem Q_39:Qk Tryz.prog 107 Tryz.f107 D_39:=⟨Tryz.func107,by kernel_rfl,by kernel_rfl⟩
theorem H_39:Holds Tryz.prog 107 E_39:=
 YhX tabT mixT Q_39 F_39 rfl ⟨⟨H_8,_,_,Q_8⟩,⟨⟨H_38,_,_,Q_38⟩,trivial⟩⟩ W_39 trivial
theorem K_40L3 (n:Nat) (x):D6 (n+1) x=YeE C_40 B_40L3 (S_40L3 Aa) x (D6 n):=by
 obtain⟨_,_,_,_,_⟩:=x
 kernel_rfl
theorem F_40 (a):E_40.run a=Yhq C_40 Tryz.f108 E_40.params E_40.results a λo r=>some (N_40 o r):=by
 kernel_rfl
theorem W_40:XO D_40= [B_40L3]:=by kernel_rfl
theorem Q_40:Qk Tryz.prog 108 Tryz.f108 D_40:=⟨Tryz.func108,by kernel_rfl,by kernel_rfl⟩
theorem H_40:Holds Tryz.prog 108 E_40:=
 YhX tabT mixT Q_40 F_40 rfl trivial W_40 ⟨Yh2 (L:=S_40L3 Aa) K_40L3 (i:=3) (by kernel_rfl),trivial⟩
theorem K_41L7 (n:Nat) (x):BE (n+1) x=YeE C_41 B_41L7 (S_41L7 Aa) x (BE n):=by
 obtain⟨_,_,_,_⟩:=x
 kernel_rfl
theorem K_41L4 (n:Nat) (x):BD (n+1) x=YeE C_41 B_41L4 (S_41L4 Aa) x (BD n):=by
 obtain⟨_,_,_⟩:=x
 kernel_rfl
theorem F_41 (a):E_41.run a=Yhq C_41 Tryz.f54 E_41.params E_41.results a λo r=>some (N_41 o r):=by
 kernel_rfl
theorem W_41:XO D_41= [B_41L4,B_41L7]:=by kernel_rfl
theorem Q_41:Qk Tryz.prog 54 Tryz.f54 D_41:=⟨Tryz.func54,by kernel_rfl,by kernel_rfl⟩
theorem H_41:Holds Tryz.prog 54 E_41:=
 YhX tabT mixT Q_41 F_41 rfl ⟨⟨H_39,_,_,Q_39⟩,⟨⟨H_40,_,_,Q_40⟩,trivial⟩⟩ W_41 ⟨Yh2 (L:=S_41L4 Aa) K_41L4 (i:=4) (by kernel_rfl),⟨Yh2 (L:=S_41L7 Aa) K_41L7 (i:=7) (by kernel_rfl),trivial⟩⟩
theorem K_42L10 (n:Nat) (x):Bm (n+1) x=YeE C_42 B_42L10 (S_42L10 Aa) x (Bm n):=by
 obtain⟨_,_,_,_,_⟩:=x
 kernel_rfl
theorem K_42L7 (n:Nat) (x):BC (n+1) x=YeE C_42 B_42L7 (S_42L7 Aa) x (BC n):=by
 obtain⟨_,_,_,_⟩:=x
 kernel_rfl
theorem K_42L4 (n:Nat) (x):BB (n+1) x=YeE C_42 B_42L4 (S_42L4 Aa) x (BB n):=by
 obtain⟨_,_,_⟩:=x
 kernel_rfl
theorem F_42 (a):E_42.run a=Yhq C_42 Tryz.f55 E_42.params E_42.results a λo r=>some (N_42 o r):=by
 kernel_rfl
theorem W_42:XO D_42= [B_42L4,B_42L7,B_42L10]:=by kernel_rfl
theorem Q_42:Qk Tryz.prog 55 Tryz.f55 D_42:=⟨Tryz.func55,by kernel_rfl,by kernel_rfl⟩
theorem H_42:Holds Tryz.prog 55 E_42:=
 YhX tabT mixT Q_42 F_42 rfl ⟨⟨H_39,_,_,Q_39⟩,⟨⟨H_40,_,_,Q_40⟩,trivial⟩⟩ W_42 ⟨Yh2 (L:=S_42L4 Aa) K_42L4 (i:=4) (by kernel_rfl),⟨Yh2 (L:=S_42L7 Aa) K_42L7 (i:=7) (by kernel_rfl),⟨Yh2 (L:=S_42L10 Aa) K_42L10 (i:=10) (by kernel_rfl),trivial⟩⟩⟩
theorem K_43L5 (n:Nat) (x):Aq (n+1) x=YeE C_43 B_43L5 (S_43L5 Aa) x (Aq n):=by
 obtain⟨_,_,_,_⟩:=x
 kernel_rfl
theorem F_43 (a):E_43.run a=Yhq C_43 Tryz.f13 E_43.params E_43.results a λo r=>some (N_43 o r):=by
 kernel_rfl
theorem W_43:XO D_43= [B_43L5]:=by kernel_rfl
theorem Q_43:Qk Tryz.prog 13 Tryz.f13 D_43:=⟨Tryz.func13,by kernel_rfl,by kernel_rfl⟩
theorem H_43:Holds Tryz.prog 13 E_43:=
 YhX tabT mixT Q_43 F_43 rfl ⟨⟨H_29,_,_,Q_29⟩,⟨⟨H_36,_,_,Q_36⟩,⟨⟨H_31,_,_,Q_31⟩,⟨⟨H_41,_,_,Q_41⟩,⟨⟨H_42,_,_,Q_42⟩,trivial⟩⟩⟩⟩⟩ W_43 ⟨Yh2 (L:=S_43L5 Aa) K_43L5 (i:=5) (by kernel_rfl),trivial⟩
theorem K_44L5 (n:Nat) (x):Az (n+1) x=YeE C_44 B_44L5 (S_44L5 Aa) x (Az n):=by
 obtain⟨_,_,_,_,_,_⟩:=x
 kernel_rfl
theorem K_44L14 (n:Nat) (x):An (n+1) x=YeE C_44 B_44L14 (S_44L14 Aa) x (An n):=by
 obtain⟨_,_,_,_,_,_⟩:=x
 kernel_rfl
theorem F_44 (a):E_44.run a=Yhq C_44 Tryz.f6 E_44.params E_44.results a λo r=>some (N_44 o r):=by
 kernel_rfl
theorem W_44:XO D_44= [B_44L5,B_44L14]:=by kernel_rfl
theorem Q_44:Qk Tryz.prog 6 Tryz.f6 D_44:=⟨Tryz.func6,by kernel_rfl,by kernel_rfl⟩
theorem H_44:Holds Tryz.prog 6 E_44:=
 YhX tabT mixT Q_44 F_44 rfl ⟨⟨H_43,_,_,Q_43⟩,⟨⟨H_23,_,_,Q_23⟩,⟨⟨H_24,_,_,Q_24⟩,⟨⟨H_28,_,_,Q_28⟩,⟨⟨H_4,_,_,Q_4⟩,⟨⟨H_3,_,_,Q_3⟩,⟨⟨H_7,_,_,Q_7⟩,trivial⟩⟩⟩⟩⟩⟩⟩ W_44 ⟨Yh2 (L:=S_44L5 Aa) K_44L5 (i:=5) (by kernel_rfl),⟨Yh2 (L:=S_44L14 Aa) K_44L14 (i:=14) (by kernel_rfl),trivial⟩⟩
theorem F_45 (a):E_45.run a=Yhq C_45 Tryz.f44 E_45.params E_45.results a λo r=>some (N_45 o r):=by
 kernel_rfl
theorem W_45:XO D_45= []:=by kernel_rfl
theorem Q_45:Qk Tryz.prog 44 Tryz.f44 D_45:=⟨Tryz.func44,by kernel_rfl,by kernel_rfl⟩
theorem H_45:Holds Tryz.prog 44 E_45:=
 YhX tabT mixT Q_45 F_45 rfl trivial W_45 trivial
theorem K_46L2 (n:Nat) (x):DD (n+1) x=YeE C_46 B_46L2 (S_46L2 Aa) x (DD n):=by
 obtain⟨_,_,_,_⟩:=x
 kernel_rfl
theorem F_46 (a):E_46.run a=Yhq C_46 Tryz.f89 E_46.params E_46.results a λo r=>some (N_46 o r):=by
 kernel_rfl
theorem W_46:XO D_46= [B_46L2]:=by kernel_rfl
theorem Q_46:Qk Tryz.prog 89 Tryz.f89 D_46:=⟨Tryz.func89,by kernel_rfl,by kernel_rfl⟩
theorem H_46:Holds Tryz.prog 89 E_46:=
 YhX tabT mixT Q_46 F_46 rfl trivial W_46 ⟨Yh2 (L:=S_46L2 Aa) K_46L2 (i:=2) (by kernel_rfl),trivial⟩
theorem K_47L2 (n:Nat) (x):BN (n+1) x=YeE C_47 B_47L2 (S_47L2 Aa) x (BN n):=by
 obtain⟨_,_,_⟩:=x
 kernel_rfl
theorem F_47 (a):E_47.run a=Yhq C_47 Tryz.f135 E_47.params E_47.results a λo r=>some (N_47 o r):=by
 kernel_rfl
theorem W_47:XO D_47= [B_47L2]:=by kernel_rfl
theorem Q_47:Qk Tryz.prog 135 Tryz.f135 D_47:=⟨Tryz.func135,by kernel_rfl,by kernel_rfl⟩
theorem H_47:Holds Tryz.prog 135 E_47:=
 YhX tabT mixT Q_47 F_47 rfl trivial W_47 ⟨Yh2 (L:=S_47L2 Aa) K_47L2 (i:=2) (by kernel_rfl),trivial⟩
theorem K_48L4 (n:Nat) (x):B2 (n+1) x=YeE C_48 B_48L4 (S_48L4 Aa) x (B2 n):=by
 obtain⟨_,_,_,_,_⟩:=x
 kernel_rfl
theorem F_48 (a):E_48.run a=Yhq C_48 Tryz.f97 E_48.params E_48.results a λo r=>some (N_48 o r):=by
 kernel_rfl
theorem W_48:XO D_48= [B_48L4]:=by kernel_rfl
theorem Q_48:Qk Tryz.prog 97 Tryz.f97 D_48:=⟨Tryz.func97,by kernel_rfl,by kernel_rfl⟩
theorem H_48:Holds Tryz.prog 97 E_48:=
 YhX tabT mixT Q_48 F_48 rfl ⟨⟨H_46,_,_,Q_46⟩,⟨⟨H_47,_,_,Q_47⟩,trivial⟩⟩ W_48 ⟨Yh2 (L:=S_48L4 Aa) K_48L4 (i:=4) (by kernel_rfl),trivial⟩
theorem F_49 (a):E_49.run a=Yhq C_49 Tryz.f45 E_49.params E_49.results a λo r=>some (N_49 o r):=by
 kernel_rfl
theorem W_49:XO D_49= []:=by kernel_rfl
theorem Q_49:Qk Tryz.prog 45 Tryz.f45 D_49:=⟨Tryz.func45,by kernel_rfl,by kernel_rfl⟩
theorem H_49:Holds Tryz.prog 45 E_49:=
 YhX tabT mixT Q_49 F_49 rfl ⟨⟨H_46,_,_,Q_46⟩,⟨⟨H_48,_,_,Q_48⟩,trivial⟩⟩ W_49 trivial
theorem K_50L4 (n:Nat) (x):CM (n+1) x=YeE C_50 B_50L4 (S_50L4 Aa) x (CM n):=by
 obtain⟨_,_,_,_⟩:=x
 kernel_rfl
theorem F_50 (a):E_50.run a=Yhq C_50 Tryz.f11 E_50.params E_50.results a λo r=>some (N_50 o r):=by
 kernel_rfl
theorem W_50:XO D_50= [B_50L4]:=by kernel_rfl
theorem Q_50:Qk Tryz.prog 11 Tryz.f11 D_50:=⟨Tryz.func11,by kernel_rfl,by kernel_rfl⟩
theorem H_50:Holds Tryz.prog 11 E_50:=
 YhX tabT mixT Q_50 F_50 rfl ⟨⟨H_45,_,_,Q_45⟩,⟨⟨H_49,_,_,Q_49⟩,trivial⟩⟩ W_50 ⟨Yh2 (L:=S_50L4 Aa) K_50L4 (i:=4) (by kernel_rfl),trivial⟩
theorem K_51L2 (n:Nat) (x):CS (n+1) x=YeE C_51 B_51L2 (S_51L2 Aa) x (CS n):=by
 obtain⟨_,_,_⟩:=x
 kernel_rfl
theorem F_51 (a):E_51.run a=Yhq C_51 Tryz.f76 E_51.params E_51.results a λo r=>some (N_51 o r):=by
 kernel_rfl
theorem W_51:XO D_51= [B_51L2]:=by kernel_rfl
theorem Q_51:Qk Tryz.prog 76 Tryz.f76 D_51:=⟨Tryz.func76,by kernel_rfl,by kernel_rfl⟩
theorem H_51:Holds Tryz.prog 76 E_51:=
 YhX tabT mixT Q_51 F_51 rfl trivial W_51 ⟨Yh2 (L:=S_51L2 Aa) K_51L2 (i:=2) (by kernel_rfl),trivial⟩
theorem F_52 (a):E_52.run a=Yhq C_52 Tryz.f37 E_52.params E_52.results a λo r=>some (N_52 o r):=by
 kernel_rfl
theorem W_52:XO D_52= []:=by kernel_rfl
theorem Q_52:Qk Tryz.prog 37 Tryz.f37 D_52:=⟨Tryz.func37,by kernel_rfl,by kernel_rfl⟩
theorem H_52:Holds Tryz.prog 37 E_52:=
 YhX tabT mixT Q_52 F_52 rfl ⟨⟨H_51,_,_,Q_51⟩,⟨⟨H_46,_,_,Q_46⟩,trivial⟩⟩ W_52 trivial
theorem K_53L7 (n:Nat) (x):BQ (n+1) x=YeE C_53 B_53L7 (S_53L7 Aa) x (BQ n):=by
 obtain⟨_,_,_,_,_,_,_⟩:=x
 kernel_rfl
theorem K_53L3 (n:Nat) (x):B7 (n+1) x=YeE C_53 B_53L3 (S_53L3 Aa) x (B7 n):=by
 obtain⟨_,_,_,_⟩:=x
 kernel_rfl
theorem F_53 (a):E_53.run a=Yhq C_53 Tryz.f90 E_53.params E_53.results a λo r=>some (N_53 o r):=by
 kernel_rfl
theorem W_53:XO D_53= [B_53L3,B_53L7]:=by kernel_rfl
theorem Q_53:Qk Tryz.prog 90 Tryz.f90 D_53:=⟨Tryz.func90,by kernel_rfl,by kernel_rfl⟩
theorem H_53:Holds Tryz.prog 90 E_53:=
 YhX tabT mixT Q_53 F_53 rfl trivial W_53 ⟨Yh2 (L:=S_53L3 Aa) K_53L3 (i:=3) (by kernel_rfl),⟨Yh2 (L:=S_53L7 Aa) K_53L7 (i:=7) (by kernel_rfl),trivial⟩⟩
theorem K_54L5 (n:Nat) (x):C0 (n+1) x=YeE C_54 B_54L5 (S_54L5 Aa) x (C0 n):=by
 obtain⟨_,_,_,_,_,_,_,_,_,_⟩:=x
 kernel_rfl
theorem K_54L2 (n:Nat) (x):DA (n+1) x=YeE C_54 B_54L2 (S_54L2 Aa) x (DA n):=by
 obtain⟨_,_,_,_,_⟩:=x
 kernel_rfl
theorem F_54 (a):E_54.run a=Yhq C_54 Tryz.f152 E_54.params E_54.results a λo r=>some (N_54 o r):=by
 kernel_rfl
theorem W_54:XO D_54= [B_54L2,B_54L5]:=by kernel_rfl
theorem Q_54:Qk Tryz.prog 152 Tryz.f152 D_54:=⟨Tryz.func152,by kernel_rfl,by kernel_rfl⟩
theorem H_54:Holds Tryz.prog 152 E_54:=
 YhX tabT mixT Q_54 F_54 rfl trivial W_54 ⟨Yh2 (L:=S_54L2 Aa) K_54L2 (i:=2) (by kernel_rfl),⟨Yh2 (L:=S_54L5 Aa) K_54L5 (i:=5) (by kernel_rfl),trivial⟩⟩
theorem K_55L7 (n:Nat) (x):AH (n+1) x=YeE C_55 B_55L7 (S_55L7 Aa) x (AH n):=by
 obtain⟨_,_,_,_,_,_,_,_,_,_,_⟩:=x
 kernel_rfl
theorem K_55L2 (n:Nat) (x):AG (n+1) x=YeE C_55 B_55L2 (S_55L2 Aa) x (AG n):=by
 obtain⟨_,_,_,_,_,_,_⟩:=x
 kernel_rfl
theorem F_55 (a):E_55.run a=Yhq C_55 Tryz.f132 E_55.params E_55.results a λo r=>some (N_55 o r):=by
 kernel_rfl
theorem W_55:XO D_55= [B_55L2,B_55L7]:=by kernel_rfl
theorem Q_55:Qk Tryz.prog 132 Tryz.f132 D_55:=⟨Tryz.func132,by kernel_rfl,by kernel_rfl⟩
theorem H_55:Holds Tryz.prog 132 E_55:=
 YhX tabT mixT Q_55 F_55 rfl ⟨⟨H_54,_,_,Q_54⟩,trivial⟩ W_55 ⟨Yh2 (L:=S_55L2 Aa) K_55L2 (i:=2) (by kernel_rfl),⟨Yh2 (L:=S_55L7 Aa) K_55L7 (i:=7) (by kernel_rfl),trivial⟩⟩
theorem K_56L12 (n:Nat) (x):AB (n+1) x=YeE C_56 B_56L12 (S_56L12 Aa) x (AB n):=by
 obtain⟨_,_,_,_,_,_,_,_,_,_,_,_,_,_,_,_⟩:=x
 kernel_rfl
theorem K_56L9 (n:Nat) (x):Bj (n+1) x=YeE C_56 B_56L9 (S_56L9 Aa) x (Bj n):=by
 obtain⟨_,_,_,_,_,_,_,_,_,_,_,_⟩:=x
 kernel_rfl
theorem K_56L6 (n:Nat) (x):Bi (n+1) x=YeE C_56 B_56L6 (S_56L6 Aa) x (Bi n):=by
 obtain⟨_,_,_,_,_,_,_⟩:=x
 kernel_rfl
theorem K_56L3 (n:Nat) (x):BU (n+1) x=YeE C_56 B_56L3 (S_56L3 Aa) x (BU n):=by
 obtain⟨_,_,_,_⟩:=x
 kernel_rfl
theorem F_56 (a):E_56.run a=Yhq C_56 Tryz.f91 E_56.params E_56.results a λo r=>some (N_56 o r):=by
 kernel_rfl
theorem W_56:XO D_56= [B_56L3,B_56L6,B_56L9,B_56L12]:=by kernel_rfl
theorem Q_56:Qk Tryz.prog 91 Tryz.f91 D_56:=⟨Tryz.func91,by kernel_rfl,by kernel_rfl⟩
theorem H_56:Holds Tryz.prog 91 E_56:=
 YhX tabT mixT Q_56 F_56 rfl ⟨⟨H_55,_,_,Q_55⟩,trivial⟩ W_56 ⟨Yh2 (L:=S_56L3 Aa) K_56L3 (i:=3) (by kernel_rfl),⟨Yh2 (L:=S_56L6 Aa) K_56L6 (i:=6) (by kernel_rfl),⟨Yh2 (L:=S_56L9 Aa) K_56L9 (i:=9) (by kernel_rfl),⟨Yh2 (L:=S_56L12 Aa) K_56L12 (i:=12) (by kernel_rfl),trivial⟩⟩⟩⟩
theorem F_57 (a):E_57.run a=Yhq C_57 Tryz.f38 E_57.params E_57.results a λo r=>some (N_57 o r):=by
 kernel_rfl
theorem W_57:XO D_57= []:=by kernel_rfl
theorem Q_57:Qk Tryz.prog 38 Tryz.f38 D_57:=⟨Tryz.func38,by kernel_rfl,by kernel_rfl⟩
theorem H_57:Holds Tryz.prog 38 E_57:=
 YhX tabT mixT Q_57 F_57 rfl ⟨⟨H_53,_,_,Q_53⟩,⟨⟨H_56,_,_,Q_56⟩,trivial⟩⟩ W_57 trivial
theorem K_58L3 (n:Nat) (x):C2 (n+1) x=YeE C_58 B_58L3 (S_58L3 Aa) x (C2 n):=by
 obtain⟨_,_,_,_⟩:=x
 kernel_rfl
theorem F_58 (a):E_58.run a=Yhq C_58 Tryz.f92 E_58.params E_58.results a λo r=>some (N_58 o r):=by
 kernel_rfl
theorem W_58:XO D_58= [B_58L3]:=by kernel_rfl
theorem Q_58:Qk Tryz.prog 92 Tryz.f92 D_58:=⟨Tryz.func92,by kernel_rfl,by kernel_rfl⟩
theorem H_58:Holds Tryz.prog 92 E_58:=
 YhX tabT mixT Q_58 F_58 rfl trivial W_58 ⟨Yh2 (L:=S_58L3 Aa) K_58L3 (i:=3) (by kernel_rfl),trivial⟩
theorem K_59L3 (n:Nat) (x):B1 (n+1) x=YeE C_59 B_59L3 (S_59L3 Aa) x (B1 n):=by
 obtain⟨_,_,_,_⟩:=x
 kernel_rfl
theorem F_59 (a):E_59.run a=Yhq C_59 Tryz.f39 E_59.params E_59.results a λo r=>some (N_59 o r):=by
 kernel_rfl
theorem W_59:XO D_59= [B_59L3]:=by kernel_rfl
theorem Q_59:Qk Tryz.prog 39 Tryz.f39 D_59:=⟨Tryz.func39,by kernel_rfl,by kernel_rfl⟩
theorem H_59:Holds Tryz.prog 39 E_59:=
 YhX tabT mixT Q_59 F_59 rfl ⟨⟨H_58,_,_,Q_58⟩,trivial⟩ W_59 ⟨Yh2 (L:=S_59L3 Aa) K_59L3 (i:=3) (by kernel_rfl),trivial⟩
theorem K_60L11 (n:Nat) (x):AX (n+1) x=YeE C_60 B_60L11 (S_60L11 Aa) x (AX n):=by
 obtain⟨_,_,_,_,_,_,_,_,_,_⟩:=x
 kernel_rfl
theorem K_60L5 (n:Nat) (x):AN (n+1) x=YeE C_60 B_60L5 (S_60L5 Aa) x (AN n):=by
 obtain⟨_,_,_,_,_,_⟩:=x
 kernel_rfl
theorem F_60 (a):E_60.run a=Yhq C_60 Tryz.f7 E_60.params E_60.results a λo r=>some (N_60 o r):=by
 kernel_rfl
theorem W_60:XO D_60= [B_60L5,B_60L11]:=by kernel_rfl
theorem Q_60:Qk Tryz.prog 7 Tryz.f7 D_60:=⟨Tryz.func7,by kernel_rfl,by kernel_rfl⟩
theorem H_60:Holds Tryz.prog 7 E_60:=
 YhX tabT mixT Q_60 F_60 rfl ⟨⟨H_50,_,_,Q_50⟩,⟨⟨H_52,_,_,Q_52⟩,⟨⟨H_57,_,_,Q_57⟩,⟨⟨H_59,_,_,Q_59⟩,trivial⟩⟩⟩⟩ W_60 ⟨Yh2 (L:=S_60L5 Aa) K_60L5 (i:=5) (by kernel_rfl),⟨Yh2 (L:=S_60L11 Aa) K_60L11 (i:=11) (by kernel_rfl),trivial⟩⟩
theorem F_61 (a):E_61.run a=Yhq C_61 Tryz.f93 E_61.params E_61.results a λo r=>some (N_61 o r):=by
 kernel_rfl
theorem W_61:XO D_61= []:=by kernel_rfl
theorem Q_61:Qk Tryz.prog 93 Tryz.f93 D_61:=⟨Tryz.func93,by kernel_rfl,by kernel_rfl⟩
theorem H_61:Holds Tryz.prog 93 E_61:=
 YhX tabT mixT Q_61 F_61 rfl ⟨⟨H_27,_,_,Q_27⟩,⟨⟨H_25,_,_,Q_25⟩,trivial⟩⟩ W_61 trivial
theorem K_62L4 (n:Nat) (x):Dk (n+1) x=YeE C_62 B_62L4 (S_62L4 Aa) x (Dk n):=by
 obtain⟨_,_⟩:=x
 kernel_rfl
theorem F_62 (a):E_62.run a=Yhq C_62 Tryz.f40 E_62.params E_62.results a λo r=>some (N_62 o r):=by
 kernel_rfl
theorem W_62:XO D_62= [B_62L4]:=by kernel_rfl
theorem Q_62:Qk Tryz.prog 40 Tryz.f40 D_62:=⟨Tryz.func40,by kernel_rfl,by kernel_rfl⟩
theorem H_62:Holds Tryz.prog 40 E_62:=
 YhX tabT mixT Q_62 F_62 rfl ⟨⟨H_8,_,_,Q_8⟩,⟨⟨H_61,_,_,Q_61⟩,trivial⟩⟩ W_62 ⟨Yh2 (L:=S_62L4 Aa) K_62L4 (i:=4) (by kernel_rfl),trivial⟩
theorem K_63L3 (n:Nat) (x):CA (n+1) x=YeE C_63 B_63L3 (S_63L3 Aa) x (CA n):=by
 obtain⟨_,_,_⟩:=x
 kernel_rfl
theorem F_63 (a):E_63.run a=Yhq C_63 Tryz.f96 E_63.params E_63.results a λo r=>some (N_63 o r):=by
 kernel_rfl
theorem W_63:XO D_63= [B_63L3]:=by kernel_rfl
theorem Q_63:Qk Tryz.prog 96 Tryz.f96 D_63:=⟨Tryz.func96,by kernel_rfl,by kernel_rfl⟩
theorem H_63:Holds Tryz.prog 96 E_63:=
 YhX tabT mixT Q_63 F_63 rfl trivial W_63 ⟨Yh2 (L:=S_63L3 Aa) K_63L3 (i:=3) (by kernel_rfl),trivial⟩
theorem K_64L3 (n:Nat) (x):Dn (n+1) x=YeE C_64 B_64L3 (S_64L3 Aa) x (Dn n):=by
 obtain⟨_,_,_⟩:=x
 kernel_rfl
theorem F_64 (a):E_64.run a=Yhq C_64 Tryz.f43 E_64.params E_64.results a λo r=>some (N_64 o r):=by
 kernel_rfl
theorem W_64:XO D_64= [B_64L3]:=by kernel_rfl
theorem Q_64:Qk Tryz.prog 43 Tryz.f43 D_64:=⟨Tryz.func43,by kernel_rfl,by kernel_rfl⟩
theorem H_64:Holds Tryz.prog 43 E_64:=
 YhX tabT mixT Q_64 F_64 rfl ⟨⟨H_63,_,_,Q_63⟩,trivial⟩ W_64 ⟨Yh2 (L:=S_64L3 Aa) K_64L3 (i:=3) (by kernel_rfl),trivial⟩
theorem K_65L2 (n:Nat) (x):DY (n+1) x=YeE C_65 B_65L2 (S_65L2 Aa) x (DY n):=by
 obtain⟨_,_,_⟩:=x
 kernel_rfl
theorem F_65 (a):E_65.run a=Yhq C_65 Tryz.f153 E_65.params E_65.results a λo r=>some (N_65 o r):=by
 kernel_rfl
theorem W_65:XO D_65= [B_65L2]:=by kernel_rfl
theorem Q_65:Qk Tryz.prog 153 Tryz.f153 D_65:=⟨Tryz.func153,by kernel_rfl,by kernel_rfl⟩
theorem H_65:Holds Tryz.prog 153 E_65:=
 YhX tabT mixT Q_65 F_65 rfl trivial W_65 ⟨Yh2 (L:=S_65L2 Aa) K_65L2 (i:=2) (by kernel_rfl),trivial⟩
theorem K_66L7 (n:Nat) (x):Ck (n+1) x=YeE C_66 B_66L7 (S_66L7 Aa) x (Ck n):=by
 obtain⟨_,_,_,_,_⟩:=x
 kernel_rfl
theorem K_66L2 (n:Nat) (x):Dm (n+1) x=YeE C_66 B_66L2 (S_66L2 Aa) x (Dm n):=by
 obtain⟨_,_,_,_⟩:=x
 kernel_rfl
theorem F_66 (a):E_66.run a=Yhq C_66 Tryz.f134 E_66.params E_66.results a λo r=>some (N_66 o r):=by
 kernel_rfl
theorem W_66:XO D_66= [B_66L2,B_66L7]:=by kernel_rfl
theorem Q_66:Qk Tryz.prog 134 Tryz.f134 D_66:=⟨Tryz.func134,by kernel_rfl,by kernel_rfl⟩
theorem H_66:Holds Tryz.prog 134 E_66:=
 YhX tabT mixT Q_66 F_66 rfl ⟨⟨H_65,_,_,Q_65⟩,trivial⟩ W_66 ⟨Yh2 (L:=S_66L2 Aa) K_66L2 (i:=2) (by kernel_rfl),⟨Yh2 (L:=S_66L7 Aa) K_66L7 (i:=7) (by kernel_rfl),trivial⟩⟩
theorem K_67L2 (n:Nat) (x):B5 (n+1) x=YeE C_67 B_67L2 (S_67L2 Aa) x (B5 n):=by
 obtain⟨_,_,_,_,_⟩:=x
 kernel_rfl
theorem F_67 (a):E_67.run a=Yhq C_67 Tryz.f94 E_67.params E_67.results a λo r=>some (N_67 o r):=by
 kernel_rfl
theorem W_67:XO D_67= [B_67L2]:=by kernel_rfl
theorem Q_67:Qk Tryz.prog 94 Tryz.f94 D_67:=⟨Tryz.func94,by kernel_rfl,by kernel_rfl⟩
theorem H_67:Holds Tryz.prog 94 E_67:=
 YhX tabT mixT Q_67 F_67 rfl ⟨⟨H_66,_,_,Q_66⟩,trivial⟩ W_67 ⟨Yh2 (L:=S_67L2 Aa) K_67L2 (i:=2) (by kernel_rfl),trivial⟩
theorem K_68L3 (n:Nat) (x):B6 (n+1) x=YeE C_68 B_68L3 (S_68L3 Aa) x (B6 n):=by
 obtain⟨_,_,_,_⟩:=x
 kernel_rfl
theorem F_68 (a):E_68.run a=Yhq C_68 Tryz.f95 E_68.params E_68.results a λo r=>some (N_68 o r):=by
 kernel_rfl
theorem W_68:XO D_68= [B_68L3]:=by kernel_rfl
theorem Q_68:Qk Tryz.prog 95 Tryz.f95 D_68:=⟨Tryz.func95,by kernel_rfl,by kernel_rfl⟩
theorem H_68:Holds Tryz.prog 95 E_68:=
 YhX tabT mixT Q_68 F_68 rfl trivial W_68 ⟨Yh2 (L:=S_68L3 Aa) K_68L3 (i:=3) (by kernel_rfl),trivial⟩
theorem K_69L15 (n:Nat) (x):Cj (n+1) x=YeE C_69 B_69L15 (S_69L15 Aa) x (Cj n):=by
 obtain⟨_,_,_,_,_,_,_,_,_⟩:=x
 kernel_rfl
theorem K_69L11 (n:Nat) (x):CL (n+1) x=YeE C_69 B_69L11 (S_69L11 Aa) x (CL n):=by
 obtain⟨_,_,_,_,_,_,_⟩:=x
 kernel_rfl
theorem K_69L7 (n:Nat) (x):C8 (n+1) x=YeE C_69 B_69L7 (S_69L7 Aa) x (C8 n):=by
 obtain⟨_,_,_,_,_⟩:=x
 kernel_rfl
theorem K_69L4 (n:Nat) (x):EA (n+1) x=YeE C_69 B_69L4 (S_69L4 Aa) x (EA n):=by
 obtain⟨_,_,_,_⟩:=x
 kernel_rfl
theorem F_69 (a):E_69.run a=Yhq C_69 Tryz.f42 E_69.params E_69.results a λo r=>some (N_69 o r):=by
 kernel_rfl
theorem W_69:XO D_69= [B_69L4,B_69L7,B_69L11,B_69L15]:=by kernel_rfl
theorem Q_69:Qk Tryz.prog 42 Tryz.f42 D_69:=⟨Tryz.func42,by kernel_rfl,by kernel_rfl⟩
theorem H_69:Holds Tryz.prog 42 E_69:=
 YhX tabT mixT Q_69 F_69 rfl ⟨⟨H_67,_,_,Q_67⟩,⟨⟨H_68,_,_,Q_68⟩,trivial⟩⟩ W_69 ⟨Yh2 (L:=S_69L4 Aa) K_69L4 (i:=4) (by kernel_rfl),⟨Yh2 (L:=S_69L7 Aa) K_69L7 (i:=7) (by kernel_rfl),⟨Yh2 (L:=S_69L11 Aa) K_69L11 (i:=11) (by kernel_rfl),⟨Yh2 (L:=S_69L15 Aa) K_69L15 (i:=15) (by kernel_rfl),trivial⟩⟩⟩⟩
theorem K_70L12 (n:Nat) (x):A7 (n+1) x=YeE C_70 B_70L12 (S_70L12 Aa) x (A7 n):=by
 obtain⟨_,_,_,_,_,_,_⟩:=x
 kernel_rfl
theorem K_70L6 (n:Nat) (x):AP (n+1) x=YeE C_70 B_70L6 (S_70L6 Aa) x (AP n):=by
 obtain⟨_,_,_,_,_⟩:=x
 kernel_rfl
theorem F_70 (a):E_70.run a=Yhq C_70 Tryz.f8 E_70.params E_70.results a λo r=>some (N_70 o r):=by
 kernel_rfl
theorem W_70:XO D_70= [B_70L6,B_70L12]:=by kernel_rfl
theorem Q_70:Qk Tryz.prog 8 Tryz.f8 D_70:=⟨Tryz.func8,by kernel_rfl,by kernel_rfl⟩
theorem H_70:Holds Tryz.prog 8 E_70:=
 YhX tabT mixT Q_70 F_70 rfl ⟨⟨H_62,_,_,Q_62⟩,⟨⟨H_37,_,_,Q_37⟩,⟨⟨H_69,_,_,Q_69⟩,⟨⟨H_64,_,_,Q_64⟩,trivial⟩⟩⟩⟩ W_70 ⟨Yh2 (L:=S_70L6 Aa) K_70L6 (i:=6) (by kernel_rfl),⟨Yh2 (L:=S_70L12 Aa) K_70L12 (i:=12) (by kernel_rfl),trivial⟩⟩
theorem K_71L4 (n:Nat) (x):Dq (n+1) x=YeE C_71 B_71L4 (S_71L4 Aa) x (Dq n):=by
 obtain⟨_,_,_⟩:=x
 kernel_rfl
theorem F_71 (a):E_71.run a=Yhq C_71 Tryz.f9 E_71.params E_71.results a λo r=>some (N_71 o r):=by
 kernel_rfl
theorem W_71:XO D_71= [B_71L4]:=by kernel_rfl
theorem Q_71:Qk Tryz.prog 9 Tryz.f9 D_71:=⟨Tryz.func9,by kernel_rfl,by kernel_rfl⟩
theorem H_71:Holds Tryz.prog 9 E_71:=
 YhX tabT mixT Q_71 F_71 rfl trivial W_71 ⟨Yh2 (L:=S_71L4 Aa) K_71L4 (i:=4) (by kernel_rfl),trivial⟩
theorem K_72L4 (n:Nat) (x):C5 (n+1) x=YeE C_72 B_72L4 (S_72L4 Aa) x (C5 n):=by
 obtain⟨_,_,_⟩:=x
 kernel_rfl
theorem F_72 (a):E_72.run a=Yhq C_72 Tryz.f10 E_72.params E_72.results a λo r=>some (N_72 o r):=by
 kernel_rfl
theorem W_72:XO D_72= [B_72L4]:=by kernel_rfl
theorem Q_72:Qk Tryz.prog 10 Tryz.f10 D_72:=⟨Tryz.func10,by kernel_rfl,by kernel_rfl⟩
theorem H_72:Holds Tryz.prog 10 E_72:=
 YhX tabT mixT Q_72 F_72 rfl ⟨⟨H_71,_,_,Q_71⟩,trivial⟩ W_72 ⟨Yh2 (L:=S_72L4 Aa) K_72L4 (i:=4) (by kernel_rfl),trivial⟩
theorem K_73L4 (n:Nat) (x):Cw (n+1) x=YeE C_73 B_73L4 (S_73L4 Aa) x (Cw n):=by
 obtain⟨_,_,_,_⟩:=x
 kernel_rfl
theorem F_73 (a):E_73.run a=Yhq C_73 Tryz.f98 E_73.params E_73.results a λo r=>some (N_73 o r):=by
 kernel_rfl
theorem W_73:XO D_73= [B_73L4]:=by kernel_rfl
theorem Q_73:Qk Tryz.prog 98 Tryz.f98 D_73:=⟨Tryz.func98,by kernel_rfl,by kernel_rfl⟩
theorem H_73:Holds Tryz.prog 98 E_73:=
 YhX tabT mixT Q_73 F_73 rfl ⟨⟨H_48,_,_,Q_48⟩,trivial⟩ W_73 ⟨Yh2 (L:=S_73L4 Aa) K_73L4 (i:=4) (by kernel_rfl),trivial⟩
theorem K_74L4 (n:Nat) (x):C1 (n+1) x=YeE C_74 B_74L4 (S_74L4 Aa) x (C1 n):=by
 obtain⟨_,_,_,_⟩:=x
 kernel_rfl
theorem F_74 (a):E_74.run a=Yhq C_74 Tryz.f46 E_74.params E_74.results a λo r=>some (N_74 o r):=by
 kernel_rfl
theorem W_74:XO D_74= [B_74L4]:=by kernel_rfl
theorem Q_74:Qk Tryz.prog 46 Tryz.f46 D_74:=⟨Tryz.func46,by kernel_rfl,by kernel_rfl⟩
theorem H_74:Holds Tryz.prog 46 E_74:=
 YhX tabT mixT Q_74 F_74 rfl ⟨⟨H_45,_,_,Q_45⟩,⟨⟨H_73,_,_,Q_73⟩,trivial⟩⟩ W_74 ⟨Yh2 (L:=S_74L4 Aa) K_74L4 (i:=4) (by kernel_rfl),trivial⟩
theorem K_75L3 (n:Nat) (x):Cd (n+1) x=YeE C_75 B_75L3 (S_75L3 Aa) x (Cd n):=by
 obtain⟨_,_,_⟩:=x
 kernel_rfl
theorem F_75 (a):E_75.run a=Yhq C_75 Tryz.f75 E_75.params E_75.results a λo r=>some (N_75 o r):=by
 kernel_rfl
theorem W_75:XO D_75= [B_75L3]:=by kernel_rfl
theorem Q_75:Qk Tryz.prog 75 Tryz.f75 D_75:=⟨Tryz.func75,by kernel_rfl,by kernel_rfl⟩
theorem H_75:Holds Tryz.prog 75 E_75:=
 YhX tabT mixT Q_75 F_75 rfl trivial W_75 ⟨Yh2 (L:=S_75L3 Aa) K_75L3 (i:=3) (by kernel_rfl),trivial⟩
theorem K_76L7 (n:Nat) (x):AZ (n+1) x=YeE C_76 B_76L7 (S_76L7 Aa) x (AZ n):=by
 obtain⟨_,_,_,_,_,_⟩:=x
 kernel_rfl
theorem K_76L3 (n:Nat) (x):AY (n+1) x=YeE C_76 B_76L3 (S_76L3 Aa) x (AY n):=by
 obtain⟨_,_,_,_⟩:=x
 kernel_rfl
theorem F_76 (a):E_76.run a=Yhq C_76 Tryz.f48 E_76.params E_76.results a λo r=>some (N_76 o r):=by
 kernel_rfl
theorem W_76:XO D_76= [B_76L3,B_76L7]:=by kernel_rfl
theorem Q_76:Qk Tryz.prog 48 Tryz.f48 D_76:=⟨Tryz.func48,by kernel_rfl,by kernel_rfl⟩
theorem H_76:Holds Tryz.prog 48 E_76:=
 YhX tabT mixT Q_76 F_76 rfl ⟨⟨H_75,_,_,Q_75⟩,⟨⟨H_51,_,_,Q_51⟩,trivial⟩⟩ W_76 ⟨Yh2 (L:=S_76L3 Aa) K_76L3 (i:=3) (by kernel_rfl),⟨Yh2 (L:=S_76L7 Aa) K_76L7 (i:=7) (by kernel_rfl),trivial⟩⟩
theorem K_77L3 (n:Nat) (x):Dp (n+1) x=YeE C_77 B_77L3 (S_77L3 Aa) x (Dp n):=by
 obtain⟨_,_,_,_⟩:=x
 kernel_rfl
theorem F_77 (a):E_77.run a=Yhq C_77 Tryz.f138 E_77.params E_77.results a λo r=>some (N_77 o r):=by
 kernel_rfl
theorem W_77:XO D_77= [B_77L3]:=by kernel_rfl
theorem Q_77:Qk Tryz.prog 138 Tryz.f138 D_77:=⟨Tryz.func138,by kernel_rfl,by kernel_rfl⟩
theorem H_77:Holds Tryz.prog 138 E_77:=
 YhX tabT mixT Q_77 F_77 rfl trivial W_77 ⟨Yh2 (L:=S_77L3 Aa) K_77L3 (i:=3) (by kernel_rfl),trivial⟩
theorem K_78L3 (n:Nat) (x):C4 (n+1) x=YeE C_78 B_78L3 (S_78L3 Aa) x (C4 n):=by
 obtain⟨_,_,_,_⟩:=x
 kernel_rfl
theorem F_78 (a):E_78.run a=Yhq C_78 Tryz.f136 E_78.params E_78.results a λo r=>some (N_78 o r):=by
 kernel_rfl
theorem W_78:XO D_78= [B_78L3]:=by kernel_rfl
theorem Q_78:Qk Tryz.prog 136 Tryz.f136 D_78:=⟨Tryz.func136,by kernel_rfl,by kernel_rfl⟩
theorem H_78:Holds Tryz.prog 136 E_78:=
 YhX tabT mixT Q_78 F_78 rfl ⟨⟨H_77,_,_,Q_77⟩,trivial⟩ W_78 ⟨Yh2 (L:=S_78L3 Aa) K_78L3 (i:=3) (by kernel_rfl),trivial⟩
theorem K_79L3 (n:Nat) (x):DB (n+1) x=YeE C_79 B_79L3 (S_79L3 Aa) x (DB n):=by
 obtain⟨_,_,_,_⟩:=x
 kernel_rfl
theorem F_79 (a):E_79.run a=Yhq C_79 Tryz.f137 E_79.params E_79.results a λo r=>some (N_79 o r):=by
 kernel_rfl
theorem W_79:XO D_79= [B_79L3]:=by kernel_rfl
theorem Q_79:Qk Tryz.prog 137 Tryz.f137 D_79:=⟨Tryz.func137,by kernel_rfl,by kernel_rfl⟩
theorem H_79:Holds Tryz.prog 137 E_79:=
 YhX tabT mixT Q_79 F_79 rfl trivial W_79 ⟨Yh2 (L:=S_79L3 Aa) K_79L3 (i:=3) (by kernel_rfl),trivial⟩
theorem K_80L17 (n:Nat) (x):Bl (n+1) x=YeE C_80 B_80L17 (S_80L17 Aa) x (Bl n):=by
 obtain⟨_,_,_,_,_,_,_,_,_,_,_,_,_,_,_,_,_,_,_⟩:=x
 kernel_rfl
theorem K_80L14 (n:Nat) (x):Bk (n+1) x=YeE C_80 B_80L14 (S_80L14 Aa) x (Bk n):=by
 obtain⟨_,_,_,_,_,_,_,_,_,_,_,_,_,_,_⟩:=x
 kernel_rfl
theorem K_80L8 (n:Nat) (x):AU (n+1) x=YeE C_80 B_80L8 (S_80L8 Aa) x (AU n):=by
 obtain⟨_,_,_,_,_,_,_,_,_,_⟩:=x
 kernel_rfl
theorem K_80L3 (n:Nat) (x):BA (n+1) x=YeE C_80 B_80L3 (S_80L3 Aa) x (BA n):=by
 obtain⟨_,_,_,_,_,_⟩:=x
 kernel_rfl
theorem F_80 (a):E_80.run a=Yhq C_80 Tryz.f99 E_80.params E_80.results a λo r=>some (N_80 o r):=by
 kernel_rfl
theorem W_80:XO D_80= [B_80L3,B_80L8,B_80L14,B_80L17]:=by kernel_rfl
theorem Q_80:Qk Tryz.prog 99 Tryz.f99 D_80:=⟨Tryz.func99,by kernel_rfl,by kernel_rfl⟩
theorem H_80:Holds Tryz.prog 99 E_80:=
 YhX tabT mixT Q_80 F_80 rfl ⟨⟨H_51,_,_,Q_51⟩,⟨⟨H_78,_,_,Q_78⟩,⟨⟨H_79,_,_,Q_79⟩,⟨⟨H_77,_,_,Q_77⟩,trivial⟩⟩⟩⟩ W_80 ⟨Yh2 (L:=S_80L3 Aa) K_80L3 (i:=3) (by kernel_rfl),⟨Yh2 (L:=S_80L8 Aa) K_80L8 (i:=8) (by kernel_rfl),⟨Yh2 (L:=S_80L14 Aa) K_80L14 (i:=14) (by kernel_rfl),⟨Yh2 (L:=S_80L17 Aa) K_80L17 (i:=17) (by kernel_rfl),trivial⟩⟩⟩⟩
theorem K_81L4 (n:Nat) (x):Dw (n+1) x=YeE C_81 B_81L4 (S_81L4 Aa) x (Dw n):=by
 obtain⟨_,_,_,_⟩:=x
 kernel_rfl
theorem F_81 (a):E_81.run a=Yhq C_81 Tryz.f154 E_81.params E_81.results a λo r=>some (N_81 o r):=by
 kernel_rfl
theorem W_81:XO D_81= [B_81L4]:=by kernel_rfl
theorem Q_81:Qk Tryz.prog 154 Tryz.f154 D_81:=⟨Tryz.func154,by kernel_rfl,by kernel_rfl⟩
theorem H_81:Holds Tryz.prog 154 E_81:=
 YhX tabT mixT Q_81 F_81 rfl ⟨⟨H_52,_,_,Q_52⟩,trivial⟩ W_81 ⟨Yh2 (L:=S_81L4 Aa) K_81L4 (i:=4) (by kernel_rfl),trivial⟩
theorem F_82 (a):E_82.run a=Yhq C_82 Tryz.f141 E_82.params E_82.results a λo r=>some (N_82 o r):=by
 kernel_rfl
theorem W_82:XO D_82= []:=by kernel_rfl
theorem Q_82:Qk Tryz.prog 141 Tryz.f141 D_82:=⟨Tryz.func141,by kernel_rfl,by kernel_rfl⟩
theorem H_82:Holds Tryz.prog 141 E_82:=
 YhX tabT mixT Q_82 F_82 rfl ⟨⟨H_81,_,_,Q_81⟩,trivial⟩ W_82 trivial
theorem K_83L11 (n:Nat) (x):CB (n+1) x=YeE C_83 B_83L11 (S_83L11 Aa) x (CB n):=by
 obtain⟨_,_,_,_,_⟩:=x
 kernel_rfl
theorem K_83L7 (n:Nat) (x):BM (n+1) x=YeE C_83 B_83L7 (S_83L7 Aa) x (BM n):=by
 obtain⟨_,_,_⟩:=x
 kernel_rfl
theorem F_83 (a):E_83.run a=Yhq C_83 Tryz.f102 E_83.params E_83.results a λo r=>some (N_83 o r):=by
 kernel_rfl
theorem W_83:XO D_83= [B_83L7,B_83L11]:=by kernel_rfl
theorem Q_83:Qk Tryz.prog 102 Tryz.f102 D_83:=⟨Tryz.func102,by kernel_rfl,by kernel_rfl⟩
theorem H_83:Holds Tryz.prog 102 E_83:=
 YhX tabT mixT Q_83 F_83 rfl ⟨⟨H_82,_,_,Q_82⟩,trivial⟩ W_83 ⟨Yh2 (L:=S_83L7 Aa) K_83L7 (i:=7) (by kernel_rfl),⟨Yh2 (L:=S_83L11 Aa) K_83L11 (i:=11) (by kernel_rfl),trivial⟩⟩
theorem F_84 (a):E_84.run a=Yhq C_84 Tryz.f142 E_84.params E_84.results a λo r=>some (N_84 o r):=by
 kernel_rfl
theorem W_84:XO D_84= []:=by kernel_rfl
theorem Q_84:Qk Tryz.prog 142 Tryz.f142 D_84:=⟨Tryz.func142,by kernel_rfl,by kernel_rfl⟩
theorem H_84:Holds Tryz.prog 142 E_84:=
 YhX tabT mixT Q_84 F_84 rfl ⟨⟨H_82,_,_,Q_82⟩,trivial⟩ W_84 trivial
theorem K_85L8 (n:Nat) (x):Bz (n+1) x=YeE C_85 B_85L8 (S_85L8 Aa) x (Bz n):=by
 obtain⟨_,_,_,_⟩:=x
 kernel_rfl
theorem K_85L5 (n:Nat) (x):By (n+1) x=YeE C_85 B_85L5 (S_85L5 Aa) x (By n):=by
 obtain⟨_,_,_⟩:=x
 kernel_rfl
theorem F_85 (a):E_85.run a=Yhq C_85 Tryz.f103 E_85.params E_85.results a λo r=>some (N_85 o r):=by
 kernel_rfl
theorem W_85:XO D_85= [B_85L5,B_85L8]:=by kernel_rfl
theorem Q_85:Qk Tryz.prog 103 Tryz.f103 D_85:=⟨Tryz.func103,by kernel_rfl,by kernel_rfl⟩
theorem H_85:Holds Tryz.prog 103 E_85:=
 YhX tabT mixT Q_85 F_85 rfl ⟨⟨H_84,_,_,Q_84⟩,trivial⟩ W_85 ⟨Yh2 (L:=S_85L5 Aa) K_85L5 (i:=5) (by kernel_rfl),⟨Yh2 (L:=S_85L8 Aa) K_85L8 (i:=8) (by kernel_rfl),trivial⟩⟩
theorem K_86L11 (n:Nat) (x):Bh (n+1) x=YeE C_86 B_86L11 (S_86L11 Aa) x (Bh n):=by
 obtain⟨_,_,_,_,_⟩:=x
 kernel_rfl
theorem K_86L8 (n:Nat) (x):Bx (n+1) x=YeE C_86 B_86L8 (S_86L8 Aa) x (Bx n):=by
 obtain⟨_,_,_,_⟩:=x
 kernel_rfl
theorem K_86L5 (n:Nat) (x):Bw (n+1) x=YeE C_86 B_86L5 (S_86L5 Aa) x (Bw n):=by
 obtain⟨_,_,_⟩:=x
 kernel_rfl
theorem F_86 (a):E_86.run a=Yhq C_86 Tryz.f104 E_86.params E_86.results a λo r=>some (N_86 o r):=by
 kernel_rfl
theorem W_86:XO D_86= [B_86L5,B_86L8,B_86L11]:=by kernel_rfl
theorem Q_86:Qk Tryz.prog 104 Tryz.f104 D_86:=⟨Tryz.func104,by kernel_rfl,by kernel_rfl⟩
theorem H_86:Holds Tryz.prog 104 E_86:=
 YhX tabT mixT Q_86 F_86 rfl ⟨⟨H_84,_,_,Q_84⟩,trivial⟩ W_86 ⟨Yh2 (L:=S_86L5 Aa) K_86L5 (i:=5) (by kernel_rfl),⟨Yh2 (L:=S_86L8 Aa) K_86L8 (i:=8) (by kernel_rfl),⟨Yh2 (L:=S_86L11 Aa) K_86L11 (i:=11) (by kernel_rfl),trivial⟩⟩⟩
theorem F_87 (a):E_87.run a=Yhq C_87 Tryz.f50 E_87.params E_87.results a λo r=>some (N_87 o r):=by
 kernel_rfl
theorem W_87:XO D_87= []:=by kernel_rfl
theorem Q_87:Qk Tryz.prog 50 Tryz.f50 D_87:=⟨Tryz.func50,by kernel_rfl,by kernel_rfl⟩
theorem H_87:Holds Tryz.prog 50 E_87:=
 YhX tabT mixT Q_87 F_87 rfl ⟨⟨H_83,_,_,Q_83⟩,⟨⟨H_85,_,_,Q_85⟩,⟨⟨H_86,_,_,Q_86⟩,trivial⟩⟩⟩ W_87 trivial
theorem F_88 (a):E_88.run a=Yhq C_88 Tryz.f49 E_88.params E_88.results a λo r=>some (N_88 o r):=by
 kernel_rfl
theorem W_88:XO D_88= []:=by kernel_rfl
theorem Q_88:Qk Tryz.prog 49 Tryz.f49 D_88:=⟨Tryz.func49,by kernel_rfl,by kernel_rfl⟩
theorem H_88:Holds Tryz.prog 49 E_88:=
 YhX tabT mixT Q_88 F_88 rfl ⟨⟨H_87,_,_,Q_87⟩,trivial⟩ W_88 trivial
theorem F_89 (a):E_89.run a=Yhq C_89 Tryz.f70 E_89.params E_89.results a λo r=>some (N_89 o r):=by
 kernel_rfl
theorem W_89:XO D_89= []:=by kernel_rfl
theorem Q_89:Qk Tryz.prog 70 Tryz.f70 D_89:=⟨Tryz.func70,by kernel_rfl,by kernel_rfl⟩
theorem H_89:Holds Tryz.prog 70 E_89:=
 YhX tabT mixT Q_89 F_89 rfl trivial W_89 trivial
theorem F_90 (a):E_90.run a=Yhq C_90 Tryz.f101 E_90.params E_90.results a λo r=>some (N_90 o r):=by
 kernel_rfl
theorem W_90:XO D_90= []:=by kernel_rfl
theorem Q_90:Qk Tryz.prog 101 Tryz.f101 D_90:=⟨Tryz.func101,by kernel_rfl,by kernel_rfl⟩
theorem H_90:Holds Tryz.prog 101 E_90:=
 YhX tabT mixT Q_90 F_90 rfl ⟨⟨H_88,_,_,Q_88⟩,⟨⟨H_89,_,_,Q_89⟩,trivial⟩⟩ W_90 trivial
theorem K_91L3 (n:Nat) (x):Di (n+1) x=YeE C_91 B_91L3 (S_91L3 Aa) x (Di n):=by
 obtain⟨_,_,_,_,_⟩:=x
 kernel_rfl
theorem F_91 (a):E_91.run a=Yhq C_91 Tryz.f110 E_91.params E_91.results a λo r=>some (N_91 o r):=by
 kernel_rfl
theorem W_91:XO D_91= [B_91L3]:=by kernel_rfl
theorem Q_91:Qk Tryz.prog 110 Tryz.f110 D_91:=⟨Tryz.func110,by kernel_rfl,by kernel_rfl⟩
theorem H_91:Holds Tryz.prog 110 E_91:=
 YhX tabT mixT Q_91 F_91 rfl trivial W_91 ⟨Yh2 (L:=S_91L3 Aa) K_91L3 (i:=3) (by kernel_rfl),trivial⟩
theorem K_92L2 (n:Nat) (x):AL (n+1) x=YeE C_92 B_92L2 (S_92L2 Aa) x (AL n):=by
 obtain⟨_,_,_,_⟩:=x
 kernel_rfl
theorem F_92 (a):E_92.run a=Yhq C_92 Tryz.f140 E_92.params E_92.results a λo r=>some (N_92 o r):=by
 kernel_rfl
theorem W_92:XO D_92= [B_92L2]:=by kernel_rfl
theorem Q_92:Qk Tryz.prog 140 Tryz.f140 D_92:=⟨Tryz.func140,by kernel_rfl,by kernel_rfl⟩
theorem H_92:Holds Tryz.prog 140 E_92:=
 YhX tabT mixT Q_92 F_92 rfl ⟨⟨H_91,_,_,Q_91⟩,⟨⟨H_77,_,_,Q_77⟩,trivial⟩⟩ W_92 ⟨Yh2 (L:=S_92L2 Aa) K_92L2 (i:=2) (by kernel_rfl),trivial⟩
theorem K_93L4 (rec:(Int×(List Int)×((Bool×Int)×(Int×((Int×(List Int))×Bool)))×(Bool×Int×Int×(List (List ((List Int)×(List ByteArray)))))×(List Int)×Unit)->Option ((List Int)×(Unit×(Int×((Int×(List Int))×Bool)))×(Bool×Int×Int×(List (List ((List Int)×(List ByteArray)))))×(List Int)×Bool)) (n:Nat) (x):Ab rec (n+1) x=YeE (C_93 rec) B_93L4 (S_93L4 rec Aa) x (Ab rec n):=by
 obtain⟨_,_,_,_,_,_,_⟩:=x
 kernel_rfl
theorem F_93 (rec:(Int×(List Int)×((Bool×Int)×(Int×((Int×(List Int))×Bool)))×(Bool×Int×Int×(List (List ((List Int)×(List ByteArray)))))×(List Int)×Unit)->Option ((List Int)×(Unit×(Int×((Int×(List Int))×Bool)))×(Bool×Int×Int×(List (List ((List Int)×(List ByteArray)))))×(List Int)×Bool)) (a:YE [.v .int,.bx (.mv .int 0),.pr (.pz (.fc 49 (.ptr .int))) (.pr (.bx (.v .int)) (.pr (.bx (.pr (.v .int) (.mv .int 0))) (.bx (.v .bool)))),.bx (.v (.ptr y7)),.bx (.v y1),.jk 1]):Ar rec a.1 a.2.1 a.2.2.1 a.2.2.2.1 a.2.2.2.2.1 a.2.2.2.2.2=Yhq (C_93 rec) Tryz.f139 [.v .int,.bx (.mv .int 0),.pr (.pz (.fc 49 (.ptr .int))) (.pr (.bx (.v .int)) (.pr (.bx (.pr (.v .int) (.mv .int 0))) (.bx (.v .bool)))),.bx (.v (.ptr y7)),.bx (.v y1),.jk 1] [.v .bool] a (λo r=>some (N_93 o r)):=by
 kernel_rfl
theorem W_93:XO D_93= [B_93L4]:=by kernel_rfl
theorem R_93L4:YT B_93L4=4:=by kernel_rfl
theorem Q_93:Qk Tryz.prog 139 Tryz.f139 D_93:=⟨Tryz.func139,by kernel_rfl,by kernel_rfl⟩
theorem H_93: ∀d,Holds Tryz.prog 139 (E_93 d)
 |0=>λ_ b h=>absurd (show(none:Option _)=some b from h) (by simp)
 |d+1=>YfQ (en:=E_93 (d+1)) (cx:=(C_93 (Aj d))) (Ygl tabT rfl).1 (YeU ⟨⟨H_90,_,_,Q_90⟩,⟨⟨H_92,_,_,Q_92⟩,⟨⟨H_93 d,_,_,Q_93⟩,trivial⟩⟩⟩) mixT Q_93.1 Q_93.2.2 (YfV W_93 ⟨YgI (cx:=(C_93 (Aj d))) (L:=S_93L4 (Aj d) Aa) rfl (by rw[R_93L4];rfl) ⟨Ab (Aj d),λ_=>rfl,λn x=>K_93L4 (Aj d) n x,Aa,λ_=>rfl⟩,trivial⟩) (enc:=N_93) (λ_ _=>⟨rfl,rfl⟩) (F_93 (Aj d)) rfl
theorem F_94 (a):E_94.run a=Yhq C_94 Tryz.f100 E_94.params E_94.results a λo r=>some (N_94 o r):=by
 kernel_rfl
theorem W_94:XO D_94= []:=by kernel_rfl
theorem Q_94:Qk Tryz.prog 100 Tryz.f100 D_94:=⟨Tryz.func100,by kernel_rfl,by kernel_rfl⟩
theorem H_94:Holds Tryz.prog 100 E_94:=
 YhX tabT mixT Q_94 F_94 rfl ⟨⟨H_93 Aa,_,_,Q_93⟩,trivial⟩ W_94 trivial
theorem F_95 (a):E_95.run a=Yhq C_95 Tryz.f47 E_95.params E_95.results a λo r=>some (N_95 o r):=by
 kernel_rfl
theorem W_95:XO D_95= []:=by kernel_rfl
theorem Q_95:Qk Tryz.prog 47 Tryz.f47 D_95:=⟨Tryz.func47,by kernel_rfl,by kernel_rfl⟩
theorem H_95:Holds Tryz.prog 47 E_95:=
 YhX tabT mixT Q_95 F_95 rfl ⟨⟨H_80,_,_,Q_80⟩,⟨⟨H_94,_,_,Q_94⟩,trivial⟩⟩ W_95 trivial
theorem F_96 (a):E_96.run a=Yhq C_96 Tryz.f12 E_96.params E_96.results a λo r=>some (N_96 o r):=by
 kernel_rfl
theorem W_96:XO D_96= []:=by kernel_rfl
theorem Q_96:Qk Tryz.prog 12 Tryz.f12 D_96:=⟨Tryz.func12,by kernel_rfl,by kernel_rfl⟩
theorem H_96:Holds Tryz.prog 12 E_96:=
 YhX tabT mixT Q_96 F_96 rfl ⟨⟨H_74,_,_,Q_74⟩,⟨⟨H_76,_,_,Q_76⟩,⟨⟨H_95,_,_,Q_95⟩,trivial⟩⟩⟩ W_96 trivial
theorem F_97 (a):E_97.run a=Yhq C_97 Tryz.f14 E_97.params E_97.results a λo r=>some (N_97 o r):=by
 kernel_rfl
theorem W_97:XO D_97= []:=by kernel_rfl
theorem Q_97:Qk Tryz.prog 14 Tryz.f14 D_97:=⟨Tryz.func14,by kernel_rfl,by kernel_rfl⟩
theorem H_97:Holds Tryz.prog 14 E_97:=
 YhX tabT mixT Q_97 F_97 rfl ⟨⟨H_71,_,_,Q_71⟩,trivial⟩ W_97 trivial
theorem K_98L2 (n:Nat) (x):BH (n+1) x=YeE C_98 B_98L2 (S_98L2 Aa) x (BH n):=by
 obtain⟨_,_,_⟩:=x
 kernel_rfl
theorem F_98 (a):E_98.run a=Yhq C_98 Tryz.f56 E_98.params E_98.results a λo r=>some (N_98 o r):=by
 kernel_rfl
theorem W_98:XO D_98= [B_98L2]:=by kernel_rfl
theorem Q_98:Qk Tryz.prog 56 Tryz.f56 D_98:=⟨Tryz.func56,by kernel_rfl,by kernel_rfl⟩
theorem H_98:Holds Tryz.prog 56 E_98:=
 YhX tabT mixT Q_98 F_98 rfl ⟨⟨H_58,_,_,Q_58⟩,trivial⟩ W_98 ⟨Yh2 (L:=S_98L2 Aa) K_98L2 (i:=2) (by kernel_rfl),trivial⟩
theorem F_99 (a):E_99.run a=Yhq C_99 Tryz.f15 E_99.params E_99.results a λo r=>some (N_99 o r):=by
 kernel_rfl
theorem W_99:XO D_99= []:=by kernel_rfl
theorem Q_99:Qk Tryz.prog 15 Tryz.f15 D_99:=⟨Tryz.func15,by kernel_rfl,by kernel_rfl⟩
theorem H_99:Holds Tryz.prog 15 E_99:=
 YhX tabT mixT Q_99 F_99 rfl ⟨⟨H_50,_,_,Q_50⟩,⟨⟨H_57,_,_,Q_57⟩,⟨⟨H_98,_,_,Q_98⟩,trivial⟩⟩⟩ W_99 trivial
theorem K_100L2 (n:Nat) (x):C9 (n+1) x=YeE C_100 B_100L2 (S_100L2 Aa) x (C9 n):=by
 obtain⟨_,_⟩:=x
 kernel_rfl
theorem F_100 (a):E_100.run a=Yhq C_100 Tryz.f57 E_100.params E_100.results a λo r=>some (N_100 o r):=by
 kernel_rfl
theorem W_100:XO D_100= [B_100L2]:=by kernel_rfl
theorem Q_100:Qk Tryz.prog 57 Tryz.f57 D_100:=⟨Tryz.func57,by kernel_rfl,by kernel_rfl⟩
theorem H_100:Holds Tryz.prog 57 E_100:=
 YhX tabT mixT Q_100 F_100 rfl trivial W_100 ⟨Yh2 (L:=S_100L2 Aa) K_100L2 (i:=2) (by kernel_rfl),trivial⟩
theorem F_101 (a):E_101.run a=Yhq C_101 Tryz.f16 E_101.params E_101.results a λo r=>some (N_101 o r):=by
 kernel_rfl
theorem W_101:XO D_101= []:=by kernel_rfl
theorem Q_101:Qk Tryz.prog 16 Tryz.f16 D_101:=⟨Tryz.func16,by kernel_rfl,by kernel_rfl⟩
theorem H_101:Holds Tryz.prog 16 E_101:=
 YhX tabT mixT Q_101 F_101 rfl ⟨⟨H_62,_,_,Q_62⟩,⟨⟨H_69,_,_,Q_69⟩,⟨⟨H_64,_,_,Q_64⟩,⟨⟨H_100,_,_,Q_100⟩,trivial⟩⟩⟩⟩ W_101 trivial
theorem F_102 (a):E_102.run a=Yhq C_102 Tryz.f58 E_102.params E_102.results a λo r=>some (N_102 o r):=by
 kernel_rfl
theorem W_102:XO D_102= []:=by kernel_rfl
theorem Q_102:Qk Tryz.prog 58 Tryz.f58 D_102:=⟨Tryz.func58,by kernel_rfl,by kernel_rfl⟩
theorem H_102:Holds Tryz.prog 58 E_102:=
 YhX tabT mixT Q_102 F_102 rfl ⟨⟨H_46,_,_,Q_46⟩,trivial⟩ W_102 trivial
theorem K_103L4 (n:Nat) (x):C3 (n+1) x=YeE C_103 B_103L4 (S_103L4 Aa) x (C3 n):=by
 obtain⟨_,_,_,_⟩:=x
 kernel_rfl
theorem F_103 (a):E_103.run a=Yhq C_103 Tryz.f146 E_103.params E_103.results a λo r=>some (N_103 o r):=by
 kernel_rfl
theorem W_103:XO D_103= [B_103L4]:=by kernel_rfl
theorem Q_103:Qk Tryz.prog 146 Tryz.f146 D_103:=⟨Tryz.func146,by kernel_rfl,by kernel_rfl⟩
theorem H_103:Holds Tryz.prog 146 E_103:=
 YhX tabT mixT Q_103 F_103 rfl trivial W_103 ⟨Yh2 (L:=S_103L4 Aa) K_103L4 (i:=4) (by kernel_rfl),trivial⟩
theorem K_104L2 (n:Nat) (x):DC (n+1) x=YeE C_104 B_104L2 (S_104L2 Aa) x (DC n):=by
 obtain⟨_,_,_,_⟩:=x
 kernel_rfl
theorem F_104 (a):E_104.run a=Yhq C_104 Tryz.f109 E_104.params E_104.results a λo r=>some (N_104 o r):=by
 kernel_rfl
theorem W_104:XO D_104= [B_104L2]:=by kernel_rfl
theorem Q_104:Qk Tryz.prog 109 Tryz.f109 D_104:=⟨Tryz.func109,by kernel_rfl,by kernel_rfl⟩
theorem H_104:Holds Tryz.prog 109 E_104:=
 YhX tabT mixT Q_104 F_104 rfl ⟨⟨H_103,_,_,Q_103⟩,trivial⟩ W_104 ⟨Yh2 (L:=S_104L2 Aa) K_104L2 (i:=2) (by kernel_rfl),trivial⟩
theorem K_105L2 (n:Nat) (x):BW (n+1) x=YeE C_105 B_105L2 (S_105L2 Aa) x (BW n):=by
 obtain⟨_,_,_,_⟩:=x
 kernel_rfl
theorem F_105 (a):E_105.run a=Yhq C_105 Tryz.f59 E_105.params E_105.results a λo r=>some (N_105 o r):=by
 kernel_rfl
theorem W_105:XO D_105= [B_105L2]:=by kernel_rfl
theorem Q_105:Qk Tryz.prog 59 Tryz.f59 D_105:=⟨Tryz.func59,by kernel_rfl,by kernel_rfl⟩
theorem H_105:Holds Tryz.prog 59 E_105:=
 YhX tabT mixT Q_105 F_105 rfl ⟨⟨H_104,_,_,Q_104⟩,⟨⟨H_91,_,_,Q_91⟩,trivial⟩⟩ W_105 ⟨Yh2 (L:=S_105L2 Aa) K_105L2 (i:=2) (by kernel_rfl),trivial⟩
theorem F_106 (a):E_106.run a=Yhq C_106 Tryz.f17 E_106.params E_106.results a λo r=>some (N_106 o r):=by
 kernel_rfl
theorem W_106:XO D_106= []:=by kernel_rfl
theorem Q_106:Qk Tryz.prog 17 Tryz.f17 D_106:=⟨Tryz.func17,by kernel_rfl,by kernel_rfl⟩
theorem H_106:Holds Tryz.prog 17 E_106:=
 YhX tabT mixT Q_106 F_106 rfl ⟨⟨H_50,_,_,Q_50⟩,⟨⟨H_102,_,_,Q_102⟩,⟨⟨H_105,_,_,Q_105⟩,trivial⟩⟩⟩ W_106 trivial
theorem F_107 (a):E_107.run a=Yhq C_107 Tryz.f60 E_107.params E_107.results a λo r=>some (N_107 o r):=by
 kernel_rfl
theorem W_107:XO D_107= []:=by kernel_rfl
theorem Q_107:Qk Tryz.prog 60 Tryz.f60 D_107:=⟨Tryz.func60,by kernel_rfl,by kernel_rfl⟩
theorem H_107:Holds Tryz.prog 60 E_107:=
 YhX tabT mixT Q_107 F_107 rfl ⟨⟨H_23,_,_,Q_23⟩,trivial⟩ W_107 trivial
theorem F_108 (a):E_108.run a=Yhq C_108 Tryz.f18 E_108.params E_108.results a λo r=>some (N_108 o r):=by
 kernel_rfl
theorem W_108:XO D_108= []:=by kernel_rfl
theorem Q_108:Qk Tryz.prog 18 Tryz.f18 D_108:=⟨Tryz.func18,by kernel_rfl,by kernel_rfl⟩
theorem H_108:Holds Tryz.prog 18 E_108:=
 YhX tabT mixT Q_108 F_108 rfl ⟨⟨H_107,_,_,Q_107⟩,trivial⟩ W_108 trivial
theorem K_109L3 (n:Nat) (x):Cc (n+1) x=YeE C_109 B_109L3 (S_109L3 Aa) x (Cc n):=by
 obtain⟨_,_,_,_⟩:=x
 kernel_rfl
theorem F_109 (a):E_109.run a=Yhq C_109 Tryz.f147 E_109.params E_109.results a λo r=>some (N_109 o r):=by
 kernel_rfl
theorem W_109:XO D_109= [B_109L3]:=by kernel_rfl
theorem Q_109:Qk Tryz.prog 147 Tryz.f147 D_109:=⟨Tryz.func147,by kernel_rfl,by kernel_rfl⟩
theorem H_109:Holds Tryz.prog 147 E_109:=
 YhX tabT mixT Q_109 F_109 rfl ⟨⟨H_89,_,_,Q_89⟩,trivial⟩ W_109 ⟨Yh2 (L:=S_109L3 Aa) K_109L3 (i:=3) (by kernel_rfl),trivial⟩
theorem F_110 (a):E_110.run a=Yhq C_110 Tryz.f111 E_110.params E_110.results a λo r=>some (N_110 o r):=by
 kernel_rfl
theorem W_110:XO D_110= []:=by kernel_rfl
theorem Q_110:Qk Tryz.prog 111 Tryz.f111 D_110:=⟨Tryz.func111,by kernel_rfl,by kernel_rfl⟩
theorem H_110:Holds Tryz.prog 111 E_110:=
 YhX tabT mixT Q_110 F_110 rfl ⟨⟨H_109,_,_,Q_109⟩,trivial⟩ W_110 trivial
theorem K_111L3 (n:Nat) (x):CR (n+1) x=YeE C_111 B_111L3 (S_111L3 Aa) x (CR n):=by
 obtain⟨_,_,_,_⟩:=x
 kernel_rfl
theorem F_111 (a):E_111.run a=Yhq C_111 Tryz.f61 E_111.params E_111.results a λo r=>some (N_111 o r):=by
 kernel_rfl
theorem W_111:XO D_111= [B_111L3]:=by kernel_rfl
theorem Q_111:Qk Tryz.prog 61 Tryz.f61 D_111:=⟨Tryz.func61,by kernel_rfl,by kernel_rfl⟩
theorem H_111:Holds Tryz.prog 61 E_111:=
 YhX tabT mixT Q_111 F_111 rfl ⟨⟨H_89,_,_,Q_89⟩,⟨⟨H_110,_,_,Q_110⟩,trivial⟩⟩ W_111 ⟨Yh2 (L:=S_111L3 Aa) K_111L3 (i:=3) (by kernel_rfl),trivial⟩
theorem Q_112:Qk Tryz.prog 148 Tryz.f148 D_112:=⟨Tryz.func148,by kernel_rfl,by kernel_rfl⟩
theorem H_112:Holds Tryz.prog 148 E_112:=Go.Proofs.H_sort_cmpL 1
theorem F_113 (a):E_113.run a=Yhq C_113 Tryz.f113 E_113.params E_113.results a λo r=>some (N_113 o r):=by
 kernel_rfl
theorem W_113:XO D_113= []:=by kernel_rfl
theorem Q_113:Qk Tryz.prog 113 Tryz.f113 D_113:=⟨Tryz.func113,by kernel_rfl,by kernel_rfl⟩
theorem H_113:Holds Tryz.prog 113 E_113:=
 YhX tabT mixT Q_113 F_113 rfl ⟨⟨H_109,_,_,Q_109⟩,⟨⟨H_112,_,_,Q_112⟩,trivial⟩⟩ W_113 trivial
theorem Q_114:Qk Tryz.prog 112 Tryz.f112 D_114:=⟨Tryz.func112,by kernel_rfl,by kernel_rfl⟩
theorem H_114:Holds Tryz.prog 112 E_114:=Go.Proofs.H_diff 1
theorem F_115 (a):E_115.run a=Yhq C_115 Tryz.f62 E_115.params E_115.results a λo r=>some (N_115 o r):=by
 kernel_rfl
theorem W_115:XO D_115= []:=by kernel_rfl
theorem Q_115:Qk Tryz.prog 62 Tryz.f62 D_115:=⟨Tryz.func62,by kernel_rfl,by kernel_rfl⟩
theorem H_115:Holds Tryz.prog 62 E_115:=
 YhX tabT mixT Q_115 F_115 rfl ⟨⟨H_114,_,_,Q_114⟩,⟨⟨H_113,_,_,Q_113⟩,trivial⟩⟩ W_115 trivial
theorem F_116 (a):E_116.run a=Yhq C_116 Tryz.f63 E_116.params E_116.results a λo r=>some (N_116 o r):=by
 kernel_rfl
theorem W_116:XO D_116= []:=by kernel_rfl
theorem Q_116:Qk Tryz.prog 63 Tryz.f63 D_116:=⟨Tryz.func63,by kernel_rfl,by kernel_rfl⟩
theorem H_116:Holds Tryz.prog 63 E_116:=
 YhX tabT mixT Q_116 F_116 rfl trivial W_116 trivial
theorem K_117L17 (n:Nat) (x):Bu (n+1) x=YeE C_117 B_117L17 (S_117L17 Aa) x (Bu n):=by
 obtain⟨_,_,_,_,_,_,_,_,_,_,_,_,_,_,_⟩:=x
 kernel_rfl
theorem K_117L13 (n:Nat) (x):Cl (n+1) x=YeE C_117 B_117L13 (S_117L13 Aa) x (Cl n):=by
 obtain⟨_,_,_,_,_,_,_,_,_,_,_⟩:=x
 kernel_rfl
theorem K_117L10 (n:Nat) (x):AI (n+1) x=YeE C_117 B_117L10 (S_117L10 Aa) x (AI n):=by
 obtain⟨_,_,_,_,_,_,_,_,_⟩:=x
 kernel_rfl
theorem K_117L5 (n:Nat) (x):Ba (n+1) x=YeE C_117 B_117L5 (S_117L5 Aa) x (Ba n):=by
 obtain⟨_,_,_,_,_,_⟩:=x
 kernel_rfl
theorem F_117 (a):E_117.run a=Yhq C_117 Tryz.f19 E_117.params E_117.results a λo r=>some (N_117 o r):=by
 kernel_rfl
theorem W_117:XO D_117= [B_117L5,B_117L10,B_117L13,B_117L17]:=by kernel_rfl
theorem Q_117:Qk Tryz.prog 19 Tryz.f19 D_117:=⟨Tryz.func19,by kernel_rfl,by kernel_rfl⟩
theorem H_117:Holds Tryz.prog 19 E_117:=
 YhX tabT mixT Q_117 F_117 rfl ⟨⟨H_50,_,_,Q_50⟩,⟨⟨H_111,_,_,Q_111⟩,⟨⟨H_115,_,_,Q_115⟩,⟨⟨H_116,_,_,Q_116⟩,trivial⟩⟩⟩⟩ W_117 ⟨Yh2 (L:=S_117L5 Aa) K_117L5 (i:=5) (by kernel_rfl),⟨Yh2 (L:=S_117L10 Aa) K_117L10 (i:=10) (by kernel_rfl),⟨Yh2 (L:=S_117L13 Aa) K_117L13 (i:=13) (by kernel_rfl),⟨Yh2 (L:=S_117L17 Aa) K_117L17 (i:=17) (by kernel_rfl),trivial⟩⟩⟩⟩
theorem K_118L7 (n:Nat) (x):CJ (n+1) x=YeE C_118 B_118L7 (S_118L7 Aa) x (CJ n):=by
 obtain⟨_,_,_,_,_⟩:=x
 kernel_rfl
theorem K_118L3 (n:Nat) (x):CI (n+1) x=YeE C_118 B_118L3 (S_118L3 Aa) x (CI n):=by
 obtain⟨_,_,_⟩:=x
 kernel_rfl
theorem F_118 (a):E_118.run a=Yhq C_118 Tryz.f64 E_118.params E_118.results a λo r=>some (N_118 o r):=by
 kernel_rfl
theorem W_118:XO D_118= [B_118L3,B_118L7]:=by kernel_rfl
theorem Q_118:Qk Tryz.prog 64 Tryz.f64 D_118:=⟨Tryz.func64,by kernel_rfl,by kernel_rfl⟩
theorem H_118:Holds Tryz.prog 64 E_118:=
 YhX tabT mixT Q_118 F_118 rfl ⟨⟨H_6,_,_,Q_6⟩,trivial⟩ W_118 ⟨Yh2 (L:=S_118L3 Aa) K_118L3 (i:=3) (by kernel_rfl),⟨Yh2 (L:=S_118L7 Aa) K_118L7 (i:=7) (by kernel_rfl),trivial⟩⟩
theorem K_119L3 (n:Nat) (x):F7 (n+1) x=YeE C_119 B_119L3 (S_119L3 Aa) x (F7 n):=by
 obtain⟨_,_,_,_⟩:=x
 kernel_rfl
theorem F_119 (a):E_119.run a=Yhq C_119 Tryz.f116 E_119.params E_119.results a λo r=>some (N_119 o r):=by
 kernel_rfl
theorem W_119:XO D_119= [B_119L3]:=by kernel_rfl
theorem Q_119:Qk Tryz.prog 116 Tryz.f116 D_119:=⟨Tryz.func116,by kernel_rfl,by kernel_rfl⟩
theorem H_119:Holds Tryz.prog 116 E_119:=
 YhX tabT mixT Q_119 F_119 rfl trivial W_119 ⟨Yh2 (L:=S_119L3 Aa) K_119L3 (i:=3) (by kernel_rfl),trivial⟩
theorem K_120L3 (n:Nat) (x):B3 (n+1) x=YeE C_120 B_120L3 (S_120L3 Aa) x (B3 n):=by
 obtain⟨_,_,_,_,_⟩:=x
 kernel_rfl
theorem F_120 (a):E_120.run a=Yhq C_120 Tryz.f65 E_120.params E_120.results a λo r=>some (N_120 o r):=by
 kernel_rfl
theorem W_120:XO D_120= [B_120L3]:=by kernel_rfl
theorem Q_120:Qk Tryz.prog 65 Tryz.f65 D_120:=⟨Tryz.func65,by kernel_rfl,by kernel_rfl⟩
theorem H_120:Holds Tryz.prog 65 E_120:=
 YhX tabT mixT Q_120 F_120 rfl ⟨⟨H_13,_,_,Q_13⟩,⟨⟨H_119,_,_,Q_119⟩,trivial⟩⟩ W_120 ⟨Yh2 (L:=S_120L3 Aa) K_120L3 (i:=3) (by kernel_rfl),trivial⟩
theorem F_121 (a):E_121.run a=Yhq C_121 Tryz.f66 E_121.params E_121.results a λo r=>some (N_121 o r):=by
 kernel_rfl
theorem W_121:XO D_121= []:=by kernel_rfl
theorem Q_121:Qk Tryz.prog 66 Tryz.f66 D_121:=⟨Tryz.func66,by kernel_rfl,by kernel_rfl⟩
theorem H_121:Holds Tryz.prog 66 E_121:=
 YhX tabT mixT Q_121 F_121 rfl ⟨⟨H_62,_,_,Q_62⟩,trivial⟩ W_121 trivial
theorem K_122L14 (n:Nat) (x):Cm (n+1) x=YeE C_122 B_122L14 (S_122L14 Aa) x (Cm n):=by
 obtain⟨_,_,_,_,_,_,_⟩:=x
 kernel_rfl
theorem K_122L11 (n:Nat) (x):AJ (n+1) x=YeE C_122 B_122L11 (S_122L11 Aa) x (AJ n):=by
 obtain⟨_,_,_,_,_,_⟩:=x
 kernel_rfl
theorem K_122L5 (n:Nat) (x):BL (n+1) x=YeE C_122 B_122L5 (S_122L5 Aa) x (BL n):=by
 obtain⟨_,_,_,_⟩:=x
 kernel_rfl
theorem F_122 (a):E_122.run a=Yhq C_122 Tryz.f20 E_122.params E_122.results a λo r=>some (N_122 o r):=by
 kernel_rfl
theorem W_122:XO D_122= [B_122L5,B_122L11,B_122L14]:=by kernel_rfl
theorem Q_122:Qk Tryz.prog 20 Tryz.f20 D_122:=⟨Tryz.func20,by kernel_rfl,by kernel_rfl⟩
theorem H_122:Holds Tryz.prog 20 E_122:=
 YhX tabT mixT Q_122 F_122 rfl ⟨⟨H_62,_,_,Q_62⟩,⟨⟨H_118,_,_,Q_118⟩,⟨⟨H_120,_,_,Q_120⟩,⟨⟨H_121,_,_,Q_121⟩,trivial⟩⟩⟩⟩ W_122 ⟨Yh2 (L:=S_122L5 Aa) K_122L5 (i:=5) (by kernel_rfl),⟨Yh2 (L:=S_122L11 Aa) K_122L11 (i:=11) (by kernel_rfl),⟨Yh2 (L:=S_122L14 Aa) K_122L14 (i:=14) (by kernel_rfl),trivial⟩⟩⟩
theorem K_123L7 (n:Nat) (x):BP (n+1) x=YeE C_123 B_123L7 (S_123L7 Aa) x (BP n):=by
 obtain⟨_,_,_,_,_,_,_,_,_⟩:=x
 kernel_rfl
theorem K_123L3 (n:Nat) (x):BO (n+1) x=YeE C_123 B_123L3 (S_123L3 Aa) x (BO n):=by
 obtain⟨_,_,_,_⟩:=x
 kernel_rfl
theorem F_123 (a):E_123.run a=Yhq C_123 Tryz.f117 E_123.params E_123.results a λo r=>some (N_123 o r):=by
 kernel_rfl
theorem W_123:XO D_123= [B_123L3,B_123L7]:=by kernel_rfl
theorem Q_123:Qk Tryz.prog 117 Tryz.f117 D_123:=⟨Tryz.func117,by kernel_rfl,by kernel_rfl⟩
theorem H_123:Holds Tryz.prog 117 E_123:=
 YhX tabT mixT Q_123 F_123 rfl ⟨⟨H_78,_,_,Q_78⟩,trivial⟩ W_123 ⟨Yh2 (L:=S_123L3 Aa) K_123L3 (i:=3) (by kernel_rfl),⟨Yh2 (L:=S_123L7 Aa) K_123L7 (i:=7) (by kernel_rfl),trivial⟩⟩
theorem F_124 (a):E_124.run a=Yhq C_124 Tryz.f70 E_124.params E_124.results a λo r=>some (N_124 o r):=by
 kernel_rfl
theorem W_124:XO D_124= []:=by kernel_rfl
theorem Q_124:Qk Tryz.prog 70 Tryz.f70 D_124:=⟨Tryz.func70,by kernel_rfl,by kernel_rfl⟩
theorem H_124:Holds Tryz.prog 70 E_124:=
 YhX tabT mixT Q_124 F_124 rfl trivial W_124 trivial
theorem F_125 (a):E_125.run a=Yhq C_125 Tryz.f119 E_125.params E_125.results a λo r=>some (N_125 o r):=by
 kernel_rfl
theorem W_125:XO D_125= []:=by kernel_rfl
theorem Q_125:Qk Tryz.prog 119 Tryz.f119 D_125:=⟨Tryz.func119,by kernel_rfl,by kernel_rfl⟩
theorem H_125:Holds Tryz.prog 119 E_125:=
 YhX tabT mixT Q_125 F_125 rfl ⟨⟨H_124,_,_,Q_124⟩,trivial⟩ W_125 trivial
theorem K_126L10 (rec:(Int×(List Int)×(Bool×(List Int))×(Bool×Int×(List (List (List Int)))×(List (List (List ByteArray))))×(List Int)×Unit)->Option ((List Int)×(Bool×(List Int))×(Bool×Int×(List (List (List Int)))×(List (List (List ByteArray))))×(List Int)×Bool)) (n:Nat) (x):Ak rec (n+1) x=YeE (C_126 rec) B_126L10 (S_126L10 rec Aa) x (Ak rec n):=by
 obtain⟨_,_,_,_,_,_,_,_,_,_,_⟩:=x
 kernel_rfl
theorem K_126L4 (rec:(Int×(List Int)×(Bool×(List Int))×(Bool×Int×(List (List (List Int)))×(List (List (List ByteArray))))×(List Int)×Unit)->Option ((List Int)×(Bool×(List Int))×(Bool×Int×(List (List (List Int)))×(List (List (List ByteArray))))×(List Int)×Bool)) (n:Nat) (x):Ai rec (n+1) x=YeE (C_126 rec) B_126L4 (S_126L4 rec Aa) x (Ai rec n):=by
 obtain⟨_,_,_,_,_,_,_⟩:=x
 kernel_rfl
theorem F_126 (rec:(Int×(List Int)×(Bool×(List Int))×(Bool×Int×(List (List (List Int)))×(List (List (List ByteArray))))×(List Int)×Unit)->Option ((List Int)×(Bool×(List Int))×(Bool×Int×(List (List (List Int)))×(List (List (List ByteArray))))×(List Int)×Bool)) (a:YE [.v .int,.bx (.mv .int 0),.bx (.nv .int 0),.bx (.v (.ptr y6)),.bx (.v y1),.jk 1]):Bg rec a.1 a.2.1 a.2.2.1 a.2.2.2.1 a.2.2.2.2.1 a.2.2.2.2.2=Yhq (C_126 rec) Tryz.f150 [.v .int,.bx (.mv .int 0),.bx (.nv .int 0),.bx (.v (.ptr y6)),.bx (.v y1),.jk 1] [.v .bool] a (λo r=>some (N_126 o r)):=by
 kernel_rfl
theorem W_126:XO D_126= [B_126L4,B_126L10]:=by kernel_rfl
theorem R_126L10:YT B_126L10=10:=by kernel_rfl
theorem R_126L4:YT B_126L4=4:=by kernel_rfl
theorem Q_126:Qk Tryz.prog 150 Tryz.f150 D_126:=⟨Tryz.func150,by kernel_rfl,by kernel_rfl⟩
theorem H_126: ∀d,Holds Tryz.prog 150 (E_126 d)
 |0=>λ_ b h=>absurd (show(none:Option _)=some b from h) (by simp)
 |d+1=>YfQ (en:=E_126 (d+1)) (cx:=(C_126 (Am d))) (Ygl tabT rfl).1 (YeU ⟨⟨H_91,_,_,Q_91⟩,⟨⟨H_125,_,_,Q_125⟩,⟨⟨H_77,_,_,Q_77⟩,⟨⟨H_126 d,_,_,Q_126⟩,trivial⟩⟩⟩⟩) mixT Q_126.1 Q_126.2.2 (YfV W_126 ⟨YgI (cx:=(C_126 (Am d))) (L:=S_126L4 (Am d) Aa) rfl (by rw[R_126L4];rfl) ⟨Ai (Am d),λ_=>rfl,λn x=>K_126L4 (Am d) n x,Aa,λ_=>rfl⟩,⟨YgI (cx:=(C_126 (Am d))) (L:=S_126L10 (Am d) Aa) rfl (by rw[R_126L10];rfl) ⟨Ak (Am d),λ_=>rfl,λn x=>K_126L10 (Am d) n x,Aa,λ_=>rfl⟩,trivial⟩⟩) (enc:=N_126) (λ_ _=>⟨rfl,rfl⟩) (F_126 (Am d)) rfl
theorem F_127 (a):E_127.run a=Yhq C_127 Tryz.f118 E_127.params E_127.results a λo r=>some (N_127 o r):=by
 kernel_rfl
theorem W_127:XO D_127= []:=by kernel_rfl
theorem Q_127:Qk Tryz.prog 118 Tryz.f118 D_127:=⟨Tryz.func118,by kernel_rfl,by kernel_rfl⟩
theorem H_127:Holds Tryz.prog 118 E_127:=
 YhX tabT mixT Q_127 F_127 rfl ⟨⟨H_126 Aa,_,_,Q_126⟩,trivial⟩ W_127 trivial
theorem F_128 (a):E_128.run a=Yhq C_128 Tryz.f67 E_128.params E_128.results a λo r=>some (N_128 o r):=by
 kernel_rfl
theorem W_128:XO D_128= []:=by kernel_rfl
theorem Q_128:Qk Tryz.prog 67 Tryz.f67 D_128:=⟨Tryz.func67,by kernel_rfl,by kernel_rfl⟩
theorem H_128:Holds Tryz.prog 67 E_128:=
 YhX tabT mixT Q_128 F_128 rfl ⟨⟨H_123,_,_,Q_123⟩,⟨⟨H_127,_,_,Q_127⟩,trivial⟩⟩ W_128 trivial
theorem K_129L4 (n:Nat) (x):Bv (n+1) x=YeE C_129 B_129L4 (S_129L4 Aa) x (Bv n):=by
 obtain⟨_,_,_,_,_⟩:=x
 kernel_rfl
theorem F_129 (a):E_129.run a=Yhq C_129 Tryz.f21 E_129.params E_129.results a λo r=>some (N_129 o r):=by
 kernel_rfl
theorem W_129:XO D_129= [B_129L4]:=by kernel_rfl
theorem Q_129:Qk Tryz.prog 21 Tryz.f21 D_129:=⟨Tryz.func21,by kernel_rfl,by kernel_rfl⟩
theorem H_129:Holds Tryz.prog 21 E_129:=
 YhX tabT mixT Q_129 F_129 rfl ⟨⟨H_50,_,_,Q_50⟩,⟨⟨H_128,_,_,Q_128⟩,trivial⟩⟩ W_129 ⟨Yh2 (L:=S_129L4 Aa) K_129L4 (i:=4) (by kernel_rfl),trivial⟩
theorem K_130L14 (n:Nat) (x):AO (n+1) x=YeE C_130 B_130L14 (S_130L14 Aa) x (AO n):=by
 obtain⟨_,_,_,_,_,_⟩:=x
 kernel_rfl
theorem K_130L10 (n:Nat) (x):Bb (n+1) x=YeE C_130 B_130L10 (S_130L10 Aa) x (Bb n):=by
 obtain⟨_,_,_,_⟩:=x
 kernel_rfl
theorem K_130L41 (n:Nat) (x):Aw (n+1) x=YeE C_130 B_130L41 (S_130L41 Aa) x (Aw n):=by
 obtain⟨_,_,_,_⟩:=x
 kernel_rfl
theorem F_130 (a):E_130.run a=Yhq C_130 Tryz.f3 E_130.params E_130.results a λo r=>some (N_130 o r):=by
 kernel_rfl
theorem W_130:XO D_130= [B_130L10,B_130L14,B_130L41]:=by kernel_rfl
theorem Q_130:Qk Tryz.prog 3 Tryz.f3 D_130:=⟨Tryz.func3,by kernel_rfl,by kernel_rfl⟩
theorem H_130:Holds Tryz.prog 3 E_130:=
 YhX tabT mixT Q_130 F_130 rfl ⟨⟨H_1,_,_,Q_1⟩,⟨⟨H_44,_,_,Q_44⟩,⟨⟨H_60,_,_,Q_60⟩,⟨⟨H_70,_,_,Q_70⟩,⟨⟨H_71,_,_,Q_71⟩,⟨⟨H_72,_,_,Q_72⟩,⟨⟨H_50,_,_,Q_50⟩,⟨⟨H_96,_,_,Q_96⟩,⟨⟨H_43,_,_,Q_43⟩,⟨⟨H_97,_,_,Q_97⟩,⟨⟨H_99,_,_,Q_99⟩,⟨⟨H_101,_,_,Q_101⟩,⟨⟨H_106,_,_,Q_106⟩,⟨⟨H_108,_,_,Q_108⟩,⟨⟨H_117,_,_,Q_117⟩,⟨⟨H_122,_,_,Q_122⟩,⟨⟨H_129,_,_,Q_129⟩,trivial⟩⟩⟩⟩⟩⟩⟩⟩⟩⟩⟩⟩⟩⟩⟩⟩⟩ W_130 ⟨Yh2 (L:=S_130L10 Aa) K_130L10 (i:=10) (by kernel_rfl),⟨Yh2 (L:=S_130L14 Aa) K_130L14 (i:=14) (by kernel_rfl),⟨Yh2 (L:=S_130L41 Aa) K_130L41 (i:=41) (by kernel_rfl),trivial⟩⟩⟩
end T
