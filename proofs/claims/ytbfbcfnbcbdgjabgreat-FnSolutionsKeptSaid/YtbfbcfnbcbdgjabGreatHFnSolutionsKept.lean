/- Each typed function is what the program computes; no conditions. -/
import Derived.Test.YtbfbcfnbcbdgjabGreatSFnSolutionsKept
import Derived.Test.YtbfbcfnbcbdgjabGreatCFnSolutionsKept
set_option linter.all false
set_option maxRecDepth 10000
open Go Go.Va Go.Proofs
namespace T
theorem F_1 (a):E_1.run a=Yir C_1 Tryz.f5 E_1.params E_1.results a λo r=>some (N_1 o r):=by
 kernel_rfl
theorem W_1:XU D_1= []:=by kernel_rfl
theorem Q_1:Qk Tryz.prog 5 Tryz.f5 D_1:=⟨Tryz.func5,by kernel_rfl,by kernel_rfl⟩
theorem H_1:Holds Tryz.prog 5 E_1:=
 Yi3 tabT mixT Q_1 F_1 rfl trivial W_1 trivial
theorem F_2 (a):E_2.run a=Yir C_2 Tryz.f88 E_2.params E_2.results a λo r=>some (N_2 o r):=by
 kernel_rfl
theorem W_2:XU D_2= []:=by kernel_rfl
theorem Q_2:Qk Tryz.prog 88 Tryz.f88 D_2:=⟨Tryz.func88,by kernel_rfl,by kernel_rfl⟩
theorem H_2:Holds Tryz.prog 88 E_2:=
 Yi3 tabT mixT Q_2 F_2 rfl trivial W_2 trivial
theorem F_3 (a):E_3.run a=Yir C_3 Tryz.f35 E_3.params E_3.results a λo r=>some (N_3 o r):=by
 kernel_rfl
theorem W_3:XU D_3= []:=by kernel_rfl
theorem Q_3:Qk Tryz.prog 35 Tryz.f35 D_3:=⟨Tryz.func35,by kernel_rfl,by kernel_rfl⟩
theorem H_3:Holds Tryz.prog 35 E_3:=
 Yi3 tabT mixT Q_3 F_3 rfl ⟨⟨H_2,_,_,Q_2⟩,trivial⟩ W_3 trivial
theorem F_4 (a):E_4.run a=Yir C_4 Tryz.f34 E_4.params E_4.results a λo r=>some (N_4 o r):=by
 kernel_rfl
theorem W_4:XU D_4= []:=by kernel_rfl
theorem Q_4:Qk Tryz.prog 34 Tryz.f34 D_4:=⟨Tryz.func34,by kernel_rfl,by kernel_rfl⟩
theorem H_4:Holds Tryz.prog 34 E_4:=
 Yi3 tabT mixT Q_4 F_4 rfl ⟨⟨H_3,_,_,Q_3⟩,trivial⟩ W_4 trivial
theorem F_5 (a):E_5.run a=Yir C_5 Tryz.f125 E_5.params E_5.results a λo r=>some (N_5 o r):=by
 kernel_rfl
theorem W_5:XU D_5= []:=by kernel_rfl
theorem Q_5:Qk Tryz.prog 125 Tryz.f125 D_5:=⟨Tryz.func125,by kernel_rfl,by kernel_rfl⟩
theorem H_5:Holds Tryz.prog 125 E_5:=
 Yi3 tabT mixT Q_5 F_5 rfl trivial W_5 trivial
theorem F_6 (a):E_6.run a=Yir C_6 Tryz.f114 E_6.params E_6.results a λo r=>some (N_6 o r):=by
 kernel_rfl
theorem W_6:XU D_6= []:=by kernel_rfl
theorem Q_6:Qk Tryz.prog 114 Tryz.f114 D_6:=⟨Tryz.func114,by kernel_rfl,by kernel_rfl⟩
theorem H_6:Holds Tryz.prog 114 E_6:=
 Yi3 tabT mixT Q_6 F_6 rfl trivial W_6 trivial
theorem F_7 (a):E_7.run a=Yir C_7 Tryz.f36 E_7.params E_7.results a λo r=>some (N_7 o r):=by
 kernel_rfl
theorem W_7:XU D_7= []:=by kernel_rfl
theorem Q_7:Qk Tryz.prog 36 Tryz.f36 D_7:=⟨Tryz.func36,by kernel_rfl,by kernel_rfl⟩
theorem H_7:Holds Tryz.prog 36 E_7:=
 Yi3 tabT mixT Q_7 F_7 rfl ⟨⟨H_3,_,_,Q_3⟩,trivial⟩ W_7 trivial
theorem F_8 (a):E_8.run a=Yir C_8 Tryz.f86 E_8.params E_8.results a λo r=>some (N_8 o r):=by
 kernel_rfl
theorem W_8:XU D_8= []:=by kernel_rfl
theorem Q_8:Qk Tryz.prog 86 Tryz.f86 D_8:=⟨Tryz.func86,by kernel_rfl,by kernel_rfl⟩
theorem H_8:Holds Tryz.prog 86 E_8:=
 Yi3 tabT mixT Q_8 F_8 rfl trivial W_8 trivial
theorem F_9 (a):E_9.run a=Yir C_9 Tryz.f126 E_9.params E_9.results a λo r=>some (N_9 o r):=by
 kernel_rfl
theorem W_9:XU D_9= []:=by kernel_rfl
theorem Q_9:Qk Tryz.prog 126 Tryz.f126 D_9:=⟨Tryz.func126,by kernel_rfl,by kernel_rfl⟩
theorem H_9:Holds Tryz.prog 126 E_9:=
 Yi3 tabT mixT Q_9 F_9 rfl ⟨⟨H_8,_,_,Q_8⟩,trivial⟩ W_9 trivial
theorem K_10L2 (n:Nat) (x):C0 (n+1) x=Yfg C_10 B_10L2 (S_10L2 Aa) x (C0 n):=by
 obtain⟨_,_,_⟩:=x
 kernel_rfl
theorem F_10 (a):E_10.run a=Yir C_10 Tryz.f131 E_10.params E_10.results a λo r=>some (N_10 o r):=by
 kernel_rfl
theorem W_10:XU D_10= [B_10L2]:=by kernel_rfl
theorem Q_10:Qk Tryz.prog 131 Tryz.f131 D_10:=⟨Tryz.func131,by kernel_rfl,by kernel_rfl⟩
theorem H_10:Holds Tryz.prog 131 E_10:=
 Yi3 tabT mixT Q_10 F_10 rfl trivial W_10 ⟨Yi8 (L:=S_10L2 Aa) K_10L2 (i:=2) (by kernel_rfl),trivial⟩
theorem K_11L4 (n:Nat) (x):CY (n+1) x=Yfg C_11 B_11L4 (S_11L4 Aa) x (CY n):=by
 obtain⟨_,_,_⟩:=x
 kernel_rfl
theorem F_11 (a):E_11.run a=Yir C_11 Tryz.f123 E_11.params E_11.results a λo r=>some (N_11 o r):=by
 kernel_rfl
theorem W_11:XU D_11= [B_11L4]:=by kernel_rfl
theorem Q_11:Qk Tryz.prog 123 Tryz.f123 D_11:=⟨Tryz.func123,by kernel_rfl,by kernel_rfl⟩
theorem H_11:Holds Tryz.prog 123 E_11:=
 Yi3 tabT mixT Q_11 F_11 rfl trivial W_11 ⟨Yi8 (L:=S_11L4 Aa) K_11L4 (i:=4) (by kernel_rfl),trivial⟩
theorem K_12L2 (n:Nat) (x):Cz (n+1) x=Yfg C_12 B_12L2 (S_12L2 Aa) x (Cz n):=by
 obtain⟨_,_,_,_⟩:=x
 kernel_rfl
theorem F_12 (a):E_12.run a=Yir C_12 Tryz.f149 E_12.params E_12.results a λo r=>some (N_12 o r):=by
 kernel_rfl
theorem W_12:XU D_12= [B_12L2]:=by kernel_rfl
theorem Q_12:Qk Tryz.prog 149 Tryz.f149 D_12:=⟨Tryz.func149,by kernel_rfl,by kernel_rfl⟩
theorem H_12:Holds Tryz.prog 149 E_12:=
 Yi3 tabT mixT Q_12 F_12 rfl ⟨⟨H_11,_,_,Q_11⟩,⟨⟨H_10,_,_,Q_10⟩,trivial⟩⟩ W_12 ⟨Yi8 (L:=S_12L2 Aa) K_12L2 (i:=2) (by kernel_rfl),trivial⟩
theorem F_13 (a):E_13.run a=Yir C_13 Tryz.f115 E_13.params E_13.results a λo r=>some (N_13 o r):=by
 kernel_rfl
theorem W_13:XU D_13= []:=by kernel_rfl
theorem Q_13:Qk Tryz.prog 115 Tryz.f115 D_13:=⟨Tryz.func115,by kernel_rfl,by kernel_rfl⟩
theorem H_13:Holds Tryz.prog 115 E_13:=
 Yi3 tabT mixT Q_13 F_13 rfl ⟨⟨H_12,_,_,Q_12⟩,trivial⟩ W_13 trivial
theorem K_14L3 (n:Nat) (x):AB (n+1) x=Yfg C_14 B_14L3 (S_14L3 Aa) x (AB n):=by
 obtain⟨_,_,_,_⟩:=x
 kernel_rfl
theorem F_14 (a):E_14.run a=Yir C_14 Tryz.f128 E_14.params E_14.results a λo r=>some (N_14 o r):=by
 kernel_rfl
theorem W_14:XU D_14= [B_14L3]:=by kernel_rfl
theorem Q_14:Qk Tryz.prog 128 Tryz.f128 D_14:=⟨Tryz.func128,by kernel_rfl,by kernel_rfl⟩
theorem H_14:Holds Tryz.prog 128 E_14:=
 Yi3 tabT mixT Q_14 F_14 rfl ⟨⟨H_3,_,_,Q_3⟩,trivial⟩ W_14 ⟨Yi8 (L:=S_14L3 Aa) K_14L3 (i:=3) (by kernel_rfl),trivial⟩
theorem K_15L6 (n:Nat) (x):AN (n+1) x=Yfg C_15 B_15L6 (S_15L6 Aa) x (AN n):=by
 obtain⟨_,_,_,_,_⟩:=x
 kernel_rfl
theorem K_15L3 (n:Nat) (x):Bc (n+1) x=Yfg C_15 B_15L3 (S_15L3 Aa) x (Bc n):=by
 obtain⟨_,_,_,_⟩:=x
 kernel_rfl
theorem F_15 (a):E_15.run a=Yir C_15 Tryz.f127 E_15.params E_15.results a λo r=>some (N_15 o r):=by
 kernel_rfl
theorem W_15:XU D_15= [B_15L3,B_15L6]:=by kernel_rfl
theorem Q_15:Qk Tryz.prog 127 Tryz.f127 D_15:=⟨Tryz.func127,by kernel_rfl,by kernel_rfl⟩
theorem H_15:Holds Tryz.prog 127 E_15:=
 Yi3 tabT mixT Q_15 F_15 rfl trivial W_15 ⟨Yi8 (L:=S_15L3 Aa) K_15L3 (i:=3) (by kernel_rfl),⟨Yi8 (L:=S_15L6 Aa) K_15L6 (i:=6) (by kernel_rfl),trivial⟩⟩
theorem K_16L2 (n:Nat) (x):Cn (n+1) x=Yfg C_16 B_16L2 (S_16L2 Aa) x (Cn n):=by
 obtain⟨_,_,_⟩:=x
 kernel_rfl
theorem F_16 (a):E_16.run a=Yir C_16 Tryz.f78 E_16.params E_16.results a λo r=>some (N_16 o r):=by
 kernel_rfl
theorem W_16:XU D_16= [B_16L2]:=by kernel_rfl
theorem Q_16:Qk Tryz.prog 78 Tryz.f78 D_16:=⟨Tryz.func78,by kernel_rfl,by kernel_rfl⟩
theorem H_16:Holds Tryz.prog 78 E_16:=
 Yi3 tabT mixT Q_16 F_16 rfl trivial W_16 ⟨Yi8 (L:=S_16L2 Aa) K_16L2 (i:=2) (by kernel_rfl),trivial⟩
theorem K_17L3 (n:Nat) (x):CZ (n+1) x=Yfg C_17 B_17L3 (S_17L3 Aa) x (CZ n):=by
 obtain⟨_,_,_,_⟩:=x
 kernel_rfl
theorem F_17 (a):E_17.run a=Yir C_17 Tryz.f144 E_17.params E_17.results a λo r=>some (N_17 o r):=by
 kernel_rfl
theorem W_17:XU D_17= [B_17L3]:=by kernel_rfl
theorem Q_17:Qk Tryz.prog 144 Tryz.f144 D_17:=⟨Tryz.func144,by kernel_rfl,by kernel_rfl⟩
theorem H_17:Holds Tryz.prog 144 E_17:=
 Yi3 tabT mixT Q_17 F_17 rfl trivial W_17 ⟨Yi8 (L:=S_17L3 Aa) K_17L3 (i:=3) (by kernel_rfl),trivial⟩
theorem K_18L3 (n:Nat) (x):B8 (n+1) x=Yfg C_18 B_18L3 (S_18L3 Aa) x (B8 n):=by
 obtain⟨_,_,_,_,_⟩:=x
 kernel_rfl
theorem F_18 (a):E_18.run a=Yir C_18 Tryz.f129 E_18.params E_18.results a λo r=>some (N_18 o r):=by
 kernel_rfl
theorem W_18:XU D_18= [B_18L3]:=by kernel_rfl
theorem Q_18:Qk Tryz.prog 129 Tryz.f129 D_18:=⟨Tryz.func129,by kernel_rfl,by kernel_rfl⟩
theorem H_18:Holds Tryz.prog 129 E_18:=
 Yi3 tabT mixT Q_18 F_18 rfl ⟨⟨H_16,_,_,Q_16⟩,⟨⟨H_17,_,_,Q_17⟩,trivial⟩⟩ W_18 ⟨Yi8 (L:=S_18L3 Aa) K_18L3 (i:=3) (by kernel_rfl),trivial⟩
theorem F_19 (a):E_19.run a=Yir C_19 Tryz.f115 E_19.params E_19.results a λo r=>some (N_19 o r):=by
 kernel_rfl
theorem W_19:XU D_19= []:=by kernel_rfl
theorem Q_19:Qk Tryz.prog 115 Tryz.f115 D_19:=⟨Tryz.func115,by kernel_rfl,by kernel_rfl⟩
theorem H_19:Holds Tryz.prog 115 E_19:=
 Yi3 tabT mixT Q_19 F_19 rfl ⟨⟨H_12,_,_,Q_12⟩,trivial⟩ W_19 trivial
theorem K_20L9 (n:Nat) (x):Bf (n+1) x=Yfg C_20 B_20L9 (S_20L9 Aa) x (Bf n):=by
 obtain⟨_,_,_,_,_,_,_,_⟩:=x
 kernel_rfl
theorem K_20L5 (n:Nat) (x):Be (n+1) x=Yfg C_20 B_20L5 (S_20L5 Aa) x (Be n):=by
 obtain⟨_,_,_,_,_,_⟩:=x
 kernel_rfl
theorem F_20 (a):E_20.run a=Yir C_20 Tryz.f84 E_20.params E_20.results a λo r=>some (N_20 o r):=by
 kernel_rfl
theorem W_20:XU D_20= [B_20L5,B_20L9]:=by kernel_rfl
theorem Q_20:Qk Tryz.prog 84 Tryz.f84 D_20:=⟨Tryz.func84,by kernel_rfl,by kernel_rfl⟩
theorem H_20:Holds Tryz.prog 84 E_20:=
 Yi3 tabT mixT Q_20 F_20 rfl ⟨⟨H_4,_,_,Q_4⟩,⟨⟨H_3,_,_,Q_3⟩,⟨⟨H_7,_,_,Q_7⟩,⟨⟨H_8,_,_,Q_8⟩,⟨⟨H_19,_,_,Q_19⟩,⟨⟨H_9,_,_,Q_9⟩,⟨⟨H_15,_,_,Q_15⟩,⟨⟨H_14,_,_,Q_14⟩,⟨⟨H_18,_,_,Q_18⟩,trivial⟩⟩⟩⟩⟩⟩⟩⟩⟩ W_20 ⟨Yi8 (L:=S_20L5 Aa) K_20L5 (i:=5) (by kernel_rfl),⟨Yi8 (L:=S_20L9 Aa) K_20L9 (i:=9) (by kernel_rfl),trivial⟩⟩
theorem K_21L9 (n:Nat) (x):AP (n+1) x=Yfg C_21 B_21L9 (S_21L9 Aa) x (AP n):=by
 obtain⟨_,_,_,_,_,_,_⟩:=x
 kernel_rfl
theorem K_21L5 (n:Nat) (x):AO (n+1) x=Yfg C_21 B_21L5 (S_21L5 Aa) x (AO n):=by
 obtain⟨_,_,_,_,_⟩:=x
 kernel_rfl
theorem K_21L17 (n:Nat) (x):AZ (n+1) x=Yfg C_21 B_21L17 (S_21L17 Aa) x (AZ n):=by
 obtain⟨_,_,_,_⟩:=x
 kernel_rfl
theorem F_21 (a):E_21.run a=Yir C_21 Tryz.f83 E_21.params E_21.results a λo r=>some (N_21 o r):=by
 kernel_rfl
theorem W_21:XU D_21= [B_21L5,B_21L9,B_21L17]:=by kernel_rfl
theorem Q_21:Qk Tryz.prog 83 Tryz.f83 D_21:=⟨Tryz.func83,by kernel_rfl,by kernel_rfl⟩
theorem H_21:Holds Tryz.prog 83 E_21:=
 Yi3 tabT mixT Q_21 F_21 rfl ⟨⟨H_4,_,_,Q_4⟩,⟨⟨H_3,_,_,Q_3⟩,⟨⟨H_7,_,_,Q_7⟩,⟨⟨H_20,_,_,Q_20⟩,⟨⟨H_6,_,_,Q_6⟩,⟨⟨H_5,_,_,Q_5⟩,trivial⟩⟩⟩⟩⟩⟩ W_21 ⟨Yi8 (L:=S_21L5 Aa) K_21L5 (i:=5) (by kernel_rfl),⟨Yi8 (L:=S_21L9 Aa) K_21L9 (i:=9) (by kernel_rfl),⟨Yi8 (L:=S_21L17 Aa) K_21L17 (i:=17) (by kernel_rfl),trivial⟩⟩⟩
theorem F_22 (a):E_22.run a=Yir C_22 Tryz.f85 E_22.params E_22.results a λo r=>some (N_22 o r):=by
 kernel_rfl
theorem W_22:XU D_22= []:=by kernel_rfl
theorem Q_22:Qk Tryz.prog 85 Tryz.f85 D_22:=⟨Tryz.func85,by kernel_rfl,by kernel_rfl⟩
theorem H_22:Holds Tryz.prog 85 E_22:=
 Yi3 tabT mixT Q_22 F_22 rfl trivial W_22 trivial
theorem K_23L11 (n:Nat) (x):Aw (n+1) x=Yfg C_23 B_23L11 (S_23L11 Aa) x (Aw n):=by
 obtain⟨_,_,_,_,_,_,_,_,_⟩:=x
 kernel_rfl
theorem K_23L4 (n:Nat) (x):AA (n+1) x=Yfg C_23 B_23L4 (S_23L4 Aa) x (AA n):=by
 obtain⟨_,_,_,_,_,_⟩:=x
 kernel_rfl
theorem K_23L23 (n:Nat) (x):Bd (n+1) x=Yfg C_23 B_23L23 (S_23L23 Aa) x (Bd n):=by
 obtain⟨_,_,_,_⟩:=x
 kernel_rfl
theorem F_23 (a):E_23.run a=Yir C_23 Tryz.f31 E_23.params E_23.results a λo r=>some (N_23 o r):=by
 kernel_rfl
theorem W_23:XU D_23= [B_23L4,B_23L11,B_23L23]:=by kernel_rfl
theorem Q_23:Qk Tryz.prog 31 Tryz.f31 D_23:=⟨Tryz.func31,by kernel_rfl,by kernel_rfl⟩
theorem H_23:Holds Tryz.prog 31 E_23:=
 Yi3 tabT mixT Q_23 F_23 rfl ⟨⟨H_4,_,_,Q_4⟩,⟨⟨H_3,_,_,Q_3⟩,⟨⟨H_7,_,_,Q_7⟩,⟨⟨H_21,_,_,Q_21⟩,⟨⟨H_20,_,_,Q_20⟩,⟨⟨H_22,_,_,Q_22⟩,trivial⟩⟩⟩⟩⟩⟩ W_23 ⟨Yi8 (L:=S_23L4 Aa) K_23L4 (i:=4) (by kernel_rfl),⟨Yi8 (L:=S_23L11 Aa) K_23L11 (i:=11) (by kernel_rfl),⟨Yi8 (L:=S_23L23 Aa) K_23L23 (i:=23) (by kernel_rfl),trivial⟩⟩⟩
theorem F_24 (a):E_24.run a=Yir C_24 Tryz.f60 E_24.params E_24.results a λo r=>some (N_24 o r):=by
 kernel_rfl
theorem W_24:XU D_24= []:=by kernel_rfl
theorem Q_24:Qk Tryz.prog 60 Tryz.f60 D_24:=⟨Tryz.func60,by kernel_rfl,by kernel_rfl⟩
theorem H_24:Holds Tryz.prog 60 E_24:=
 Yi3 tabT mixT Q_24 F_24 rfl ⟨⟨H_23,_,_,Q_23⟩,trivial⟩ W_24 trivial
theorem F_25 (a):E_25.run a=Yir C_25 Tryz.f22 E_25.params E_25.results a λo r=>some (N_25 o r):=by
 kernel_rfl
theorem W_25:XU D_25= []:=by kernel_rfl
theorem Q_25:Qk Tryz.prog 22 Tryz.f22 D_25:=⟨Tryz.func22,by kernel_rfl,by kernel_rfl⟩
theorem H_25:Holds Tryz.prog 22 E_25:=
 Yi3 tabT mixT Q_25 F_25 rfl ⟨⟨H_24,_,_,Q_24⟩,trivial⟩ W_25 trivial
theorem F_26 (a):E_26.run a=Yir C_26 Tryz.f44 E_26.params E_26.results a λo r=>some (N_26 o r):=by
 kernel_rfl
theorem W_26:XU D_26= []:=by kernel_rfl
theorem Q_26:Qk Tryz.prog 44 Tryz.f44 D_26:=⟨Tryz.func44,by kernel_rfl,by kernel_rfl⟩
theorem H_26:Holds Tryz.prog 44 E_26:=
 Yi3 tabT mixT Q_26 F_26 rfl trivial W_26 trivial
theorem K_27L2 (n:Nat) (x):CV (n+1) x=Yfg C_27 B_27L2 (S_27L2 Aa) x (CV n):=by
 obtain⟨_,_,_,_⟩:=x
 kernel_rfl
theorem F_27 (a):E_27.run a=Yir C_27 Tryz.f89 E_27.params E_27.results a λo r=>some (N_27 o r):=by
 kernel_rfl
theorem W_27:XU D_27= [B_27L2]:=by kernel_rfl
theorem Q_27:Qk Tryz.prog 89 Tryz.f89 D_27:=⟨Tryz.func89,by kernel_rfl,by kernel_rfl⟩
theorem H_27:Holds Tryz.prog 89 E_27:=
 Yi3 tabT mixT Q_27 F_27 rfl trivial W_27 ⟨Yi8 (L:=S_27L2 Aa) K_27L2 (i:=2) (by kernel_rfl),trivial⟩
theorem K_28L2 (n:Nat) (x):Bs (n+1) x=Yfg C_28 B_28L2 (S_28L2 Aa) x (Bs n):=by
 obtain⟨_,_,_⟩:=x
 kernel_rfl
theorem F_28 (a):E_28.run a=Yir C_28 Tryz.f135 E_28.params E_28.results a λo r=>some (N_28 o r):=by
 kernel_rfl
theorem W_28:XU D_28= [B_28L2]:=by kernel_rfl
theorem Q_28:Qk Tryz.prog 135 Tryz.f135 D_28:=⟨Tryz.func135,by kernel_rfl,by kernel_rfl⟩
theorem H_28:Holds Tryz.prog 135 E_28:=
 Yi3 tabT mixT Q_28 F_28 rfl trivial W_28 ⟨Yi8 (L:=S_28L2 Aa) K_28L2 (i:=2) (by kernel_rfl),trivial⟩
theorem K_29L4 (n:Nat) (x):BB (n+1) x=Yfg C_29 B_29L4 (S_29L4 Aa) x (BB n):=by
 obtain⟨_,_,_,_,_⟩:=x
 kernel_rfl
theorem F_29 (a):E_29.run a=Yir C_29 Tryz.f97 E_29.params E_29.results a λo r=>some (N_29 o r):=by
 kernel_rfl
theorem W_29:XU D_29= [B_29L4]:=by kernel_rfl
theorem Q_29:Qk Tryz.prog 97 Tryz.f97 D_29:=⟨Tryz.func97,by kernel_rfl,by kernel_rfl⟩
theorem H_29:Holds Tryz.prog 97 E_29:=
 Yi3 tabT mixT Q_29 F_29 rfl ⟨⟨H_27,_,_,Q_27⟩,⟨⟨H_28,_,_,Q_28⟩,trivial⟩⟩ W_29 ⟨Yi8 (L:=S_29L4 Aa) K_29L4 (i:=4) (by kernel_rfl),trivial⟩
theorem F_30 (a):E_30.run a=Yir C_30 Tryz.f45 E_30.params E_30.results a λo r=>some (N_30 o r):=by
 kernel_rfl
theorem W_30:XU D_30= []:=by kernel_rfl
theorem Q_30:Qk Tryz.prog 45 Tryz.f45 D_30:=⟨Tryz.func45,by kernel_rfl,by kernel_rfl⟩
theorem H_30:Holds Tryz.prog 45 E_30:=
 Yi3 tabT mixT Q_30 F_30 rfl ⟨⟨H_27,_,_,Q_27⟩,⟨⟨H_29,_,_,Q_29⟩,trivial⟩⟩ W_30 trivial
theorem K_31L4 (n:Nat) (x):Ci (n+1) x=Yfg C_31 B_31L4 (S_31L4 Aa) x (Ci n):=by
 obtain⟨_,_,_,_⟩:=x
 kernel_rfl
theorem F_31 (a):E_31.run a=Yir C_31 Tryz.f11 E_31.params E_31.results a λo r=>some (N_31 o r):=by
 kernel_rfl
theorem W_31:XU D_31= [B_31L4]:=by kernel_rfl
theorem Q_31:Qk Tryz.prog 11 Tryz.f11 D_31:=⟨Tryz.func11,by kernel_rfl,by kernel_rfl⟩
theorem H_31:Holds Tryz.prog 11 E_31:=
 Yi3 tabT mixT Q_31 F_31 rfl ⟨⟨H_26,_,_,Q_26⟩,⟨⟨H_30,_,_,Q_30⟩,trivial⟩⟩ W_31 ⟨Yi8 (L:=S_31L4 Aa) K_31L4 (i:=4) (by kernel_rfl),trivial⟩
theorem K_32L3 (n:Nat) (x):CJ (n+1) x=Yfg C_32 B_32L3 (S_32L3 Aa) x (CJ n):=by
 obtain⟨_,_,_,_⟩:=x
 kernel_rfl
theorem F_32 (a):E_32.run a=Yir C_32 Tryz.f138 E_32.params E_32.results a λo r=>some (N_32 o r):=by
 kernel_rfl
theorem W_32:XU D_32= [B_32L3]:=by kernel_rfl
theorem Q_32:Qk Tryz.prog 138 Tryz.f138 D_32:=⟨Tryz.func138,by kernel_rfl,by kernel_rfl⟩
theorem H_32:Holds Tryz.prog 138 E_32:=
 Yi3 tabT mixT Q_32 F_32 rfl trivial W_32 ⟨Yi8 (L:=S_32L3 Aa) K_32L3 (i:=3) (by kernel_rfl),trivial⟩
theorem K_33L3 (n:Nat) (x):Ct (n+1) x=Yfg C_33 B_33L3 (S_33L3 Aa) x (Ct n):=by
 obtain⟨_,_,_,_⟩:=x
 kernel_rfl
theorem F_33 (a):E_33.run a=Yir C_33 Tryz.f136 E_33.params E_33.results a λo r=>some (N_33 o r):=by
 kernel_rfl
theorem W_33:XU D_33= [B_33L3]:=by kernel_rfl
theorem Q_33:Qk Tryz.prog 136 Tryz.f136 D_33:=⟨Tryz.func136,by kernel_rfl,by kernel_rfl⟩
theorem H_33:Holds Tryz.prog 136 E_33:=
 Yi3 tabT mixT Q_33 F_33 rfl ⟨⟨H_32,_,_,Q_32⟩,trivial⟩ W_33 ⟨Yi8 (L:=S_33L3 Aa) K_33L3 (i:=3) (by kernel_rfl),trivial⟩
theorem K_34L7 (n:Nat) (x):Bu (n+1) x=Yfg C_34 B_34L7 (S_34L7 Aa) x (Bu n):=by
 obtain⟨_,_,_,_,_,_,_,_,_⟩:=x
 kernel_rfl
theorem K_34L3 (n:Nat) (x):Bt (n+1) x=Yfg C_34 B_34L3 (S_34L3 Aa) x (Bt n):=by
 obtain⟨_,_,_,_⟩:=x
 kernel_rfl
theorem F_34 (a):E_34.run a=Yir C_34 Tryz.f117 E_34.params E_34.results a λo r=>some (N_34 o r):=by
 kernel_rfl
theorem W_34:XU D_34= [B_34L3,B_34L7]:=by kernel_rfl
theorem Q_34:Qk Tryz.prog 117 Tryz.f117 D_34:=⟨Tryz.func117,by kernel_rfl,by kernel_rfl⟩
theorem H_34:Holds Tryz.prog 117 E_34:=
 Yi3 tabT mixT Q_34 F_34 rfl ⟨⟨H_33,_,_,Q_33⟩,trivial⟩ W_34 ⟨Yi8 (L:=S_34L3 Aa) K_34L3 (i:=3) (by kernel_rfl),⟨Yi8 (L:=S_34L7 Aa) K_34L7 (i:=7) (by kernel_rfl),trivial⟩⟩
theorem K_35L3 (n:Nat) (x):BL (n+1) x=Yfg C_35 B_35L3 (S_35L3 Aa) x (BL n):=by
 obtain⟨_,_,_⟩:=x
 kernel_rfl
theorem F_35 (a):E_35.run a=Yir C_35 Tryz.f75 E_35.params E_35.results a λo r=>some (N_35 o r):=by
 kernel_rfl
theorem W_35:XU D_35= [B_35L3]:=by kernel_rfl
theorem Q_35:Qk Tryz.prog 75 Tryz.f75 D_35:=⟨Tryz.func75,by kernel_rfl,by kernel_rfl⟩
theorem H_35:Holds Tryz.prog 75 E_35:=
 Yi3 tabT mixT Q_35 F_35 rfl trivial W_35 ⟨Yi8 (L:=S_35L3 Aa) K_35L3 (i:=3) (by kernel_rfl),trivial⟩
theorem F_36 (a):E_36.run a=Yir C_36 Tryz.f70 E_36.params E_36.results a λo r=>some (N_36 o r):=by
 kernel_rfl
theorem W_36:XU D_36= []:=by kernel_rfl
theorem Q_36:Qk Tryz.prog 70 Tryz.f70 D_36:=⟨Tryz.func70,by kernel_rfl,by kernel_rfl⟩
theorem H_36:Holds Tryz.prog 70 E_36:=
 Yi3 tabT mixT Q_36 F_36 rfl trivial W_36 trivial
theorem F_37 (a):E_37.run a=Yir C_37 Tryz.f69 E_37.params E_37.results a λo r=>some (N_37 o r):=by
 kernel_rfl
theorem W_37:XU D_37= []:=by kernel_rfl
theorem Q_37:Qk Tryz.prog 69 Tryz.f69 D_37:=⟨Tryz.func69,by kernel_rfl,by kernel_rfl⟩
theorem H_37:Holds Tryz.prog 69 E_37:=
 Yi3 tabT mixT Q_37 F_37 rfl ⟨⟨H_36,_,_,Q_36⟩,trivial⟩ W_37 trivial
theorem K_38L3 (n:Nat) (x):CE (n+1) x=Yfg C_38 B_38L3 (S_38L3 Aa) x (CE n):=by
 obtain⟨_,_,_,_,_⟩:=x
 kernel_rfl
theorem F_38 (a):E_38.run a=Yir C_38 Tryz.f110 E_38.params E_38.results a λo r=>some (N_38 o r):=by
 kernel_rfl
theorem W_38:XU D_38= [B_38L3]:=by kernel_rfl
theorem Q_38:Qk Tryz.prog 110 Tryz.f110 D_38:=⟨Tryz.func110,by kernel_rfl,by kernel_rfl⟩
theorem H_38:Holds Tryz.prog 110 E_38:=
 Yi3 tabT mixT Q_38 F_38 rfl trivial W_38 ⟨Yi8 (L:=S_38L3 Aa) K_38L3 (i:=3) (by kernel_rfl),trivial⟩
theorem K_39L10 (rec:(Int×(List Int)×(List (List Int))×(Bool×Int×(List (List (List Int)))×(List (List (List ByteArray))))×(List Int)×Unit)->Option ((List Int)×(List (List Int))×(Bool×Int×(List (List (List Int)))×(List (List (List ByteArray))))×(List Int)×Bool)) (n:Nat) (x):Al rec (n+1) x=Yfg (C_39 rec) B_39L10 (S_39L10 rec Aa) x (Al rec n):=by
 obtain⟨_,_,_,_,_,_,_,_,_,_,_⟩:=x
 kernel_rfl
theorem K_39L4 (rec:(Int×(List Int)×(List (List Int))×(Bool×Int×(List (List (List Int)))×(List (List (List ByteArray))))×(List Int)×Unit)->Option ((List Int)×(List (List Int))×(Bool×Int×(List (List (List Int)))×(List (List (List ByteArray))))×(List Int)×Bool)) (n:Nat) (x):Ag rec (n+1) x=Yfg (C_39 rec) B_39L4 (S_39L4 rec Aa) x (Ag rec n):=by
 obtain⟨_,_,_,_,_,_,_⟩:=x
 kernel_rfl
theorem F_39 (rec:(Int×(List Int)×(List (List Int))×(Bool×Int×(List (List (List Int)))×(List (List (List ByteArray))))×(List Int)×Unit)->Option ((List Int)×(List (List Int))×(Bool×Int×(List (List (List Int)))×(List (List (List ByteArray))))×(List Int)×Bool)) (a:YH [.v .int,.bx (.mv .int 0),.bx (.mv y1 1),.bx (.v (.ptr y3)),.bx (.v y1),.jk 1]):Bg rec a.1 a.2.1 a.2.2.1 a.2.2.2.1 a.2.2.2.2.1 a.2.2.2.2.2=Yir (C_39 rec) Tryz.f150 [.v .int,.bx (.mv .int 0),.bx (.mv y1 1),.bx (.v (.ptr y3)),.bx (.v y1),.jk 1] [.v .bool] a (λo r=>some (N_39 o r)):=by
 kernel_rfl
theorem W_39:XU D_39= [B_39L4,B_39L10]:=by kernel_rfl
theorem R_39L10:YZ B_39L10=10:=by kernel_rfl
theorem R_39L4:YZ B_39L4=4:=by kernel_rfl
theorem Q_39:Qk Tryz.prog 150 Tryz.f150 D_39:=⟨Tryz.func150,by kernel_rfl,by kernel_rfl⟩
theorem H_39: ∀d,Holds Tryz.prog 150 (E_39 d)
 |0=>λ_ b h=>absurd (show(none:Option _)=some b from h) (by simp)
 |d+1=>YgE (en:=E_39 (d+1)) (cx:=(C_39 (An d))) (Yhe tabT rfl).1 (Yfz ⟨⟨H_37,_,_,Q_37⟩,⟨⟨H_38,_,_,Q_38⟩,⟨⟨H_32,_,_,Q_32⟩,⟨⟨H_39 d,_,_,Q_39⟩,trivial⟩⟩⟩⟩) mixT Q_39.1 Q_39.2.2 (YgL W_39 ⟨YhE (cx:=(C_39 (An d))) (L:=S_39L4 (An d) Aa) rfl (by rw[R_39L4];rfl) ⟨Ag (An d),λ_=>rfl,λn x=>K_39L4 (An d) n x,Aa,λ_=>rfl⟩,⟨YhE (cx:=(C_39 (An d))) (L:=S_39L10 (An d) Aa) rfl (by rw[R_39L10];rfl) ⟨Al (An d),λ_=>rfl,λn x=>K_39L10 (An d) n x,Aa,λ_=>rfl⟩,trivial⟩⟩) (enc:=N_39) (λ_ _=>⟨rfl,rfl⟩) (F_39 (An d)) rfl
theorem F_40 (a):E_40.run a=Yir C_40 Tryz.f118 E_40.params E_40.results a λo r=>some (N_40 o r):=by
 kernel_rfl
theorem W_40:XU D_40= []:=by kernel_rfl
theorem Q_40:Qk Tryz.prog 118 Tryz.f118 D_40:=⟨Tryz.func118,by kernel_rfl,by kernel_rfl⟩
theorem H_40:Holds Tryz.prog 118 E_40:=
 Yi3 tabT mixT Q_40 F_40 rfl ⟨⟨H_39 Aa,_,_,Q_39⟩,trivial⟩ W_40 trivial
theorem F_41 (a):E_41.run a=Yir C_41 Tryz.f68 E_41.params E_41.results a λo r=>some (N_41 o r):=by
 kernel_rfl
theorem W_41:XU D_41= []:=by kernel_rfl
theorem Q_41:Qk Tryz.prog 68 Tryz.f68 D_41:=⟨Tryz.func68,by kernel_rfl,by kernel_rfl⟩
theorem H_41:Holds Tryz.prog 68 E_41:=
 Yi3 tabT mixT Q_41 F_41 rfl ⟨⟨H_35,_,_,Q_35⟩,⟨⟨H_34,_,_,Q_34⟩,⟨⟨H_40,_,_,Q_40⟩,trivial⟩⟩⟩ W_41 trivial
theorem F_42 (a):E_42.run a=Yir C_42 Tryz.f23 E_42.params E_42.results a λo r=>some (N_42 o r):=by
 kernel_rfl
theorem W_42:XU D_42= []:=by kernel_rfl
theorem Q_42:Qk Tryz.prog 23 Tryz.f23 D_42:=⟨Tryz.func23,by kernel_rfl,by kernel_rfl⟩
theorem H_42:Holds Tryz.prog 23 E_42:=
 Yi3 tabT mixT Q_42 F_42 rfl ⟨⟨H_31,_,_,Q_31⟩,⟨⟨H_41,_,_,Q_41⟩,trivial⟩⟩ W_42 trivial
theorem K_43L2 (n:Nat) (x):B6 (n+1) x=Yfg C_43 B_43L2 (S_43L2 Aa) x (B6 n):=by
 obtain⟨_,_,_⟩:=x
 kernel_rfl
theorem F_43 (a):E_43.run a=Yir C_43 Tryz.f133 E_43.params E_43.results a λo r=>some (N_43 o r):=by
 kernel_rfl
theorem W_43:XU D_43= [B_43L2]:=by kernel_rfl
theorem Q_43:Qk Tryz.prog 133 Tryz.f133 D_43:=⟨Tryz.func133,by kernel_rfl,by kernel_rfl⟩
theorem H_43:Holds Tryz.prog 133 E_43:=
 Yi3 tabT mixT Q_43 F_43 rfl ⟨⟨H_8,_,_,Q_8⟩,trivial⟩ W_43 ⟨Yi8 (L:=S_43L2 Aa) K_43L2 (i:=2) (by kernel_rfl),trivial⟩
theorem F_44 (a):E_44.run a=Yir C_44 Tryz.f130 E_44.params E_44.results a λo r=>some (N_44 o r):=by
 kernel_rfl
theorem W_44:XU D_44= []:=by kernel_rfl
theorem Q_44:Qk Tryz.prog 130 Tryz.f130 D_44:=⟨Tryz.func130,by kernel_rfl,by kernel_rfl⟩
theorem H_44:Holds Tryz.prog 130 E_44:=
 Yi3 tabT mixT Q_44 F_44 rfl ⟨⟨H_43,_,_,Q_43⟩,trivial⟩ W_44 trivial
theorem K_45L4 (n:Nat) (x):B9 (n+1) x=Yfg C_45 B_45L4 (S_45L4 Aa) x (B9 n):=by
 obtain⟨_,_,_⟩:=x
 kernel_rfl
theorem F_45 (a):E_45.run a=Yir C_45 Tryz.f87 E_45.params E_45.results a λo r=>some (N_45 o r):=by
 kernel_rfl
theorem W_45:XU D_45= [B_45L4]:=by kernel_rfl
theorem Q_45:Qk Tryz.prog 87 Tryz.f87 D_45:=⟨Tryz.func87,by kernel_rfl,by kernel_rfl⟩
theorem H_45:Holds Tryz.prog 87 E_45:=
 Yi3 tabT mixT Q_45 F_45 rfl ⟨⟨H_16,_,_,Q_16⟩,⟨⟨H_8,_,_,Q_8⟩,⟨⟨H_44,_,_,Q_44⟩,⟨⟨H_10,_,_,Q_10⟩,trivial⟩⟩⟩⟩ W_45 ⟨Yi8 (L:=S_45L4 Aa) K_45L4 (i:=4) (by kernel_rfl),trivial⟩
theorem F_46 (a):E_46.run a=Yir C_46 Tryz.f93 E_46.params E_46.results a λo r=>some (N_46 o r):=by
 kernel_rfl
theorem W_46:XU D_46= []:=by kernel_rfl
theorem Q_46:Qk Tryz.prog 93 Tryz.f93 D_46:=⟨Tryz.func93,by kernel_rfl,by kernel_rfl⟩
theorem H_46:Holds Tryz.prog 93 E_46:=
 Yi3 tabT mixT Q_46 F_46 rfl ⟨⟨H_45,_,_,Q_45⟩,⟨⟨H_43,_,_,Q_43⟩,trivial⟩⟩ W_46 trivial
theorem K_47L4 (n:Nat) (x):CH (n+1) x=Yfg C_47 B_47L4 (S_47L4 Aa) x (CH n):=by
 obtain⟨_,_⟩:=x
 kernel_rfl
theorem F_47 (a):E_47.run a=Yir C_47 Tryz.f40 E_47.params E_47.results a λo r=>some (N_47 o r):=by
 kernel_rfl
theorem W_47:XU D_47= [B_47L4]:=by kernel_rfl
theorem Q_47:Qk Tryz.prog 40 Tryz.f40 D_47:=⟨Tryz.func40,by kernel_rfl,by kernel_rfl⟩
theorem H_47:Holds Tryz.prog 40 E_47:=
 Yi3 tabT mixT Q_47 F_47 rfl ⟨⟨H_8,_,_,Q_8⟩,⟨⟨H_46,_,_,Q_46⟩,trivial⟩⟩ W_47 ⟨Yi8 (L:=S_47L4 Aa) K_47L4 (i:=4) (by kernel_rfl),trivial⟩
theorem K_48L3 (n:Nat) (x):Ca (n+1) x=Yfg C_48 B_48L3 (S_48L3 Aa) x (Ca n):=by
 obtain⟨_,_,_⟩:=x
 kernel_rfl
theorem F_48 (a):E_48.run a=Yir C_48 Tryz.f72 E_48.params E_48.results a λo r=>some (N_48 o r):=by
 kernel_rfl
theorem W_48:XU D_48= [B_48L3]:=by kernel_rfl
theorem Q_48:Qk Tryz.prog 72 Tryz.f72 D_48:=⟨Tryz.func72,by kernel_rfl,by kernel_rfl⟩
theorem H_48:Holds Tryz.prog 72 E_48:=
 Yi3 tabT mixT Q_48 F_48 rfl trivial W_48 ⟨Yi8 (L:=S_48L3 Aa) K_48L3 (i:=3) (by kernel_rfl),trivial⟩
theorem K_49L7 (n:Nat) (x):Ce (n+1) x=Yfg C_49 B_49L7 (S_49L7 Aa) x (Ce n):=by
 obtain⟨_,_,_,_,_⟩:=x
 kernel_rfl
theorem K_49L3 (n:Nat) (x):Cd (n+1) x=Yfg C_49 B_49L3 (S_49L3 Aa) x (Cd n):=by
 obtain⟨_,_,_⟩:=x
 kernel_rfl
theorem F_49 (a):E_49.run a=Yir C_49 Tryz.f121 E_49.params E_49.results a λo r=>some (N_49 o r):=by
 kernel_rfl
theorem W_49:XU D_49= [B_49L3,B_49L7]:=by kernel_rfl
theorem Q_49:Qk Tryz.prog 121 Tryz.f121 D_49:=⟨Tryz.func121,by kernel_rfl,by kernel_rfl⟩
theorem H_49:Holds Tryz.prog 121 E_49:=
 Yi3 tabT mixT Q_49 F_49 rfl ⟨⟨H_22,_,_,Q_22⟩,trivial⟩ W_49 ⟨Yi8 (L:=S_49L3 Aa) K_49L3 (i:=3) (by kernel_rfl),⟨Yi8 (L:=S_49L7 Aa) K_49L7 (i:=7) (by kernel_rfl),trivial⟩⟩
theorem F_50 (a):E_50.run a=Yir C_50 Tryz.f155 E_50.params E_50.results a λo r=>some (N_50 o r):=by
 kernel_rfl
theorem W_50:XU D_50= []:=by kernel_rfl
theorem Q_50:Qk Tryz.prog 155 Tryz.f155 D_50:=⟨Tryz.func155,by kernel_rfl,by kernel_rfl⟩
theorem H_50:Holds Tryz.prog 155 E_50:=
 Yi3 tabT mixT Q_50 F_50 rfl ⟨⟨H_12,_,_,Q_12⟩,trivial⟩ W_50 trivial
theorem K_51L3 (n:Nat) (x):BI (n+1) x=Yfg C_51 B_51L3 (S_51L3 Aa) x (BI n):=by
 obtain⟨_,_,_,_⟩:=x
 kernel_rfl
theorem F_51 (a):E_51.run a=Yir C_51 Tryz.f151 E_51.params E_51.results a λo r=>some (N_51 o r):=by
 kernel_rfl
theorem W_51:XU D_51= [B_51L3]:=by kernel_rfl
theorem Q_51:Qk Tryz.prog 151 Tryz.f151 D_51:=⟨Tryz.func151,by kernel_rfl,by kernel_rfl⟩
theorem H_51:Holds Tryz.prog 151 E_51:=
 Yi3 tabT mixT Q_51 F_51 rfl ⟨⟨H_50,_,_,Q_50⟩,trivial⟩ W_51 ⟨Yi8 (L:=S_51L3 Aa) K_51L3 (i:=3) (by kernel_rfl),trivial⟩
theorem K_52L14 (rec:(Int×(List (List ((List Int)×Int×(List (List Int)))))×(List Int)×(List Int)×((List (List Int))×(Int×Int×Bool)))->Option (((List (List Int))×(Int×Int×Bool)))) (n:Nat) (x):AI rec (n+1) x=Yfg (C_52 rec) B_52L14 (S_52L14 rec Aa) x (AI rec n):=by
 obtain⟨_,_,_,_,_,_,_,_,_,_,_⟩:=x
 kernel_rfl
theorem K_52L8 (rec:(Int×(List (List ((List Int)×Int×(List (List Int)))))×(List Int)×(List Int)×((List (List Int))×(Int×Int×Bool)))->Option (((List (List Int))×(Int×Int×Bool)))) (n:Nat) (x):Ao rec (n+1) x=Yfg (C_52 rec) B_52L8 (S_52L8 rec Aa) x (Ao rec n):=by
 obtain⟨_,_,_,_,_,_,_,_⟩:=x
 kernel_rfl
theorem F_52 (rec:(Int×(List (List ((List Int)×Int×(List (List Int)))))×(List Int)×(List Int)×((List (List Int))×(Int×Int×Bool)))->Option (((List (List Int))×(Int×Int×Bool)))) (a:YH [.v .int,.v y15,.v y1,.v y1,.pr (.mv y1 1) (.v y8)]):DS rec a.1 a.2.1 a.2.2.1 a.2.2.2.1 a.2.2.2.2=Yir (C_52 rec) Tryz.f120 [.v .int,.v y15,.v y1,.v y1,.pr (.mv y1 1) (.v y8)] [.pr (.mv y1 1) (.v y8)] a (λo r=>some (N_52 o r)):=by
 kernel_rfl
theorem W_52:XU D_52= [B_52L8,B_52L14]:=by kernel_rfl
theorem R_52L14:YZ B_52L14=14:=by kernel_rfl
theorem R_52L8:YZ B_52L8=8:=by kernel_rfl
theorem Q_52:Qk Tryz.prog 120 Tryz.f120 D_52:=⟨Tryz.func120,by kernel_rfl,by kernel_rfl⟩
theorem H_52: ∀d,Holds Tryz.prog 120 (E_52 d)
 |0=>λ_ b h=>absurd (show(none:Option _)=some b from h) (by simp)
 |d+1=>YgE (en:=E_52 (d+1)) (cx:=(C_52 (Av d))) (Yhe tabT rfl).1 (Yfz ⟨⟨H_6,_,_,Q_6⟩,⟨⟨H_52 d,_,_,Q_52⟩,⟨⟨H_51,_,_,Q_51⟩,trivial⟩⟩⟩) mixT Q_52.1 Q_52.2.2 (YgL W_52 ⟨YhE (cx:=(C_52 (Av d))) (L:=S_52L8 (Av d) Aa) rfl (by rw[R_52L8];rfl) ⟨Ao (Av d),λ_=>rfl,λn x=>K_52L8 (Av d) n x,Aa,λ_=>rfl⟩,⟨YhE (cx:=(C_52 (Av d))) (L:=S_52L14 (Av d) Aa) rfl (by rw[R_52L14];rfl) ⟨AI (Av d),λ_=>rfl,λn x=>K_52L14 (Av d) n x,Aa,λ_=>rfl⟩,trivial⟩⟩) (enc:=N_52) (λ_ _=>⟨rfl,rfl⟩) (F_52 (Av d)) rfl
theorem F_53 (a):E_53.run a=Yir C_53 Tryz.f71 E_53.params E_53.results a λo r=>some (N_53 o r):=by
 kernel_rfl
theorem W_53:XU D_53= []:=by kernel_rfl
theorem Q_53:Qk Tryz.prog 71 Tryz.f71 D_53:=⟨Tryz.func71,by kernel_rfl,by kernel_rfl⟩
theorem H_53:Holds Tryz.prog 71 E_53:=
 Yi3 tabT mixT Q_53 F_53 rfl ⟨⟨H_52 Aa,_,_,Q_52⟩,⟨⟨H_49,_,_,Q_49⟩,trivial⟩⟩ W_53 trivial
theorem F_54 (a):E_54.run a=Yir C_54 Tryz.f24 E_54.params E_54.results a λo r=>some (N_54 o r):=by
 kernel_rfl
theorem W_54:XU D_54= []:=by kernel_rfl
theorem Q_54:Qk Tryz.prog 24 Tryz.f24 D_54:=⟨Tryz.func24,by kernel_rfl,by kernel_rfl⟩
theorem H_54:Holds Tryz.prog 24 E_54:=
 Yi3 tabT mixT Q_54 F_54 rfl ⟨⟨H_47,_,_,Q_47⟩,⟨⟨H_53,_,_,Q_53⟩,⟨⟨H_48,_,_,Q_48⟩,trivial⟩⟩⟩ W_54 trivial
theorem K_55L4 (n:Nat) (x):CK (n+1) x=Yfg C_55 B_55L4 (S_55L4 Aa) x (CK n):=by
 obtain⟨_,_,_⟩:=x
 kernel_rfl
theorem F_55 (a):E_55.run a=Yir C_55 Tryz.f9 E_55.params E_55.results a λo r=>some (N_55 o r):=by
 kernel_rfl
theorem W_55:XU D_55= [B_55L4]:=by kernel_rfl
theorem Q_55:Qk Tryz.prog 9 Tryz.f9 D_55:=⟨Tryz.func9,by kernel_rfl,by kernel_rfl⟩
theorem H_55:Holds Tryz.prog 9 E_55:=
 Yi3 tabT mixT Q_55 F_55 rfl trivial W_55 ⟨Yi8 (L:=S_55L4 Aa) K_55L4 (i:=4) (by kernel_rfl),trivial⟩
theorem K_56L4 (n:Nat) (x):Cu (n+1) x=Yfg C_56 B_56L4 (S_56L4 Aa) x (Cu n):=by
 obtain⟨_,_,_⟩:=x
 kernel_rfl
theorem F_56 (a):E_56.run a=Yir C_56 Tryz.f10 E_56.params E_56.results a λo r=>some (N_56 o r):=by
 kernel_rfl
theorem W_56:XU D_56= [B_56L4]:=by kernel_rfl
theorem Q_56:Qk Tryz.prog 10 Tryz.f10 D_56:=⟨Tryz.func10,by kernel_rfl,by kernel_rfl⟩
theorem H_56:Holds Tryz.prog 10 E_56:=
 Yi3 tabT mixT Q_56 F_56 rfl ⟨⟨H_55,_,_,Q_55⟩,trivial⟩ W_56 ⟨Yi8 (L:=S_56L4 Aa) K_56L4 (i:=4) (by kernel_rfl),trivial⟩
theorem K_57L4 (n:Nat) (x):B4 (n+1) x=Yfg C_57 B_57L4 (S_57L4 Aa) x (B4 n):=by
 obtain⟨_,_,_,_⟩:=x
 kernel_rfl
theorem F_57 (a):E_57.run a=Yir C_57 Tryz.f98 E_57.params E_57.results a λo r=>some (N_57 o r):=by
 kernel_rfl
theorem W_57:XU D_57= [B_57L4]:=by kernel_rfl
theorem Q_57:Qk Tryz.prog 98 Tryz.f98 D_57:=⟨Tryz.func98,by kernel_rfl,by kernel_rfl⟩
theorem H_57:Holds Tryz.prog 98 E_57:=
 Yi3 tabT mixT Q_57 F_57 rfl ⟨⟨H_29,_,_,Q_29⟩,trivial⟩ W_57 ⟨Yi8 (L:=S_57L4 Aa) K_57L4 (i:=4) (by kernel_rfl),trivial⟩
theorem K_58L4 (n:Nat) (x):Cr (n+1) x=Yfg C_58 B_58L4 (S_58L4 Aa) x (Cr n):=by
 obtain⟨_,_,_,_⟩:=x
 kernel_rfl
theorem F_58 (a):E_58.run a=Yir C_58 Tryz.f46 E_58.params E_58.results a λo r=>some (N_58 o r):=by
 kernel_rfl
theorem W_58:XU D_58= [B_58L4]:=by kernel_rfl
theorem Q_58:Qk Tryz.prog 46 Tryz.f46 D_58:=⟨Tryz.func46,by kernel_rfl,by kernel_rfl⟩
theorem H_58:Holds Tryz.prog 46 E_58:=
 Yi3 tabT mixT Q_58 F_58 rfl ⟨⟨H_26,_,_,Q_26⟩,⟨⟨H_57,_,_,Q_57⟩,trivial⟩⟩ W_58 ⟨Yi8 (L:=S_58L4 Aa) K_58L4 (i:=4) (by kernel_rfl),trivial⟩
theorem K_59L2 (n:Nat) (x):Cm (n+1) x=Yfg C_59 B_59L2 (S_59L2 Aa) x (Cm n):=by
 obtain⟨_,_,_⟩:=x
 kernel_rfl
theorem F_59 (a):E_59.run a=Yir C_59 Tryz.f76 E_59.params E_59.results a λo r=>some (N_59 o r):=by
 kernel_rfl
theorem W_59:XU D_59= [B_59L2]:=by kernel_rfl
theorem Q_59:Qk Tryz.prog 76 Tryz.f76 D_59:=⟨Tryz.func76,by kernel_rfl,by kernel_rfl⟩
theorem H_59:Holds Tryz.prog 76 E_59:=
 Yi3 tabT mixT Q_59 F_59 rfl trivial W_59 ⟨Yi8 (L:=S_59L2 Aa) K_59L2 (i:=2) (by kernel_rfl),trivial⟩
theorem F_60 (a):E_60.run a=Yir C_60 Tryz.f73 E_60.params E_60.results a λo r=>some (N_60 o r):=by
 kernel_rfl
theorem W_60:XU D_60= []:=by kernel_rfl
theorem Q_60:Qk Tryz.prog 73 Tryz.f73 D_60:=⟨Tryz.func73,by kernel_rfl,by kernel_rfl⟩
theorem H_60:Holds Tryz.prog 73 E_60:=
 Yi3 tabT mixT Q_60 F_60 rfl ⟨⟨H_59,_,_,Q_59⟩,trivial⟩ W_60 trivial
theorem K_61L3 (n:Nat) (x):CT (n+1) x=Yfg C_61 B_61L3 (S_61L3 Aa) x (CT n):=by
 obtain⟨_,_,_,_⟩:=x
 kernel_rfl
theorem F_61 (a):E_61.run a=Yir C_61 Tryz.f137 E_61.params E_61.results a λo r=>some (N_61 o r):=by
 kernel_rfl
theorem W_61:XU D_61= [B_61L3]:=by kernel_rfl
theorem Q_61:Qk Tryz.prog 137 Tryz.f137 D_61:=⟨Tryz.func137,by kernel_rfl,by kernel_rfl⟩
theorem H_61:Holds Tryz.prog 137 E_61:=
 Yi3 tabT mixT Q_61 F_61 rfl trivial W_61 ⟨Yi8 (L:=S_61L3 Aa) K_61L3 (i:=3) (by kernel_rfl),trivial⟩
theorem K_62L17 (n:Nat) (x):Ba (n+1) x=Yfg C_62 B_62L17 (S_62L17 Aa) x (Ba n):=by
 obtain⟨_,_,_,_,_,_,_,_,_,_,_,_,_,_,_,_,_,_,_⟩:=x
 kernel_rfl
theorem K_62L14 (n:Nat) (x):A9 (n+1) x=Yfg C_62 B_62L14 (S_62L14 Aa) x (A9 n):=by
 obtain⟨_,_,_,_,_,_,_,_,_,_,_,_,_,_,_⟩:=x
 kernel_rfl
theorem K_62L8 (n:Nat) (x):AU (n+1) x=Yfg C_62 B_62L8 (S_62L8 Aa) x (AU n):=by
 obtain⟨_,_,_,_,_,_,_,_,_,_⟩:=x
 kernel_rfl
theorem K_62L3 (n:Nat) (x):Bk (n+1) x=Yfg C_62 B_62L3 (S_62L3 Aa) x (Bk n):=by
 obtain⟨_,_,_,_,_,_⟩:=x
 kernel_rfl
theorem F_62 (a):E_62.run a=Yir C_62 Tryz.f99 E_62.params E_62.results a λo r=>some (N_62 o r):=by
 kernel_rfl
theorem W_62:XU D_62= [B_62L3,B_62L8,B_62L14,B_62L17]:=by kernel_rfl
theorem Q_62:Qk Tryz.prog 99 Tryz.f99 D_62:=⟨Tryz.func99,by kernel_rfl,by kernel_rfl⟩
theorem H_62:Holds Tryz.prog 99 E_62:=
 Yi3 tabT mixT Q_62 F_62 rfl ⟨⟨H_59,_,_,Q_59⟩,⟨⟨H_33,_,_,Q_33⟩,⟨⟨H_61,_,_,Q_61⟩,⟨⟨H_32,_,_,Q_32⟩,trivial⟩⟩⟩⟩ W_62 ⟨Yi8 (L:=S_62L3 Aa) K_62L3 (i:=3) (by kernel_rfl),⟨Yi8 (L:=S_62L8 Aa) K_62L8 (i:=8) (by kernel_rfl),⟨Yi8 (L:=S_62L14 Aa) K_62L14 (i:=14) (by kernel_rfl),⟨Yi8 (L:=S_62L17 Aa) K_62L17 (i:=17) (by kernel_rfl),trivial⟩⟩⟩⟩
theorem F_63 (a):E_63.run a=Yir C_63 Tryz.f122 E_63.params E_63.results a λo r=>some (N_63 o r):=by
 kernel_rfl
theorem W_63:XU D_63= []:=by kernel_rfl
theorem Q_63:Qk Tryz.prog 122 Tryz.f122 D_63:=⟨Tryz.func122,by kernel_rfl,by kernel_rfl⟩
theorem H_63:Holds Tryz.prog 122 E_63:=
 Yi3 tabT mixT Q_63 F_63 rfl ⟨⟨H_36,_,_,Q_36⟩,trivial⟩ W_63 trivial
theorem K_64L2 (n:Nat) (x):AJ (n+1) x=Yfg C_64 B_64L2 (S_64L2 Aa) x (AJ n):=by
 obtain⟨_,_,_,_⟩:=x
 kernel_rfl
theorem F_64 (a):E_64.run a=Yir C_64 Tryz.f140 E_64.params E_64.results a λo r=>some (N_64 o r):=by
 kernel_rfl
theorem W_64:XU D_64= [B_64L2]:=by kernel_rfl
theorem Q_64:Qk Tryz.prog 140 Tryz.f140 D_64:=⟨Tryz.func140,by kernel_rfl,by kernel_rfl⟩
theorem H_64:Holds Tryz.prog 140 E_64:=
 Yi3 tabT mixT Q_64 F_64 rfl ⟨⟨H_38,_,_,Q_38⟩,⟨⟨H_32,_,_,Q_32⟩,trivial⟩⟩ W_64 ⟨Yi8 (L:=S_64L2 Aa) K_64L2 (i:=2) (by kernel_rfl),trivial⟩
theorem K_65L4 (rec:(Int×(List Int)×((List (Int×(List Int)))×Int)×(Bool×Int×Int×(List (List ((List Int)×(List ByteArray)))))×(List Int)×Unit)->Option ((List Int)×((List (Int×(List Int)))×Int)×(Bool×Int×Int×(List (List ((List Int)×(List ByteArray)))))×(List Int)×Bool)) (n:Nat) (x):Ah rec (n+1) x=Yfg (C_65 rec) B_65L4 (S_65L4 rec Aa) x (Ah rec n):=by
 obtain⟨_,_,_,_,_,_,_⟩:=x
 kernel_rfl
theorem F_65 (rec:(Int×(List Int)×((List (Int×(List Int)))×Int)×(Bool×Int×Int×(List (List ((List Int)×(List ByteArray)))))×(List Int)×Unit)->Option ((List Int)×((List (Int×(List Int)))×Int)×(Bool×Int×Int×(List (List ((List Int)×(List ByteArray)))))×(List Int)×Bool)) (a:YH [.v .int,.bx (.mv .int 0),.pr (.bx (.mv y7 1)) (.bx (.v .int)),.bx (.v (.ptr y6)),.bx (.v y1),.jk 1]):Bm rec a.1 a.2.1 a.2.2.1 a.2.2.2.1 a.2.2.2.2.1 a.2.2.2.2.2=Yir (C_65 rec) Tryz.f139 [.v .int,.bx (.mv .int 0),.pr (.bx (.mv y7 1)) (.bx (.v .int)),.bx (.v (.ptr y6)),.bx (.v y1),.jk 1] [.v .bool] a (λo r=>some (N_65 o r)):=by
 kernel_rfl
theorem W_65:XU D_65= [B_65L4]:=by kernel_rfl
theorem R_65L4:YZ B_65L4=4:=by kernel_rfl
theorem Q_65:Qk Tryz.prog 139 Tryz.f139 D_65:=⟨Tryz.func139,by kernel_rfl,by kernel_rfl⟩
theorem H_65: ∀d,Holds Tryz.prog 139 (E_65 d)
 |0=>λ_ b h=>absurd (show(none:Option _)=some b from h) (by simp)
 |d+1=>YgE (en:=E_65 (d+1)) (cx:=(C_65 (Ar d))) (Yhe tabT rfl).1 (Yfz ⟨⟨H_63,_,_,Q_63⟩,⟨⟨H_64,_,_,Q_64⟩,⟨⟨H_65 d,_,_,Q_65⟩,trivial⟩⟩⟩) mixT Q_65.1 Q_65.2.2 (YgL W_65 ⟨YhE (cx:=(C_65 (Ar d))) (L:=S_65L4 (Ar d) Aa) rfl (by rw[R_65L4];rfl) ⟨Ah (Ar d),λ_=>rfl,λn x=>K_65L4 (Ar d) n x,Aa,λ_=>rfl⟩,trivial⟩) (enc:=N_65) (λ_ _=>⟨rfl,rfl⟩) (F_65 (Ar d)) rfl
theorem F_66 (a):E_66.run a=Yir C_66 Tryz.f100 E_66.params E_66.results a λo r=>some (N_66 o r):=by
 kernel_rfl
theorem W_66:XU D_66= []:=by kernel_rfl
theorem Q_66:Qk Tryz.prog 100 Tryz.f100 D_66:=⟨Tryz.func100,by kernel_rfl,by kernel_rfl⟩
theorem H_66:Holds Tryz.prog 100 E_66:=
 Yi3 tabT mixT Q_66 F_66 rfl ⟨⟨H_65 Aa,_,_,Q_65⟩,trivial⟩ W_66 trivial
theorem F_67 (a):E_67.run a=Yir C_67 Tryz.f74 E_67.params E_67.results a λo r=>some (N_67 o r):=by
 kernel_rfl
theorem W_67:XU D_67= []:=by kernel_rfl
theorem Q_67:Qk Tryz.prog 74 Tryz.f74 D_67:=⟨Tryz.func74,by kernel_rfl,by kernel_rfl⟩
theorem H_67:Holds Tryz.prog 74 E_67:=
 Yi3 tabT mixT Q_67 F_67 rfl ⟨⟨H_62,_,_,Q_62⟩,⟨⟨H_66,_,_,Q_66⟩,trivial⟩⟩ W_67 trivial
theorem F_68 (a):E_68.run a=Yir C_68 Tryz.f25 E_68.params E_68.results a λo r=>some (N_68 o r):=by
 kernel_rfl
theorem W_68:XU D_68= []:=by kernel_rfl
theorem Q_68:Qk Tryz.prog 25 Tryz.f25 D_68:=⟨Tryz.func25,by kernel_rfl,by kernel_rfl⟩
theorem H_68:Holds Tryz.prog 25 E_68:=
 Yi3 tabT mixT Q_68 F_68 rfl ⟨⟨H_58,_,_,Q_58⟩,⟨⟨H_60,_,_,Q_60⟩,⟨⟨H_67,_,_,Q_67⟩,⟨⟨H_35,_,_,Q_35⟩,⟨⟨H_59,_,_,Q_59⟩,trivial⟩⟩⟩⟩⟩ W_68 trivial
theorem F_69 (a):E_69.run a=Yir C_69 Tryz.f32 E_69.params E_69.results a λo r=>some (N_69 o r):=by
 kernel_rfl
theorem W_69:XU D_69= []:=by kernel_rfl
theorem Q_69:Qk Tryz.prog 32 Tryz.f32 D_69:=⟨Tryz.func32,by kernel_rfl,by kernel_rfl⟩
theorem H_69:Holds Tryz.prog 32 E_69:=
 Yi3 tabT mixT Q_69 F_69 rfl ⟨⟨H_8,_,_,Q_8⟩,trivial⟩ W_69 trivial
theorem K_70L4 (n:Nat) (x):CG (n+1) x=Yfg C_70 B_70L4 (S_70L4 Aa) x (CG n):=by
 obtain⟨_,_,_⟩:=x
 kernel_rfl
theorem F_70 (a):E_70.run a=Yir C_70 Tryz.f33 E_70.params E_70.results a λo r=>some (N_70 o r):=by
 kernel_rfl
theorem W_70:XU D_70= [B_70L4]:=by kernel_rfl
theorem Q_70:Qk Tryz.prog 33 Tryz.f33 D_70:=⟨Tryz.func33,by kernel_rfl,by kernel_rfl⟩
theorem H_70:Holds Tryz.prog 33 E_70:=
 Yi3 tabT mixT Q_70 F_70 rfl ⟨⟨H_45,_,_,Q_45⟩,trivial⟩ W_70 ⟨Yi8 (L:=S_70L4 Aa) K_70L4 (i:=4) (by kernel_rfl),trivial⟩
theorem K_71L4 (n:Nat) (x):B0 (n+1) x=Yfg C_71 B_71L4 (S_71L4 Aa) x (B0 n):=by
 obtain⟨_,_,_⟩:=x
 kernel_rfl
theorem F_71 (a):E_71.run a=Yir C_71 Tryz.f51 E_71.params E_71.results a λo r=>some (N_71 o r):=by
 kernel_rfl
theorem W_71:XU D_71= [B_71L4]:=by kernel_rfl
theorem Q_71:Qk Tryz.prog 51 Tryz.f51 D_71:=⟨Tryz.func51,by kernel_rfl,by kernel_rfl⟩
theorem H_71:Holds Tryz.prog 51 E_71:=
 Yi3 tabT mixT Q_71 F_71 rfl ⟨⟨H_69,_,_,Q_69⟩,⟨⟨H_70,_,_,Q_70⟩,⟨⟨H_8,_,_,Q_8⟩,trivial⟩⟩⟩ W_71 ⟨Yi8 (L:=S_71L4 Aa) K_71L4 (i:=4) (by kernel_rfl),trivial⟩
theorem F_72 (a):E_72.run a=Yir C_72 Tryz.f77 E_72.params E_72.results a λo r=>some (N_72 o r):=by
 kernel_rfl
theorem W_72:XU D_72= []:=by kernel_rfl
theorem Q_72:Qk Tryz.prog 77 Tryz.f77 D_72:=⟨Tryz.func77,by kernel_rfl,by kernel_rfl⟩
theorem H_72:Holds Tryz.prog 77 E_72:=
 Yi3 tabT mixT Q_72 F_72 rfl ⟨⟨H_71,_,_,Q_71⟩,⟨⟨H_16,_,_,Q_16⟩,trivial⟩⟩ W_72 trivial
theorem K_73L3 (n:Nat) (x):BY (n+1) x=Yfg C_73 B_73L3 (S_73L3 Aa) x (BY n):=by
 obtain⟨_,_,_,_,_⟩:=x
 kernel_rfl
theorem K_73L21 (n:Nat) (x):BQ (n+1) x=Yfg C_73 B_73L21 (S_73L21 Aa) x (BQ n):=by
 obtain⟨_,_,_,_,_,_,_,_,_,_,_,_,_⟩:=x
 kernel_rfl
theorem K_73L17 (n:Nat) (x):BP (n+1) x=Yfg C_73 B_73L17 (S_73L17 Aa) x (BP n):=by
 obtain⟨_,_,_,_,_,_,_,_,_,_,_⟩:=x
 kernel_rfl
theorem K_73L11 (n:Nat) (x):BO (n+1) x=Yfg C_73 B_73L11 (S_73L11 Aa) x (BO n):=by
 obtain⟨_,_,_,_,_,_,_⟩:=x
 kernel_rfl
theorem K_73L7 (n:Nat) (x):BZ (n+1) x=Yfg C_73 B_73L7 (S_73L7 Aa) x (BZ n):=by
 obtain⟨_,_,_,_,_⟩:=x
 kernel_rfl
theorem F_73 (a):E_73.run a=Yir C_73 Tryz.f106 E_73.params E_73.results a λo r=>some (N_73 o r):=by
 kernel_rfl
theorem W_73:XU D_73= [B_73L3,B_73L7,B_73L11,B_73L17,B_73L21]:=by kernel_rfl
theorem Q_73:Qk Tryz.prog 106 Tryz.f106 D_73:=⟨Tryz.func106,by kernel_rfl,by kernel_rfl⟩
theorem H_73:Holds Tryz.prog 106 E_73:=
 Yi3 tabT mixT Q_73 F_73 rfl ⟨⟨H_16,_,_,Q_16⟩,⟨⟨H_22,_,_,Q_22⟩,⟨⟨H_17,_,_,Q_17⟩,trivial⟩⟩⟩ W_73 ⟨Yi8 (L:=S_73L3 Aa) K_73L3 (i:=3) (by kernel_rfl),⟨Yi8 (L:=S_73L7 Aa) K_73L7 (i:=7) (by kernel_rfl),⟨Yi8 (L:=S_73L11 Aa) K_73L11 (i:=11) (by kernel_rfl),⟨Yi8 (L:=S_73L17 Aa) K_73L17 (i:=17) (by kernel_rfl),⟨Yi8 (L:=S_73L21 Aa) K_73L21 (i:=21) (by kernel_rfl),trivial⟩⟩⟩⟩⟩
theorem K_74L6 (n:Nat) (x):BX (n+1) x=Yfg C_74 B_74L6 (S_74L6 Aa) x (BX n):=by
 obtain⟨_,_,_,_,_⟩:=x
 kernel_rfl
theorem K_74L2 (n:Nat) (x):BW (n+1) x=Yfg C_74 B_74L2 (S_74L2 Aa) x (BW n):=by
 obtain⟨_,_,_⟩:=x
 kernel_rfl
theorem F_74 (a):E_74.run a=Yir C_74 Tryz.f143 E_74.params E_74.results a λo r=>some (N_74 o r):=by
 kernel_rfl
theorem W_74:XU D_74= [B_74L2,B_74L6]:=by kernel_rfl
theorem Q_74:Qk Tryz.prog 143 Tryz.f143 D_74:=⟨Tryz.func143,by kernel_rfl,by kernel_rfl⟩
theorem H_74:Holds Tryz.prog 143 E_74:=
 Yi3 tabT mixT Q_74 F_74 rfl ⟨⟨H_50,_,_,Q_50⟩,trivial⟩ W_74 ⟨Yi8 (L:=S_74L2 Aa) K_74L2 (i:=2) (by kernel_rfl),⟨Yi8 (L:=S_74L6 Aa) K_74L6 (i:=6) (by kernel_rfl),trivial⟩⟩
theorem K_75L8 (rec:(Int×(List (List ((List Int)×Int×(List (List Int)))))×(List Int)×(List Int)×((List (List Int))×(Int×Int)))->Option (((List (List Int))×(Int×Int)))) (n:Nat) (x):Au rec (n+1) x=Yfg (C_75 rec) B_75L8 (S_75L8 rec Aa) x (Au rec n):=by
 obtain⟨_,_,_,_,_,_,_,_⟩:=x
 kernel_rfl
theorem F_75 (rec:(Int×(List (List ((List Int)×Int×(List (List Int)))))×(List Int)×(List Int)×((List (List Int))×(Int×Int)))->Option (((List (List Int))×(Int×Int)))) (a:YH [.v .int,.v y15,.v y1,.v y1,.pr (.mv y1 1) (.v y14)]):DQ rec a.1 a.2.1 a.2.2.1 a.2.2.2.1 a.2.2.2.2=Yir (C_75 rec) Tryz.f105 [.v .int,.v y15,.v y1,.v y1,.pr (.mv y1 1) (.v y14)] [.pr (.mv y1 1) (.v y14)] a (λo r=>some (N_75 o r)):=by
 kernel_rfl
theorem W_75:XU D_75= [B_75L8]:=by kernel_rfl
theorem R_75L8:YZ B_75L8=8:=by kernel_rfl
theorem Q_75:Qk Tryz.prog 105 Tryz.f105 D_75:=⟨Tryz.func105,by kernel_rfl,by kernel_rfl⟩
theorem H_75: ∀d,Holds Tryz.prog 105 (E_75 d)
 |0=>λ_ b h=>absurd (show(none:Option _)=some b from h) (by simp)
 |d+1=>YgE (en:=E_75 (d+1)) (cx:=(C_75 (BC d))) (Yhe tabT rfl).1 (Yfz ⟨⟨H_75 d,_,_,Q_75⟩,⟨⟨H_6,_,_,Q_6⟩,⟨⟨H_74,_,_,Q_74⟩,trivial⟩⟩⟩) mixT Q_75.1 Q_75.2.2 (YgL W_75 ⟨YhE (cx:=(C_75 (BC d))) (L:=S_75L8 (BC d) Aa) rfl (by rw[R_75L8];rfl) ⟨Au (BC d),λ_=>rfl,λn x=>K_75L8 (BC d) n x,Aa,λ_=>rfl⟩,trivial⟩) (enc:=N_75) (λ_ _=>⟨rfl,rfl⟩) (F_75 (BC d)) rfl
theorem F_76 (a):E_76.run a=Yir C_76 Tryz.f52 E_76.params E_76.results a λo r=>some (N_76 o r):=by
 kernel_rfl
theorem W_76:XU D_76= []:=by kernel_rfl
theorem Q_76:Qk Tryz.prog 52 Tryz.f52 D_76:=⟨Tryz.func52,by kernel_rfl,by kernel_rfl⟩
theorem H_76:Holds Tryz.prog 52 E_76:=
 Yi3 tabT mixT Q_76 F_76 rfl ⟨⟨H_75 Aa,_,_,Q_75⟩,⟨⟨H_73,_,_,Q_73⟩,trivial⟩⟩ W_76 trivial
theorem K_77L3 (n:Nat) (x):Cv (n+1) x=Yfg C_77 B_77L3 (S_77L3 Aa) x (Cv n):=by
 obtain⟨_,_,_,_⟩:=x
 kernel_rfl
theorem F_77 (a):E_77.run a=Yir C_77 Tryz.f79 E_77.params E_77.results a λo r=>some (N_77 o r):=by
 kernel_rfl
theorem W_77:XU D_77= [B_77L3]:=by kernel_rfl
theorem Q_77:Qk Tryz.prog 79 Tryz.f79 D_77:=⟨Tryz.func79,by kernel_rfl,by kernel_rfl⟩
theorem H_77:Holds Tryz.prog 79 E_77:=
 Yi3 tabT mixT Q_77 F_77 rfl ⟨⟨H_6,_,_,Q_6⟩,trivial⟩ W_77 ⟨Yi8 (L:=S_77L3 Aa) K_77L3 (i:=3) (by kernel_rfl),trivial⟩
theorem F_78 (a):E_78.run a=Yir C_78 Tryz.f26 E_78.params E_78.results a λo r=>some (N_78 o r):=by
 kernel_rfl
theorem W_78:XU D_78= []:=by kernel_rfl
theorem Q_78:Qk Tryz.prog 26 Tryz.f26 D_78:=⟨Tryz.func26,by kernel_rfl,by kernel_rfl⟩
theorem H_78:Holds Tryz.prog 26 E_78:=
 Yi3 tabT mixT Q_78 F_78 rfl ⟨⟨H_76,_,_,Q_76⟩,⟨⟨H_48,_,_,Q_48⟩,⟨⟨H_72,_,_,Q_72⟩,⟨⟨H_16,_,_,Q_16⟩,⟨⟨H_77,_,_,Q_77⟩,trivial⟩⟩⟩⟩⟩ W_78 trivial
theorem F_79 (a):E_79.run a=Yir C_79 Tryz.f14 E_79.params E_79.results a λo r=>some (N_79 o r):=by
 kernel_rfl
theorem W_79:XU D_79= []:=by kernel_rfl
theorem Q_79:Qk Tryz.prog 14 Tryz.f14 D_79:=⟨Tryz.func14,by kernel_rfl,by kernel_rfl⟩
theorem H_79:Holds Tryz.prog 14 E_79:=
 Yi3 tabT mixT Q_79 F_79 rfl ⟨⟨H_55,_,_,Q_55⟩,trivial⟩ W_79 trivial
theorem K_80L4 (n:Nat) (x):C3 (n+1) x=Yfg C_80 B_80L4 (S_80L4 Aa) x (C3 n):=by
 obtain⟨_,_,_⟩:=x
 kernel_rfl
theorem F_80 (a):E_80.run a=Yir C_80 Tryz.f27 E_80.params E_80.results a λo r=>some (N_80 o r):=by
 kernel_rfl
theorem W_80:XU D_80= [B_80L4]:=by kernel_rfl
theorem Q_80:Qk Tryz.prog 27 Tryz.f27 D_80:=⟨Tryz.func27,by kernel_rfl,by kernel_rfl⟩
theorem H_80:Holds Tryz.prog 27 E_80:=
 Yi3 tabT mixT Q_80 F_80 rfl ⟨⟨H_79,_,_,Q_79⟩,trivial⟩ W_80 ⟨Yi8 (L:=S_80L4 Aa) K_80L4 (i:=4) (by kernel_rfl),trivial⟩
theorem F_81 (a):E_81.run a=Yir C_81 Tryz.f58 E_81.params E_81.results a λo r=>some (N_81 o r):=by
 kernel_rfl
theorem W_81:XU D_81= []:=by kernel_rfl
theorem Q_81:Qk Tryz.prog 58 Tryz.f58 D_81:=⟨Tryz.func58,by kernel_rfl,by kernel_rfl⟩
theorem H_81:Holds Tryz.prog 58 E_81:=
 Yi3 tabT mixT Q_81 F_81 rfl ⟨⟨H_27,_,_,Q_27⟩,trivial⟩ W_81 trivial
theorem K_82L4 (n:Nat) (x):Cs (n+1) x=Yfg C_82 B_82L4 (S_82L4 Aa) x (Cs n):=by
 obtain⟨_,_,_,_⟩:=x
 kernel_rfl
theorem F_82 (a):E_82.run a=Yir C_82 Tryz.f146 E_82.params E_82.results a λo r=>some (N_82 o r):=by
 kernel_rfl
theorem W_82:XU D_82= [B_82L4]:=by kernel_rfl
theorem Q_82:Qk Tryz.prog 146 Tryz.f146 D_82:=⟨Tryz.func146,by kernel_rfl,by kernel_rfl⟩
theorem H_82:Holds Tryz.prog 146 E_82:=
 Yi3 tabT mixT Q_82 F_82 rfl trivial W_82 ⟨Yi8 (L:=S_82L4 Aa) K_82L4 (i:=4) (by kernel_rfl),trivial⟩
theorem K_83L2 (n:Nat) (x):CU (n+1) x=Yfg C_83 B_83L2 (S_83L2 Aa) x (CU n):=by
 obtain⟨_,_,_,_⟩:=x
 kernel_rfl
theorem F_83 (a):E_83.run a=Yir C_83 Tryz.f109 E_83.params E_83.results a λo r=>some (N_83 o r):=by
 kernel_rfl
theorem W_83:XU D_83= [B_83L2]:=by kernel_rfl
theorem Q_83:Qk Tryz.prog 109 Tryz.f109 D_83:=⟨Tryz.func109,by kernel_rfl,by kernel_rfl⟩
theorem H_83:Holds Tryz.prog 109 E_83:=
 Yi3 tabT mixT Q_83 F_83 rfl ⟨⟨H_82,_,_,Q_82⟩,trivial⟩ W_83 ⟨Yi8 (L:=S_83L2 Aa) K_83L2 (i:=2) (by kernel_rfl),trivial⟩
theorem K_84L2 (n:Nat) (x):Bv (n+1) x=Yfg C_84 B_84L2 (S_84L2 Aa) x (Bv n):=by
 obtain⟨_,_,_,_⟩:=x
 kernel_rfl
theorem F_84 (a):E_84.run a=Yir C_84 Tryz.f59 E_84.params E_84.results a λo r=>some (N_84 o r):=by
 kernel_rfl
theorem W_84:XU D_84= [B_84L2]:=by kernel_rfl
theorem Q_84:Qk Tryz.prog 59 Tryz.f59 D_84:=⟨Tryz.func59,by kernel_rfl,by kernel_rfl⟩
theorem H_84:Holds Tryz.prog 59 E_84:=
 Yi3 tabT mixT Q_84 F_84 rfl ⟨⟨H_83,_,_,Q_83⟩,⟨⟨H_38,_,_,Q_38⟩,trivial⟩⟩ W_84 ⟨Yi8 (L:=S_84L2 Aa) K_84L2 (i:=2) (by kernel_rfl),trivial⟩
theorem F_85 (a):E_85.run a=Yir C_85 Tryz.f17 E_85.params E_85.results a λo r=>some (N_85 o r):=by
 kernel_rfl
theorem W_85:XU D_85= []:=by kernel_rfl
theorem Q_85:Qk Tryz.prog 17 Tryz.f17 D_85:=⟨Tryz.func17,by kernel_rfl,by kernel_rfl⟩
theorem H_85:Holds Tryz.prog 17 E_85:=
 Yi3 tabT mixT Q_85 F_85 rfl ⟨⟨H_31,_,_,Q_31⟩,⟨⟨H_81,_,_,Q_81⟩,⟨⟨H_84,_,_,Q_84⟩,trivial⟩⟩⟩ W_85 trivial
theorem K_86L5 (n:Nat) (x):AH (n+1) x=Yfg C_86 B_86L5 (S_86L5 Aa) x (AH n):=by
 obtain⟨_,_,_,_,_,_⟩:=x
 kernel_rfl
theorem F_86 (a):E_86.run a=Yir C_86 Tryz.f28 E_86.params E_86.results a λo r=>some (N_86 o r):=by
 kernel_rfl
theorem W_86:XU D_86= [B_86L5]:=by kernel_rfl
theorem Q_86:Qk Tryz.prog 28 Tryz.f28 D_86:=⟨Tryz.func28,by kernel_rfl,by kernel_rfl⟩
theorem H_86:Holds Tryz.prog 28 E_86:=
 Yi3 tabT mixT Q_86 F_86 rfl ⟨⟨H_23,_,_,Q_23⟩,⟨⟨H_4,_,_,Q_4⟩,⟨⟨H_3,_,_,Q_3⟩,⟨⟨H_7,_,_,Q_7⟩,trivial⟩⟩⟩⟩ W_86 ⟨Yi8 (L:=S_86L5 Aa) K_86L5 (i:=5) (by kernel_rfl),trivial⟩
theorem F_87 (a):E_87.run a=Yir C_87 Tryz.f37 E_87.params E_87.results a λo r=>some (N_87 o r):=by
 kernel_rfl
theorem W_87:XU D_87= []:=by kernel_rfl
theorem Q_87:Qk Tryz.prog 37 Tryz.f37 D_87:=⟨Tryz.func37,by kernel_rfl,by kernel_rfl⟩
theorem H_87:Holds Tryz.prog 37 E_87:=
 Yi3 tabT mixT Q_87 F_87 rfl ⟨⟨H_59,_,_,Q_59⟩,⟨⟨H_27,_,_,Q_27⟩,trivial⟩⟩ W_87 trivial
theorem K_88L3 (n:Nat) (x):BK (n+1) x=Yfg C_88 B_88L3 (S_88L3 Aa) x (BK n):=by
 obtain⟨_,_,_,_⟩:=x
 kernel_rfl
theorem F_88 (a):E_88.run a=Yir C_88 Tryz.f147 E_88.params E_88.results a λo r=>some (N_88 o r):=by
 kernel_rfl
theorem W_88:XU D_88= [B_88L3]:=by kernel_rfl
theorem Q_88:Qk Tryz.prog 147 Tryz.f147 D_88:=⟨Tryz.func147,by kernel_rfl,by kernel_rfl⟩
theorem H_88:Holds Tryz.prog 147 E_88:=
 Yi3 tabT mixT Q_88 F_88 rfl ⟨⟨H_36,_,_,Q_36⟩,trivial⟩ W_88 ⟨Yi8 (L:=S_88L3 Aa) K_88L3 (i:=3) (by kernel_rfl),trivial⟩
theorem Q_89:Qk Tryz.prog 148 Tryz.f148 D_89:=⟨Tryz.func148,by kernel_rfl,by kernel_rfl⟩
theorem H_89:Holds Tryz.prog 148 E_89:=Go.Proofs.H_sort_cmpL 1
theorem F_90 (a):E_90.run a=Yir C_90 Tryz.f113 E_90.params E_90.results a λo r=>some (N_90 o r):=by
 kernel_rfl
theorem W_90:XU D_90= []:=by kernel_rfl
theorem Q_90:Qk Tryz.prog 113 Tryz.f113 D_90:=⟨Tryz.func113,by kernel_rfl,by kernel_rfl⟩
theorem H_90:Holds Tryz.prog 113 E_90:=
 Yi3 tabT mixT Q_90 F_90 rfl ⟨⟨H_88,_,_,Q_88⟩,⟨⟨H_89,_,_,Q_89⟩,trivial⟩⟩ W_90 trivial
theorem Q_91:Qk Tryz.prog 112 Tryz.f112 D_91:=⟨Tryz.func112,by kernel_rfl,by kernel_rfl⟩
theorem H_91:Holds Tryz.prog 112 E_91:=Go.Proofs.H_diff 1
theorem F_92 (a):E_92.run a=Yir C_92 Tryz.f62 E_92.params E_92.results a λo r=>some (N_92 o r):=by
 kernel_rfl
theorem W_92:XU D_92= []:=by kernel_rfl
theorem Q_92:Qk Tryz.prog 62 Tryz.f62 D_92:=⟨Tryz.func62,by kernel_rfl,by kernel_rfl⟩
theorem H_92:Holds Tryz.prog 62 E_92:=
 Yi3 tabT mixT Q_92 F_92 rfl ⟨⟨H_91,_,_,Q_91⟩,⟨⟨H_90,_,_,Q_90⟩,trivial⟩⟩ W_92 trivial
theorem K_93L3 (n:Nat) (x):Bj (n+1) x=Yfg C_93 B_93L3 (S_93L3 Aa) x (Bj n):=by
 obtain⟨_,_,_,_,_,_,_⟩:=x
 kernel_rfl
theorem F_93 (a):E_93.run a=Yir C_93 Tryz.f80 E_93.params E_93.results a λo r=>some (N_93 o r):=by
 kernel_rfl
theorem W_93:XU D_93= [B_93L3]:=by kernel_rfl
theorem Q_93:Qk Tryz.prog 80 Tryz.f80 D_93:=⟨Tryz.func80,by kernel_rfl,by kernel_rfl⟩
theorem H_93:Holds Tryz.prog 80 E_93:=
 Yi3 tabT mixT Q_93 F_93 rfl ⟨⟨H_92,_,_,Q_92⟩,⟨⟨H_38,_,_,Q_38⟩,trivial⟩⟩ W_93 ⟨Yi8 (L:=S_93L3 Aa) K_93L3 (i:=3) (by kernel_rfl),trivial⟩
theorem F_94 (a):E_94.run a=Yir C_94 Tryz.f63 E_94.params E_94.results a λo r=>some (N_94 o r):=by
 kernel_rfl
theorem W_94:XU D_94= []:=by kernel_rfl
theorem Q_94:Qk Tryz.prog 63 Tryz.f63 D_94:=⟨Tryz.func63,by kernel_rfl,by kernel_rfl⟩
theorem H_94:Holds Tryz.prog 63 E_94:=
 Yi3 tabT mixT Q_94 F_94 rfl trivial W_94 trivial
theorem K_95L5 (n:Nat) (x):AK (n+1) x=Yfg C_95 B_95L5 (S_95L5 Aa) x (AK n):=by
 obtain⟨_,_,_,_,_,_,_⟩:=x
 kernel_rfl
theorem F_95 (a):E_95.run a=Yir C_95 Tryz.f29 E_95.params E_95.results a λo r=>some (N_95 o r):=by
 kernel_rfl
theorem W_95:XU D_95= [B_95L5]:=by kernel_rfl
theorem Q_95:Qk Tryz.prog 29 Tryz.f29 D_95:=⟨Tryz.func29,by kernel_rfl,by kernel_rfl⟩
theorem H_95:Holds Tryz.prog 29 E_95:=
 Yi3 tabT mixT Q_95 F_95 rfl ⟨⟨H_31,_,_,Q_31⟩,⟨⟨H_87,_,_,Q_87⟩,⟨⟨H_94,_,_,Q_94⟩,⟨⟨H_36,_,_,Q_36⟩,⟨⟨H_93,_,_,Q_93⟩,trivial⟩⟩⟩⟩⟩ W_95 ⟨Yi8 (L:=S_95L5 Aa) K_95L5 (i:=5) (by kernel_rfl),trivial⟩
theorem K_96L4 (n:Nat) (x):Dx (n+1) x=Yfg C_96 B_96L4 (S_96L4 Aa) x (Dx n):=by
 obtain⟨_,_,_⟩:=x
 kernel_rfl
theorem F_96 (a):E_96.run a=Yir C_96 Tryz.f41 E_96.params E_96.results a λo r=>some (N_96 o r):=by
 kernel_rfl
theorem W_96:XU D_96= [B_96L4]:=by kernel_rfl
theorem Q_96:Qk Tryz.prog 41 Tryz.f41 D_96:=⟨Tryz.func41,by kernel_rfl,by kernel_rfl⟩
theorem H_96:Holds Tryz.prog 41 E_96:=
 Yi3 tabT mixT Q_96 F_96 rfl ⟨⟨H_16,_,_,Q_16⟩,⟨⟨H_8,_,_,Q_8⟩,trivial⟩⟩ W_96 ⟨Yi8 (L:=S_96L4 Aa) K_96L4 (i:=4) (by kernel_rfl),trivial⟩
theorem K_97L7 (n:Nat) (x):Cc (n+1) x=Yfg C_97 B_97L7 (S_97L7 Aa) x (Cc n):=by
 obtain⟨_,_,_,_,_⟩:=x
 kernel_rfl
theorem K_97L3 (n:Nat) (x):Cb (n+1) x=Yfg C_97 B_97L3 (S_97L3 Aa) x (Cb n):=by
 obtain⟨_,_,_⟩:=x
 kernel_rfl
theorem F_97 (a):E_97.run a=Yir C_97 Tryz.f64 E_97.params E_97.results a λo r=>some (N_97 o r):=by
 kernel_rfl
theorem W_97:XU D_97= [B_97L3,B_97L7]:=by kernel_rfl
theorem Q_97:Qk Tryz.prog 64 Tryz.f64 D_97:=⟨Tryz.func64,by kernel_rfl,by kernel_rfl⟩
theorem H_97:Holds Tryz.prog 64 E_97:=
 Yi3 tabT mixT Q_97 F_97 rfl ⟨⟨H_6,_,_,Q_6⟩,trivial⟩ W_97 ⟨Yi8 (L:=S_97L3 Aa) K_97L3 (i:=3) (by kernel_rfl),⟨Yi8 (L:=S_97L7 Aa) K_97L7 (i:=7) (by kernel_rfl),trivial⟩⟩
theorem K_98L2 (n:Nat) (x):BV (n+1) x=Yfg C_98 B_98L2 (S_98L2 Aa) x (BV n):=by
 obtain⟨_,_,_⟩:=x
 kernel_rfl
theorem F_98 (a):E_98.run a=Yir C_98 Tryz.f81 E_98.params E_98.results a λo r=>some (N_98 o r):=by
 kernel_rfl
theorem W_98:XU D_98= [B_98L2]:=by kernel_rfl
theorem Q_98:Qk Tryz.prog 81 Tryz.f81 D_98:=⟨Tryz.func81,by kernel_rfl,by kernel_rfl⟩
theorem H_98:Holds Tryz.prog 81 E_98:=
 Yi3 tabT mixT Q_98 F_98 rfl ⟨⟨H_11,_,_,Q_11⟩,trivial⟩ W_98 ⟨Yi8 (L:=S_98L2 Aa) K_98L2 (i:=2) (by kernel_rfl),trivial⟩
theorem K_99L2 (n:Nat) (x):C1 (n+1) x=Yfg C_99 B_99L2 (S_99L2 Aa) x (C1 n):=by
 obtain⟨_,_,_⟩:=x
 kernel_rfl
theorem F_99 (a):E_99.run a=Yir C_99 Tryz.f124 E_99.params E_99.results a λo r=>some (N_99 o r):=by
 kernel_rfl
theorem W_99:XU D_99= [B_99L2]:=by kernel_rfl
theorem Q_99:Qk Tryz.prog 124 Tryz.f124 D_99:=⟨Tryz.func124,by kernel_rfl,by kernel_rfl⟩
theorem H_99:Holds Tryz.prog 124 E_99:=
 Yi3 tabT mixT Q_99 F_99 rfl trivial W_99 ⟨Yi8 (L:=S_99L2 Aa) K_99L2 (i:=2) (by kernel_rfl),trivial⟩
theorem K_100L2 (n:Nat) (x):Cy (n+1) x=Yfg C_100 B_100L2 (S_100L2 Aa) x (Cy n):=by
 obtain⟨_,_,_⟩:=x
 kernel_rfl
theorem F_100 (a):E_100.run a=Yir C_100 Tryz.f82 E_100.params E_100.results a λo r=>some (N_100 o r):=by
 kernel_rfl
theorem W_100:XU D_100= [B_100L2]:=by kernel_rfl
theorem Q_100:Qk Tryz.prog 82 Tryz.f82 D_100:=⟨Tryz.func82,by kernel_rfl,by kernel_rfl⟩
theorem H_100:Holds Tryz.prog 82 E_100:=
 Yi3 tabT mixT Q_100 F_100 rfl ⟨⟨H_99,_,_,Q_99⟩,trivial⟩ W_100 ⟨Yi8 (L:=S_100L2 Aa) K_100L2 (i:=2) (by kernel_rfl),trivial⟩
theorem K_101L13 (n:Nat) (x):AY (n+1) x=Yfg C_101 B_101L13 (S_101L13 Aa) x (AY n):=by
 obtain⟨_,_,_,_,_,_,_,_⟩:=x
 kernel_rfl
theorem K_101L9 (n:Nat) (x):AM (n+1) x=Yfg C_101 B_101L9 (S_101L9 Aa) x (AM n):=by
 obtain⟨_,_,_,_,_,_⟩:=x
 kernel_rfl
theorem K_101L5 (n:Nat) (x):Bb (n+1) x=Yfg C_101 B_101L5 (S_101L5 Aa) x (Bb n):=by
 obtain⟨_,_,_,_⟩:=x
 kernel_rfl
theorem F_101 (a):E_101.run a=Yir C_101 Tryz.f30 E_101.params E_101.results a λo r=>some (N_101 o r):=by
 kernel_rfl
theorem W_101:XU D_101= [B_101L5,B_101L9,B_101L13]:=by kernel_rfl
theorem Q_101:Qk Tryz.prog 30 Tryz.f30 D_101:=⟨Tryz.func30,by kernel_rfl,by kernel_rfl⟩
theorem H_101:Holds Tryz.prog 30 E_101:=
 Yi3 tabT mixT Q_101 F_101 rfl ⟨⟨H_47,_,_,Q_47⟩,⟨⟨H_96,_,_,Q_96⟩,⟨⟨H_97,_,_,Q_97⟩,⟨⟨H_98,_,_,Q_98⟩,⟨⟨H_100,_,_,Q_100⟩,trivial⟩⟩⟩⟩⟩ W_101 ⟨Yi8 (L:=S_101L5 Aa) K_101L5 (i:=5) (by kernel_rfl),⟨Yi8 (L:=S_101L9 Aa) K_101L9 (i:=9) (by kernel_rfl),⟨Yi8 (L:=S_101L13 Aa) K_101L13 (i:=13) (by kernel_rfl),trivial⟩⟩⟩
theorem F_102 (a):E_102.run a=Yir C_102 Tryz.f70 E_102.params E_102.results a λo r=>some (N_102 o r):=by
 kernel_rfl
theorem W_102:XU D_102= []:=by kernel_rfl
theorem Q_102:Qk Tryz.prog 70 Tryz.f70 D_102:=⟨Tryz.func70,by kernel_rfl,by kernel_rfl⟩
theorem H_102:Holds Tryz.prog 70 E_102:=
 Yi3 tabT mixT Q_102 F_102 rfl trivial W_102 trivial
theorem F_103 (a):E_103.run a=Yir C_103 Tryz.f119 E_103.params E_103.results a λo r=>some (N_103 o r):=by
 kernel_rfl
theorem W_103:XU D_103= []:=by kernel_rfl
theorem Q_103:Qk Tryz.prog 119 Tryz.f119 D_103:=⟨Tryz.func119,by kernel_rfl,by kernel_rfl⟩
theorem H_103:Holds Tryz.prog 119 E_103:=
 Yi3 tabT mixT Q_103 F_103 rfl ⟨⟨H_102,_,_,Q_102⟩,trivial⟩ W_103 trivial
theorem K_104L10 (rec:(Int×(List Int)×(Bool×(List Int))×(Bool×Int×(List (List (List Int)))×(List (List (List ByteArray))))×(List Int)×Unit)->Option ((List Int)×(Bool×(List Int))×(Bool×Int×(List (List (List Int)))×(List (List (List ByteArray))))×(List Int)×Bool)) (n:Nat) (x):Ak rec (n+1) x=Yfg (C_104 rec) B_104L10 (S_104L10 rec Aa) x (Ak rec n):=by
 obtain⟨_,_,_,_,_,_,_,_,_,_,_⟩:=x
 kernel_rfl
theorem K_104L4 (rec:(Int×(List Int)×(Bool×(List Int))×(Bool×Int×(List (List (List Int)))×(List (List (List ByteArray))))×(List Int)×Unit)->Option ((List Int)×(Bool×(List Int))×(Bool×Int×(List (List (List Int)))×(List (List (List ByteArray))))×(List Int)×Bool)) (n:Nat) (x):Af rec (n+1) x=Yfg (C_104 rec) B_104L4 (S_104L4 rec Aa) x (Af rec n):=by
 obtain⟨_,_,_,_,_,_,_⟩:=x
 kernel_rfl
theorem F_104 (rec:(Int×(List Int)×(Bool×(List Int))×(Bool×Int×(List (List (List Int)))×(List (List (List ByteArray))))×(List Int)×Unit)->Option ((List Int)×(Bool×(List Int))×(Bool×Int×(List (List (List Int)))×(List (List (List ByteArray))))×(List Int)×Bool)) (a:YH [.v .int,.bx (.mv .int 0),.bx (.nv .int 0),.bx (.v (.ptr y3)),.bx (.v y1),.jk 1]):A8 rec a.1 a.2.1 a.2.2.1 a.2.2.2.1 a.2.2.2.2.1 a.2.2.2.2.2=Yir (C_104 rec) Tryz.f150 [.v .int,.bx (.mv .int 0),.bx (.nv .int 0),.bx (.v (.ptr y3)),.bx (.v y1),.jk 1] [.v .bool] a (λo r=>some (N_104 o r)):=by
 kernel_rfl
theorem W_104:XU D_104= [B_104L4,B_104L10]:=by kernel_rfl
theorem R_104L10:YZ B_104L10=10:=by kernel_rfl
theorem R_104L4:YZ B_104L4=4:=by kernel_rfl
theorem Q_104:Qk Tryz.prog 150 Tryz.f150 D_104:=⟨Tryz.func150,by kernel_rfl,by kernel_rfl⟩
theorem H_104: ∀d,Holds Tryz.prog 150 (E_104 d)
 |0=>λ_ b h=>absurd (show(none:Option _)=some b from h) (by simp)
 |d+1=>YgE (en:=E_104 (d+1)) (cx:=(C_104 (Am d))) (Yhe tabT rfl).1 (Yfz ⟨⟨H_38,_,_,Q_38⟩,⟨⟨H_103,_,_,Q_103⟩,⟨⟨H_32,_,_,Q_32⟩,⟨⟨H_104 d,_,_,Q_104⟩,trivial⟩⟩⟩⟩) mixT Q_104.1 Q_104.2.2 (YgL W_104 ⟨YhE (cx:=(C_104 (Am d))) (L:=S_104L4 (Am d) Aa) rfl (by rw[R_104L4];rfl) ⟨Af (Am d),λ_=>rfl,λn x=>K_104L4 (Am d) n x,Aa,λ_=>rfl⟩,⟨YhE (cx:=(C_104 (Am d))) (L:=S_104L10 (Am d) Aa) rfl (by rw[R_104L10];rfl) ⟨Ak (Am d),λ_=>rfl,λn x=>K_104L10 (Am d) n x,Aa,λ_=>rfl⟩,trivial⟩⟩) (enc:=N_104) (λ_ _=>⟨rfl,rfl⟩) (F_104 (Am d)) rfl
theorem F_105 (a):E_105.run a=Yir C_105 Tryz.f118 E_105.params E_105.results a λo r=>some (N_105 o r):=by
 kernel_rfl
theorem W_105:XU D_105= []:=by kernel_rfl
theorem Q_105:Qk Tryz.prog 118 Tryz.f118 D_105:=⟨Tryz.func118,by kernel_rfl,by kernel_rfl⟩
theorem H_105:Holds Tryz.prog 118 E_105:=
 Yi3 tabT mixT Q_105 F_105 rfl ⟨⟨H_104 Aa,_,_,Q_104⟩,trivial⟩ W_105 trivial
theorem F_106 (a):E_106.run a=Yir C_106 Tryz.f67 E_106.params E_106.results a λo r=>some (N_106 o r):=by
 kernel_rfl
theorem W_106:XU D_106= []:=by kernel_rfl
theorem Q_106:Qk Tryz.prog 67 Tryz.f67 D_106:=⟨Tryz.func67,by kernel_rfl,by kernel_rfl⟩
theorem H_106:Holds Tryz.prog 67 E_106:=
 Yi3 tabT mixT Q_106 F_106 rfl ⟨⟨H_34,_,_,Q_34⟩,⟨⟨H_105,_,_,Q_105⟩,trivial⟩⟩ W_106 trivial
theorem K_107L4 (n:Nat) (x):Bi (n+1) x=Yfg C_107 B_107L4 (S_107L4 Aa) x (Bi n):=by
 obtain⟨_,_,_,_,_⟩:=x
 kernel_rfl
theorem F_107 (a):E_107.run a=Yir C_107 Tryz.f21 E_107.params E_107.results a λo r=>some (N_107 o r):=by
 kernel_rfl
theorem W_107:XU D_107= [B_107L4]:=by kernel_rfl
theorem Q_107:Qk Tryz.prog 21 Tryz.f21 D_107:=⟨Tryz.func21,by kernel_rfl,by kernel_rfl⟩
theorem H_107:Holds Tryz.prog 21 E_107:=
 Yi3 tabT mixT Q_107 F_107 rfl ⟨⟨H_31,_,_,Q_31⟩,⟨⟨H_106,_,_,Q_106⟩,trivial⟩⟩ W_107 ⟨Yi8 (L:=S_107L4 Aa) K_107L4 (i:=4) (by kernel_rfl),trivial⟩
theorem K_108L14 (n:Nat) (x):As (n+1) x=Yfg C_108 B_108L14 (S_108L14 Aa) x (As n):=by
 obtain⟨_,_,_,_,_,_,_,_⟩:=x
 kernel_rfl
theorem K_108L10 (n:Nat) (x):Ay (n+1) x=Yfg C_108 B_108L10 (S_108L10 Aa) x (Ay n):=by
 obtain⟨_,_,_,_,_,_⟩:=x
 kernel_rfl
theorem K_108L30 (n:Nat) (x):AQ (n+1) x=Yfg C_108 B_108L30 (S_108L30 Aa) x (AQ n):=by
 obtain⟨_,_,_,_,_,_,_,_,_⟩:=x
 kernel_rfl
theorem K_108L25 (n:Nat) (x):AC (n+1) x=Yfg C_108 B_108L25 (S_108L25 Aa) x (AC n):=by
 obtain⟨_,_,_,_,_⟩:=x
 kernel_rfl
theorem K_108L44 (n:Nat) (x):Ap (n+1) x=Yfg C_108 B_108L44 (S_108L44 Aa) x (Ap n):=by
 obtain⟨_,_,_,_,_⟩:=x
 kernel_rfl
theorem K_108L51 (n:Nat) (x):Aq (n+1) x=Yfg C_108 B_108L51 (S_108L51 Aa) x (Aq n):=by
 obtain⟨_,_,_,_,_,_⟩:=x
 kernel_rfl
theorem F_108 (a):E_108.run a=Yir C_108 Tryz.f4 E_108.params E_108.results a λo r=>some (N_108 o r):=by
 kernel_rfl
theorem W_108:XU D_108= [B_108L10,B_108L14,B_108L25,B_108L30,B_108L44,B_108L51]:=by kernel_rfl
theorem Q_108:Qk Tryz.prog 4 Tryz.f4 D_108:=⟨Tryz.func4,by kernel_rfl,by kernel_rfl⟩
theorem H_108:Holds Tryz.prog 4 E_108:=
 Yi3 tabT mixT Q_108 F_108 rfl ⟨⟨H_1,_,_,Q_1⟩,⟨⟨H_56,_,_,Q_56⟩,⟨⟨H_85,_,_,Q_85⟩,⟨⟨H_107,_,_,Q_107⟩,⟨⟨H_25,_,_,Q_25⟩,⟨⟨H_42,_,_,Q_42⟩,⟨⟨H_54,_,_,Q_54⟩,⟨⟨H_68,_,_,Q_68⟩,⟨⟨H_78,_,_,Q_78⟩,⟨⟨H_80,_,_,Q_80⟩,⟨⟨H_86,_,_,Q_86⟩,⟨⟨H_95,_,_,Q_95⟩,⟨⟨H_101,_,_,Q_101⟩,trivial⟩⟩⟩⟩⟩⟩⟩⟩⟩⟩⟩⟩⟩ W_108 ⟨Yi8 (L:=S_108L10 Aa) K_108L10 (i:=10) (by kernel_rfl),⟨Yi8 (L:=S_108L14 Aa) K_108L14 (i:=14) (by kernel_rfl),⟨Yi8 (L:=S_108L25 Aa) K_108L25 (i:=25) (by kernel_rfl),⟨Yi8 (L:=S_108L30 Aa) K_108L30 (i:=30) (by kernel_rfl),⟨Yi8 (L:=S_108L44 Aa) K_108L44 (i:=44) (by kernel_rfl),⟨Yi8 (L:=S_108L51 Aa) K_108L51 (i:=51) (by kernel_rfl),trivial⟩⟩⟩⟩⟩⟩
end T
