/- Each typed function is what the program computes; no conditions. -/
import Derived.Test.YtgeboeaoblppcabGreatSFnNetworks
import Derived.Test.YtgeboeaoblppcabGreatCFnNetworks
set_option linter.all false
set_option maxRecDepth 10000
open Go Go.Va Go.Proofs
namespace T
theorem F_1 (a):E_1.run a=Yir C_1 Tryz.f4 E_1.params E_1.results a λo r=>some (N_1 o r):=by
 kernel_rfl
theorem W_1:XU D_1= []:=by kernel_rfl
theorem Q_1:Qk Tryz.prog 4 Tryz.f4 D_1:=⟨Tryz.func4,by kernel_rfl,by kernel_rfl⟩
theorem H_1:Holds Tryz.prog 4 E_1:=
 Yi3 tabT mixT Q_1 F_1 rfl trivial W_1 trivial
theorem F_2 (a):E_2.run a=Yir C_2 Tryz.f62 E_2.params E_2.results a λo r=>some (N_2 o r):=by
 kernel_rfl
theorem W_2:XU D_2= []:=by kernel_rfl
theorem Q_2:Qk Tryz.prog 62 Tryz.f62 D_2:=⟨Tryz.func62,by kernel_rfl,by kernel_rfl⟩
theorem H_2:Holds Tryz.prog 62 E_2:=
 Yi3 tabT mixT Q_2 F_2 rfl trivial W_2 trivial
theorem F_3 (a):E_3.run a=Yir C_3 Tryz.f36 E_3.params E_3.results a λo r=>some (N_3 o r):=by
 kernel_rfl
theorem W_3:XU D_3= []:=by kernel_rfl
theorem Q_3:Qk Tryz.prog 36 Tryz.f36 D_3:=⟨Tryz.func36,by kernel_rfl,by kernel_rfl⟩
theorem H_3:Holds Tryz.prog 36 E_3:=
 Yi3 tabT mixT Q_3 F_3 rfl ⟨⟨H_2,_,_,Q_2⟩,trivial⟩ W_3 trivial
theorem F_4 (a):E_4.run a=Yir C_4 Tryz.f38 E_4.params E_4.results a λo r=>some (N_4 o r):=by
 kernel_rfl
theorem W_4:XU D_4= []:=by kernel_rfl
theorem Q_4:Qk Tryz.prog 38 Tryz.f38 D_4:=⟨Tryz.func38,by kernel_rfl,by kernel_rfl⟩
theorem H_4:Holds Tryz.prog 38 E_4:=
 Yi3 tabT mixT Q_4 F_4 rfl ⟨⟨H_3,_,_,Q_3⟩,trivial⟩ W_4 trivial
theorem F_5 (a):E_5.run a=Yir C_5 Tryz.f74 E_5.params E_5.results a λo r=>some (N_5 o r):=by
 kernel_rfl
theorem W_5:XU D_5= []:=by kernel_rfl
theorem Q_5:Qk Tryz.prog 74 Tryz.f74 D_5:=⟨Tryz.func74,by kernel_rfl,by kernel_rfl⟩
theorem H_5:Holds Tryz.prog 74 E_5:=
 Yi3 tabT mixT Q_5 F_5 rfl trivial W_5 trivial
theorem F_6 (a):E_6.run a=Yir C_6 Tryz.f75 E_6.params E_6.results a λo r=>some (N_6 o r):=by
 kernel_rfl
theorem W_6:XU D_6= []:=by kernel_rfl
theorem Q_6:Qk Tryz.prog 75 Tryz.f75 D_6:=⟨Tryz.func75,by kernel_rfl,by kernel_rfl⟩
theorem H_6:Holds Tryz.prog 75 E_6:=
 Yi3 tabT mixT Q_6 F_6 rfl trivial W_6 trivial
theorem F_7 (a):E_7.run a=Yir C_7 Tryz.f35 E_7.params E_7.results a λo r=>some (N_7 o r):=by
 kernel_rfl
theorem W_7:XU D_7= []:=by kernel_rfl
theorem Q_7:Qk Tryz.prog 35 Tryz.f35 D_7:=⟨Tryz.func35,by kernel_rfl,by kernel_rfl⟩
theorem H_7:Holds Tryz.prog 35 E_7:=
 Yi3 tabT mixT Q_7 F_7 rfl ⟨⟨H_3,_,_,Q_3⟩,trivial⟩ W_7 trivial
theorem F_8 (a):E_8.run a=Yir C_8 Tryz.f44 E_8.params E_8.results a λo r=>some (N_8 o r):=by
 kernel_rfl
theorem W_8:XU D_8= []:=by kernel_rfl
theorem Q_8:Qk Tryz.prog 44 Tryz.f44 D_8:=⟨Tryz.func44,by kernel_rfl,by kernel_rfl⟩
theorem H_8:Holds Tryz.prog 44 E_8:=
 Yi3 tabT mixT Q_8 F_8 rfl trivial W_8 trivial
theorem F_9 (a):E_9.run a=Yir C_9 Tryz.f67 E_9.params E_9.results a λo r=>some (N_9 o r):=by
 kernel_rfl
theorem W_9:XU D_9= []:=by kernel_rfl
theorem Q_9:Qk Tryz.prog 67 Tryz.f67 D_9:=⟨Tryz.func67,by kernel_rfl,by kernel_rfl⟩
theorem H_9:Holds Tryz.prog 67 E_9:=
 Yi3 tabT mixT Q_9 F_9 rfl ⟨⟨H_8,_,_,Q_8⟩,trivial⟩ W_9 trivial
theorem K_10L2 (n:Nat) (x):CQ (n+1) x=Yfg C_10 B_10L2 (S_10L2 Ad) x (CQ n):=by
 obtain⟨_,_,_⟩:=x
 kernel_rfl
theorem F_10 (a):E_10.run a=Yir C_10 Tryz.f83 E_10.params E_10.results a λo r=>some (N_10 o r):=by
 kernel_rfl
theorem W_10:XU D_10= [B_10L2]:=by kernel_rfl
theorem Q_10:Qk Tryz.prog 83 Tryz.f83 D_10:=⟨Tryz.func83,by kernel_rfl,by kernel_rfl⟩
theorem H_10:Holds Tryz.prog 83 E_10:=
 Yi3 tabT mixT Q_10 F_10 rfl trivial W_10 ⟨Yi8 (L:=S_10L2 Ad) K_10L2 (i:=2) (by kernel_rfl),trivial⟩
theorem K_11L4 (n:Nat) (x):CN (n+1) x=Yfg C_11 B_11L4 (S_11L4 Ad) x (CN n):=by
 obtain⟨_,_,_⟩:=x
 kernel_rfl
theorem F_11 (a):E_11.run a=Yir C_11 Tryz.f84 E_11.params E_11.results a λo r=>some (N_11 o r):=by
 kernel_rfl
theorem W_11:XU D_11= [B_11L4]:=by kernel_rfl
theorem Q_11:Qk Tryz.prog 84 Tryz.f84 D_11:=⟨Tryz.func84,by kernel_rfl,by kernel_rfl⟩
theorem H_11:Holds Tryz.prog 84 E_11:=
 Yi3 tabT mixT Q_11 F_11 rfl trivial W_11 ⟨Yi8 (L:=S_11L4 Ad) K_11L4 (i:=4) (by kernel_rfl),trivial⟩
theorem K_12L2 (n:Nat) (x):Ct (n+1) x=Yfg C_12 B_12L2 (S_12L2 Ad) x (Ct n):=by
 obtain⟨_,_,_,_⟩:=x
 kernel_rfl
theorem F_12 (a):E_12.run a=Yir C_12 Tryz.f73 E_12.params E_12.results a λo r=>some (N_12 o r):=by
 kernel_rfl
theorem W_12:XU D_12= [B_12L2]:=by kernel_rfl
theorem Q_12:Qk Tryz.prog 73 Tryz.f73 D_12:=⟨Tryz.func73,by kernel_rfl,by kernel_rfl⟩
theorem H_12:Holds Tryz.prog 73 E_12:=
 Yi3 tabT mixT Q_12 F_12 rfl ⟨⟨H_10,_,_,Q_10⟩,⟨⟨H_11,_,_,Q_11⟩,trivial⟩⟩ W_12 ⟨Yi8 (L:=S_12L2 Ad) K_12L2 (i:=2) (by kernel_rfl),trivial⟩
theorem F_13 (a):E_13.run a=Yir C_13 Tryz.f68 E_13.params E_13.results a λo r=>some (N_13 o r):=by
 kernel_rfl
theorem W_13:XU D_13= []:=by kernel_rfl
theorem Q_13:Qk Tryz.prog 68 Tryz.f68 D_13:=⟨Tryz.func68,by kernel_rfl,by kernel_rfl⟩
theorem H_13:Holds Tryz.prog 68 E_13:=
 Yi3 tabT mixT Q_13 F_13 rfl ⟨⟨H_12,_,_,Q_12⟩,trivial⟩ W_13 trivial
theorem K_14L3 (n:Nat) (x):AQ (n+1) x=Yfg C_14 B_14L3 (S_14L3 Ad) x (AQ n):=by
 obtain⟨_,_,_,_⟩:=x
 kernel_rfl
theorem F_14 (a):E_14.run a=Yir C_14 Tryz.f70 E_14.params E_14.results a λo r=>some (N_14 o r):=by
 kernel_rfl
theorem W_14:XU D_14= [B_14L3]:=by kernel_rfl
theorem Q_14:Qk Tryz.prog 70 Tryz.f70 D_14:=⟨Tryz.func70,by kernel_rfl,by kernel_rfl⟩
theorem H_14:Holds Tryz.prog 70 E_14:=
 Yi3 tabT mixT Q_14 F_14 rfl ⟨⟨H_3,_,_,Q_3⟩,trivial⟩ W_14 ⟨Yi8 (L:=S_14L3 Ad) K_14L3 (i:=3) (by kernel_rfl),trivial⟩
theorem K_15L6 (n:Nat) (x):AX (n+1) x=Yfg C_15 B_15L6 (S_15L6 Ad) x (AX n):=by
 obtain⟨_,_,_,_,_⟩:=x
 kernel_rfl
theorem K_15L3 (n:Nat) (x):Bj (n+1) x=Yfg C_15 B_15L3 (S_15L3 Ad) x (Bj n):=by
 obtain⟨_,_,_,_⟩:=x
 kernel_rfl
theorem F_15 (a):E_15.run a=Yir C_15 Tryz.f69 E_15.params E_15.results a λo r=>some (N_15 o r):=by
 kernel_rfl
theorem W_15:XU D_15= [B_15L3,B_15L6]:=by kernel_rfl
theorem Q_15:Qk Tryz.prog 69 Tryz.f69 D_15:=⟨Tryz.func69,by kernel_rfl,by kernel_rfl⟩
theorem H_15:Holds Tryz.prog 69 E_15:=
 Yi3 tabT mixT Q_15 F_15 rfl trivial W_15 ⟨Yi8 (L:=S_15L3 Ad) K_15L3 (i:=3) (by kernel_rfl),⟨Yi8 (L:=S_15L6 Ad) K_15L6 (i:=6) (by kernel_rfl),trivial⟩⟩
theorem K_16L2 (n:Nat) (x):Cj (n+1) x=Yfg C_16 B_16L2 (S_16L2 Ad) x (Cj n):=by
 obtain⟨_,_,_⟩:=x
 kernel_rfl
theorem F_16 (a):E_16.run a=Yir C_16 Tryz.f46 E_16.params E_16.results a λo r=>some (N_16 o r):=by
 kernel_rfl
theorem W_16:XU D_16= [B_16L2]:=by kernel_rfl
theorem Q_16:Qk Tryz.prog 46 Tryz.f46 D_16:=⟨Tryz.func46,by kernel_rfl,by kernel_rfl⟩
theorem H_16:Holds Tryz.prog 46 E_16:=
 Yi3 tabT mixT Q_16 F_16 rfl trivial W_16 ⟨Yi8 (L:=S_16L2 Ad) K_16L2 (i:=2) (by kernel_rfl),trivial⟩
theorem K_17L3 (n:Nat) (x):CO (n+1) x=Yfg C_17 B_17L3 (S_17L3 Ad) x (CO n):=by
 obtain⟨_,_,_,_⟩:=x
 kernel_rfl
theorem F_17 (a):E_17.run a=Yir C_17 Tryz.f47 E_17.params E_17.results a λo r=>some (N_17 o r):=by
 kernel_rfl
theorem W_17:XU D_17= [B_17L3]:=by kernel_rfl
theorem Q_17:Qk Tryz.prog 47 Tryz.f47 D_17:=⟨Tryz.func47,by kernel_rfl,by kernel_rfl⟩
theorem H_17:Holds Tryz.prog 47 E_17:=
 Yi3 tabT mixT Q_17 F_17 rfl trivial W_17 ⟨Yi8 (L:=S_17L3 Ad) K_17L3 (i:=3) (by kernel_rfl),trivial⟩
theorem K_18L3 (n:Nat) (x):B6 (n+1) x=Yfg C_18 B_18L3 (S_18L3 Ad) x (B6 n):=by
 obtain⟨_,_,_,_,_⟩:=x
 kernel_rfl
theorem F_18 (a):E_18.run a=Yir C_18 Tryz.f71 E_18.params E_18.results a λo r=>some (N_18 o r):=by
 kernel_rfl
theorem W_18:XU D_18= [B_18L3]:=by kernel_rfl
theorem Q_18:Qk Tryz.prog 71 Tryz.f71 D_18:=⟨Tryz.func71,by kernel_rfl,by kernel_rfl⟩
theorem H_18:Holds Tryz.prog 71 E_18:=
 Yi3 tabT mixT Q_18 F_18 rfl ⟨⟨H_16,_,_,Q_16⟩,⟨⟨H_17,_,_,Q_17⟩,trivial⟩⟩ W_18 ⟨Yi8 (L:=S_18L3 Ad) K_18L3 (i:=3) (by kernel_rfl),trivial⟩
theorem F_19 (a):E_19.run a=Yir C_19 Tryz.f68 E_19.params E_19.results a λo r=>some (N_19 o r):=by
 kernel_rfl
theorem W_19:XU D_19= []:=by kernel_rfl
theorem Q_19:Qk Tryz.prog 68 Tryz.f68 D_19:=⟨Tryz.func68,by kernel_rfl,by kernel_rfl⟩
theorem H_19:Holds Tryz.prog 68 E_19:=
 Yi3 tabT mixT Q_19 F_19 rfl ⟨⟨H_12,_,_,Q_12⟩,trivial⟩ W_19 trivial
theorem K_20L9 (n:Nat) (x):Bm (n+1) x=Yfg C_20 B_20L9 (S_20L9 Ad) x (Bm n):=by
 obtain⟨_,_,_,_,_,_,_,_⟩:=x
 kernel_rfl
theorem K_20L5 (n:Nat) (x):Bl (n+1) x=Yfg C_20 B_20L5 (S_20L5 Ad) x (Bl n):=by
 obtain⟨_,_,_,_,_,_⟩:=x
 kernel_rfl
theorem F_20 (a):E_20.run a=Yir C_20 Tryz.f51 E_20.params E_20.results a λo r=>some (N_20 o r):=by
 kernel_rfl
theorem W_20:XU D_20= [B_20L5,B_20L9]:=by kernel_rfl
theorem Q_20:Qk Tryz.prog 51 Tryz.f51 D_20:=⟨Tryz.func51,by kernel_rfl,by kernel_rfl⟩
theorem H_20:Holds Tryz.prog 51 E_20:=
 Yi3 tabT mixT Q_20 F_20 rfl ⟨⟨H_7,_,_,Q_7⟩,⟨⟨H_3,_,_,Q_3⟩,⟨⟨H_4,_,_,Q_4⟩,⟨⟨H_8,_,_,Q_8⟩,⟨⟨H_9,_,_,Q_9⟩,⟨⟨H_19,_,_,Q_19⟩,⟨⟨H_15,_,_,Q_15⟩,⟨⟨H_14,_,_,Q_14⟩,⟨⟨H_18,_,_,Q_18⟩,trivial⟩⟩⟩⟩⟩⟩⟩⟩⟩ W_20 ⟨Yi8 (L:=S_20L5 Ad) K_20L5 (i:=5) (by kernel_rfl),⟨Yi8 (L:=S_20L9 Ad) K_20L9 (i:=9) (by kernel_rfl),trivial⟩⟩
theorem K_21L9 (n:Nat) (x):AZ (n+1) x=Yfg C_21 B_21L9 (S_21L9 Ad) x (AZ n):=by
 obtain⟨_,_,_,_,_,_,_⟩:=x
 kernel_rfl
theorem K_21L5 (n:Nat) (x):AY (n+1) x=Yfg C_21 B_21L5 (S_21L5 Ad) x (AY n):=by
 obtain⟨_,_,_,_,_⟩:=x
 kernel_rfl
theorem K_21L17 (n:Nat) (x):Be (n+1) x=Yfg C_21 B_21L17 (S_21L17 Ad) x (Be n):=by
 obtain⟨_,_,_,_⟩:=x
 kernel_rfl
theorem F_21 (a):E_21.run a=Yir C_21 Tryz.f54 E_21.params E_21.results a λo r=>some (N_21 o r):=by
 kernel_rfl
theorem W_21:XU D_21= [B_21L5,B_21L9,B_21L17]:=by kernel_rfl
theorem Q_21:Qk Tryz.prog 54 Tryz.f54 D_21:=⟨Tryz.func54,by kernel_rfl,by kernel_rfl⟩
theorem H_21:Holds Tryz.prog 54 E_21:=
 Yi3 tabT mixT Q_21 F_21 rfl ⟨⟨H_7,_,_,Q_7⟩,⟨⟨H_3,_,_,Q_3⟩,⟨⟨H_4,_,_,Q_4⟩,⟨⟨H_20,_,_,Q_20⟩,⟨⟨H_5,_,_,Q_5⟩,⟨⟨H_6,_,_,Q_6⟩,trivial⟩⟩⟩⟩⟩⟩ W_21 ⟨Yi8 (L:=S_21L5 Ad) K_21L5 (i:=5) (by kernel_rfl),⟨Yi8 (L:=S_21L9 Ad) K_21L9 (i:=9) (by kernel_rfl),⟨Yi8 (L:=S_21L17 Ad) K_21L17 (i:=17) (by kernel_rfl),trivial⟩⟩⟩
theorem F_22 (a):E_22.run a=Yir C_22 Tryz.f37 E_22.params E_22.results a λo r=>some (N_22 o r):=by
 kernel_rfl
theorem W_22:XU D_22= []:=by kernel_rfl
theorem Q_22:Qk Tryz.prog 37 Tryz.f37 D_22:=⟨Tryz.func37,by kernel_rfl,by kernel_rfl⟩
theorem H_22:Holds Tryz.prog 37 E_22:=
 Yi3 tabT mixT Q_22 F_22 rfl trivial W_22 trivial
theorem K_23L11 (n:Nat) (x):AI (n+1) x=Yfg C_23 B_23L11 (S_23L11 Ad) x (AI n):=by
 obtain⟨_,_,_,_,_,_,_,_,_⟩:=x
 kernel_rfl
theorem K_23L4 (n:Nat) (x):AO (n+1) x=Yfg C_23 B_23L4 (S_23L4 Ad) x (AO n):=by
 obtain⟨_,_,_,_,_,_⟩:=x
 kernel_rfl
theorem K_23L23 (n:Nat) (x):Bk (n+1) x=Yfg C_23 B_23L23 (S_23L23 Ad) x (Bk n):=by
 obtain⟨_,_,_,_⟩:=x
 kernel_rfl
theorem F_23 (a):E_23.run a=Yir C_23 Tryz.f21 E_23.params E_23.results a λo r=>some (N_23 o r):=by
 kernel_rfl
theorem W_23:XU D_23= [B_23L4,B_23L11,B_23L23]:=by kernel_rfl
theorem Q_23:Qk Tryz.prog 21 Tryz.f21 D_23:=⟨Tryz.func21,by kernel_rfl,by kernel_rfl⟩
theorem H_23:Holds Tryz.prog 21 E_23:=
 Yi3 tabT mixT Q_23 F_23 rfl ⟨⟨H_7,_,_,Q_7⟩,⟨⟨H_3,_,_,Q_3⟩,⟨⟨H_22,_,_,Q_22⟩,⟨⟨H_4,_,_,Q_4⟩,⟨⟨H_20,_,_,Q_20⟩,⟨⟨H_21,_,_,Q_21⟩,trivial⟩⟩⟩⟩⟩⟩ W_23 ⟨Yi8 (L:=S_23L4 Ad) K_23L4 (i:=4) (by kernel_rfl),⟨Yi8 (L:=S_23L11 Ad) K_23L11 (i:=11) (by kernel_rfl),⟨Yi8 (L:=S_23L23 Ad) K_23L23 (i:=23) (by kernel_rfl),trivial⟩⟩⟩
theorem K_24L3 (n:Nat) (x):AJ (n+1) x=Yfg C_24 B_24L3 (S_24L3 Ad) x (AJ n):=by
 obtain⟨_,_,_,_,_⟩:=x
 kernel_rfl
theorem F_24 (a):E_24.run a=Yir C_24 Tryz.f22 E_24.params E_24.results a λo r=>some (N_24 o r):=by
 kernel_rfl
theorem W_24:XU D_24= [B_24L3]:=by kernel_rfl
theorem Q_24:Qk Tryz.prog 22 Tryz.f22 D_24:=⟨Tryz.func22,by kernel_rfl,by kernel_rfl⟩
theorem H_24:Holds Tryz.prog 22 E_24:=
 Yi3 tabT mixT Q_24 F_24 rfl ⟨⟨H_7,_,_,Q_7⟩,⟨⟨H_3,_,_,Q_3⟩,⟨⟨H_22,_,_,Q_22⟩,⟨⟨H_4,_,_,Q_4⟩,trivial⟩⟩⟩⟩ W_24 ⟨Yi8 (L:=S_24L3 Ad) K_24L3 (i:=3) (by kernel_rfl),trivial⟩
theorem F_25 (a):E_25.run a=Yir C_25 Tryz.f5 E_25.params E_25.results a λo r=>some (N_25 o r):=by
 kernel_rfl
theorem W_25:XU D_25= []:=by kernel_rfl
theorem Q_25:Qk Tryz.prog 5 Tryz.f5 D_25:=⟨Tryz.func5,by kernel_rfl,by kernel_rfl⟩
theorem H_25:Holds Tryz.prog 5 E_25:=
 Yi3 tabT mixT Q_25 F_25 rfl ⟨⟨H_23,_,_,Q_23⟩,⟨⟨H_24,_,_,Q_24⟩,trivial⟩⟩ W_25 trivial
theorem F_26 (a):E_26.run a=Yir C_26 Tryz.f55 E_26.params E_26.results a λo r=>some (N_26 o r):=by
 kernel_rfl
theorem W_26:XU D_26= []:=by kernel_rfl
theorem Q_26:Qk Tryz.prog 55 Tryz.f55 D_26:=⟨Tryz.func55,by kernel_rfl,by kernel_rfl⟩
theorem H_26:Holds Tryz.prog 55 E_26:=
 Yi3 tabT mixT Q_26 F_26 rfl trivial W_26 trivial
theorem K_27L2 (n:Nat) (x):CL (n+1) x=Yfg C_27 B_27L2 (S_27L2 Ad) x (CL n):=by
 obtain⟨_,_,_,_⟩:=x
 kernel_rfl
theorem F_27 (a):E_27.run a=Yir C_27 Tryz.f39 E_27.params E_27.results a λo r=>some (N_27 o r):=by
 kernel_rfl
theorem W_27:XU D_27= [B_27L2]:=by kernel_rfl
theorem Q_27:Qk Tryz.prog 39 Tryz.f39 D_27:=⟨Tryz.func39,by kernel_rfl,by kernel_rfl⟩
theorem H_27:Holds Tryz.prog 39 E_27:=
 Yi3 tabT mixT Q_27 F_27 rfl trivial W_27 ⟨Yi8 (L:=S_27L2 Ad) K_27L2 (i:=2) (by kernel_rfl),trivial⟩
theorem K_28L2 (n:Nat) (x):Bv (n+1) x=Yfg C_28 B_28L2 (S_28L2 Ad) x (Bv n):=by
 obtain⟨_,_,_⟩:=x
 kernel_rfl
theorem F_28 (a):E_28.run a=Yir C_28 Tryz.f81 E_28.params E_28.results a λo r=>some (N_28 o r):=by
 kernel_rfl
theorem W_28:XU D_28= [B_28L2]:=by kernel_rfl
theorem Q_28:Qk Tryz.prog 81 Tryz.f81 D_28:=⟨Tryz.func81,by kernel_rfl,by kernel_rfl⟩
theorem H_28:Holds Tryz.prog 81 E_28:=
 Yi3 tabT mixT Q_28 F_28 rfl trivial W_28 ⟨Yi8 (L:=S_28L2 Ad) K_28L2 (i:=2) (by kernel_rfl),trivial⟩
theorem K_29L4 (n:Nat) (x):BM (n+1) x=Yfg C_29 B_29L4 (S_29L4 Ad) x (BM n):=by
 obtain⟨_,_,_,_,_⟩:=x
 kernel_rfl
theorem F_29 (a):E_29.run a=Yir C_29 Tryz.f65 E_29.params E_29.results a λo r=>some (N_29 o r):=by
 kernel_rfl
theorem W_29:XU D_29= [B_29L4]:=by kernel_rfl
theorem Q_29:Qk Tryz.prog 65 Tryz.f65 D_29:=⟨Tryz.func65,by kernel_rfl,by kernel_rfl⟩
theorem H_29:Holds Tryz.prog 65 E_29:=
 Yi3 tabT mixT Q_29 F_29 rfl ⟨⟨H_27,_,_,Q_27⟩,⟨⟨H_28,_,_,Q_28⟩,trivial⟩⟩ W_29 ⟨Yi8 (L:=S_29L4 Ad) K_29L4 (i:=4) (by kernel_rfl),trivial⟩
theorem F_30 (a):E_30.run a=Yir C_30 Tryz.f48 E_30.params E_30.results a λo r=>some (N_30 o r):=by
 kernel_rfl
theorem W_30:XU D_30= []:=by kernel_rfl
theorem Q_30:Qk Tryz.prog 48 Tryz.f48 D_30:=⟨Tryz.func48,by kernel_rfl,by kernel_rfl⟩
theorem H_30:Holds Tryz.prog 48 E_30:=
 Yi3 tabT mixT Q_30 F_30 rfl ⟨⟨H_27,_,_,Q_27⟩,⟨⟨H_29,_,_,Q_29⟩,trivial⟩⟩ W_30 trivial
theorem K_31L4 (n:Nat) (x):Ce (n+1) x=Yfg C_31 B_31L4 (S_31L4 Ad) x (Ce n):=by
 obtain⟨_,_,_,_⟩:=x
 kernel_rfl
theorem F_31 (a):E_31.run a=Yir C_31 Tryz.f23 E_31.params E_31.results a λo r=>some (N_31 o r):=by
 kernel_rfl
theorem W_31:XU D_31= [B_31L4]:=by kernel_rfl
theorem Q_31:Qk Tryz.prog 23 Tryz.f23 D_31:=⟨Tryz.func23,by kernel_rfl,by kernel_rfl⟩
theorem H_31:Holds Tryz.prog 23 E_31:=
 Yi3 tabT mixT Q_31 F_31 rfl ⟨⟨H_30,_,_,Q_30⟩,⟨⟨H_26,_,_,Q_26⟩,trivial⟩⟩ W_31 ⟨Yi8 (L:=S_31L4 Ad) K_31L4 (i:=4) (by kernel_rfl),trivial⟩
theorem K_32L3 (n:Nat) (x):CF (n+1) x=Yfg C_32 B_32L3 (S_32L3 Ad) x (CF n):=by
 obtain⟨_,_,_,_⟩:=x
 kernel_rfl
theorem F_32 (a):E_32.run a=Yir C_32 Tryz.f42 E_32.params E_32.results a λo r=>some (N_32 o r):=by
 kernel_rfl
theorem W_32:XU D_32= [B_32L3]:=by kernel_rfl
theorem Q_32:Qk Tryz.prog 42 Tryz.f42 D_32:=⟨Tryz.func42,by kernel_rfl,by kernel_rfl⟩
theorem H_32:Holds Tryz.prog 42 E_32:=
 Yi3 tabT mixT Q_32 F_32 rfl trivial W_32 ⟨Yi8 (L:=S_32L3 Ad) K_32L3 (i:=3) (by kernel_rfl),trivial⟩
theorem K_33L3 (n:Nat) (x):Cq (n+1) x=Yfg C_33 B_33L3 (S_33L3 Ad) x (Cq n):=by
 obtain⟨_,_,_,_⟩:=x
 kernel_rfl
theorem F_33 (a):E_33.run a=Yir C_33 Tryz.f76 E_33.params E_33.results a λo r=>some (N_33 o r):=by
 kernel_rfl
theorem W_33:XU D_33= [B_33L3]:=by kernel_rfl
theorem Q_33:Qk Tryz.prog 76 Tryz.f76 D_33:=⟨Tryz.func76,by kernel_rfl,by kernel_rfl⟩
theorem H_33:Holds Tryz.prog 76 E_33:=
 Yi3 tabT mixT Q_33 F_33 rfl ⟨⟨H_32,_,_,Q_32⟩,trivial⟩ W_33 ⟨Yi8 (L:=S_33L3 Ad) K_33L3 (i:=3) (by kernel_rfl),trivial⟩
theorem K_34L7 (n:Nat) (x):By (n+1) x=Yfg C_34 B_34L7 (S_34L7 Ad) x (By n):=by
 obtain⟨_,_,_,_,_,_,_,_,_⟩:=x
 kernel_rfl
theorem K_34L3 (n:Nat) (x):Bx (n+1) x=Yfg C_34 B_34L3 (S_34L3 Ad) x (Bx n):=by
 obtain⟨_,_,_,_⟩:=x
 kernel_rfl
theorem F_34 (a):E_34.run a=Yir C_34 Tryz.f56 E_34.params E_34.results a λo r=>some (N_34 o r):=by
 kernel_rfl
theorem W_34:XU D_34= [B_34L3,B_34L7]:=by kernel_rfl
theorem Q_34:Qk Tryz.prog 56 Tryz.f56 D_34:=⟨Tryz.func56,by kernel_rfl,by kernel_rfl⟩
theorem H_34:Holds Tryz.prog 56 E_34:=
 Yi3 tabT mixT Q_34 F_34 rfl ⟨⟨H_33,_,_,Q_33⟩,trivial⟩ W_34 ⟨Yi8 (L:=S_34L3 Ad) K_34L3 (i:=3) (by kernel_rfl),⟨Yi8 (L:=S_34L7 Ad) K_34L7 (i:=7) (by kernel_rfl),trivial⟩⟩
theorem F_35 (a):E_35.run a=Yir C_35 Tryz.f32 E_35.params E_35.results a λo r=>some (N_35 o r):=by
 kernel_rfl
theorem W_35:XU D_35= []:=by kernel_rfl
theorem Q_35:Qk Tryz.prog 32 Tryz.f32 D_35:=⟨Tryz.func32,by kernel_rfl,by kernel_rfl⟩
theorem H_35:Holds Tryz.prog 32 E_35:=
 Yi3 tabT mixT Q_35 F_35 rfl trivial W_35 trivial
theorem F_36 (a):E_36.run a=Yir C_36 Tryz.f58 E_36.params E_36.results a λo r=>some (N_36 o r):=by
 kernel_rfl
theorem W_36:XU D_36= []:=by kernel_rfl
theorem Q_36:Qk Tryz.prog 58 Tryz.f58 D_36:=⟨Tryz.func58,by kernel_rfl,by kernel_rfl⟩
theorem H_36:Holds Tryz.prog 58 E_36:=
 Yi3 tabT mixT Q_36 F_36 rfl ⟨⟨H_35,_,_,Q_35⟩,trivial⟩ W_36 trivial
theorem K_37L3 (n:Nat) (x):CC (n+1) x=Yfg C_37 B_37L3 (S_37L3 Ad) x (CC n):=by
 obtain⟨_,_,_,_,_⟩:=x
 kernel_rfl
theorem F_37 (a):E_37.run a=Yir C_37 Tryz.f41 E_37.params E_37.results a λo r=>some (N_37 o r):=by
 kernel_rfl
theorem W_37:XU D_37= [B_37L3]:=by kernel_rfl
theorem Q_37:Qk Tryz.prog 41 Tryz.f41 D_37:=⟨Tryz.func41,by kernel_rfl,by kernel_rfl⟩
theorem H_37:Holds Tryz.prog 41 E_37:=
 Yi3 tabT mixT Q_37 F_37 rfl trivial W_37 ⟨Yi8 (L:=S_37L3 Ad) K_37L3 (i:=3) (by kernel_rfl),trivial⟩
theorem K_38L10 (rec:(Int×(List Int)×(Bool×(List Int))×(Bool×Int×(List (List (List Int)))×(List (List (List ByteArray))))×(List Int)×Unit)->Option ((List Int)×(Bool×(List Int))×(Bool×Int×(List (List (List Int)))×(List (List (List ByteArray))))×(List Int)×Bool)) (n:Nat) (x):Ar rec (n+1) x=Yfg (C_38 rec) B_38L10 (S_38L10 rec Ad) x (Ar rec n):=by
 obtain⟨_,_,_,_,_,_,_,_,_,_,_⟩:=x
 kernel_rfl
theorem K_38L4 (rec:(Int×(List Int)×(Bool×(List Int))×(Bool×Int×(List (List (List Int)))×(List (List (List ByteArray))))×(List Int)×Unit)->Option ((List Int)×(Bool×(List Int))×(Bool×Int×(List (List (List Int)))×(List (List (List ByteArray))))×(List Int)×Bool)) (n:Nat) (x):Ak rec (n+1) x=Yfg (C_38 rec) B_38L4 (S_38L4 rec Ad) x (Ak rec n):=by
 obtain⟨_,_,_,_,_,_,_⟩:=x
 kernel_rfl
theorem F_38 (rec:(Int×(List Int)×(Bool×(List Int))×(Bool×Int×(List (List (List Int)))×(List (List (List ByteArray))))×(List Int)×Unit)->Option ((List Int)×(Bool×(List Int))×(Bool×Int×(List (List (List Int)))×(List (List (List ByteArray))))×(List Int)×Bool)) (a:YH [.v .int,.bx (.mv .int 0),.bx (.nv .int 0),.bx (.v (.ptr y1)),.bx (.v y2),.jk 1]):Bh rec a.1 a.2.1 a.2.2.1 a.2.2.2.1 a.2.2.2.2.1 a.2.2.2.2.2=Yir (C_38 rec) Tryz.f77 [.v .int,.bx (.mv .int 0),.bx (.nv .int 0),.bx (.v (.ptr y1)),.bx (.v y2),.jk 1] [.v .bool] a (λo r=>some (N_38 o r)):=by
 kernel_rfl
theorem W_38:XU D_38= [B_38L4,B_38L10]:=by kernel_rfl
theorem R_38L10:YZ B_38L10=10:=by kernel_rfl
theorem R_38L4:YZ B_38L4=4:=by kernel_rfl
theorem Q_38:Qk Tryz.prog 77 Tryz.f77 D_38:=⟨Tryz.func77,by kernel_rfl,by kernel_rfl⟩
theorem H_38: ∀d,Holds Tryz.prog 77 (E_38 d)
 |0=>λ_ b h=>absurd (show(none:Option _)=some b from h) (by simp)
 |d+1=>YgE (en:=E_38 (d+1)) (cx:=(C_38 (Ax d))) (Yhe tabT rfl).1 (Yfz ⟨⟨H_37,_,_,Q_37⟩,⟨⟨H_32,_,_,Q_32⟩,⟨⟨H_36,_,_,Q_36⟩,⟨⟨H_38 d,_,_,Q_38⟩,trivial⟩⟩⟩⟩) mixT Q_38.1 Q_38.2.2 (YgL W_38 ⟨YhE (cx:=(C_38 (Ax d))) (L:=S_38L4 (Ax d) Ad) rfl (by rw[R_38L4];rfl) ⟨Ak (Ax d),λ_=>rfl,λn x=>K_38L4 (Ax d) n x,Ad,λ_=>rfl⟩,⟨YhE (cx:=(C_38 (Ax d))) (L:=S_38L10 (Ax d) Ad) rfl (by rw[R_38L10];rfl) ⟨Ar (Ax d),λ_=>rfl,λn x=>K_38L10 (Ax d) n x,Ad,λ_=>rfl⟩,trivial⟩⟩) (enc:=N_38) (λ_ _=>⟨rfl,rfl⟩) (F_38 (Ax d)) rfl
theorem F_39 (a):E_39.run a=Yir C_39 Tryz.f57 E_39.params E_39.results a λo r=>some (N_39 o r):=by
 kernel_rfl
theorem W_39:XU D_39= []:=by kernel_rfl
theorem Q_39:Qk Tryz.prog 57 Tryz.f57 D_39:=⟨Tryz.func57,by kernel_rfl,by kernel_rfl⟩
theorem H_39:Holds Tryz.prog 57 E_39:=
 Yi3 tabT mixT Q_39 F_39 rfl ⟨⟨H_38 Ad,_,_,Q_38⟩,trivial⟩ W_39 trivial
theorem F_40 (a):E_40.run a=Yir C_40 Tryz.f24 E_40.params E_40.results a λo r=>some (N_40 o r):=by
 kernel_rfl
theorem W_40:XU D_40= []:=by kernel_rfl
theorem Q_40:Qk Tryz.prog 24 Tryz.f24 D_40:=⟨Tryz.func24,by kernel_rfl,by kernel_rfl⟩
theorem H_40:Holds Tryz.prog 24 E_40:=
 Yi3 tabT mixT Q_40 F_40 rfl ⟨⟨H_34,_,_,Q_34⟩,⟨⟨H_39,_,_,Q_39⟩,trivial⟩⟩ W_40 trivial
theorem K_41L4 (n:Nat) (x):Bt (n+1) x=Yfg C_41 B_41L4 (S_41L4 Ad) x (Bt n):=by
 obtain⟨_,_,_,_,_⟩:=x
 kernel_rfl
theorem F_41 (a):E_41.run a=Yir C_41 Tryz.f6 E_41.params E_41.results a λo r=>some (N_41 o r):=by
 kernel_rfl
theorem W_41:XU D_41= [B_41L4]:=by kernel_rfl
theorem Q_41:Qk Tryz.prog 6 Tryz.f6 D_41:=⟨Tryz.func6,by kernel_rfl,by kernel_rfl⟩
theorem H_41:Holds Tryz.prog 6 E_41:=
 Yi3 tabT mixT Q_41 F_41 rfl ⟨⟨H_31,_,_,Q_31⟩,⟨⟨H_40,_,_,Q_40⟩,trivial⟩⟩ W_41 ⟨Yi8 (L:=S_41L4 Ad) K_41L4 (i:=4) (by kernel_rfl),trivial⟩
theorem K_42L2 (n:Nat) (x):B4 (n+1) x=Yfg C_42 B_42L2 (S_42L2 Ad) x (B4 n):=by
 obtain⟨_,_,_⟩:=x
 kernel_rfl
theorem F_42 (a):E_42.run a=Yir C_42 Tryz.f45 E_42.params E_42.results a λo r=>some (N_42 o r):=by
 kernel_rfl
theorem W_42:XU D_42= [B_42L2]:=by kernel_rfl
theorem Q_42:Qk Tryz.prog 45 Tryz.f45 D_42:=⟨Tryz.func45,by kernel_rfl,by kernel_rfl⟩
theorem H_42:Holds Tryz.prog 45 E_42:=
 Yi3 tabT mixT Q_42 F_42 rfl ⟨⟨H_8,_,_,Q_8⟩,trivial⟩ W_42 ⟨Yi8 (L:=S_42L2 Ad) K_42L2 (i:=2) (by kernel_rfl),trivial⟩
theorem F_43 (a):E_43.run a=Yir C_43 Tryz.f82 E_43.params E_43.results a λo r=>some (N_43 o r):=by
 kernel_rfl
theorem W_43:XU D_43= []:=by kernel_rfl
theorem Q_43:Qk Tryz.prog 82 Tryz.f82 D_43:=⟨Tryz.func82,by kernel_rfl,by kernel_rfl⟩
theorem H_43:Holds Tryz.prog 82 E_43:=
 Yi3 tabT mixT Q_43 F_43 rfl ⟨⟨H_42,_,_,Q_42⟩,trivial⟩ W_43 trivial
theorem K_44L4 (n:Nat) (x):B7 (n+1) x=Yfg C_44 B_44L4 (S_44L4 Ad) x (B7 n):=by
 obtain⟨_,_,_⟩:=x
 kernel_rfl
theorem F_44 (a):E_44.run a=Yir C_44 Tryz.f72 E_44.params E_44.results a λo r=>some (N_44 o r):=by
 kernel_rfl
theorem W_44:XU D_44= [B_44L4]:=by kernel_rfl
theorem Q_44:Qk Tryz.prog 72 Tryz.f72 D_44:=⟨Tryz.func72,by kernel_rfl,by kernel_rfl⟩
theorem H_44:Holds Tryz.prog 72 E_44:=
 Yi3 tabT mixT Q_44 F_44 rfl ⟨⟨H_8,_,_,Q_8⟩,⟨⟨H_16,_,_,Q_16⟩,⟨⟨H_43,_,_,Q_43⟩,⟨⟨H_10,_,_,Q_10⟩,trivial⟩⟩⟩⟩ W_44 ⟨Yi8 (L:=S_44L4 Ad) K_44L4 (i:=4) (by kernel_rfl),trivial⟩
theorem F_45 (a):E_45.run a=Yir C_45 Tryz.f52 E_45.params E_45.results a λo r=>some (N_45 o r):=by
 kernel_rfl
theorem W_45:XU D_45= []:=by kernel_rfl
theorem Q_45:Qk Tryz.prog 52 Tryz.f52 D_45:=⟨Tryz.func52,by kernel_rfl,by kernel_rfl⟩
theorem H_45:Holds Tryz.prog 52 E_45:=
 Yi3 tabT mixT Q_45 F_45 rfl ⟨⟨H_42,_,_,Q_42⟩,⟨⟨H_44,_,_,Q_44⟩,trivial⟩⟩ W_45 trivial
theorem K_46L4 (n:Nat) (x):CE (n+1) x=Yfg C_46 B_46L4 (S_46L4 Ad) x (CE n):=by
 obtain⟨_,_⟩:=x
 kernel_rfl
theorem F_46 (a):E_46.run a=Yir C_46 Tryz.f25 E_46.params E_46.results a λo r=>some (N_46 o r):=by
 kernel_rfl
theorem W_46:XU D_46= [B_46L4]:=by kernel_rfl
theorem Q_46:Qk Tryz.prog 25 Tryz.f25 D_46:=⟨Tryz.func25,by kernel_rfl,by kernel_rfl⟩
theorem H_46:Holds Tryz.prog 25 E_46:=
 Yi3 tabT mixT Q_46 F_46 rfl ⟨⟨H_8,_,_,Q_8⟩,⟨⟨H_45,_,_,Q_45⟩,trivial⟩⟩ W_46 ⟨Yi8 (L:=S_46L4 Ad) K_46L4 (i:=4) (by kernel_rfl),trivial⟩
theorem K_47L2 (n:Nat) (x):BN (n+1) x=Yfg C_47 B_47L2 (S_47L2 Ad) x (BN n):=by
 obtain⟨_,_,_⟩:=x
 kernel_rfl
theorem F_47 (a):E_47.run a=Yir C_47 Tryz.f26 E_47.params E_47.results a λo r=>some (N_47 o r):=by
 kernel_rfl
theorem W_47:XU D_47= [B_47L2]:=by kernel_rfl
theorem Q_47:Qk Tryz.prog 26 Tryz.f26 D_47:=⟨Tryz.func26,by kernel_rfl,by kernel_rfl⟩
theorem H_47:Holds Tryz.prog 26 E_47:=
 Yi3 tabT mixT Q_47 F_47 rfl ⟨⟨H_8,_,_,Q_8⟩,trivial⟩ W_47 ⟨Yi8 (L:=S_47L2 Ad) K_47L2 (i:=2) (by kernel_rfl),trivial⟩
theorem K_48L7 (n:Nat) (x):Ca (n+1) x=Yfg C_48 B_48L7 (S_48L7 Ad) x (Ca n):=by
 obtain⟨_,_,_,_,_⟩:=x
 kernel_rfl
theorem K_48L3 (n:Nat) (x):B9 (n+1) x=Yfg C_48 B_48L3 (S_48L3 Ad) x (B9 n):=by
 obtain⟨_,_,_⟩:=x
 kernel_rfl
theorem F_48 (a):E_48.run a=Yir C_48 Tryz.f60 E_48.params E_48.results a λo r=>some (N_48 o r):=by
 kernel_rfl
theorem W_48:XU D_48= [B_48L3,B_48L7]:=by kernel_rfl
theorem Q_48:Qk Tryz.prog 60 Tryz.f60 D_48:=⟨Tryz.func60,by kernel_rfl,by kernel_rfl⟩
theorem H_48:Holds Tryz.prog 60 E_48:=
 Yi3 tabT mixT Q_48 F_48 rfl ⟨⟨H_22,_,_,Q_22⟩,trivial⟩ W_48 ⟨Yi8 (L:=S_48L3 Ad) K_48L3 (i:=3) (by kernel_rfl),⟨Yi8 (L:=S_48L7 Ad) K_48L7 (i:=7) (by kernel_rfl),trivial⟩⟩
theorem F_49 (a):E_49.run a=Yir C_49 Tryz.f53 E_49.params E_49.results a λo r=>some (N_49 o r):=by
 kernel_rfl
theorem W_49:XU D_49= []:=by kernel_rfl
theorem Q_49:Qk Tryz.prog 53 Tryz.f53 D_49:=⟨Tryz.func53,by kernel_rfl,by kernel_rfl⟩
theorem H_49:Holds Tryz.prog 53 E_49:=
 Yi3 tabT mixT Q_49 F_49 rfl ⟨⟨H_12,_,_,Q_12⟩,trivial⟩ W_49 trivial
theorem K_50L3 (n:Nat) (x):BQ (n+1) x=Yfg C_50 B_50L3 (S_50L3 Ad) x (BQ n):=by
 obtain⟨_,_,_,_⟩:=x
 kernel_rfl
theorem F_50 (a):E_50.run a=Yir C_50 Tryz.f78 E_50.params E_50.results a λo r=>some (N_50 o r):=by
 kernel_rfl
theorem W_50:XU D_50= [B_50L3]:=by kernel_rfl
theorem Q_50:Qk Tryz.prog 78 Tryz.f78 D_50:=⟨Tryz.func78,by kernel_rfl,by kernel_rfl⟩
theorem H_50:Holds Tryz.prog 78 E_50:=
 Yi3 tabT mixT Q_50 F_50 rfl ⟨⟨H_49,_,_,Q_49⟩,trivial⟩ W_50 ⟨Yi8 (L:=S_50L3 Ad) K_50L3 (i:=3) (by kernel_rfl),trivial⟩
theorem K_51L14 (rec:(Int×(List (List ((List Int)×Int×(List (List Int)))))×(List Int)×(List Int)×((List (List Int))×(Int×Int×Bool)))->Option (((List (List Int))×(Int×Int×Bool)))) (n:Nat) (x):AT rec (n+1) x=Yfg (C_51 rec) B_51L14 (S_51L14 rec Ad) x (AT rec n):=by
 obtain⟨_,_,_,_,_,_,_,_,_,_,_⟩:=x
 kernel_rfl
theorem K_51L8 (rec:(Int×(List (List ((List Int)×Int×(List (List Int)))))×(List Int)×(List Int)×((List (List Int))×(Int×Int×Bool)))->Option (((List (List Int))×(Int×Int×Bool)))) (n:Nat) (x):Az rec (n+1) x=Yfg (C_51 rec) B_51L8 (S_51L8 rec Ad) x (Az rec n):=by
 obtain⟨_,_,_,_,_,_,_,_⟩:=x
 kernel_rfl
theorem F_51 (rec:(Int×(List (List ((List Int)×Int×(List (List Int)))))×(List Int)×(List Int)×((List (List Int))×(Int×Int×Bool)))->Option (((List (List Int))×(Int×Int×Bool)))) (a:YH [.v .int,.v y11,.v y2,.v y2,.pr (.mv y2 1) (.v y6)]):Dq rec a.1 a.2.1 a.2.2.1 a.2.2.2.1 a.2.2.2.2=Yir (C_51 rec) Tryz.f59 [.v .int,.v y11,.v y2,.v y2,.pr (.mv y2 1) (.v y6)] [.pr (.mv y2 1) (.v y6)] a (λo r=>some (N_51 o r)):=by
 kernel_rfl
theorem W_51:XU D_51= [B_51L8,B_51L14]:=by kernel_rfl
theorem R_51L14:YZ B_51L14=14:=by kernel_rfl
theorem R_51L8:YZ B_51L8=8:=by kernel_rfl
theorem Q_51:Qk Tryz.prog 59 Tryz.f59 D_51:=⟨Tryz.func59,by kernel_rfl,by kernel_rfl⟩
theorem H_51: ∀d,Holds Tryz.prog 59 (E_51 d)
 |0=>λ_ b h=>absurd (show(none:Option _)=some b from h) (by simp)
 |d+1=>YgE (en:=E_51 (d+1)) (cx:=(C_51 (AH d))) (Yhe tabT rfl).1 (Yfz ⟨⟨H_51 d,_,_,Q_51⟩,⟨⟨H_6,_,_,Q_6⟩,⟨⟨H_50,_,_,Q_50⟩,trivial⟩⟩⟩) mixT Q_51.1 Q_51.2.2 (YgL W_51 ⟨YhE (cx:=(C_51 (AH d))) (L:=S_51L8 (AH d) Ad) rfl (by rw[R_51L8];rfl) ⟨Az (AH d),λ_=>rfl,λn x=>K_51L8 (AH d) n x,Ad,λ_=>rfl⟩,⟨YhE (cx:=(C_51 (AH d))) (L:=S_51L14 (AH d) Ad) rfl (by rw[R_51L14];rfl) ⟨AT (AH d),λ_=>rfl,λn x=>K_51L14 (AH d) n x,Ad,λ_=>rfl⟩,trivial⟩⟩) (enc:=N_51) (λ_ _=>⟨rfl,rfl⟩) (F_51 (AH d)) rfl
theorem F_52 (a):E_52.run a=Yir C_52 Tryz.f27 E_52.params E_52.results a λo r=>some (N_52 o r):=by
 kernel_rfl
theorem W_52:XU D_52= []:=by kernel_rfl
theorem Q_52:Qk Tryz.prog 27 Tryz.f27 D_52:=⟨Tryz.func27,by kernel_rfl,by kernel_rfl⟩
theorem H_52:Holds Tryz.prog 27 E_52:=
 Yi3 tabT mixT Q_52 F_52 rfl ⟨⟨H_51 Ad,_,_,Q_51⟩,⟨⟨H_48,_,_,Q_48⟩,trivial⟩⟩ W_52 trivial
theorem F_53 (a):E_53.run a=Yir C_53 Tryz.f7 E_53.params E_53.results a λo r=>some (N_53 o r):=by
 kernel_rfl
theorem W_53:XU D_53= []:=by kernel_rfl
theorem Q_53:Qk Tryz.prog 7 Tryz.f7 D_53:=⟨Tryz.func7,by kernel_rfl,by kernel_rfl⟩
theorem H_53:Holds Tryz.prog 7 E_53:=
 Yi3 tabT mixT Q_53 F_53 rfl ⟨⟨H_46,_,_,Q_46⟩,⟨⟨H_47,_,_,Q_47⟩,⟨⟨H_52,_,_,Q_52⟩,trivial⟩⟩⟩ W_53 trivial
theorem K_54L4 (n:Nat) (x):CG (n+1) x=Yfg C_54 B_54L4 (S_54L4 Ad) x (CG n):=by
 obtain⟨_,_,_⟩:=x
 kernel_rfl
theorem F_54 (a):E_54.run a=Yir C_54 Tryz.f8 E_54.params E_54.results a λo r=>some (N_54 o r):=by
 kernel_rfl
theorem W_54:XU D_54= [B_54L4]:=by kernel_rfl
theorem Q_54:Qk Tryz.prog 8 Tryz.f8 D_54:=⟨Tryz.func8,by kernel_rfl,by kernel_rfl⟩
theorem H_54:Holds Tryz.prog 8 E_54:=
 Yi3 tabT mixT Q_54 F_54 rfl trivial W_54 ⟨Yi8 (L:=S_54L4 Ad) K_54L4 (i:=4) (by kernel_rfl),trivial⟩
theorem K_55L3 (n:Nat) (x):BT (n+1) x=Yfg C_55 B_55L3 (S_55L3 Ad) x (BT n):=by
 obtain⟨_,_,_⟩:=x
 kernel_rfl
theorem F_55 (a):E_55.run a=Yir C_55 Tryz.f61 E_55.params E_55.results a λo r=>some (N_55 o r):=by
 kernel_rfl
theorem W_55:XU D_55= [B_55L3]:=by kernel_rfl
theorem Q_55:Qk Tryz.prog 61 Tryz.f61 D_55:=⟨Tryz.func61,by kernel_rfl,by kernel_rfl⟩
theorem H_55:Holds Tryz.prog 61 E_55:=
 Yi3 tabT mixT Q_55 F_55 rfl trivial W_55 ⟨Yi8 (L:=S_55L3 Ad) K_55L3 (i:=3) (by kernel_rfl),trivial⟩
theorem F_56 (a):E_56.run a=Yir C_56 Tryz.f29 E_56.params E_56.results a λo r=>some (N_56 o r):=by
 kernel_rfl
theorem W_56:XU D_56= []:=by kernel_rfl
theorem Q_56:Qk Tryz.prog 29 Tryz.f29 D_56:=⟨Tryz.func29,by kernel_rfl,by kernel_rfl⟩
theorem H_56:Holds Tryz.prog 29 E_56:=
 Yi3 tabT mixT Q_56 F_56 rfl trivial W_56 trivial
theorem K_57L10 (rec:(Int×(List Int)×Int×(Bool×Int×(List (List (List Int)))×(List (List (List ByteArray))))×(List Int)×Unit)->Option ((List Int)×Int×(Bool×Int×(List (List (List Int)))×(List (List (List ByteArray))))×(List Int)×Bool)) (n:Nat) (x):Aq rec (n+1) x=Yfg (C_57 rec) B_57L10 (S_57L10 rec Ad) x (Aq rec n):=by
 obtain⟨_,_,_,_,_,_,_,_,_,_,_⟩:=x
 kernel_rfl
theorem K_57L4 (rec:(Int×(List Int)×Int×(Bool×Int×(List (List (List Int)))×(List (List (List ByteArray))))×(List Int)×Unit)->Option ((List Int)×Int×(Bool×Int×(List (List (List Int)))×(List (List (List ByteArray))))×(List Int)×Bool)) (n:Nat) (x):Aj rec (n+1) x=Yfg (C_57 rec) B_57L4 (S_57L4 rec Ad) x (Aj rec n):=by
 obtain⟨_,_,_,_,_,_,_⟩:=x
 kernel_rfl
theorem F_57 (rec:(Int×(List Int)×Int×(Bool×Int×(List (List (List Int)))×(List (List (List ByteArray))))×(List Int)×Unit)->Option ((List Int)×Int×(Bool×Int×(List (List (List Int)))×(List (List (List ByteArray))))×(List Int)×Bool)) (a:YH [.v .int,.bx (.mv .int 0),.bx (.v .int),.bx (.v (.ptr y1)),.bx (.v y2),.jk 1]):Bg rec a.1 a.2.1 a.2.2.1 a.2.2.2.1 a.2.2.2.2.1 a.2.2.2.2.2=Yir (C_57 rec) Tryz.f77 [.v .int,.bx (.mv .int 0),.bx (.v .int),.bx (.v (.ptr y1)),.bx (.v y2),.jk 1] [.v .bool] a (λo r=>some (N_57 o r)):=by
 kernel_rfl
theorem W_57:XU D_57= [B_57L4,B_57L10]:=by kernel_rfl
theorem R_57L10:YZ B_57L10=10:=by kernel_rfl
theorem R_57L4:YZ B_57L4=4:=by kernel_rfl
theorem Q_57:Qk Tryz.prog 77 Tryz.f77 D_57:=⟨Tryz.func77,by kernel_rfl,by kernel_rfl⟩
theorem H_57: ∀d,Holds Tryz.prog 77 (E_57 d)
 |0=>λ_ b h=>absurd (show(none:Option _)=some b from h) (by simp)
 |d+1=>YgE (en:=E_57 (d+1)) (cx:=(C_57 (Au d))) (Yhe tabT rfl).1 (Yfz ⟨⟨H_56,_,_,Q_56⟩,⟨⟨H_37,_,_,Q_37⟩,⟨⟨H_32,_,_,Q_32⟩,⟨⟨H_57 d,_,_,Q_57⟩,trivial⟩⟩⟩⟩) mixT Q_57.1 Q_57.2.2 (YgL W_57 ⟨YhE (cx:=(C_57 (Au d))) (L:=S_57L4 (Au d) Ad) rfl (by rw[R_57L4];rfl) ⟨Aj (Au d),λ_=>rfl,λn x=>K_57L4 (Au d) n x,Ad,λ_=>rfl⟩,⟨YhE (cx:=(C_57 (Au d))) (L:=S_57L10 (Au d) Ad) rfl (by rw[R_57L10];rfl) ⟨Aq (Au d),λ_=>rfl,λn x=>K_57L10 (Au d) n x,Ad,λ_=>rfl⟩,trivial⟩⟩) (enc:=N_57) (λ_ _=>⟨rfl,rfl⟩) (F_57 (Au d)) rfl
theorem F_58 (a):E_58.run a=Yir C_58 Tryz.f57 E_58.params E_58.results a λo r=>some (N_58 o r):=by
 kernel_rfl
theorem W_58:XU D_58= []:=by kernel_rfl
theorem Q_58:Qk Tryz.prog 57 Tryz.f57 D_58:=⟨Tryz.func57,by kernel_rfl,by kernel_rfl⟩
theorem H_58:Holds Tryz.prog 57 E_58:=
 Yi3 tabT mixT Q_58 F_58 rfl ⟨⟨H_57 Ad,_,_,Q_57⟩,trivial⟩ W_58 trivial
theorem F_59 (a):E_59.run a=Yir C_59 Tryz.f28 E_59.params E_59.results a λo r=>some (N_59 o r):=by
 kernel_rfl
theorem W_59:XU D_59= []:=by kernel_rfl
theorem Q_59:Qk Tryz.prog 28 Tryz.f28 D_59:=⟨Tryz.func28,by kernel_rfl,by kernel_rfl⟩
theorem H_59:Holds Tryz.prog 28 E_59:=
 Yi3 tabT mixT Q_59 F_59 rfl ⟨⟨H_34,_,_,Q_34⟩,⟨⟨H_55,_,_,Q_55⟩,⟨⟨H_58,_,_,Q_58⟩,trivial⟩⟩⟩ W_59 trivial
theorem F_60 (a):E_60.run a=Yir C_60 Tryz.f9 E_60.params E_60.results a λo r=>some (N_60 o r):=by
 kernel_rfl
theorem W_60:XU D_60= []:=by kernel_rfl
theorem Q_60:Qk Tryz.prog 9 Tryz.f9 D_60:=⟨Tryz.func9,by kernel_rfl,by kernel_rfl⟩
theorem H_60:Holds Tryz.prog 9 E_60:=
 Yi3 tabT mixT Q_60 F_60 rfl ⟨⟨H_31,_,_,Q_31⟩,⟨⟨H_59,_,_,Q_59⟩,trivial⟩⟩ W_60 trivial
theorem K_61L3 (n:Nat) (x):B8 (n+1) x=Yfg C_61 B_61L3 (S_61L3 Ad) x (B8 n):=by
 obtain⟨_,_,_⟩:=x
 kernel_rfl
theorem F_61 (a):E_61.run a=Yir C_61 Tryz.f30 E_61.params E_61.results a λo r=>some (N_61 o r):=by
 kernel_rfl
theorem W_61:XU D_61= [B_61L3]:=by kernel_rfl
theorem Q_61:Qk Tryz.prog 30 Tryz.f30 D_61:=⟨Tryz.func30,by kernel_rfl,by kernel_rfl⟩
theorem H_61:Holds Tryz.prog 30 E_61:=
 Yi3 tabT mixT Q_61 F_61 rfl trivial W_61 ⟨Yi8 (L:=S_61L3 Ad) K_61L3 (i:=3) (by kernel_rfl),trivial⟩
theorem F_62 (a):E_62.run a=Yir C_62 Tryz.f10 E_62.params E_62.results a λo r=>some (N_62 o r):=by
 kernel_rfl
theorem W_62:XU D_62= []:=by kernel_rfl
theorem Q_62:Qk Tryz.prog 10 Tryz.f10 D_62:=⟨Tryz.func10,by kernel_rfl,by kernel_rfl⟩
theorem H_62:Holds Tryz.prog 10 E_62:=
 Yi3 tabT mixT Q_62 F_62 rfl ⟨⟨H_46,_,_,Q_46⟩,⟨⟨H_52,_,_,Q_52⟩,⟨⟨H_61,_,_,Q_61⟩,trivial⟩⟩⟩ W_62 trivial
theorem F_63 (a):E_63.run a=Yir C_63 Tryz.f32 E_63.params E_63.results a λo r=>some (N_63 o r):=by
 kernel_rfl
theorem W_63:XU D_63= []:=by kernel_rfl
theorem Q_63:Qk Tryz.prog 32 Tryz.f32 D_63:=⟨Tryz.func32,by kernel_rfl,by kernel_rfl⟩
theorem H_63:Holds Tryz.prog 32 E_63:=
 Yi3 tabT mixT Q_63 F_63 rfl trivial W_63 trivial
theorem F_64 (a):E_64.run a=Yir C_64 Tryz.f31 E_64.params E_64.results a λo r=>some (N_64 o r):=by
 kernel_rfl
theorem W_64:XU D_64= []:=by kernel_rfl
theorem Q_64:Qk Tryz.prog 31 Tryz.f31 D_64:=⟨Tryz.func31,by kernel_rfl,by kernel_rfl⟩
theorem H_64:Holds Tryz.prog 31 E_64:=
 Yi3 tabT mixT Q_64 F_64 rfl ⟨⟨H_63,_,_,Q_63⟩,trivial⟩ W_64 trivial
theorem K_65L10 (rec:(Int×(List Int)×(List (List Int))×(Bool×Int×(List (List (List Int)))×(List (List (List ByteArray))))×(List Int)×Unit)->Option ((List Int)×(List (List Int))×(Bool×Int×(List (List (List Int)))×(List (List (List ByteArray))))×(List Int)×Bool)) (n:Nat) (x):As rec (n+1) x=Yfg (C_65 rec) B_65L10 (S_65L10 rec Ad) x (As rec n):=by
 obtain⟨_,_,_,_,_,_,_,_,_,_,_⟩:=x
 kernel_rfl
theorem K_65L4 (rec:(Int×(List Int)×(List (List Int))×(Bool×Int×(List (List (List Int)))×(List (List (List ByteArray))))×(List Int)×Unit)->Option ((List Int)×(List (List Int))×(Bool×Int×(List (List (List Int)))×(List (List (List ByteArray))))×(List Int)×Bool)) (n:Nat) (x):An rec (n+1) x=Yfg (C_65 rec) B_65L4 (S_65L4 rec Ad) x (An rec n):=by
 obtain⟨_,_,_,_,_,_,_⟩:=x
 kernel_rfl
theorem F_65 (rec:(Int×(List Int)×(List (List Int))×(Bool×Int×(List (List (List Int)))×(List (List (List ByteArray))))×(List Int)×Unit)->Option ((List Int)×(List (List Int))×(Bool×Int×(List (List (List Int)))×(List (List (List ByteArray))))×(List Int)×Bool)) (a:YH [.v .int,.bx (.mv .int 0),.bx (.mv y2 1),.bx (.v (.ptr y1)),.bx (.v y2),.jk 1]):Bn rec a.1 a.2.1 a.2.2.1 a.2.2.2.1 a.2.2.2.2.1 a.2.2.2.2.2=Yir (C_65 rec) Tryz.f77 [.v .int,.bx (.mv .int 0),.bx (.mv y2 1),.bx (.v (.ptr y1)),.bx (.v y2),.jk 1] [.v .bool] a (λo r=>some (N_65 o r)):=by
 kernel_rfl
theorem W_65:XU D_65= [B_65L4,B_65L10]:=by kernel_rfl
theorem R_65L10:YZ B_65L10=10:=by kernel_rfl
theorem R_65L4:YZ B_65L4=4:=by kernel_rfl
theorem Q_65:Qk Tryz.prog 77 Tryz.f77 D_65:=⟨Tryz.func77,by kernel_rfl,by kernel_rfl⟩
theorem H_65: ∀d,Holds Tryz.prog 77 (E_65 d)
 |0=>λ_ b h=>absurd (show(none:Option _)=some b from h) (by simp)
 |d+1=>YgE (en:=E_65 (d+1)) (cx:=(C_65 (Ay d))) (Yhe tabT rfl).1 (Yfz ⟨⟨H_64,_,_,Q_64⟩,⟨⟨H_37,_,_,Q_37⟩,⟨⟨H_32,_,_,Q_32⟩,⟨⟨H_65 d,_,_,Q_65⟩,trivial⟩⟩⟩⟩) mixT Q_65.1 Q_65.2.2 (YgL W_65 ⟨YhE (cx:=(C_65 (Ay d))) (L:=S_65L4 (Ay d) Ad) rfl (by rw[R_65L4];rfl) ⟨An (Ay d),λ_=>rfl,λn x=>K_65L4 (Ay d) n x,Ad,λ_=>rfl⟩,⟨YhE (cx:=(C_65 (Ay d))) (L:=S_65L10 (Ay d) Ad) rfl (by rw[R_65L10];rfl) ⟨As (Ay d),λ_=>rfl,λn x=>K_65L10 (Ay d) n x,Ad,λ_=>rfl⟩,trivial⟩⟩) (enc:=N_65) (λ_ _=>⟨rfl,rfl⟩) (F_65 (Ay d)) rfl
theorem F_66 (a):E_66.run a=Yir C_66 Tryz.f57 E_66.params E_66.results a λo r=>some (N_66 o r):=by
 kernel_rfl
theorem W_66:XU D_66= []:=by kernel_rfl
theorem Q_66:Qk Tryz.prog 57 Tryz.f57 D_66:=⟨Tryz.func57,by kernel_rfl,by kernel_rfl⟩
theorem H_66:Holds Tryz.prog 57 E_66:=
 Yi3 tabT mixT Q_66 F_66 rfl ⟨⟨H_65 Ad,_,_,Q_65⟩,trivial⟩ W_66 trivial
theorem F_67 (a):E_67.run a=Yir C_67 Tryz.f28 E_67.params E_67.results a λo r=>some (N_67 o r):=by
 kernel_rfl
theorem W_67:XU D_67= []:=by kernel_rfl
theorem Q_67:Qk Tryz.prog 28 Tryz.f28 D_67:=⟨Tryz.func28,by kernel_rfl,by kernel_rfl⟩
theorem H_67:Holds Tryz.prog 28 E_67:=
 Yi3 tabT mixT Q_67 F_67 rfl ⟨⟨H_34,_,_,Q_34⟩,⟨⟨H_55,_,_,Q_55⟩,⟨⟨H_66,_,_,Q_66⟩,trivial⟩⟩⟩ W_67 trivial
theorem F_68 (a):E_68.run a=Yir C_68 Tryz.f11 E_68.params E_68.results a λo r=>some (N_68 o r):=by
 kernel_rfl
theorem W_68:XU D_68= []:=by kernel_rfl
theorem Q_68:Qk Tryz.prog 11 Tryz.f11 D_68:=⟨Tryz.func11,by kernel_rfl,by kernel_rfl⟩
theorem H_68:Holds Tryz.prog 11 E_68:=
 Yi3 tabT mixT Q_68 F_68 rfl ⟨⟨H_31,_,_,Q_31⟩,⟨⟨H_67,_,_,Q_67⟩,trivial⟩⟩ W_68 trivial
theorem F_69 (a):E_69.run a=Yir C_69 Tryz.f12 E_69.params E_69.results a λo r=>some (N_69 o r):=by
 kernel_rfl
theorem W_69:XU D_69= []:=by kernel_rfl
theorem Q_69:Qk Tryz.prog 12 Tryz.f12 D_69:=⟨Tryz.func12,by kernel_rfl,by kernel_rfl⟩
theorem H_69:Holds Tryz.prog 12 E_69:=
 Yi3 tabT mixT Q_69 F_69 rfl ⟨⟨H_46,_,_,Q_46⟩,⟨⟨H_52,_,_,Q_52⟩,⟨⟨H_61,_,_,Q_61⟩,trivial⟩⟩⟩ W_69 trivial
theorem K_70L4 (n:Nat) (x):Cr (n+1) x=Yfg C_70 B_70L4 (S_70L4 Ad) x (Cr n):=by
 obtain⟨_,_,_⟩:=x
 kernel_rfl
theorem F_70 (a):E_70.run a=Yir C_70 Tryz.f13 E_70.params E_70.results a λo r=>some (N_70 o r):=by
 kernel_rfl
theorem W_70:XU D_70= [B_70L4]:=by kernel_rfl
theorem Q_70:Qk Tryz.prog 13 Tryz.f13 D_70:=⟨Tryz.func13,by kernel_rfl,by kernel_rfl⟩
theorem H_70:Holds Tryz.prog 13 E_70:=
 Yi3 tabT mixT Q_70 F_70 rfl ⟨⟨H_54,_,_,Q_54⟩,trivial⟩ W_70 ⟨Yi8 (L:=S_70L4 Ad) K_70L4 (i:=4) (by kernel_rfl),trivial⟩
theorem F_71 (a):E_71.run a=Yir C_71 Tryz.f33 E_71.params E_71.results a λo r=>some (N_71 o r):=by
 kernel_rfl
theorem W_71:XU D_71= []:=by kernel_rfl
theorem Q_71:Qk Tryz.prog 33 Tryz.f33 D_71:=⟨Tryz.func33,by kernel_rfl,by kernel_rfl⟩
theorem H_71:Holds Tryz.prog 33 E_71:=
 Yi3 tabT mixT Q_71 F_71 rfl ⟨⟨H_27,_,_,Q_27⟩,trivial⟩ W_71 trivial
theorem K_72L4 (n:Nat) (x):Cp (n+1) x=Yfg C_72 B_72L4 (S_72L4 Ad) x (Cp n):=by
 obtain⟨_,_,_,_⟩:=x
 kernel_rfl
theorem F_72 (a):E_72.run a=Yir C_72 Tryz.f66 E_72.params E_72.results a λo r=>some (N_72 o r):=by
 kernel_rfl
theorem W_72:XU D_72= [B_72L4]:=by kernel_rfl
theorem Q_72:Qk Tryz.prog 66 Tryz.f66 D_72:=⟨Tryz.func66,by kernel_rfl,by kernel_rfl⟩
theorem H_72:Holds Tryz.prog 66 E_72:=
 Yi3 tabT mixT Q_72 F_72 rfl trivial W_72 ⟨Yi8 (L:=S_72L4 Ad) K_72L4 (i:=4) (by kernel_rfl),trivial⟩
theorem K_73L2 (n:Nat) (x):CK (n+1) x=Yfg C_73 B_73L2 (S_73L2 Ad) x (CK n):=by
 obtain⟨_,_,_,_⟩:=x
 kernel_rfl
theorem F_73 (a):E_73.run a=Yir C_73 Tryz.f50 E_73.params E_73.results a λo r=>some (N_73 o r):=by
 kernel_rfl
theorem W_73:XU D_73= [B_73L2]:=by kernel_rfl
theorem Q_73:Qk Tryz.prog 50 Tryz.f50 D_73:=⟨Tryz.func50,by kernel_rfl,by kernel_rfl⟩
theorem H_73:Holds Tryz.prog 50 E_73:=
 Yi3 tabT mixT Q_73 F_73 rfl ⟨⟨H_72,_,_,Q_72⟩,trivial⟩ W_73 ⟨Yi8 (L:=S_73L2 Ad) K_73L2 (i:=2) (by kernel_rfl),trivial⟩
theorem K_74L2 (n:Nat) (x):BE (n+1) x=Yfg C_74 B_74L2 (S_74L2 Ad) x (BE n):=by
 obtain⟨_,_,_,_⟩:=x
 kernel_rfl
theorem F_74 (a):E_74.run a=Yir C_74 Tryz.f34 E_74.params E_74.results a λo r=>some (N_74 o r):=by
 kernel_rfl
theorem W_74:XU D_74= [B_74L2]:=by kernel_rfl
theorem Q_74:Qk Tryz.prog 34 Tryz.f34 D_74:=⟨Tryz.func34,by kernel_rfl,by kernel_rfl⟩
theorem H_74:Holds Tryz.prog 34 E_74:=
 Yi3 tabT mixT Q_74 F_74 rfl ⟨⟨H_37,_,_,Q_37⟩,⟨⟨H_73,_,_,Q_73⟩,trivial⟩⟩ W_74 ⟨Yi8 (L:=S_74L2 Ad) K_74L2 (i:=2) (by kernel_rfl),trivial⟩
theorem F_75 (a):E_75.run a=Yir C_75 Tryz.f14 E_75.params E_75.results a λo r=>some (N_75 o r):=by
 kernel_rfl
theorem W_75:XU D_75= []:=by kernel_rfl
theorem Q_75:Qk Tryz.prog 14 Tryz.f14 D_75:=⟨Tryz.func14,by kernel_rfl,by kernel_rfl⟩
theorem H_75:Holds Tryz.prog 14 E_75:=
 Yi3 tabT mixT Q_75 F_75 rfl ⟨⟨H_31,_,_,Q_31⟩,⟨⟨H_71,_,_,Q_71⟩,⟨⟨H_74,_,_,Q_74⟩,trivial⟩⟩⟩ W_75 trivial
theorem K_76L5 (n:Nat) (x):AR (n+1) x=Yfg C_76 B_76L5 (S_76L5 Ad) x (AR n):=by
 obtain⟨_,_,_,_,_⟩:=x
 kernel_rfl
theorem F_76 (a):E_76.run a=Yir C_76 Tryz.f15 E_76.params E_76.results a λo r=>some (N_76 o r):=by
 kernel_rfl
theorem W_76:XU D_76= [B_76L5]:=by kernel_rfl
theorem Q_76:Qk Tryz.prog 15 Tryz.f15 D_76:=⟨Tryz.func15,by kernel_rfl,by kernel_rfl⟩
theorem H_76:Holds Tryz.prog 15 E_76:=
 Yi3 tabT mixT Q_76 F_76 rfl ⟨⟨H_23,_,_,Q_23⟩,⟨⟨H_7,_,_,Q_7⟩,⟨⟨H_3,_,_,Q_3⟩,⟨⟨H_22,_,_,Q_22⟩,⟨⟨H_4,_,_,Q_4⟩,trivial⟩⟩⟩⟩⟩ W_76 ⟨Yi8 (L:=S_76L5 Ad) K_76L5 (i:=5) (by kernel_rfl),trivial⟩
theorem K_77L3 (n:Nat) (x):BS (n+1) x=Yfg C_77 B_77L3 (S_77L3 Ad) x (BS n):=by
 obtain⟨_,_,_,_⟩:=x
 kernel_rfl
theorem F_77 (a):E_77.run a=Yir C_77 Tryz.f79 E_77.params E_77.results a λo r=>some (N_77 o r):=by
 kernel_rfl
theorem W_77:XU D_77= [B_77L3]:=by kernel_rfl
theorem Q_77:Qk Tryz.prog 79 Tryz.f79 D_77:=⟨Tryz.func79,by kernel_rfl,by kernel_rfl⟩
theorem H_77:Holds Tryz.prog 79 E_77:=
 Yi3 tabT mixT Q_77 F_77 rfl ⟨⟨H_63,_,_,Q_63⟩,trivial⟩ W_77 ⟨Yi8 (L:=S_77L3 Ad) K_77L3 (i:=3) (by kernel_rfl),trivial⟩
theorem Q_78:Qk Tryz.prog 80 Tryz.f80 D_78:=⟨Tryz.func80,by kernel_rfl,by kernel_rfl⟩
theorem H_78:Holds Tryz.prog 80 E_78:=Go.Proofs.H_sort_cmpL 1
theorem F_79 (a):E_79.run a=Yir C_79 Tryz.f64 E_79.params E_79.results a λo r=>some (N_79 o r):=by
 kernel_rfl
theorem W_79:XU D_79= []:=by kernel_rfl
theorem Q_79:Qk Tryz.prog 64 Tryz.f64 D_79:=⟨Tryz.func64,by kernel_rfl,by kernel_rfl⟩
theorem H_79:Holds Tryz.prog 64 E_79:=
 Yi3 tabT mixT Q_79 F_79 rfl ⟨⟨H_77,_,_,Q_77⟩,⟨⟨H_78,_,_,Q_78⟩,trivial⟩⟩ W_79 trivial
theorem Q_80:Qk Tryz.prog 63 Tryz.f63 D_80:=⟨Tryz.func63,by kernel_rfl,by kernel_rfl⟩
theorem H_80:Holds Tryz.prog 63 E_80:=Go.Proofs.H_diff 1
theorem F_81 (a):E_81.run a=Yir C_81 Tryz.f43 E_81.params E_81.results a λo r=>some (N_81 o r):=by
 kernel_rfl
theorem W_81:XU D_81= []:=by kernel_rfl
theorem Q_81:Qk Tryz.prog 43 Tryz.f43 D_81:=⟨Tryz.func43,by kernel_rfl,by kernel_rfl⟩
theorem H_81:Holds Tryz.prog 43 E_81:=
 Yi3 tabT mixT Q_81 F_81 rfl ⟨⟨H_80,_,_,Q_80⟩,⟨⟨H_79,_,_,Q_79⟩,trivial⟩⟩ W_81 trivial
theorem F_82 (a):E_82.run a=Yir C_82 Tryz.f40 E_82.params E_82.results a λo r=>some (N_82 o r):=by
 kernel_rfl
theorem W_82:XU D_82= []:=by kernel_rfl
theorem Q_82:Qk Tryz.prog 40 Tryz.f40 D_82:=⟨Tryz.func40,by kernel_rfl,by kernel_rfl⟩
theorem H_82:Holds Tryz.prog 40 E_82:=
 Yi3 tabT mixT Q_82 F_82 rfl ⟨⟨H_37,_,_,Q_37⟩,⟨⟨H_32,_,_,Q_32⟩,trivial⟩⟩ W_82 trivial
theorem K_83L10 (rec:(Int×(List Int)×((List Int)×((List ByteArray)×(List (List Int))))×(Bool×Int×(List (List (List Int)))×(List (List (List ByteArray))))×(List Int)×Unit)->Option ((List Int)×(Unit×((List ByteArray)×(List (List Int))))×(Bool×Int×(List (List (List Int)))×(List (List (List ByteArray))))×(List Int)×Bool)) (n:Nat) (x):Ao rec (n+1) x=Yfg (C_83 rec) B_83L10 (S_83L10 rec Ad) x (Ao rec n):=by
 obtain⟨_,_,_,_,_,_,_,_,_,_,_⟩:=x
 kernel_rfl
theorem K_83L4 (rec:(Int×(List Int)×((List Int)×((List ByteArray)×(List (List Int))))×(Bool×Int×(List (List (List Int)))×(List (List (List ByteArray))))×(List Int)×Unit)->Option ((List Int)×(Unit×((List ByteArray)×(List (List Int))))×(Bool×Int×(List (List (List Int)))×(List (List (List ByteArray))))×(List Int)×Bool)) (n:Nat) (x):Af rec (n+1) x=Yfg (C_83 rec) B_83L4 (S_83L4 rec Ad) x (Af rec n):=by
 obtain⟨_,_,_,_,_,_,_⟩:=x
 kernel_rfl
theorem F_83 (rec:(Int×(List Int)×((List Int)×((List ByteArray)×(List (List Int))))×(Bool×Int×(List (List (List Int)))×(List (List (List ByteArray))))×(List Int)×Unit)->Option ((List Int)×(Unit×((List ByteArray)×(List (List Int))))×(Bool×Int×(List (List (List Int)))×(List (List (List ByteArray))))×(List Int)×Bool)) (a:YH [.v .int,.bx (.mv .int 0),.pr (.pz y2) (.pr (.bx ((.mp .sb))) (.bx (.mv y2 1))),.bx (.v (.ptr y1)),.bx (.v y2),.jk 1]):Ba rec a.1 a.2.1 a.2.2.1 a.2.2.2.1 a.2.2.2.2.1 a.2.2.2.2.2=Yir (C_83 rec) Tryz.f77 [.v .int,.bx (.mv .int 0),.pr (.pz y2) (.pr (.bx ((.mp .sb))) (.bx (.mv y2 1))),.bx (.v (.ptr y1)),.bx (.v y2),.jk 1] [.v .bool] a (λo r=>some (N_83 o r)):=by
 kernel_rfl
theorem W_83:XU D_83= [B_83L4,B_83L10]:=by kernel_rfl
theorem R_83L10:YZ B_83L10=10:=by kernel_rfl
theorem R_83L4:YZ B_83L4=4:=by kernel_rfl
theorem Q_83:Qk Tryz.prog 77 Tryz.f77 D_83:=⟨Tryz.func77,by kernel_rfl,by kernel_rfl⟩
theorem H_83: ∀d,Holds Tryz.prog 77 (E_83 d)
 |0=>λ_ b h=>absurd (show(none:Option _)=some b from h) (by simp)
 |d+1=>YgE (en:=E_83 (d+1)) (cx:=(C_83 (AE d))) (Yhe tabT rfl).1 (Yfz ⟨⟨H_82,_,_,Q_82⟩,⟨⟨H_37,_,_,Q_37⟩,⟨⟨H_32,_,_,Q_32⟩,⟨⟨H_83 d,_,_,Q_83⟩,trivial⟩⟩⟩⟩) mixT Q_83.1 Q_83.2.2 (YgL W_83 ⟨YhE (cx:=(C_83 (AE d))) (L:=S_83L4 (AE d) Ad) rfl (by rw[R_83L4];rfl) ⟨Af (AE d),λ_=>rfl,λn x=>K_83L4 (AE d) n x,Ad,λ_=>rfl⟩,⟨YhE (cx:=(C_83 (AE d))) (L:=S_83L10 (AE d) Ad) rfl (by rw[R_83L10];rfl) ⟨Ao (AE d),λ_=>rfl,λn x=>K_83L10 (AE d) n x,Ad,λ_=>rfl⟩,trivial⟩⟩) (enc:=N_83) (λ_ _=>⟨rfl,rfl⟩) (F_83 (AE d)) rfl
theorem F_84 (a):E_84.run a=Yir C_84 Tryz.f57 E_84.params E_84.results a λo r=>some (N_84 o r):=by
 kernel_rfl
theorem W_84:XU D_84= []:=by kernel_rfl
theorem Q_84:Qk Tryz.prog 57 Tryz.f57 D_84:=⟨Tryz.func57,by kernel_rfl,by kernel_rfl⟩
theorem H_84:Holds Tryz.prog 57 E_84:=
 Yi3 tabT mixT Q_84 F_84 rfl ⟨⟨H_83 Ad,_,_,Q_83⟩,trivial⟩ W_84 trivial
theorem F_85 (a):E_85.run a=Yir C_85 Tryz.f28 E_85.params E_85.results a λo r=>some (N_85 o r):=by
 kernel_rfl
theorem W_85:XU D_85= []:=by kernel_rfl
theorem Q_85:Qk Tryz.prog 28 Tryz.f28 D_85:=⟨Tryz.func28,by kernel_rfl,by kernel_rfl⟩
theorem H_85:Holds Tryz.prog 28 E_85:=
 Yi3 tabT mixT Q_85 F_85 rfl ⟨⟨H_34,_,_,Q_34⟩,⟨⟨H_55,_,_,Q_55⟩,⟨⟨H_84,_,_,Q_84⟩,trivial⟩⟩⟩ W_85 trivial
theorem F_86 (a):E_86.run a=Yir C_86 Tryz.f16 E_86.params E_86.results a λo r=>some (N_86 o r):=by
 kernel_rfl
theorem W_86:XU D_86= []:=by kernel_rfl
theorem Q_86:Qk Tryz.prog 16 Tryz.f16 D_86:=⟨Tryz.func16,by kernel_rfl,by kernel_rfl⟩
theorem H_86:Holds Tryz.prog 16 E_86:=
 Yi3 tabT mixT Q_86 F_86 rfl ⟨⟨H_31,_,_,Q_31⟩,⟨⟨H_27,_,_,Q_27⟩,⟨⟨H_81,_,_,Q_81⟩,⟨⟨H_85,_,_,Q_85⟩,trivial⟩⟩⟩⟩ W_86 trivial
theorem K_87L10 (n:Nat) (x):AG (n+1) x=Yfg C_87 B_87L10 (S_87L10 Ad) x (AG n):=by
 obtain⟨_,_,_,_,_,_,_,_,_⟩:=x
 kernel_rfl
theorem K_87L5 (n:Nat) (x):AL (n+1) x=Yfg C_87 B_87L5 (S_87L5 Ad) x (AL n):=by
 obtain⟨_,_,_,_,_⟩:=x
 kernel_rfl
theorem F_87 (a):E_87.run a=Yir C_87 Tryz.f17 E_87.params E_87.results a λo r=>some (N_87 o r):=by
 kernel_rfl
theorem W_87:XU D_87= [B_87L5,B_87L10]:=by kernel_rfl
theorem Q_87:Qk Tryz.prog 17 Tryz.f17 D_87:=⟨Tryz.func17,by kernel_rfl,by kernel_rfl⟩
theorem H_87:Holds Tryz.prog 17 E_87:=
 Yi3 tabT mixT Q_87 F_87 rfl ⟨⟨H_46,_,_,Q_46⟩,⟨⟨H_52,_,_,Q_52⟩,⟨⟨H_61,_,_,Q_61⟩,⟨⟨H_8,_,_,Q_8⟩,⟨⟨H_42,_,_,Q_42⟩,⟨⟨H_16,_,_,Q_16⟩,⟨⟨H_17,_,_,Q_17⟩,trivial⟩⟩⟩⟩⟩⟩⟩ W_87 ⟨Yi8 (L:=S_87L5 Ad) K_87L5 (i:=5) (by kernel_rfl),⟨Yi8 (L:=S_87L10 Ad) K_87L10 (i:=10) (by kernel_rfl),trivial⟩⟩
theorem F_88 (a):E_88.run a=Yir C_88 Tryz.f49 E_88.params E_88.results a λo r=>some (N_88 o r):=by
 kernel_rfl
theorem W_88:XU D_88= []:=by kernel_rfl
theorem Q_88:Qk Tryz.prog 49 Tryz.f49 D_88:=⟨Tryz.func49,by kernel_rfl,by kernel_rfl⟩
theorem H_88:Holds Tryz.prog 49 E_88:=
 Yi3 tabT mixT Q_88 F_88 rfl ⟨⟨H_37,_,_,Q_37⟩,⟨⟨H_73,_,_,Q_73⟩,trivial⟩⟩ W_88 trivial
theorem K_89L10 (rec:(Int×(List Int)×(((List Int)×Int×(List (List Int)))×Bool)×(Bool×Int×(List (List (List Int)))×(List (List (List ByteArray))))×(List Int)×Unit)->Option ((List Int)×(Unit×Bool)×(Bool×Int×(List (List (List Int)))×(List (List (List ByteArray))))×(List Int)×Bool)) (n:Nat) (x):Ap rec (n+1) x=Yfg (C_89 rec) B_89L10 (S_89L10 rec Ad) x (Ap rec n):=by
 obtain⟨_,_,_,_,_,_,_,_,_,_,_⟩:=x
 kernel_rfl
theorem K_89L4 (rec:(Int×(List Int)×(((List Int)×Int×(List (List Int)))×Bool)×(Bool×Int×(List (List (List Int)))×(List (List (List ByteArray))))×(List Int)×Unit)->Option ((List Int)×(Unit×Bool)×(Bool×Int×(List (List (List Int)))×(List (List (List ByteArray))))×(List Int)×Bool)) (n:Nat) (x):Ai rec (n+1) x=Yfg (C_89 rec) B_89L4 (S_89L4 rec Ad) x (Ai rec n):=by
 obtain⟨_,_,_,_,_,_,_⟩:=x
 kernel_rfl
theorem F_89 (rec:(Int×(List Int)×(((List Int)×Int×(List (List Int)))×Bool)×(Bool×Int×(List (List (List Int)))×(List (List (List ByteArray))))×(List Int)×Unit)->Option ((List Int)×(Unit×Bool)×(Bool×Int×(List (List (List Int)))×(List (List (List ByteArray))))×(List Int)×Bool)) (a:YH [.v .int,.bx (.mv .int 0),.pr (.pz y0) (.bx (.v .bool)),.bx (.v (.ptr y1)),.bx (.v y2),.jk 1]):Bu rec a.1 a.2.1 a.2.2.1 a.2.2.2.1 a.2.2.2.2.1 a.2.2.2.2.2=Yir (C_89 rec) Tryz.f77 [.v .int,.bx (.mv .int 0),.pr (.pz y0) (.bx (.v .bool)),.bx (.v (.ptr y1)),.bx (.v y2),.jk 1] [.v .bool] a (λo r=>some (N_89 o r)):=by
 kernel_rfl
theorem W_89:XU D_89= [B_89L4,B_89L10]:=by kernel_rfl
theorem R_89L10:YZ B_89L10=10:=by kernel_rfl
theorem R_89L4:YZ B_89L4=4:=by kernel_rfl
theorem Q_89:Qk Tryz.prog 77 Tryz.f77 D_89:=⟨Tryz.func77,by kernel_rfl,by kernel_rfl⟩
theorem H_89: ∀d,Holds Tryz.prog 77 (E_89 d)
 |0=>λ_ b h=>absurd (show(none:Option _)=some b from h) (by simp)
 |d+1=>YgE (en:=E_89 (d+1)) (cx:=(C_89 (AM d))) (Yhe tabT rfl).1 (Yfz ⟨⟨H_37,_,_,Q_37⟩,⟨⟨H_32,_,_,Q_32⟩,⟨⟨H_88,_,_,Q_88⟩,⟨⟨H_89 d,_,_,Q_89⟩,trivial⟩⟩⟩⟩) mixT Q_89.1 Q_89.2.2 (YgL W_89 ⟨YhE (cx:=(C_89 (AM d))) (L:=S_89L4 (AM d) Ad) rfl (by rw[R_89L4];rfl) ⟨Ai (AM d),λ_=>rfl,λn x=>K_89L4 (AM d) n x,Ad,λ_=>rfl⟩,⟨YhE (cx:=(C_89 (AM d))) (L:=S_89L10 (AM d) Ad) rfl (by rw[R_89L10];rfl) ⟨Ap (AM d),λ_=>rfl,λn x=>K_89L10 (AM d) n x,Ad,λ_=>rfl⟩,trivial⟩⟩) (enc:=N_89) (λ_ _=>⟨rfl,rfl⟩) (F_89 (AM d)) rfl
theorem F_90 (a):E_90.run a=Yir C_90 Tryz.f57 E_90.params E_90.results a λo r=>some (N_90 o r):=by
 kernel_rfl
theorem W_90:XU D_90= []:=by kernel_rfl
theorem Q_90:Qk Tryz.prog 57 Tryz.f57 D_90:=⟨Tryz.func57,by kernel_rfl,by kernel_rfl⟩
theorem H_90:Holds Tryz.prog 57 E_90:=
 Yi3 tabT mixT Q_90 F_90 rfl ⟨⟨H_89 Ad,_,_,Q_89⟩,trivial⟩ W_90 trivial
theorem F_91 (a):E_91.run a=Yir C_91 Tryz.f28 E_91.params E_91.results a λo r=>some (N_91 o r):=by
 kernel_rfl
theorem W_91:XU D_91= []:=by kernel_rfl
theorem Q_91:Qk Tryz.prog 28 Tryz.f28 D_91:=⟨Tryz.func28,by kernel_rfl,by kernel_rfl⟩
theorem H_91:Holds Tryz.prog 28 E_91:=
 Yi3 tabT mixT Q_91 F_91 rfl ⟨⟨H_34,_,_,Q_34⟩,⟨⟨H_55,_,_,Q_55⟩,⟨⟨H_90,_,_,Q_90⟩,trivial⟩⟩⟩ W_91 trivial
theorem F_92 (a):E_92.run a=Yir C_92 Tryz.f18 E_92.params E_92.results a λo r=>some (N_92 o r):=by
 kernel_rfl
theorem W_92:XU D_92= []:=by kernel_rfl
theorem Q_92:Qk Tryz.prog 18 Tryz.f18 D_92:=⟨Tryz.func18,by kernel_rfl,by kernel_rfl⟩
theorem H_92:Holds Tryz.prog 18 E_92:=
 Yi3 tabT mixT Q_92 F_92 rfl ⟨⟨H_31,_,_,Q_31⟩,⟨⟨H_30,_,_,Q_30⟩,⟨⟨H_91,_,_,Q_91⟩,trivial⟩⟩⟩ W_92 trivial
theorem K_93L7 (n:Nat) (x):AN (n+1) x=Yfg C_93 B_93L7 (S_93L7 Ad) x (AN n):=by
 obtain⟨_,_,_,_,_,_⟩:=x
 kernel_rfl
theorem F_93 (a):E_93.run a=Yir C_93 Tryz.f19 E_93.params E_93.results a λo r=>some (N_93 o r):=by
 kernel_rfl
theorem W_93:XU D_93= [B_93L7]:=by kernel_rfl
theorem Q_93:Qk Tryz.prog 19 Tryz.f19 D_93:=⟨Tryz.func19,by kernel_rfl,by kernel_rfl⟩
theorem H_93:Holds Tryz.prog 19 E_93:=
 Yi3 tabT mixT Q_93 F_93 rfl ⟨⟨H_23,_,_,Q_23⟩,⟨⟨H_7,_,_,Q_7⟩,⟨⟨H_3,_,_,Q_3⟩,⟨⟨H_22,_,_,Q_22⟩,⟨⟨H_4,_,_,Q_4⟩,⟨⟨H_20,_,_,Q_20⟩,trivial⟩⟩⟩⟩⟩⟩ W_93 ⟨Yi8 (L:=S_93L7 Ad) K_93L7 (i:=7) (by kernel_rfl),trivial⟩
theorem K_94L9 (n:Nat) (x):Bd (n+1) x=Yfg C_94 B_94L9 (S_94L9 Ad) x (Bd n):=by
 obtain⟨_,_,_,_,_,_,_⟩:=x
 kernel_rfl
theorem K_94L4 (n:Nat) (x):Bc (n+1) x=Yfg C_94 B_94L4 (S_94L4 Ad) x (Bc n):=by
 obtain⟨_,_,_⟩:=x
 kernel_rfl
theorem F_94 (a):E_94.run a=Yir C_94 Tryz.f20 E_94.params E_94.results a λo r=>some (N_94 o r):=by
 kernel_rfl
theorem W_94:XU D_94= [B_94L4,B_94L9]:=by kernel_rfl
theorem Q_94:Qk Tryz.prog 20 Tryz.f20 D_94:=⟨Tryz.func20,by kernel_rfl,by kernel_rfl⟩
theorem H_94:Holds Tryz.prog 20 E_94:=
 Yi3 tabT mixT Q_94 F_94 rfl ⟨⟨H_46,_,_,Q_46⟩,⟨⟨H_52,_,_,Q_52⟩,⟨⟨H_61,_,_,Q_61⟩,⟨⟨H_16,_,_,Q_16⟩,⟨⟨H_17,_,_,Q_17⟩,⟨⟨H_45,_,_,Q_45⟩,⟨⟨H_49,_,_,Q_49⟩,trivial⟩⟩⟩⟩⟩⟩⟩ W_94 ⟨Yi8 (L:=S_94L4 Ad) K_94L4 (i:=4) (by kernel_rfl),⟨Yi8 (L:=S_94L9 Ad) K_94L9 (i:=9) (by kernel_rfl),trivial⟩⟩
theorem K_95L27 (n:Nat) (x):A8 (n+1) x=Yfg C_95 B_95L27 (S_95L27 Ad) x (A8 n):=by
 obtain⟨_,_,_,_,_,_,_,_,_,_⟩:=x
 kernel_rfl
theorem K_95L23 (n:Nat) (x):AS (n+1) x=Yfg C_95 B_95L23 (S_95L23 Ad) x (AS n):=by
 obtain⟨_,_,_,_,_,_,_,_⟩:=x
 kernel_rfl
theorem F_95 (a):E_95.run a=Yir C_95 Tryz.f3 E_95.params E_95.results a λo r=>some (N_95 o r):=by
 kernel_rfl
theorem W_95:XU D_95= [B_95L23,B_95L27]:=by kernel_rfl
theorem Q_95:Qk Tryz.prog 3 Tryz.f3 D_95:=⟨Tryz.func3,by kernel_rfl,by kernel_rfl⟩
theorem H_95:Holds Tryz.prog 3 E_95:=
 Yi3 tabT mixT Q_95 F_95 rfl ⟨⟨H_1,_,_,Q_1⟩,⟨⟨H_25,_,_,Q_25⟩,⟨⟨H_41,_,_,Q_41⟩,⟨⟨H_53,_,_,Q_53⟩,⟨⟨H_54,_,_,Q_54⟩,⟨⟨H_60,_,_,Q_60⟩,⟨⟨H_62,_,_,Q_62⟩,⟨⟨H_68,_,_,Q_68⟩,⟨⟨H_69,_,_,Q_69⟩,⟨⟨H_70,_,_,Q_70⟩,⟨⟨H_75,_,_,Q_75⟩,⟨⟨H_76,_,_,Q_76⟩,⟨⟨H_86,_,_,Q_86⟩,⟨⟨H_87,_,_,Q_87⟩,⟨⟨H_92,_,_,Q_92⟩,⟨⟨H_93,_,_,Q_93⟩,⟨⟨H_94,_,_,Q_94⟩,trivial⟩⟩⟩⟩⟩⟩⟩⟩⟩⟩⟩⟩⟩⟩⟩⟩⟩ W_95 ⟨Yi8 (L:=S_95L23 Ad) K_95L23 (i:=23) (by kernel_rfl),⟨Yi8 (L:=S_95L27 Ad) K_95L27 (i:=27) (by kernel_rfl),trivial⟩⟩
end T
