/- Each typed function is what the program computes; no conditions. -/
import Derived.Test.YtgeboeaoblppcaaGreatSFnAffineSets
import Derived.Test.YtgeboeaoblppcaaGreatCFnAffineSets
set_option linter.all false
set_option maxRecDepth 10000
open Go Go.Va Go.Proofs
namespace T
theorem F_1 (a):E_1.run a=Yir C_1 Tryz.f4 E_1.params E_1.results a λo r=>some (N_1 o r):=by
 kernel_rfl
theorem W_1:XU D_1= []:=by kernel_rfl
theorem Q_1:Qk Tryz.prog 4 Tryz.f4 D_1:=⟨Tryz.func4,by kernel_rfl,by kernel_rfl⟩
theorem H_1:Holds Tryz.prog 4 E_1:=
 Yi3 tabT mixT Q_1 F_1 rfl trivial W_1 trivial
theorem F_2 (a):E_2.run a=Yir C_2 Tryz.f91 E_2.params E_2.results a λo r=>some (N_2 o r):=by
 kernel_rfl
theorem W_2:XU D_2= []:=by kernel_rfl
theorem Q_2:Qk Tryz.prog 91 Tryz.f91 D_2:=⟨Tryz.func91,by kernel_rfl,by kernel_rfl⟩
theorem H_2:Holds Tryz.prog 91 E_2:=
 Yi3 tabT mixT Q_2 F_2 rfl trivial W_2 trivial
theorem F_3 (a):E_3.run a=Yir C_3 Tryz.f75 E_3.params E_3.results a λo r=>some (N_3 o r):=by
 kernel_rfl
theorem W_3:XU D_3= []:=by kernel_rfl
theorem Q_3:Qk Tryz.prog 75 Tryz.f75 D_3:=⟨Tryz.func75,by kernel_rfl,by kernel_rfl⟩
theorem H_3:Holds Tryz.prog 75 E_3:=
 Yi3 tabT mixT Q_3 F_3 rfl ⟨⟨H_2,_,_,Q_2⟩,trivial⟩ W_3 trivial
theorem F_4 (a):E_4.run a=Yir C_4 Tryz.f74 E_4.params E_4.results a λo r=>some (N_4 o r):=by
 kernel_rfl
theorem W_4:XU D_4= []:=by kernel_rfl
theorem Q_4:Qk Tryz.prog 74 Tryz.f74 D_4:=⟨Tryz.func74,by kernel_rfl,by kernel_rfl⟩
theorem H_4:Holds Tryz.prog 74 E_4:=
 Yi3 tabT mixT Q_4 F_4 rfl ⟨⟨H_3,_,_,Q_3⟩,trivial⟩ W_4 trivial
theorem K_5L2 (n:Nat) (x):Dh (n+1) x=Yfg C_5 B_5L2 (S_5L2 Aa) x (Dh n):=by
 obtain⟨_,_,_⟩:=x
 kernel_rfl
theorem F_5 (a):E_5.run a=Yir C_5 Tryz.f56 E_5.params E_5.results a λo r=>some (N_5 o r):=by
 kernel_rfl
theorem W_5:XU D_5= [B_5L2]:=by kernel_rfl
theorem Q_5:Qk Tryz.prog 56 Tryz.f56 D_5:=⟨Tryz.func56,by kernel_rfl,by kernel_rfl⟩
theorem H_5:Holds Tryz.prog 56 E_5:=
 Yi3 tabT mixT Q_5 F_5 rfl trivial W_5 ⟨Yi8 (L:=S_5L2 Aa) K_5L2 (i:=2) (by kernel_rfl),trivial⟩
theorem K_6L4 (n:Nat) (x):Df (n+1) x=Yfg C_6 B_6L4 (S_6L4 Aa) x (Df n):=by
 obtain⟨_,_,_⟩:=x
 kernel_rfl
theorem F_6 (a):E_6.run a=Yir C_6 Tryz.f83 E_6.params E_6.results a λo r=>some (N_6 o r):=by
 kernel_rfl
theorem W_6:XU D_6= [B_6L4]:=by kernel_rfl
theorem Q_6:Qk Tryz.prog 83 Tryz.f83 D_6:=⟨Tryz.func83,by kernel_rfl,by kernel_rfl⟩
theorem H_6:Holds Tryz.prog 83 E_6:=
 Yi3 tabT mixT Q_6 F_6 rfl trivial W_6 ⟨Yi8 (L:=S_6L4 Aa) K_6L4 (i:=4) (by kernel_rfl),trivial⟩
theorem K_7L2 (n:Nat) (x):CQ (n+1) x=Yfg C_7 B_7L2 (S_7L2 Aa) x (CQ n):=by
 obtain⟨_,_,_,_⟩:=x
 kernel_rfl
theorem F_7 (a):E_7.run a=Yir C_7 Tryz.f57 E_7.params E_7.results a λo r=>some (N_7 o r):=by
 kernel_rfl
theorem W_7:XU D_7= [B_7L2]:=by kernel_rfl
theorem Q_7:Qk Tryz.prog 57 Tryz.f57 D_7:=⟨Tryz.func57,by kernel_rfl,by kernel_rfl⟩
theorem H_7:Holds Tryz.prog 57 E_7:=
 Yi3 tabT mixT Q_7 F_7 rfl ⟨⟨H_5,_,_,Q_5⟩,⟨⟨H_6,_,_,Q_6⟩,trivial⟩⟩ W_7 ⟨Yi8 (L:=S_7L2 Aa) K_7L2 (i:=2) (by kernel_rfl),trivial⟩
theorem F_8 (a):E_8.run a=Yir C_8 Tryz.f76 E_8.params E_8.results a λo r=>some (N_8 o r):=by
 kernel_rfl
theorem W_8:XU D_8= []:=by kernel_rfl
theorem Q_8:Qk Tryz.prog 76 Tryz.f76 D_8:=⟨Tryz.func76,by kernel_rfl,by kernel_rfl⟩
theorem H_8:Holds Tryz.prog 76 E_8:=
 Yi3 tabT mixT Q_8 F_8 rfl ⟨⟨H_7,_,_,Q_7⟩,trivial⟩ W_8 trivial
theorem F_9 (a):E_9.run a=Yir C_9 Tryz.f77 E_9.params E_9.results a λo r=>some (N_9 o r):=by
 kernel_rfl
theorem W_9:XU D_9= []:=by kernel_rfl
theorem Q_9:Qk Tryz.prog 77 Tryz.f77 D_9:=⟨Tryz.func77,by kernel_rfl,by kernel_rfl⟩
theorem H_9:Holds Tryz.prog 77 E_9:=
 Yi3 tabT mixT Q_9 F_9 rfl ⟨⟨H_3,_,_,Q_3⟩,trivial⟩ W_9 trivial
theorem K_10L3 (n:Nat) (x):Ci (n+1) x=Yfg C_10 B_10L3 (S_10L3 Aa) x (Ci n):=by
 obtain⟨_,_,_,_⟩:=x
 kernel_rfl
theorem F_10 (a):E_10.run a=Yir C_10 Tryz.f35 E_10.params E_10.results a λo r=>some (N_10 o r):=by
 kernel_rfl
theorem W_10:XU D_10= [B_10L3]:=by kernel_rfl
theorem Q_10:Qk Tryz.prog 35 Tryz.f35 D_10:=⟨Tryz.func35,by kernel_rfl,by kernel_rfl⟩
theorem H_10:Holds Tryz.prog 35 E_10:=
 Yi3 tabT mixT Q_10 F_10 rfl trivial W_10 ⟨Yi8 (L:=S_10L3 Aa) K_10L3 (i:=3) (by kernel_rfl),trivial⟩
theorem F_11 (a):E_11.run a=Yir C_11 Tryz.f79 E_11.params E_11.results a λo r=>some (N_11 o r):=by
 kernel_rfl
theorem W_11:XU D_11= []:=by kernel_rfl
theorem Q_11:Qk Tryz.prog 79 Tryz.f79 D_11:=⟨Tryz.func79,by kernel_rfl,by kernel_rfl⟩
theorem H_11:Holds Tryz.prog 79 E_11:=
 Yi3 tabT mixT Q_11 F_11 rfl trivial W_11 trivial
theorem F_12 (a):E_12.run a=Yir C_12 Tryz.f107 E_12.params E_12.results a λo r=>some (N_12 o r):=by
 kernel_rfl
theorem W_12:XU D_12= []:=by kernel_rfl
theorem Q_12:Qk Tryz.prog 107 Tryz.f107 D_12:=⟨Tryz.func107,by kernel_rfl,by kernel_rfl⟩
theorem H_12:Holds Tryz.prog 107 E_12:=
 Yi3 tabT mixT Q_12 F_12 rfl trivial W_12 trivial
theorem K_13L3 (n:Nat) (x):EV (n+1) x=Yfg C_13 B_13L3 (S_13L3 Aa) x (EV n):=by
 obtain⟨_,_,_⟩:=x
 kernel_rfl
theorem F_13 (a):E_13.run a=Yir C_13 Tryz.f92 E_13.params E_13.results a λo r=>some (N_13 o r):=by
 kernel_rfl
theorem W_13:XU D_13= [B_13L3]:=by kernel_rfl
theorem Q_13:Qk Tryz.prog 92 Tryz.f92 D_13:=⟨Tryz.func92,by kernel_rfl,by kernel_rfl⟩
theorem H_13:Holds Tryz.prog 92 E_13:=
 Yi3 tabT mixT Q_13 F_13 rfl ⟨⟨H_12,_,_,Q_12⟩,trivial⟩ W_13 ⟨Yi8 (L:=S_13L3 Aa) K_13L3 (i:=3) (by kernel_rfl),trivial⟩
theorem F_14 (a):E_14.run a=Yir C_14 Tryz.f27 E_14.params E_14.results a λo r=>some (N_14 o r):=by
 kernel_rfl
theorem W_14:XU D_14= []:=by kernel_rfl
theorem Q_14:Qk Tryz.prog 27 Tryz.f27 D_14:=⟨Tryz.func27,by kernel_rfl,by kernel_rfl⟩
theorem H_14:Holds Tryz.prog 27 E_14:=
 Yi3 tabT mixT Q_14 F_14 rfl trivial W_14 trivial
theorem K_15L7 (n:Nat) (x):DB (n+1) x=Yfg C_15 B_15L7 (S_15L7 Aa) x (DB n):=by
 obtain⟨_,_,_,_,_,_,_,_⟩:=x
 kernel_rfl
theorem K_15L3 (n:Nat) (x):Cs (n+1) x=Yfg C_15 B_15L3 (S_15L3 Aa) x (Cs n):=by
 obtain⟨_,_,_,_,_,_⟩:=x
 kernel_rfl
theorem F_15 (a):E_15.run a=Yir C_15 Tryz.f93 E_15.params E_15.results a λo r=>some (N_15 o r):=by
 kernel_rfl
theorem W_15:XU D_15= [B_15L3,B_15L7]:=by kernel_rfl
theorem Q_15:Qk Tryz.prog 93 Tryz.f93 D_15:=⟨Tryz.func93,by kernel_rfl,by kernel_rfl⟩
theorem H_15:Holds Tryz.prog 93 E_15:=
 Yi3 tabT mixT Q_15 F_15 rfl trivial W_15 ⟨Yi8 (L:=S_15L3 Aa) K_15L3 (i:=3) (by kernel_rfl),⟨Yi8 (L:=S_15L7 Aa) K_15L7 (i:=7) (by kernel_rfl),trivial⟩⟩
theorem K_16L2 (n:Nat) (x):Du (n+1) x=Yfg C_16 B_16L2 (S_16L2 Aa) x (Du n):=by
 obtain⟨_,_,_⟩:=x
 kernel_rfl
theorem F_16 (a):E_16.run a=Yir C_16 Tryz.f84 E_16.params E_16.results a λo r=>some (N_16 o r):=by
 kernel_rfl
theorem W_16:XU D_16= [B_16L2]:=by kernel_rfl
theorem Q_16:Qk Tryz.prog 84 Tryz.f84 D_16:=⟨Tryz.func84,by kernel_rfl,by kernel_rfl⟩
theorem H_16:Holds Tryz.prog 84 E_16:=
 Yi3 tabT mixT Q_16 F_16 rfl trivial W_16 ⟨Yi8 (L:=S_16L2 Aa) K_16L2 (i:=2) (by kernel_rfl),trivial⟩
theorem K_17L3 (n:Nat) (x):Fm (n+1) x=Yfg C_17 B_17L3 (S_17L3 Aa) x (Fm n):=by
 obtain⟨_,_,_,_⟩:=x
 kernel_rfl
theorem F_17 (a):E_17.run a=Yir C_17 Tryz.f94 E_17.params E_17.results a λo r=>some (N_17 o r):=by
 kernel_rfl
theorem W_17:XU D_17= [B_17L3]:=by kernel_rfl
theorem Q_17:Qk Tryz.prog 94 Tryz.f94 D_17:=⟨Tryz.func94,by kernel_rfl,by kernel_rfl⟩
theorem H_17:Holds Tryz.prog 94 E_17:=
 Yi3 tabT mixT Q_17 F_17 rfl trivial W_17 ⟨Yi8 (L:=S_17L3 Aa) K_17L3 (i:=3) (by kernel_rfl),trivial⟩
theorem K_18L3 (n:Nat) (x):Di (n+1) x=Yfg C_18 B_18L3 (S_18L3 Aa) x (Di n):=by
 obtain⟨_,_,_⟩:=x
 kernel_rfl
theorem F_18 (a):E_18.run a=Yir C_18 Tryz.f95 E_18.params E_18.results a λo r=>some (N_18 o r):=by
 kernel_rfl
theorem W_18:XU D_18= [B_18L3]:=by kernel_rfl
theorem Q_18:Qk Tryz.prog 95 Tryz.f95 D_18:=⟨Tryz.func95,by kernel_rfl,by kernel_rfl⟩
theorem H_18:Holds Tryz.prog 95 E_18:=
 Yi3 tabT mixT Q_18 F_18 rfl ⟨⟨H_14,_,_,Q_14⟩,trivial⟩ W_18 ⟨Yi8 (L:=S_18L3 Aa) K_18L3 (i:=3) (by kernel_rfl),trivial⟩
theorem F_19 (a):E_19.run a=Yir C_19 Tryz.f76 E_19.params E_19.results a λo r=>some (N_19 o r):=by
 kernel_rfl
theorem W_19:XU D_19= []:=by kernel_rfl
theorem Q_19:Qk Tryz.prog 76 Tryz.f76 D_19:=⟨Tryz.func76,by kernel_rfl,by kernel_rfl⟩
theorem H_19:Holds Tryz.prog 76 E_19:=
 Yi3 tabT mixT Q_19 F_19 rfl ⟨⟨H_7,_,_,Q_7⟩,trivial⟩ W_19 trivial
theorem K_20L3 (n:Nat) (x):Cm (n+1) x=Yfg C_20 B_20L3 (S_20L3 Aa) x (Cm n):=by
 obtain⟨_,_,_,_⟩:=x
 kernel_rfl
theorem F_20 (a):E_20.run a=Yir C_20 Tryz.f94 E_20.params E_20.results a λo r=>some (N_20 o r):=by
 kernel_rfl
theorem W_20:XU D_20= [B_20L3]:=by kernel_rfl
theorem Q_20:Qk Tryz.prog 94 Tryz.f94 D_20:=⟨Tryz.func94,by kernel_rfl,by kernel_rfl⟩
theorem H_20:Holds Tryz.prog 94 E_20:=
 Yi3 tabT mixT Q_20 F_20 rfl trivial W_20 ⟨Yi8 (L:=S_20L3 Aa) K_20L3 (i:=3) (by kernel_rfl),trivial⟩
theorem K_21L4 (n:Nat) (x):FF (n+1) x=Yfg C_21 B_21L4 (S_21L4 Aa) x (FF n):=by
 obtain⟨_,_,_,_,_,_,_,_⟩:=x
 kernel_rfl
theorem K_21L8 (n:Nat) (x):Ev (n+1) x=Yfg C_21 B_21L8 (S_21L8 Aa) x (Ev n):=by
 obtain⟨_,_,_,_,_,_,_⟩:=x
 kernel_rfl
theorem K_21L13 (n:Nat) (x):D4 (n+1) x=Yfg C_21 B_21L13 (S_21L13 Aa) x (D4 n):=by
 obtain⟨_,_,_,_,_,_,_⟩:=x
 kernel_rfl
theorem K_21L26 (n:Nat) (x):Dp (n+1) x=Yfg C_21 B_21L26 (S_21L26 Aa) x (Dp n):=by
 obtain⟨_,_,_,_,_,_,_,_,_⟩:=x
 kernel_rfl
theorem K_21L23 (n:Nat) (x):Fq (n+1) x=Yfg C_21 B_21L23 (S_21L23 Aa) x (Fq n):=by
 obtain⟨_,_,_,_,_,_,_⟩:=x
 kernel_rfl
theorem K_21L20 (n:Nat) (x):Fo (n+1) x=Yfg C_21 B_21L20 (S_21L20 Aa) x (Fo n):=by
 obtain⟨_,_,_,_,_,_⟩:=x
 kernel_rfl
theorem F_21 (a):E_21.run a=Yir C_21 Tryz.f78 E_21.params E_21.results a λo r=>some (N_21 o r):=by
 kernel_rfl
theorem W_21:XU D_21= [B_21L4,B_21L8,B_21L13,B_21L20,B_21L23,B_21L26]:=by kernel_rfl
theorem Q_21:Qk Tryz.prog 78 Tryz.f78 D_21:=⟨Tryz.func78,by kernel_rfl,by kernel_rfl⟩
theorem H_21:Holds Tryz.prog 78 E_21:=
 Yi3 tabT mixT Q_21 F_21 rfl ⟨⟨H_14,_,_,Q_14⟩,⟨⟨H_7,_,_,Q_7⟩,⟨⟨H_19,_,_,Q_19⟩,⟨⟨H_16,_,_,Q_16⟩,⟨⟨H_13,_,_,Q_13⟩,⟨⟨H_15,_,_,Q_15⟩,⟨⟨H_20,_,_,Q_20⟩,⟨⟨H_18,_,_,Q_18⟩,trivial⟩⟩⟩⟩⟩⟩⟩⟩ W_21 ⟨Yi8 (L:=S_21L4 Aa) K_21L4 (i:=4) (by kernel_rfl),⟨Yi8 (L:=S_21L8 Aa) K_21L8 (i:=8) (by kernel_rfl),⟨Yi8 (L:=S_21L13 Aa) K_21L13 (i:=13) (by kernel_rfl),⟨Yi8 (L:=S_21L20 Aa) K_21L20 (i:=20) (by kernel_rfl),⟨Yi8 (L:=S_21L23 Aa) K_21L23 (i:=23) (by kernel_rfl),⟨Yi8 (L:=S_21L26 Aa) K_21L26 (i:=26) (by kernel_rfl),trivial⟩⟩⟩⟩⟩⟩
theorem K_22L4 (n:Nat) (x):B4 (n+1) x=Yfg C_22 B_22L4 (S_22L4 Aa) x (B4 n):=by
 obtain⟨_,_,_,_,_,_,_,_⟩:=x
 kernel_rfl
theorem K_22L8 (n:Nat) (x):CA (n+1) x=Yfg C_22 B_22L8 (S_22L8 Aa) x (CA n):=by
 obtain⟨_,_,_,_,_,_,_,_⟩:=x
 kernel_rfl
theorem K_22L13 (n:Nat) (x):Bn (n+1) x=Yfg C_22 B_22L13 (S_22L13 Aa) x (Bn n):=by
 obtain⟨_,_,_,_,_,_,_,_⟩:=x
 kernel_rfl
theorem K_22L26 (n:Nat) (x):Aw (n+1) x=Yfg C_22 B_22L26 (S_22L26 Aa) x (Aw n):=by
 obtain⟨_,_,_,_,_,_,_,_,_,_⟩:=x
 kernel_rfl
theorem K_22L23 (n:Nat) (x):BR (n+1) x=Yfg C_22 B_22L23 (S_22L23 Aa) x (BR n):=by
 obtain⟨_,_,_,_,_,_,_,_⟩:=x
 kernel_rfl
theorem K_22L20 (n:Nat) (x):Bg (n+1) x=Yfg C_22 B_22L20 (S_22L20 Aa) x (Bg n):=by
 obtain⟨_,_,_,_,_,_,_⟩:=x
 kernel_rfl
theorem F_22 (a):E_22.run a=Yir C_22 Tryz.f78 E_22.params E_22.results a λo r=>some (N_22 o r):=by
 kernel_rfl
theorem W_22:XU D_22= [B_22L4,B_22L8,B_22L13,B_22L20,B_22L23,B_22L26]:=by kernel_rfl
theorem Q_22:Qk Tryz.prog 78 Tryz.f78 D_22:=⟨Tryz.func78,by kernel_rfl,by kernel_rfl⟩
theorem H_22:Holds Tryz.prog 78 E_22:=
 Yi3 tabT mixT Q_22 F_22 rfl ⟨⟨H_14,_,_,Q_14⟩,⟨⟨H_7,_,_,Q_7⟩,⟨⟨H_19,_,_,Q_19⟩,⟨⟨H_16,_,_,Q_16⟩,⟨⟨H_13,_,_,Q_13⟩,⟨⟨H_15,_,_,Q_15⟩,⟨⟨H_20,_,_,Q_20⟩,⟨⟨H_18,_,_,Q_18⟩,trivial⟩⟩⟩⟩⟩⟩⟩⟩ W_22 ⟨Yi8 (L:=S_22L4 Aa) K_22L4 (i:=4) (by kernel_rfl),⟨Yi8 (L:=S_22L8 Aa) K_22L8 (i:=8) (by kernel_rfl),⟨Yi8 (L:=S_22L13 Aa) K_22L13 (i:=13) (by kernel_rfl),⟨Yi8 (L:=S_22L20 Aa) K_22L20 (i:=20) (by kernel_rfl),⟨Yi8 (L:=S_22L23 Aa) K_22L23 (i:=23) (by kernel_rfl),⟨Yi8 (L:=S_22L26 Aa) K_22L26 (i:=26) (by kernel_rfl),trivial⟩⟩⟩⟩⟩⟩
theorem K_23L10 (n:Nat) (x):By (n+1) x=Yfg C_23 B_23L10 (S_23L10 Aa) x (By n):=by
 obtain⟨_,_,_,_,_,_,_⟩:=x
 kernel_rfl
theorem K_23L6 (n:Nat) (x):AS (n+1) x=Yfg C_23 B_23L6 (S_23L6 Aa) x (AS n):=by
 obtain⟨_,_,_,_,_⟩:=x
 kernel_rfl
theorem F_23 (a):E_23.run a=Yir C_23 Tryz.f50 E_23.params E_23.results a λo r=>some (N_23 o r):=by
 kernel_rfl
theorem W_23:XU D_23= [B_23L6,B_23L10]:=by kernel_rfl
theorem Q_23:Qk Tryz.prog 50 Tryz.f50 D_23:=⟨Tryz.func50,by kernel_rfl,by kernel_rfl⟩
theorem H_23:Holds Tryz.prog 50 E_23:=
 Yi3 tabT mixT Q_23 F_23 rfl ⟨⟨H_10,_,_,Q_10⟩,⟨⟨H_4,_,_,Q_4⟩,⟨⟨H_3,_,_,Q_3⟩,⟨⟨H_19,_,_,Q_19⟩,⟨⟨H_9,_,_,Q_9⟩,⟨⟨H_22,_,_,Q_22⟩,⟨⟨H_11,_,_,Q_11⟩,trivial⟩⟩⟩⟩⟩⟩⟩ W_23 ⟨Yi8 (L:=S_23L6 Aa) K_23L6 (i:=6) (by kernel_rfl),⟨Yi8 (L:=S_23L10 Aa) K_23L10 (i:=10) (by kernel_rfl),trivial⟩⟩
theorem F_24 (a):E_24.run a=Yir C_24 Tryz.f19 E_24.params E_24.results a λo r=>some (N_24 o r):=by
 kernel_rfl
theorem W_24:XU D_24= []:=by kernel_rfl
theorem Q_24:Qk Tryz.prog 19 Tryz.f19 D_24:=⟨Tryz.func19,by kernel_rfl,by kernel_rfl⟩
theorem H_24:Holds Tryz.prog 19 E_24:=
 Yi3 tabT mixT Q_24 F_24 rfl ⟨⟨H_23,_,_,Q_23⟩,trivial⟩ W_24 trivial
theorem F_25 (a):E_25.run a=Yir C_25 Tryz.f5 E_25.params E_25.results a λo r=>some (N_25 o r):=by
 kernel_rfl
theorem W_25:XU D_25= []:=by kernel_rfl
theorem Q_25:Qk Tryz.prog 5 Tryz.f5 D_25:=⟨Tryz.func5,by kernel_rfl,by kernel_rfl⟩
theorem H_25:Holds Tryz.prog 5 E_25:=
 Yi3 tabT mixT Q_25 F_25 rfl ⟨⟨H_24,_,_,Q_24⟩,trivial⟩ W_25 trivial
theorem F_26 (a):E_26.run a=Yir C_26 Tryz.f28 E_26.params E_26.results a λo r=>some (N_26 o r):=by
 kernel_rfl
theorem W_26:XU D_26= []:=by kernel_rfl
theorem Q_26:Qk Tryz.prog 28 Tryz.f28 D_26:=⟨Tryz.func28,by kernel_rfl,by kernel_rfl⟩
theorem H_26:Holds Tryz.prog 28 E_26:=
 Yi3 tabT mixT Q_26 F_26 rfl trivial W_26 trivial
theorem F_27 (a):E_27.run a=Yir C_27 Tryz.f31 E_27.params E_27.results a λo r=>some (N_27 o r):=by
 kernel_rfl
theorem W_27:XU D_27= []:=by kernel_rfl
theorem Q_27:Qk Tryz.prog 31 Tryz.f31 D_27:=⟨Tryz.func31,by kernel_rfl,by kernel_rfl⟩
theorem H_27:Holds Tryz.prog 31 E_27:=
 Yi3 tabT mixT Q_27 F_27 rfl trivial W_27 trivial
theorem K_28L2 (n:Nat) (x):C8 (n+1) x=Yfg C_28 B_28L2 (S_28L2 Aa) x (C8 n):=by
 obtain⟨_,_,_,_⟩:=x
 kernel_rfl
theorem F_28 (a):E_28.run a=Yir C_28 Tryz.f37 E_28.params E_28.results a λo r=>some (N_28 o r):=by
 kernel_rfl
theorem W_28:XU D_28= [B_28L2]:=by kernel_rfl
theorem Q_28:Qk Tryz.prog 37 Tryz.f37 D_28:=⟨Tryz.func37,by kernel_rfl,by kernel_rfl⟩
theorem H_28:Holds Tryz.prog 37 E_28:=
 Yi3 tabT mixT Q_28 F_28 rfl trivial W_28 ⟨Yi8 (L:=S_28L2 Aa) K_28L2 (i:=2) (by kernel_rfl),trivial⟩
theorem K_29L2 (n:Nat) (x):Bp (n+1) x=Yfg C_29 B_29L2 (S_29L2 Aa) x (Bp n):=by
 obtain⟨_,_,_⟩:=x
 kernel_rfl
theorem F_29 (a):E_29.run a=Yir C_29 Tryz.f47 E_29.params E_29.results a λo r=>some (N_29 o r):=by
 kernel_rfl
theorem W_29:XU D_29= [B_29L2]:=by kernel_rfl
theorem Q_29:Qk Tryz.prog 47 Tryz.f47 D_29:=⟨Tryz.func47,by kernel_rfl,by kernel_rfl⟩
theorem H_29:Holds Tryz.prog 47 E_29:=
 Yi3 tabT mixT Q_29 F_29 rfl trivial W_29 ⟨Yi8 (L:=S_29L2 Aa) K_29L2 (i:=2) (by kernel_rfl),trivial⟩
theorem K_30L4 (n:Nat) (x):BQ (n+1) x=Yfg C_30 B_30L4 (S_30L4 Aa) x (BQ n):=by
 obtain⟨_,_,_,_,_,_⟩:=x
 kernel_rfl
theorem F_30 (a):E_30.run a=Yir C_30 Tryz.f29 E_30.params E_30.results a λo r=>some (N_30 o r):=by
 kernel_rfl
theorem W_30:XU D_30= [B_30L4]:=by kernel_rfl
theorem Q_30:Qk Tryz.prog 29 Tryz.f29 D_30:=⟨Tryz.func29,by kernel_rfl,by kernel_rfl⟩
theorem H_30:Holds Tryz.prog 29 E_30:=
 Yi3 tabT mixT Q_30 F_30 rfl ⟨⟨H_27,_,_,Q_27⟩,⟨⟨H_28,_,_,Q_28⟩,⟨⟨H_29,_,_,Q_29⟩,trivial⟩⟩⟩ W_30 ⟨Yi8 (L:=S_30L4 Aa) K_30L4 (i:=4) (by kernel_rfl),trivial⟩
theorem K_31L2 (n:Nat) (x):Cc (n+1) x=Yfg C_31 B_31L2 (S_31L2 Aa) x (Cc n):=by
 obtain⟨_,_,_⟩:=x
 kernel_rfl
theorem F_31 (a):E_31.run a=Yir C_31 Tryz.f61 E_31.params E_31.results a λo r=>some (N_31 o r):=by
 kernel_rfl
theorem W_31:XU D_31= [B_31L2]:=by kernel_rfl
theorem Q_31:Qk Tryz.prog 61 Tryz.f61 D_31:=⟨Tryz.func61,by kernel_rfl,by kernel_rfl⟩
theorem H_31:Holds Tryz.prog 61 E_31:=
 Yi3 tabT mixT Q_31 F_31 rfl trivial W_31 ⟨Yi8 (L:=S_31L2 Aa) K_31L2 (i:=2) (by kernel_rfl),trivial⟩
theorem K_32L3 (n:Nat) (x):CX (n+1) x=Yfg C_32 B_32L3 (S_32L3 Aa) x (CX n):=by
 obtain⟨_,_,_,_,_⟩:=x
 kernel_rfl
theorem F_32 (a):E_32.run a=Yir C_32 Tryz.f62 E_32.params E_32.results a λo r=>some (N_32 o r):=by
 kernel_rfl
theorem W_32:XU D_32= [B_32L3]:=by kernel_rfl
theorem Q_32:Qk Tryz.prog 62 Tryz.f62 D_32:=⟨Tryz.func62,by kernel_rfl,by kernel_rfl⟩
theorem H_32:Holds Tryz.prog 62 E_32:=
 Yi3 tabT mixT Q_32 F_32 rfl trivial W_32 ⟨Yi8 (L:=S_32L3 Aa) K_32L3 (i:=3) (by kernel_rfl),trivial⟩
theorem K_33L6 (n:Nat) (x):Cf (n+1) x=Yfg C_33 B_33L6 (S_33L6 Aa) x (Cf n):=by
 obtain⟨_,_,_,_,_,_,_⟩:=x
 kernel_rfl
theorem K_33L18 (n:Nat) (x):BZ (n+1) x=Yfg C_33 B_33L18 (S_33L18 Aa) x (BZ n):=by
 obtain⟨_,_,_,_,_,_,_,_,_,_,_,_,_,_,_,_⟩:=x
 kernel_rfl
theorem K_33L14 (n:Nat) (x):BY (n+1) x=Yfg C_33 B_33L14 (S_33L14 Aa) x (BY n):=by
 obtain⟨_,_,_,_,_,_,_,_,_,_,_⟩:=x
 kernel_rfl
theorem K_33L11 (n:Nat) (x):Cy (n+1) x=Yfg C_33 B_33L11 (S_33L11 Aa) x (Cy n):=by
 obtain⟨_,_,_,_,_,_,_⟩:=x
 kernel_rfl
theorem F_33 (a):E_33.run a=Yir C_33 Tryz.f30 E_33.params E_33.results a λo r=>some (N_33 o r):=by
 kernel_rfl
theorem W_33:XU D_33= [B_33L6,B_33L11,B_33L14,B_33L18]:=by kernel_rfl
theorem Q_33:Qk Tryz.prog 30 Tryz.f30 D_33:=⟨Tryz.func30,by kernel_rfl,by kernel_rfl⟩
theorem H_33:Holds Tryz.prog 30 E_33:=
 Yi3 tabT mixT Q_33 F_33 rfl ⟨⟨H_31,_,_,Q_31⟩,⟨⟨H_32,_,_,Q_32⟩,trivial⟩⟩ W_33 ⟨Yi8 (L:=S_33L6 Aa) K_33L6 (i:=6) (by kernel_rfl),⟨Yi8 (L:=S_33L11 Aa) K_33L11 (i:=11) (by kernel_rfl),⟨Yi8 (L:=S_33L14 Aa) K_33L14 (i:=14) (by kernel_rfl),⟨Yi8 (L:=S_33L18 Aa) K_33L18 (i:=18) (by kernel_rfl),trivial⟩⟩⟩⟩
theorem F_34 (a):E_34.run a=Yir C_34 Tryz.f9 E_34.params E_34.results a λo r=>some (N_34 o r):=by
 kernel_rfl
theorem W_34:XU D_34= []:=by kernel_rfl
theorem Q_34:Qk Tryz.prog 9 Tryz.f9 D_34:=⟨Tryz.func9,by kernel_rfl,by kernel_rfl⟩
theorem H_34:Holds Tryz.prog 9 E_34:=
 Yi3 tabT mixT Q_34 F_34 rfl ⟨⟨H_26,_,_,Q_26⟩,⟨⟨H_30,_,_,Q_30⟩,⟨⟨H_33,_,_,Q_33⟩,trivial⟩⟩⟩ W_34 trivial
theorem F_35 (a):E_35.run a=Yir C_35 Tryz.f73 E_35.params E_35.results a λo r=>some (N_35 o r):=by
 kernel_rfl
theorem W_35:XU D_35= []:=by kernel_rfl
theorem Q_35:Qk Tryz.prog 73 Tryz.f73 D_35:=⟨Tryz.func73,by kernel_rfl,by kernel_rfl⟩
theorem H_35:Holds Tryz.prog 73 E_35:=
 Yi3 tabT mixT Q_35 F_35 rfl trivial W_35 trivial
theorem K_36L3 (n:Nat) (x):BW (n+1) x=Yfg C_36 B_36L3 (S_36L3 Aa) x (BW n):=by
 obtain⟨_,_,_,_⟩:=x
 kernel_rfl
theorem F_36 (a):E_36.run a=Yir C_36 Tryz.f72 E_36.params E_36.results a λo r=>some (N_36 o r):=by
 kernel_rfl
theorem W_36:XU D_36= [B_36L3]:=by kernel_rfl
theorem Q_36:Qk Tryz.prog 72 Tryz.f72 D_36:=⟨Tryz.func72,by kernel_rfl,by kernel_rfl⟩
theorem H_36:Holds Tryz.prog 72 E_36:=
 Yi3 tabT mixT Q_36 F_36 rfl ⟨⟨H_35,_,_,Q_35⟩,trivial⟩ W_36 ⟨Yi8 (L:=S_36L3 Aa) K_36L3 (i:=3) (by kernel_rfl),trivial⟩
theorem K_37L3 (n:Nat) (x):BX (n+1) x=Yfg C_37 B_37L3 (S_37L3 Aa) x (BX n):=by
 obtain⟨_,_,_⟩:=x
 kernel_rfl
theorem F_37 (a):E_37.run a=Yir C_37 Tryz.f80 E_37.params E_37.results a λo r=>some (N_37 o r):=by
 kernel_rfl
theorem W_37:XU D_37= [B_37L3]:=by kernel_rfl
theorem Q_37:Qk Tryz.prog 80 Tryz.f80 D_37:=⟨Tryz.func80,by kernel_rfl,by kernel_rfl⟩
theorem H_37:Holds Tryz.prog 80 E_37:=
 Yi3 tabT mixT Q_37 F_37 rfl trivial W_37 ⟨Yi8 (L:=S_37L3 Aa) K_37L3 (i:=3) (by kernel_rfl),trivial⟩
theorem K_38L2 (n:Nat) (x):EX (n+1) x=Yfg C_38 B_38L2 (S_38L2 Aa) x (EX n):=by
 obtain⟨_,_,_⟩:=x
 kernel_rfl
theorem F_38 (a):E_38.run a=Yir C_38 Tryz.f81 E_38.params E_38.results a λo r=>some (N_38 o r):=by
 kernel_rfl
theorem W_38:XU D_38= [B_38L2]:=by kernel_rfl
theorem Q_38:Qk Tryz.prog 81 Tryz.f81 D_38:=⟨Tryz.func81,by kernel_rfl,by kernel_rfl⟩
theorem H_38:Holds Tryz.prog 81 E_38:=
 Yi3 tabT mixT Q_38 F_38 rfl trivial W_38 ⟨Yi8 (L:=S_38L2 Aa) K_38L2 (i:=2) (by kernel_rfl),trivial⟩
theorem K_39L6 (n:Nat) (x):Bh (n+1) x=Yfg C_39 B_39L6 (S_39L6 Aa) x (Bh n):=by
 obtain⟨_,_,_,_,_⟩:=x
 kernel_rfl
theorem K_39L14 (n:Nat) (x):Bc (n+1) x=Yfg C_39 B_39L14 (S_39L14 Aa) x (Bc n):=by
 obtain⟨_,_,_,_,_,_,_,_⟩:=x
 kernel_rfl
theorem K_39L24 (n:Nat) (x):Bd (n+1) x=Yfg C_39 B_39L24 (S_39L24 Aa) x (Bd n):=by
 obtain⟨_,_,_,_,_,_,_,_,_,_,_,_⟩:=x
 kernel_rfl
theorem K_39L19 (n:Nat) (x):AN (n+1) x=Yfg C_39 B_39L19 (S_39L19 Aa) x (AN n):=by
 obtain⟨_,_,_,_,_,_,_,_⟩:=x
 kernel_rfl
theorem K_39L3 (n:Nat) (x):AW (n+1) x=Yfg C_39 B_39L3 (S_39L3 Aa) x (AW n):=by
 obtain⟨_,_,_,_⟩:=x
 kernel_rfl
theorem F_39 (a):E_39.run a=Yir C_39 Tryz.f51 E_39.params E_39.results a λo r=>some (N_39 o r):=by
 kernel_rfl
theorem W_39:XU D_39= [B_39L3,B_39L6,B_39L14,B_39L19,B_39L24]:=by kernel_rfl
theorem Q_39:Qk Tryz.prog 51 Tryz.f51 D_39:=⟨Tryz.func51,by kernel_rfl,by kernel_rfl⟩
theorem H_39:Holds Tryz.prog 51 E_39:=
 Yi3 tabT mixT Q_39 F_39 rfl ⟨⟨H_36,_,_,Q_36⟩,⟨⟨H_37,_,_,Q_37⟩,⟨⟨H_38,_,_,Q_38⟩,trivial⟩⟩⟩ W_39 ⟨Yi8 (L:=S_39L3 Aa) K_39L3 (i:=3) (by kernel_rfl),⟨Yi8 (L:=S_39L6 Aa) K_39L6 (i:=6) (by kernel_rfl),⟨Yi8 (L:=S_39L14 Aa) K_39L14 (i:=14) (by kernel_rfl),⟨Yi8 (L:=S_39L19 Aa) K_39L19 (i:=19) (by kernel_rfl),⟨Yi8 (L:=S_39L24 Aa) K_39L24 (i:=24) (by kernel_rfl),trivial⟩⟩⟩⟩⟩
theorem K_40L3 (n:Nat) (x):Az (n+1) x=Yfg C_40 B_40L3 (S_40L3 Aa) x (Az n):=by
 obtain⟨_,_,_,_,_⟩:=x
 kernel_rfl
theorem F_40 (a):E_40.run a=Yir C_40 Tryz.f43 E_40.params E_40.results a λo r=>some (N_40 o r):=by
 kernel_rfl
theorem W_40:XU D_40= [B_40L3]:=by kernel_rfl
theorem Q_40:Qk Tryz.prog 43 Tryz.f43 D_40:=⟨Tryz.func43,by kernel_rfl,by kernel_rfl⟩
theorem H_40:Holds Tryz.prog 43 E_40:=
 Yi3 tabT mixT Q_40 F_40 rfl trivial W_40 ⟨Yi8 (L:=S_40L3 Aa) K_40L3 (i:=3) (by kernel_rfl),trivial⟩
theorem K_41L4 (n:Nat) (x):AP (n+1) x=Yfg C_41 B_41L4 (S_41L4 Aa) x (AP n):=by
 obtain⟨_,_,_,_,_,_,_⟩:=x
 kernel_rfl
theorem K_41L14 (n:Nat) (x):AM (n+1) x=Yfg C_41 B_41L14 (S_41L14 Aa) x (AM n):=by
 obtain⟨_,_,_,_,_,_,_,_,_,_,_,_,_⟩:=x
 kernel_rfl
theorem K_41L9 (n:Nat) (x):AA (n+1) x=Yfg C_41 B_41L9 (S_41L9 Aa) x (AA n):=by
 obtain⟨_,_,_,_,_,_,_⟩:=x
 kernel_rfl
theorem F_41 (a):E_41.run a=Yir C_41 Tryz.f44 E_41.params E_41.results a λo r=>some (N_41 o r):=by
 kernel_rfl
theorem W_41:XU D_41= [B_41L4,B_41L9,B_41L14]:=by kernel_rfl
theorem Q_41:Qk Tryz.prog 44 Tryz.f44 D_41:=⟨Tryz.func44,by kernel_rfl,by kernel_rfl⟩
theorem H_41:Holds Tryz.prog 44 E_41:=
 Yi3 tabT mixT Q_41 F_41 rfl ⟨⟨H_40,_,_,Q_40⟩,trivial⟩ W_41 ⟨Yi8 (L:=S_41L4 Aa) K_41L4 (i:=4) (by kernel_rfl),⟨Yi8 (L:=S_41L9 Aa) K_41L9 (i:=9) (by kernel_rfl),⟨Yi8 (L:=S_41L14 Aa) K_41L14 (i:=14) (by kernel_rfl),trivial⟩⟩⟩
theorem K_42L2 (n:Nat) (x):AL (n+1) x=Yfg C_42 B_42L2 (S_42L2 Aa) x (AL n):=by
 obtain⟨_,_,_,_⟩:=x
 kernel_rfl
theorem K_42L9 (n:Nat) (x):AX (n+1) x=Yfg C_42 B_42L9 (S_42L9 Aa) x (AX n):=by
 obtain⟨_,_,_,_,_⟩:=x
 kernel_rfl
theorem F_42 (a):E_42.run a=Yir C_42 Tryz.f52 E_42.params E_42.results a λo r=>some (N_42 o r):=by
 kernel_rfl
theorem W_42:XU D_42= [B_42L2,B_42L9]:=by kernel_rfl
theorem Q_42:Qk Tryz.prog 52 Tryz.f52 D_42:=⟨Tryz.func52,by kernel_rfl,by kernel_rfl⟩
theorem H_42:Holds Tryz.prog 52 E_42:=
 Yi3 tabT mixT Q_42 F_42 rfl ⟨⟨H_40,_,_,Q_40⟩,⟨⟨H_41,_,_,Q_41⟩,trivial⟩⟩ W_42 ⟨Yi8 (L:=S_42L2 Aa) K_42L2 (i:=2) (by kernel_rfl),⟨Yi8 (L:=S_42L9 Aa) K_42L9 (i:=9) (by kernel_rfl),trivial⟩⟩
theorem K_43L6 (n:Nat) (x):CF (n+1) x=Yfg C_43 B_43L6 (S_43L6 Aa) x (CF n):=by
 obtain⟨_,_,_,_,_⟩:=x
 kernel_rfl
theorem K_43L14 (n:Nat) (x):Cv (n+1) x=Yfg C_43 B_43L14 (S_43L14 Aa) x (Cv n):=by
 obtain⟨_,_,_,_,_,_,_,_⟩:=x
 kernel_rfl
theorem K_43L24 (n:Nat) (x):Cw (n+1) x=Yfg C_43 B_43L24 (S_43L24 Aa) x (Cw n):=by
 obtain⟨_,_,_,_,_,_,_,_,_,_,_,_⟩:=x
 kernel_rfl
theorem K_43L19 (n:Nat) (x):Bq (n+1) x=Yfg C_43 B_43L19 (S_43L19 Aa) x (Bq n):=by
 obtain⟨_,_,_,_,_,_,_,_⟩:=x
 kernel_rfl
theorem K_43L3 (n:Nat) (x):B8 (n+1) x=Yfg C_43 B_43L3 (S_43L3 Aa) x (B8 n):=by
 obtain⟨_,_,_,_⟩:=x
 kernel_rfl
theorem F_43 (a):E_43.run a=Yir C_43 Tryz.f51 E_43.params E_43.results a λo r=>some (N_43 o r):=by
 kernel_rfl
theorem W_43:XU D_43= [B_43L3,B_43L6,B_43L14,B_43L19,B_43L24]:=by kernel_rfl
theorem Q_43:Qk Tryz.prog 51 Tryz.f51 D_43:=⟨Tryz.func51,by kernel_rfl,by kernel_rfl⟩
theorem H_43:Holds Tryz.prog 51 E_43:=
 Yi3 tabT mixT Q_43 F_43 rfl ⟨⟨H_36,_,_,Q_36⟩,⟨⟨H_37,_,_,Q_37⟩,⟨⟨H_38,_,_,Q_38⟩,trivial⟩⟩⟩ W_43 ⟨Yi8 (L:=S_43L3 Aa) K_43L3 (i:=3) (by kernel_rfl),⟨Yi8 (L:=S_43L6 Aa) K_43L6 (i:=6) (by kernel_rfl),⟨Yi8 (L:=S_43L14 Aa) K_43L14 (i:=14) (by kernel_rfl),⟨Yi8 (L:=S_43L19 Aa) K_43L19 (i:=19) (by kernel_rfl),⟨Yi8 (L:=S_43L24 Aa) K_43L24 (i:=24) (by kernel_rfl),trivial⟩⟩⟩⟩⟩
theorem K_44L3 (n:Nat) (x):Bl (n+1) x=Yfg C_44 B_44L3 (S_44L3 Aa) x (Bl n):=by
 obtain⟨_,_,_,_,_,_⟩:=x
 kernel_rfl
theorem F_44 (a):E_44.run a=Yir C_44 Tryz.f49 E_44.params E_44.results a λo r=>some (N_44 o r):=by
 kernel_rfl
theorem W_44:XU D_44= [B_44L3]:=by kernel_rfl
theorem Q_44:Qk Tryz.prog 49 Tryz.f49 D_44:=⟨Tryz.func49,by kernel_rfl,by kernel_rfl⟩
theorem H_44:Holds Tryz.prog 49 E_44:=
 Yi3 tabT mixT Q_44 F_44 rfl ⟨⟨H_36,_,_,Q_36⟩,⟨⟨H_35,_,_,Q_35⟩,trivial⟩⟩ W_44 ⟨Yi8 (L:=S_44L3 Aa) K_44L3 (i:=3) (by kernel_rfl),trivial⟩
theorem K_45L8 (n:Nat) (x):BG (n+1) x=Yfg C_45 B_45L8 (S_45L8 Aa) x (BG n):=by
 obtain⟨_,_,_,_,_,_,_,_,_,_,_,_⟩:=x
 kernel_rfl
theorem K_45L4 (n:Nat) (x):BF (n+1) x=Yfg C_45 B_45L4 (S_45L4 Aa) x (BF n):=by
 obtain⟨_,_,_,_,_,_,_,_⟩:=x
 kernel_rfl
theorem K_45L20 (n:Nat) (x):Bt (n+1) x=Yfg C_45 B_45L20 (S_45L20 Aa) x (Bt n):=by
 obtain⟨_,_,_,_,_,_,_,_,_,_,_,_,_⟩:=x
 kernel_rfl
theorem K_45L16 (n:Nat) (x):Bs (n+1) x=Yfg C_45 B_45L16 (S_45L16 Aa) x (Bs n):=by
 obtain⟨_,_,_,_,_,_,_,_⟩:=x
 kernel_rfl
theorem F_45 (a):E_45.run a=Yir C_45 Tryz.f20 E_45.params E_45.results a λo r=>some (N_45 o r):=by
 kernel_rfl
theorem W_45:XU D_45= [B_45L4,B_45L8,B_45L16,B_45L20]:=by kernel_rfl
theorem Q_45:Qk Tryz.prog 20 Tryz.f20 D_45:=⟨Tryz.func20,by kernel_rfl,by kernel_rfl⟩
theorem H_45:Holds Tryz.prog 20 E_45:=
 Yi3 tabT mixT Q_45 F_45 rfl ⟨⟨H_44,_,_,Q_44⟩,⟨⟨H_43,_,_,Q_43⟩,⟨⟨H_42,_,_,Q_42⟩,trivial⟩⟩⟩ W_45 ⟨Yi8 (L:=S_45L4 Aa) K_45L4 (i:=4) (by kernel_rfl),⟨Yi8 (L:=S_45L8 Aa) K_45L8 (i:=8) (by kernel_rfl),⟨Yi8 (L:=S_45L16 Aa) K_45L16 (i:=16) (by kernel_rfl),⟨Yi8 (L:=S_45L20 Aa) K_45L20 (i:=20) (by kernel_rfl),trivial⟩⟩⟩⟩
theorem F_46 (a):E_46.run a=Yir C_46 Tryz.f6 E_46.params E_46.results a λo r=>some (N_46 o r):=by
 kernel_rfl
theorem W_46:XU D_46= []:=by kernel_rfl
theorem Q_46:Qk Tryz.prog 6 Tryz.f6 D_46:=⟨Tryz.func6,by kernel_rfl,by kernel_rfl⟩
theorem H_46:Holds Tryz.prog 6 E_46:=
 Yi3 tabT mixT Q_46 F_46 rfl ⟨⟨H_34,_,_,Q_34⟩,⟨⟨H_45,_,_,Q_45⟩,trivial⟩⟩ W_46 trivial
theorem F_47 (a):E_47.run a=Yir C_47 Tryz.f21 E_47.params E_47.results a λo r=>some (N_47 o r):=by
 kernel_rfl
theorem W_47:XU D_47= []:=by kernel_rfl
theorem Q_47:Qk Tryz.prog 21 Tryz.f21 D_47:=⟨Tryz.func21,by kernel_rfl,by kernel_rfl⟩
theorem H_47:Holds Tryz.prog 21 E_47:=
 Yi3 tabT mixT Q_47 F_47 rfl trivial W_47 trivial
theorem F_48 (a):E_48.run a=Yir C_48 Tryz.f53 E_48.params E_48.results a λo r=>some (N_48 o r):=by
 kernel_rfl
theorem W_48:XU D_48= []:=by kernel_rfl
theorem Q_48:Qk Tryz.prog 53 Tryz.f53 D_48:=⟨Tryz.func53,by kernel_rfl,by kernel_rfl⟩
theorem H_48:Holds Tryz.prog 53 E_48:=
 Yi3 tabT mixT Q_48 F_48 rfl trivial W_48 trivial
theorem F_49 (a):E_49.run a=Yir C_49 Tryz.f34 E_49.params E_49.results a λo r=>some (N_49 o r):=by
 kernel_rfl
theorem W_49:XU D_49= []:=by kernel_rfl
theorem Q_49:Qk Tryz.prog 34 Tryz.f34 D_49:=⟨Tryz.func34,by kernel_rfl,by kernel_rfl⟩
theorem H_49:Holds Tryz.prog 34 E_49:=
 Yi3 tabT mixT Q_49 F_49 rfl ⟨⟨H_48,_,_,Q_48⟩,trivial⟩ W_49 trivial
theorem K_50L2 (n:Nat) (x):Eb (n+1) x=Yfg C_50 B_50L2 (S_50L2 Aa) x (Eb n):=by
 obtain⟨_,_,_⟩:=x
 kernel_rfl
theorem F_50 (a):E_50.run a=Yir C_50 Tryz.f54 E_50.params E_50.results a λo r=>some (N_50 o r):=by
 kernel_rfl
theorem W_50:XU D_50= [B_50L2]:=by kernel_rfl
theorem Q_50:Qk Tryz.prog 54 Tryz.f54 D_50:=⟨Tryz.func54,by kernel_rfl,by kernel_rfl⟩
theorem H_50:Holds Tryz.prog 54 E_50:=
 Yi3 tabT mixT Q_50 F_50 rfl trivial W_50 ⟨Yi8 (L:=S_50L2 Aa) K_50L2 (i:=2) (by kernel_rfl),trivial⟩
theorem K_51L2 (n:Nat) (x):Cl (n+1) x=Yfg C_51 B_51L2 (S_51L2 Aa) x (Cl n):=by
 obtain⟨_,_,_⟩:=x
 kernel_rfl
theorem F_51 (a):E_51.run a=Yir C_51 Tryz.f82 E_51.params E_51.results a λo r=>some (N_51 o r):=by
 kernel_rfl
theorem W_51:XU D_51= [B_51L2]:=by kernel_rfl
theorem Q_51:Qk Tryz.prog 82 Tryz.f82 D_51:=⟨Tryz.func82,by kernel_rfl,by kernel_rfl⟩
theorem H_51:Holds Tryz.prog 82 E_51:=
 Yi3 tabT mixT Q_51 F_51 rfl ⟨⟨H_48,_,_,Q_48⟩,trivial⟩ W_51 ⟨Yi8 (L:=S_51L2 Aa) K_51L2 (i:=2) (by kernel_rfl),trivial⟩
theorem F_52 (a):E_52.run a=Yir C_52 Tryz.f55 E_52.params E_52.results a λo r=>some (N_52 o r):=by
 kernel_rfl
theorem W_52:XU D_52= []:=by kernel_rfl
theorem Q_52:Qk Tryz.prog 55 Tryz.f55 D_52:=⟨Tryz.func55,by kernel_rfl,by kernel_rfl⟩
theorem H_52:Holds Tryz.prog 55 E_52:=
 Yi3 tabT mixT Q_52 F_52 rfl ⟨⟨H_51,_,_,Q_51⟩,trivial⟩ W_52 trivial
theorem K_53L4 (n:Nat) (x):CP (n+1) x=Yfg C_53 B_53L4 (S_53L4 Aa) x (CP n):=by
 obtain⟨_,_,_,_⟩:=x
 kernel_rfl
theorem F_53 (a):E_53.run a=Yir C_53 Tryz.f22 E_53.params E_53.results a λo r=>some (N_53 o r):=by
 kernel_rfl
theorem W_53:XU D_53= [B_53L4]:=by kernel_rfl
theorem Q_53:Qk Tryz.prog 22 Tryz.f22 D_53:=⟨Tryz.func22,by kernel_rfl,by kernel_rfl⟩
theorem H_53:Holds Tryz.prog 22 E_53:=
 Yi3 tabT mixT Q_53 F_53 rfl ⟨⟨H_49,_,_,Q_49⟩,⟨⟨H_48,_,_,Q_48⟩,⟨⟨H_50,_,_,Q_50⟩,⟨⟨H_52,_,_,Q_52⟩,⟨⟨H_5,_,_,Q_5⟩,trivial⟩⟩⟩⟩⟩ W_53 ⟨Yi8 (L:=S_53L4 Aa) K_53L4 (i:=4) (by kernel_rfl),trivial⟩
theorem K_54L3 (n:Nat) (x):AE (n+1) x=Yfg C_54 B_54L3 (S_54L3 Aa) x (AE n):=by
 obtain⟨_,_,_,_,_,_⟩:=x
 kernel_rfl
theorem F_54 (a):E_54.run a=Yir C_54 Tryz.f25 E_54.params E_54.results a λo r=>some (N_54 o r):=by
 kernel_rfl
theorem W_54:XU D_54= [B_54L3]:=by kernel_rfl
theorem Q_54:Qk Tryz.prog 25 Tryz.f25 D_54:=⟨Tryz.func25,by kernel_rfl,by kernel_rfl⟩
theorem H_54:Holds Tryz.prog 25 E_54:=
 Yi3 tabT mixT Q_54 F_54 rfl trivial W_54 ⟨Yi8 (L:=S_54L3 Aa) K_54L3 (i:=3) (by kernel_rfl),trivial⟩
theorem K_55L9 (n:Nat) (x):B1 (n+1) x=Yfg C_55 B_55L9 (S_55L9 Aa) x (B1 n):=by
 obtain⟨_,_,_,_,_,_⟩:=x
 kernel_rfl
theorem K_55L5 (n:Nat) (x):B0 (n+1) x=Yfg C_55 B_55L5 (S_55L5 Aa) x (B0 n):=by
 obtain⟨_,_,_,_⟩:=x
 kernel_rfl
theorem K_55L2 (n:Nat) (x):Bi (n+1) x=Yfg C_55 B_55L2 (S_55L2 Aa) x (Bi n):=by
 obtain⟨_,_,_⟩:=x
 kernel_rfl
theorem F_55 (a):E_55.run a=Yir C_55 Tryz.f23 E_55.params E_55.results a λo r=>some (N_55 o r):=by
 kernel_rfl
theorem W_55:XU D_55= [B_55L2,B_55L5,B_55L9]:=by kernel_rfl
theorem Q_55:Qk Tryz.prog 23 Tryz.f23 D_55:=⟨Tryz.func23,by kernel_rfl,by kernel_rfl⟩
theorem H_55:Holds Tryz.prog 23 E_55:=
 Yi3 tabT mixT Q_55 F_55 rfl ⟨⟨H_54,_,_,Q_54⟩,⟨⟨H_7,_,_,Q_7⟩,trivial⟩⟩ W_55 ⟨Yi8 (L:=S_55L2 Aa) K_55L2 (i:=2) (by kernel_rfl),⟨Yi8 (L:=S_55L5 Aa) K_55L5 (i:=5) (by kernel_rfl),⟨Yi8 (L:=S_55L9 Aa) K_55L9 (i:=9) (by kernel_rfl),trivial⟩⟩⟩
theorem K_56L2 (n:Nat) (x):ER (n+1) x=Yfg C_56 B_56L2 (S_56L2 Aa) x (ER n):=by
 obtain⟨_,_,_⟩:=x
 kernel_rfl
theorem F_56 (a):E_56.run a=Yir C_56 Tryz.f59 E_56.params E_56.results a λo r=>some (N_56 o r):=by
 kernel_rfl
theorem W_56:XU D_56= [B_56L2]:=by kernel_rfl
theorem Q_56:Qk Tryz.prog 59 Tryz.f59 D_56:=⟨Tryz.func59,by kernel_rfl,by kernel_rfl⟩
theorem H_56:Holds Tryz.prog 59 E_56:=
 Yi3 tabT mixT Q_56 F_56 rfl trivial W_56 ⟨Yi8 (L:=S_56L2 Aa) K_56L2 (i:=2) (by kernel_rfl),trivial⟩
theorem K_57L3 (n:Nat) (x):Cg (n+1) x=Yfg C_57 B_57L3 (S_57L3 Aa) x (Cg n):=by
 obtain⟨_,_,_,_,_⟩:=x
 kernel_rfl
theorem F_57 (a):E_57.run a=Yir C_57 Tryz.f58 E_57.params E_57.results a λo r=>some (N_57 o r):=by
 kernel_rfl
theorem W_57:XU D_57= [B_57L3]:=by kernel_rfl
theorem Q_57:Qk Tryz.prog 58 Tryz.f58 D_57:=⟨Tryz.func58,by kernel_rfl,by kernel_rfl⟩
theorem H_57:Holds Tryz.prog 58 E_57:=
 Yi3 tabT mixT Q_57 F_57 rfl trivial W_57 ⟨Yi8 (L:=S_57L3 Aa) K_57L3 (i:=3) (by kernel_rfl),trivial⟩
theorem K_58L3 (n:Nat) (x):Bz (n+1) x=Yfg C_58 B_58L3 (S_58L3 Aa) x (Bz n):=by
 obtain⟨_,_,_,_,_,_⟩:=x
 kernel_rfl
theorem K_58L10 (n:Nat) (x):A8 (n+1) x=Yfg C_58 B_58L10 (S_58L10 Aa) x (A8 n):=by
 obtain⟨_,_,_,_,_,_⟩:=x
 kernel_rfl
theorem K_58L16 (n:Nat) (x):A9 (n+1) x=Yfg C_58 B_58L16 (S_58L16 Aa) x (A9 n):=by
 obtain⟨_,_,_,_,_,_,_,_⟩:=x
 kernel_rfl
theorem K_58L20 (n:Nat) (x):Ba (n+1) x=Yfg C_58 B_58L20 (S_58L20 Aa) x (Ba n):=by
 obtain⟨_,_,_,_,_,_,_,_⟩:=x
 kernel_rfl
theorem K_58L7 (n:Nat) (x):Bf (n+1) x=Yfg C_58 B_58L7 (S_58L7 Aa) x (Bf n):=by
 obtain⟨_,_,_,_,_⟩:=x
 kernel_rfl
theorem F_58 (a):E_58.run a=Yir C_58 Tryz.f24 E_58.params E_58.results a λo r=>some (N_58 o r):=by
 kernel_rfl
theorem W_58:XU D_58= [B_58L3,B_58L7,B_58L10,B_58L16,B_58L20]:=by kernel_rfl
theorem Q_58:Qk Tryz.prog 24 Tryz.f24 D_58:=⟨Tryz.func24,by kernel_rfl,by kernel_rfl⟩
theorem H_58:Holds Tryz.prog 24 E_58:=
 Yi3 tabT mixT Q_58 F_58 rfl ⟨⟨H_54,_,_,Q_54⟩,⟨⟨H_14,_,_,Q_14⟩,⟨⟨H_57,_,_,Q_57⟩,⟨⟨H_56,_,_,Q_56⟩,trivial⟩⟩⟩⟩ W_58 ⟨Yi8 (L:=S_58L3 Aa) K_58L3 (i:=3) (by kernel_rfl),⟨Yi8 (L:=S_58L7 Aa) K_58L7 (i:=7) (by kernel_rfl),⟨Yi8 (L:=S_58L10 Aa) K_58L10 (i:=10) (by kernel_rfl),⟨Yi8 (L:=S_58L16 Aa) K_58L16 (i:=16) (by kernel_rfl),⟨Yi8 (L:=S_58L20 Aa) K_58L20 (i:=20) (by kernel_rfl),trivial⟩⟩⟩⟩⟩
theorem K_59L3 (n:Nat) (x):B7 (n+1) x=Yfg C_59 B_59L3 (S_59L3 Aa) x (B7 n):=by
 obtain⟨_,_,_,_⟩:=x
 kernel_rfl
theorem F_59 (a):E_59.run a=Yir C_59 Tryz.f60 E_59.params E_59.results a λo r=>some (N_59 o r):=by
 kernel_rfl
theorem W_59:XU D_59= [B_59L3]:=by kernel_rfl
theorem Q_59:Qk Tryz.prog 60 Tryz.f60 D_59:=⟨Tryz.func60,by kernel_rfl,by kernel_rfl⟩
theorem H_59:Holds Tryz.prog 60 E_59:=
 Yi3 tabT mixT Q_59 F_59 rfl ⟨⟨H_16,_,_,Q_16⟩,trivial⟩ W_59 ⟨Yi8 (L:=S_59L3 Aa) K_59L3 (i:=3) (by kernel_rfl),trivial⟩
theorem K_60L8 (n:Nat) (x):B3 (n+1) x=Yfg C_60 B_60L8 (S_60L8 Aa) x (B3 n):=by
 obtain⟨_,_,_,_,_,_,_,_⟩:=x
 kernel_rfl
theorem K_60L3 (n:Nat) (x):B2 (n+1) x=Yfg C_60 B_60L3 (S_60L3 Aa) x (B2 n):=by
 obtain⟨_,_,_,_,_,_⟩:=x
 kernel_rfl
theorem F_60 (a):E_60.run a=Yir C_60 Tryz.f26 E_60.params E_60.results a λo r=>some (N_60 o r):=by
 kernel_rfl
theorem W_60:XU D_60= [B_60L3,B_60L8]:=by kernel_rfl
theorem Q_60:Qk Tryz.prog 26 Tryz.f26 D_60:=⟨Tryz.func26,by kernel_rfl,by kernel_rfl⟩
theorem H_60:Holds Tryz.prog 26 E_60:=
 Yi3 tabT mixT Q_60 F_60 rfl ⟨⟨H_59,_,_,Q_59⟩,trivial⟩ W_60 ⟨Yi8 (L:=S_60L3 Aa) K_60L3 (i:=3) (by kernel_rfl),⟨Yi8 (L:=S_60L8 Aa) K_60L8 (i:=8) (by kernel_rfl),trivial⟩⟩
theorem K_61L5 (n:Nat) (x):BJ (n+1) x=Yfg C_61 B_61L5 (S_61L5 Aa) x (BJ n):=by
 obtain⟨_,_,_,_,_,_⟩:=x
 kernel_rfl
theorem K_61L15 (n:Nat) (x):Bw (n+1) x=Yfg C_61 B_61L15 (S_61L15 Aa) x (Bw n):=by
 obtain⟨_,_,_,_,_,_,_,_,_⟩:=x
 kernel_rfl
theorem K_61L11 (n:Nat) (x):Bv (n+1) x=Yfg C_61 B_61L11 (S_61L11 Aa) x (Bv n):=by
 obtain⟨_,_,_,_,_,_,_⟩:=x
 kernel_rfl
theorem F_61 (a):E_61.run a=Yir C_61 Tryz.f7 E_61.params E_61.results a λo r=>some (N_61 o r):=by
 kernel_rfl
theorem W_61:XU D_61= [B_61L5,B_61L11,B_61L15]:=by kernel_rfl
theorem Q_61:Qk Tryz.prog 7 Tryz.f7 D_61:=⟨Tryz.func7,by kernel_rfl,by kernel_rfl⟩
theorem H_61:Holds Tryz.prog 7 E_61:=
 Yi3 tabT mixT Q_61 F_61 rfl ⟨⟨H_47,_,_,Q_47⟩,⟨⟨H_53,_,_,Q_53⟩,⟨⟨H_55,_,_,Q_55⟩,⟨⟨H_58,_,_,Q_58⟩,⟨⟨H_54,_,_,Q_54⟩,⟨⟨H_60,_,_,Q_60⟩,⟨⟨H_14,_,_,Q_14⟩,trivial⟩⟩⟩⟩⟩⟩⟩ W_61 ⟨Yi8 (L:=S_61L5 Aa) K_61L5 (i:=5) (by kernel_rfl),⟨Yi8 (L:=S_61L11 Aa) K_61L11 (i:=11) (by kernel_rfl),⟨Yi8 (L:=S_61L15 Aa) K_61L15 (i:=15) (by kernel_rfl),trivial⟩⟩⟩
theorem K_62L4 (n:Nat) (x):Dt (n+1) x=Yfg C_62 B_62L4 (S_62L4 Aa) x (Dt n):=by
 obtain⟨_,_,_⟩:=x
 kernel_rfl
theorem F_62 (a):E_62.run a=Yir C_62 Tryz.f36 E_62.params E_62.results a λo r=>some (N_62 o r):=by
 kernel_rfl
theorem W_62:XU D_62= [B_62L4]:=by kernel_rfl
theorem Q_62:Qk Tryz.prog 36 Tryz.f36 D_62:=⟨Tryz.func36,by kernel_rfl,by kernel_rfl⟩
theorem H_62:Holds Tryz.prog 36 E_62:=
 Yi3 tabT mixT Q_62 F_62 rfl trivial W_62 ⟨Yi8 (L:=S_62L4 Aa) K_62L4 (i:=4) (by kernel_rfl),trivial⟩
theorem K_63L4 (n:Nat) (x):Dc (n+1) x=Yfg C_63 B_63L4 (S_63L4 Aa) x (Dc n):=by
 obtain⟨_,_,_⟩:=x
 kernel_rfl
theorem F_63 (a):E_63.run a=Yir C_63 Tryz.f17 E_63.params E_63.results a λo r=>some (N_63 o r):=by
 kernel_rfl
theorem W_63:XU D_63= [B_63L4]:=by kernel_rfl
theorem Q_63:Qk Tryz.prog 17 Tryz.f17 D_63:=⟨Tryz.func17,by kernel_rfl,by kernel_rfl⟩
theorem H_63:Holds Tryz.prog 17 E_63:=
 Yi3 tabT mixT Q_63 F_63 rfl ⟨⟨H_62,_,_,Q_62⟩,trivial⟩ W_63 ⟨Yi8 (L:=S_63L4 Aa) K_63L4 (i:=4) (by kernel_rfl),trivial⟩
theorem F_64 (a):E_64.run a=Yir C_64 Tryz.f8 E_64.params E_64.results a λo r=>some (N_64 o r):=by
 kernel_rfl
theorem W_64:XU D_64= []:=by kernel_rfl
theorem Q_64:Qk Tryz.prog 8 Tryz.f8 D_64:=⟨Tryz.func8,by kernel_rfl,by kernel_rfl⟩
theorem H_64:Holds Tryz.prog 8 E_64:=
 Yi3 tabT mixT Q_64 F_64 rfl ⟨⟨H_63,_,_,Q_63⟩,trivial⟩ W_64 trivial
theorem F_65 (a):E_65.run a=Yir C_65 Tryz.f10 E_65.params E_65.results a λo r=>some (N_65 o r):=by
 kernel_rfl
theorem W_65:XU D_65= []:=by kernel_rfl
theorem Q_65:Qk Tryz.prog 10 Tryz.f10 D_65:=⟨Tryz.func10,by kernel_rfl,by kernel_rfl⟩
theorem H_65:Holds Tryz.prog 10 E_65:=
 Yi3 tabT mixT Q_65 F_65 rfl ⟨⟨H_47,_,_,Q_47⟩,⟨⟨H_53,_,_,Q_53⟩,⟨⟨H_55,_,_,Q_55⟩,trivial⟩⟩⟩ W_65 trivial
theorem F_66 (a):E_66.run a=Yir C_66 Tryz.f33 E_66.params E_66.results a λo r=>some (N_66 o r):=by
 kernel_rfl
theorem W_66:XU D_66= []:=by kernel_rfl
theorem Q_66:Qk Tryz.prog 33 Tryz.f33 D_66:=⟨Tryz.func33,by kernel_rfl,by kernel_rfl⟩
theorem H_66:Holds Tryz.prog 33 E_66:=
 Yi3 tabT mixT Q_66 F_66 rfl trivial W_66 trivial
theorem K_67L3 (n:Nat) (x):As (n+1) x=Yfg C_67 B_67L3 (S_67L3 Aa) x (As n):=by
 obtain⟨_,_,_,_,_⟩:=x
 kernel_rfl
theorem F_67 (a):E_67.run a=Yir C_67 Tryz.f32 E_67.params E_67.results a λo r=>some (N_67 o r):=by
 kernel_rfl
theorem W_67:XU D_67= [B_67L3]:=by kernel_rfl
theorem Q_67:Qk Tryz.prog 32 Tryz.f32 D_67:=⟨Tryz.func32,by kernel_rfl,by kernel_rfl⟩
theorem H_67:Holds Tryz.prog 32 E_67:=
 Yi3 tabT mixT Q_67 F_67 rfl ⟨⟨H_66,_,_,Q_66⟩,trivial⟩ W_67 ⟨Yi8 (L:=S_67L3 Aa) K_67L3 (i:=3) (by kernel_rfl),trivial⟩
theorem F_68 (a):E_68.run a=Yir C_68 Tryz.f11 E_68.params E_68.results a λo r=>some (N_68 o r):=by
 kernel_rfl
theorem W_68:XU D_68= []:=by kernel_rfl
theorem Q_68:Qk Tryz.prog 11 Tryz.f11 D_68:=⟨Tryz.func11,by kernel_rfl,by kernel_rfl⟩
theorem H_68:Holds Tryz.prog 11 E_68:=
 Yi3 tabT mixT Q_68 F_68 rfl ⟨⟨H_27,_,_,Q_27⟩,⟨⟨H_67,_,_,Q_67⟩,trivial⟩⟩ W_68 trivial
theorem F_69 (a):E_69.run a=Yir C_69 Tryz.f12 E_69.params E_69.results a λo r=>some (N_69 o r):=by
 kernel_rfl
theorem W_69:XU D_69= []:=by kernel_rfl
theorem Q_69:Qk Tryz.prog 12 Tryz.f12 D_69:=⟨Tryz.func12,by kernel_rfl,by kernel_rfl⟩
theorem H_69:Holds Tryz.prog 12 E_69:=
 Yi3 tabT mixT Q_69 F_69 rfl ⟨⟨H_49,_,_,Q_49⟩,⟨⟨H_10,_,_,Q_10⟩,trivial⟩⟩ W_69 trivial
theorem F_70 (a):E_70.run a=Yir C_70 Tryz.f13 E_70.params E_70.results a λo r=>some (N_70 o r):=by
 kernel_rfl
theorem W_70:XU D_70= []:=by kernel_rfl
theorem Q_70:Qk Tryz.prog 13 Tryz.f13 D_70:=⟨Tryz.func13,by kernel_rfl,by kernel_rfl⟩
theorem H_70:Holds Tryz.prog 13 E_70:=
 Yi3 tabT mixT Q_70 F_70 rfl ⟨⟨H_62,_,_,Q_62⟩,trivial⟩ W_70 trivial
theorem Q_71:Qk Tryz.prog 46 Tryz.f46 D_71:=⟨Tryz.func46,by kernel_rfl,by kernel_rfl⟩
theorem H_71:Holds Tryz.prog 46 E_71:=Go.Proofs.H_sort_cmpL 1
theorem F_72 (a):E_72.run a=Yir C_72 Tryz.f64 E_72.params E_72.results a λo r=>some (N_72 o r):=by
 kernel_rfl
theorem W_72:XU D_72= []:=by kernel_rfl
theorem Q_72:Qk Tryz.prog 64 Tryz.f64 D_72:=⟨Tryz.func64,by kernel_rfl,by kernel_rfl⟩
theorem H_72:Holds Tryz.prog 64 E_72:=
 Yi3 tabT mixT Q_72 F_72 rfl ⟨⟨H_36,_,_,Q_36⟩,⟨⟨H_71,_,_,Q_71⟩,trivial⟩⟩ W_72 trivial
theorem K_73L4 (n:Nat) (x):Ff (n+1) x=Yfg C_73 B_73L4 (S_73L4 Aa) x (Ff n):=by
 obtain⟨_,_,_,_⟩:=x
 kernel_rfl
theorem F_73 (a):E_73.run a=Yir C_73 Tryz.f85 E_73.params E_73.results a λo r=>some (N_73 o r):=by
 kernel_rfl
theorem W_73:XU D_73= [B_73L4]:=by kernel_rfl
theorem Q_73:Qk Tryz.prog 85 Tryz.f85 D_73:=⟨Tryz.func85,by kernel_rfl,by kernel_rfl⟩
theorem H_73:Holds Tryz.prog 85 E_73:=
 Yi3 tabT mixT Q_73 F_73 rfl trivial W_73 ⟨Yi8 (L:=S_73L4 Aa) K_73L4 (i:=4) (by kernel_rfl),trivial⟩
theorem Q_74:Qk Tryz.prog 63 Tryz.f63 D_74:=⟨Tryz.func63,by kernel_rfl,by kernel_rfl⟩
theorem H_74:Holds Tryz.prog 63 E_74:=Go.Proofs.H_diff 1
theorem F_75 (a):E_75.run a=Yir C_75 Tryz.f38 E_75.params E_75.results a λo r=>some (N_75 o r):=by
 kernel_rfl
theorem W_75:XU D_75= []:=by kernel_rfl
theorem Q_75:Qk Tryz.prog 38 Tryz.f38 D_75:=⟨Tryz.func38,by kernel_rfl,by kernel_rfl⟩
theorem H_75:Holds Tryz.prog 38 E_75:=
 Yi3 tabT mixT Q_75 F_75 rfl ⟨⟨H_74,_,_,Q_74⟩,⟨⟨H_72,_,_,Q_72⟩,trivial⟩⟩ W_75 trivial
theorem K_76L4 (n:Nat) (x):BN (n+1) x=Yfg C_76 B_76L4 (S_76L4 Aa) x (BN n):=by
 obtain⟨_,_,_,_,_,_,_⟩:=x
 kernel_rfl
theorem F_76 (a):E_76.run a=Yir C_76 Tryz.f14 E_76.params E_76.results a λo r=>some (N_76 o r):=by
 kernel_rfl
theorem W_76:XU D_76= [B_76L4]:=by kernel_rfl
theorem Q_76:Qk Tryz.prog 14 Tryz.f14 D_76:=⟨Tryz.func14,by kernel_rfl,by kernel_rfl⟩
theorem H_76:Holds Tryz.prog 14 E_76:=
 Yi3 tabT mixT Q_76 F_76 rfl ⟨⟨H_27,_,_,Q_27⟩,⟨⟨H_28,_,_,Q_28⟩,⟨⟨H_75,_,_,Q_75⟩,trivial⟩⟩⟩ W_76 ⟨Yi8 (L:=S_76L4 Aa) K_76L4 (i:=4) (by kernel_rfl),trivial⟩
theorem K_77L4 (n:Nat) (x):BP (n+1) x=Yfg C_77 B_77L4 (S_77L4 Aa) x (BP n):=by
 obtain⟨_,_,_,_,_⟩:=x
 kernel_rfl
theorem F_77 (a):E_77.run a=Yir C_77 Tryz.f86 E_77.params E_77.results a λo r=>some (N_77 o r):=by
 kernel_rfl
theorem W_77:XU D_77= [B_77L4]:=by kernel_rfl
theorem Q_77:Qk Tryz.prog 86 Tryz.f86 D_77:=⟨Tryz.func86,by kernel_rfl,by kernel_rfl⟩
theorem H_77:Holds Tryz.prog 86 E_77:=
 Yi3 tabT mixT Q_77 F_77 rfl ⟨⟨H_28,_,_,Q_28⟩,⟨⟨H_29,_,_,Q_29⟩,trivial⟩⟩ W_77 ⟨Yi8 (L:=S_77L4 Aa) K_77L4 (i:=4) (by kernel_rfl),trivial⟩
theorem F_78 (a):E_78.run a=Yir C_78 Tryz.f65 E_78.params E_78.results a λo r=>some (N_78 o r):=by
 kernel_rfl
theorem W_78:XU D_78= []:=by kernel_rfl
theorem Q_78:Qk Tryz.prog 65 Tryz.f65 D_78:=⟨Tryz.func65,by kernel_rfl,by kernel_rfl⟩
theorem H_78:Holds Tryz.prog 65 E_78:=
 Yi3 tabT mixT Q_78 F_78 rfl ⟨⟨H_27,_,_,Q_27⟩,⟨⟨H_77,_,_,Q_77⟩,trivial⟩⟩ W_78 trivial
theorem F_79 (a):E_79.run a=Yir C_79 Tryz.f66 E_79.params E_79.results a λo r=>some (N_79 o r):=by
 kernel_rfl
theorem W_79:XU D_79= []:=by kernel_rfl
theorem Q_79:Qk Tryz.prog 66 Tryz.f66 D_79:=⟨Tryz.func66,by kernel_rfl,by kernel_rfl⟩
theorem H_79:Holds Tryz.prog 66 E_79:=
 Yi3 tabT mixT Q_79 F_79 rfl ⟨⟨H_28,_,_,Q_28⟩,⟨⟨H_31,_,_,Q_31⟩,trivial⟩⟩ W_79 trivial
theorem F_80 (a):E_80.run a=Yir C_80 Tryz.f39 E_80.params E_80.results a λo r=>some (N_80 o r):=by
 kernel_rfl
theorem W_80:XU D_80= []:=by kernel_rfl
theorem Q_80:Qk Tryz.prog 39 Tryz.f39 D_80:=⟨Tryz.func39,by kernel_rfl,by kernel_rfl⟩
theorem H_80:Holds Tryz.prog 39 E_80:=
 Yi3 tabT mixT Q_80 F_80 rfl ⟨⟨H_31,_,_,Q_31⟩,⟨⟨H_78,_,_,Q_78⟩,⟨⟨H_79,_,_,Q_79⟩,trivial⟩⟩⟩ W_80 trivial
theorem K_81L3 (n:Nat) (x):C0 (n+1) x=Yfg C_81 B_81L3 (S_81L3 Aa) x (C0 n):=by
 obtain⟨_,_,_,_⟩:=x
 kernel_rfl
theorem F_81 (a):E_81.run a=Yir C_81 Tryz.f68 E_81.params E_81.results a λo r=>some (N_81 o r):=by
 kernel_rfl
theorem W_81:XU D_81= [B_81L3]:=by kernel_rfl
theorem Q_81:Qk Tryz.prog 68 Tryz.f68 D_81:=⟨Tryz.func68,by kernel_rfl,by kernel_rfl⟩
theorem H_81:Holds Tryz.prog 68 E_81:=
 Yi3 tabT mixT Q_81 F_81 rfl trivial W_81 ⟨Yi8 (L:=S_81L3 Aa) K_81L3 (i:=3) (by kernel_rfl),trivial⟩
theorem K_82L3 (n:Nat) (x):CK (n+1) x=Yfg C_82 B_82L3 (S_82L3 Aa) x (CK n):=by
 obtain⟨_,_,_,_⟩:=x
 kernel_rfl
theorem F_82 (a):E_82.run a=Yir C_82 Tryz.f67 E_82.params E_82.results a λo r=>some (N_82 o r):=by
 kernel_rfl
theorem W_82:XU D_82= [B_82L3]:=by kernel_rfl
theorem Q_82:Qk Tryz.prog 67 Tryz.f67 D_82:=⟨Tryz.func67,by kernel_rfl,by kernel_rfl⟩
theorem H_82:Holds Tryz.prog 67 E_82:=
 Yi3 tabT mixT Q_82 F_82 rfl ⟨⟨H_81,_,_,Q_81⟩,trivial⟩ W_82 ⟨Yi8 (L:=S_82L3 Aa) K_82L3 (i:=3) (by kernel_rfl),trivial⟩
theorem K_83L10 (n:Nat) (x):B9 (n+1) x=Yfg C_83 B_83L10 (S_83L10 Aa) x (B9 n):=by
 obtain⟨_,_,_,_,_,_,_,_,_,_⟩:=x
 kernel_rfl
theorem K_83L19 (n:Nat) (x):BI (n+1) x=Yfg C_83 B_83L19 (S_83L19 Aa) x (BI n):=by
 obtain⟨_,_,_,_,_,_,_,_,_,_,_,_,_,_,_⟩:=x
 kernel_rfl
theorem K_83L15 (n:Nat) (x):BH (n+1) x=Yfg C_83 B_83L15 (S_83L15 Aa) x (BH n):=by
 obtain⟨_,_,_,_,_,_,_,_,_,_⟩:=x
 kernel_rfl
theorem K_83L6 (n:Nat) (x):BO (n+1) x=Yfg C_83 B_83L6 (S_83L6 Aa) x (BO n):=by
 obtain⟨_,_,_,_,_,_,_,_⟩:=x
 kernel_rfl
theorem F_83 (a):E_83.run a=Yir C_83 Tryz.f40 E_83.params E_83.results a λo r=>some (N_83 o r):=by
 kernel_rfl
theorem W_83:XU D_83= [B_83L6,B_83L10,B_83L15,B_83L19]:=by kernel_rfl
theorem Q_83:Qk Tryz.prog 40 Tryz.f40 D_83:=⟨Tryz.func40,by kernel_rfl,by kernel_rfl⟩
theorem H_83:Holds Tryz.prog 40 E_83:=
 Yi3 tabT mixT Q_83 F_83 rfl ⟨⟨H_31,_,_,Q_31⟩,⟨⟨H_82,_,_,Q_82⟩,⟨⟨H_81,_,_,Q_81⟩,trivial⟩⟩⟩ W_83 ⟨Yi8 (L:=S_83L6 Aa) K_83L6 (i:=6) (by kernel_rfl),⟨Yi8 (L:=S_83L10 Aa) K_83L10 (i:=10) (by kernel_rfl),⟨Yi8 (L:=S_83L15 Aa) K_83L15 (i:=15) (by kernel_rfl),⟨Yi8 (L:=S_83L19 Aa) K_83L19 (i:=19) (by kernel_rfl),trivial⟩⟩⟩⟩
theorem F_84 (a):E_84.run a=Yir C_84 Tryz.f15 E_84.params E_84.results a λo r=>some (N_84 o r):=by
 kernel_rfl
theorem W_84:XU D_84= []:=by kernel_rfl
theorem Q_84:Qk Tryz.prog 15 Tryz.f15 D_84:=⟨Tryz.func15,by kernel_rfl,by kernel_rfl⟩
theorem H_84:Holds Tryz.prog 15 E_84:=
 Yi3 tabT mixT Q_84 F_84 rfl ⟨⟨H_80,_,_,Q_80⟩,⟨⟨H_83,_,_,Q_83⟩,trivial⟩⟩ W_84 trivial
theorem K_85L4 (n:Nat) (x):CH (n+1) x=Yfg C_85 B_85L4 (S_85L4 Aa) x (CH n):=by
 obtain⟨_,_,_,_⟩:=x
 kernel_rfl
theorem F_85 (a):E_85.run a=Yir C_85 Tryz.f48 E_85.params E_85.results a λo r=>some (N_85 o r):=by
 kernel_rfl
theorem W_85:XU D_85= [B_85L4]:=by kernel_rfl
theorem Q_85:Qk Tryz.prog 48 Tryz.f48 D_85:=⟨Tryz.func48,by kernel_rfl,by kernel_rfl⟩
theorem H_85:Holds Tryz.prog 48 E_85:=
 Yi3 tabT mixT Q_85 F_85 rfl ⟨⟨H_26,_,_,Q_26⟩,⟨⟨H_28,_,_,Q_28⟩,trivial⟩⟩ W_85 ⟨Yi8 (L:=S_85L4 Aa) K_85L4 (i:=4) (by kernel_rfl),trivial⟩
theorem F_86 (a):E_86.run a=Yir C_86 Tryz.f42 E_86.params E_86.results a λo r=>some (N_86 o r):=by
 kernel_rfl
theorem W_86:XU D_86= []:=by kernel_rfl
theorem Q_86:Qk Tryz.prog 42 Tryz.f42 D_86:=⟨Tryz.func42,by kernel_rfl,by kernel_rfl⟩
theorem H_86:Holds Tryz.prog 42 E_86:=
 Yi3 tabT mixT Q_86 F_86 rfl ⟨⟨H_39,_,_,Q_39⟩,trivial⟩ W_86 trivial
theorem K_87L2 (n:Nat) (x):Be (n+1) x=Yfg C_87 B_87L2 (S_87L2 Aa) x (Be n):=by
 obtain⟨_,_,_,_⟩:=x
 kernel_rfl
theorem F_87 (a):E_87.run a=Yir C_87 Tryz.f69 E_87.params E_87.results a λo r=>some (N_87 o r):=by
 kernel_rfl
theorem W_87:XU D_87= [B_87L2]:=by kernel_rfl
theorem Q_87:Qk Tryz.prog 69 Tryz.f69 D_87:=⟨Tryz.func69,by kernel_rfl,by kernel_rfl⟩
theorem H_87:Holds Tryz.prog 69 E_87:=
 Yi3 tabT mixT Q_87 F_87 rfl trivial W_87 ⟨Yi8 (L:=S_87L2 Aa) K_87L2 (i:=2) (by kernel_rfl),trivial⟩
theorem K_88L3 (n:Nat) (x):Aq (n+1) x=Yfg C_88 B_88L3 (S_88L3 Aa) x (Aq n):=by
 obtain⟨_,_,_,_⟩:=x
 kernel_rfl
theorem F_88 (a):E_88.run a=Yir C_88 Tryz.f43 E_88.params E_88.results a λo r=>some (N_88 o r):=by
 kernel_rfl
theorem W_88:XU D_88= [B_88L3]:=by kernel_rfl
theorem Q_88:Qk Tryz.prog 43 Tryz.f43 D_88:=⟨Tryz.func43,by kernel_rfl,by kernel_rfl⟩
theorem H_88:Holds Tryz.prog 43 E_88:=
 Yi3 tabT mixT Q_88 F_88 rfl trivial W_88 ⟨Yi8 (L:=S_88L3 Aa) K_88L3 (i:=3) (by kernel_rfl),trivial⟩
theorem F_89 (a):E_89.run a=Yir C_89 Tryz.f41 E_89.params E_89.results a λo r=>some (N_89 o r):=by
 kernel_rfl
theorem W_89:XU D_89= []:=by kernel_rfl
theorem Q_89:Qk Tryz.prog 41 Tryz.f41 D_89:=⟨Tryz.func41,by kernel_rfl,by kernel_rfl⟩
theorem H_89:Holds Tryz.prog 41 E_89:=
 Yi3 tabT mixT Q_89 F_89 rfl ⟨⟨H_86,_,_,Q_86⟩,⟨⟨H_88,_,_,Q_88⟩,⟨⟨H_85,_,_,Q_85⟩,⟨⟨H_31,_,_,Q_31⟩,⟨⟨H_87,_,_,Q_87⟩,trivial⟩⟩⟩⟩⟩ W_89 trivial
theorem K_90L3 (n:Nat) (x):C5 (n+1) x=Yfg C_90 B_90L3 (S_90L3 Aa) x (C5 n):=by
 obtain⟨_,_,_,_⟩:=x
 kernel_rfl
theorem F_90 (a):E_90.run a=Yir C_90 Tryz.f45 E_90.params E_90.results a λo r=>some (N_90 o r):=by
 kernel_rfl
theorem W_90:XU D_90= [B_90L3]:=by kernel_rfl
theorem Q_90:Qk Tryz.prog 45 Tryz.f45 D_90:=⟨Tryz.func45,by kernel_rfl,by kernel_rfl⟩
theorem H_90:Holds Tryz.prog 45 E_90:=
 Yi3 tabT mixT Q_90 F_90 rfl trivial W_90 ⟨Yi8 (L:=S_90L3 Aa) K_90L3 (i:=3) (by kernel_rfl),trivial⟩
theorem K_91L4 (n:Nat) (x):AI (n+1) x=Yfg C_91 B_91L4 (S_91L4 Aa) x (AI n):=by
 obtain⟨_,_,_,_,_,_,_⟩:=x
 kernel_rfl
theorem K_91L14 (n:Nat) (x):AB (n+1) x=Yfg C_91 B_91L14 (S_91L14 Aa) x (AB n):=by
 obtain⟨_,_,_,_,_,_,_,_,_,_,_,_,_⟩:=x
 kernel_rfl
theorem K_91L9 (n:Nat) (x):Ar (n+1) x=Yfg C_91 B_91L9 (S_91L9 Aa) x (Ar n):=by
 obtain⟨_,_,_,_,_,_,_⟩:=x
 kernel_rfl
theorem F_91 (a):E_91.run a=Yir C_91 Tryz.f44 E_91.params E_91.results a λo r=>some (N_91 o r):=by
 kernel_rfl
theorem W_91:XU D_91= [B_91L4,B_91L9,B_91L14]:=by kernel_rfl
theorem Q_91:Qk Tryz.prog 44 Tryz.f44 D_91:=⟨Tryz.func44,by kernel_rfl,by kernel_rfl⟩
theorem H_91:Holds Tryz.prog 44 E_91:=
 Yi3 tabT mixT Q_91 F_91 rfl ⟨⟨H_88,_,_,Q_88⟩,trivial⟩ W_91 ⟨Yi8 (L:=S_91L4 Aa) K_91L4 (i:=4) (by kernel_rfl),⟨Yi8 (L:=S_91L9 Aa) K_91L9 (i:=9) (by kernel_rfl),⟨Yi8 (L:=S_91L14 Aa) K_91L14 (i:=14) (by kernel_rfl),trivial⟩⟩⟩
theorem K_92L8 (n:Nat) (x):AT (n+1) x=Yfg C_92 B_92L8 (S_92L8 Aa) x (AT n):=by
 obtain⟨_,_,_,_,_,_⟩:=x
 kernel_rfl
theorem F_92 (a):E_92.run a=Yir C_92 Tryz.f16 E_92.params E_92.results a λo r=>some (N_92 o r):=by
 kernel_rfl
theorem W_92:XU D_92= [B_92L8]:=by kernel_rfl
theorem Q_92:Qk Tryz.prog 16 Tryz.f16 D_92:=⟨Tryz.func16,by kernel_rfl,by kernel_rfl⟩
theorem H_92:Holds Tryz.prog 16 E_92:=
 Yi3 tabT mixT Q_92 F_92 rfl ⟨⟨H_89,_,_,Q_89⟩,⟨⟨H_86,_,_,Q_86⟩,⟨⟨H_88,_,_,Q_88⟩,⟨⟨H_91,_,_,Q_91⟩,⟨⟨H_90,_,_,Q_90⟩,⟨⟨H_71,_,_,Q_71⟩,trivial⟩⟩⟩⟩⟩⟩ W_92 ⟨Yi8 (L:=S_92L8 Aa) K_92L8 (i:=8) (by kernel_rfl),trivial⟩
theorem K_93L3 (n:Nat) (x):Bm (n+1) x=Yfg C_93 B_93L3 (S_93L3 Aa) x (Bm n):=by
 obtain⟨_,_,_,_,_,_⟩:=x
 kernel_rfl
theorem F_93 (a):E_93.run a=Yir C_93 Tryz.f49 E_93.params E_93.results a λo r=>some (N_93 o r):=by
 kernel_rfl
theorem W_93:XU D_93= [B_93L3]:=by kernel_rfl
theorem Q_93:Qk Tryz.prog 49 Tryz.f49 D_93:=⟨Tryz.func49,by kernel_rfl,by kernel_rfl⟩
theorem H_93:Holds Tryz.prog 49 E_93:=
 Yi3 tabT mixT Q_93 F_93 rfl ⟨⟨H_36,_,_,Q_36⟩,⟨⟨H_35,_,_,Q_35⟩,trivial⟩⟩ W_93 ⟨Yi8 (L:=S_93L3 Aa) K_93L3 (i:=3) (by kernel_rfl),trivial⟩
theorem F_94 (a):E_94.run a=Yir C_94 Tryz.f18 E_94.params E_94.results a λo r=>some (N_94 o r):=by
 kernel_rfl
theorem W_94:XU D_94= []:=by kernel_rfl
theorem Q_94:Qk Tryz.prog 18 Tryz.f18 D_94:=⟨Tryz.func18,by kernel_rfl,by kernel_rfl⟩
theorem H_94:Holds Tryz.prog 18 E_94:=
 Yi3 tabT mixT Q_94 F_94 rfl ⟨⟨H_86,_,_,Q_86⟩,⟨⟨H_85,_,_,Q_85⟩,⟨⟨H_93,_,_,Q_93⟩,trivial⟩⟩⟩ W_94 trivial
theorem F_95 (a):E_95.run a=Yir C_95 Tryz.f3 E_95.params E_95.results a λo r=>some (N_95 o r):=by
 kernel_rfl
theorem W_95:XU D_95= []:=by kernel_rfl
theorem Q_95:Qk Tryz.prog 3 Tryz.f3 D_95:=⟨Tryz.func3,by kernel_rfl,by kernel_rfl⟩
theorem H_95:Holds Tryz.prog 3 E_95:=
 Yi3 tabT mixT Q_95 F_95 rfl ⟨⟨H_1,_,_,Q_1⟩,⟨⟨H_25,_,_,Q_25⟩,⟨⟨H_46,_,_,Q_46⟩,⟨⟨H_61,_,_,Q_61⟩,⟨⟨H_64,_,_,Q_64⟩,⟨⟨H_34,_,_,Q_34⟩,⟨⟨H_65,_,_,Q_65⟩,⟨⟨H_68,_,_,Q_68⟩,⟨⟨H_69,_,_,Q_69⟩,⟨⟨H_70,_,_,Q_70⟩,⟨⟨H_76,_,_,Q_76⟩,⟨⟨H_84,_,_,Q_84⟩,⟨⟨H_92,_,_,Q_92⟩,⟨⟨H_63,_,_,Q_63⟩,⟨⟨H_94,_,_,Q_94⟩,trivial⟩⟩⟩⟩⟩⟩⟩⟩⟩⟩⟩⟩⟩⟩⟩ W_95 trivial
end T
