/- Each typed function is what the program computes; no conditions. -/
import Derived.Test.YtbfbcfnbcbdgjacSFnExactClausesTell
import Derived.Test.YtbfbcfnbcbdgjacCFnExactClausesTell
set_option linter.all false
set_option maxRecDepth 10000
open Go Go.Va Go.Proofs
namespace T
theorem F_1 (a):E_1.run a=Yir C_1 Try.f50 E_1.params E_1.results a λo r=>some (N_1 o r):=by
 kernel_rfl
theorem W_1:XU D_1= []:=by kernel_rfl
theorem Q_1:Qk Try.prog 50 Try.f50 D_1:=⟨Try.func50,by kernel_rfl,by kernel_rfl⟩
theorem H_1:Holds Try.prog 50 E_1:=
 Yi3 tabT mixT Q_1 F_1 rfl trivial W_1 trivial
theorem K_2L5 (n:Nat) (x):AK (n+1) x=Yfg C_2 B_2L5 (S_2L5 Ac) x (AK n):=by
 obtain⟨_,_,_⟩:=x
 kernel_rfl
theorem F_2 (a):E_2.run a=Yir C_2 Try.f26 E_2.params E_2.results a λo r=>some (N_2 o r):=by
 kernel_rfl
theorem W_2:XU D_2= [B_2L5]:=by kernel_rfl
theorem Q_2:Qk Try.prog 26 Try.f26 D_2:=⟨Try.func26,by kernel_rfl,by kernel_rfl⟩
theorem H_2:Holds Try.prog 26 E_2:=
 Yi3 tabT mixT Q_2 F_2 rfl ⟨⟨H_1,_,_,Q_1⟩,trivial⟩ W_2 ⟨Yi8 (L:=S_2L5 Ac) K_2L5 (i:=5) (by kernel_rfl),trivial⟩
theorem F_3 (a):E_3.run a=Yir C_3 Try.f15 E_3.params E_3.results a λo r=>some (N_3 o r):=by
 kernel_rfl
theorem W_3:XU D_3= []:=by kernel_rfl
theorem Q_3:Qk Try.prog 15 Try.f15 D_3:=⟨Try.func15,by kernel_rfl,by kernel_rfl⟩
theorem H_3:Holds Try.prog 15 E_3:=
 Yi3 tabT mixT Q_3 F_3 rfl ⟨⟨H_2,_,_,Q_2⟩,trivial⟩ W_3 trivial
theorem K_4L3 (n:Nat) (x):AS (n+1) x=Yfg C_4 B_4L3 (S_4L3 Ac) x (AS n):=by
 obtain⟨_,_,_⟩:=x
 kernel_rfl
theorem F_4 (a):E_4.run a=Yir C_4 Try.f57 E_4.params E_4.results a λo r=>some (N_4 o r):=by
 kernel_rfl
theorem W_4:XU D_4= [B_4L3]:=by kernel_rfl
theorem Q_4:Qk Try.prog 57 Try.f57 D_4:=⟨Try.func57,by kernel_rfl,by kernel_rfl⟩
theorem H_4:Holds Try.prog 57 E_4:=
 Yi3 tabT mixT Q_4 F_4 rfl trivial W_4 ⟨Yi8 (L:=S_4L3 Ac) K_4L3 (i:=3) (by kernel_rfl),trivial⟩
theorem K_5L3 (n:Nat) (x):AL (n+1) x=Yfg C_5 B_5L3 (S_5L3 Ac) x (AL n):=by
 obtain⟨_,_,_⟩:=x
 kernel_rfl
theorem F_5 (a):E_5.run a=Yir C_5 Try.f35 E_5.params E_5.results a λo r=>some (N_5 o r):=by
 kernel_rfl
theorem W_5:XU D_5= [B_5L3]:=by kernel_rfl
theorem Q_5:Qk Try.prog 35 Try.f35 D_5:=⟨Try.func35,by kernel_rfl,by kernel_rfl⟩
theorem H_5:Holds Try.prog 35 E_5:=
 Yi3 tabT mixT Q_5 F_5 rfl ⟨⟨H_4,_,_,Q_4⟩,trivial⟩ W_5 ⟨Yi8 (L:=S_5L3 Ac) K_5L3 (i:=3) (by kernel_rfl),trivial⟩
theorem F_6 (a):E_6.run a=Yir C_6 Try.f17 E_6.params E_6.results a λo r=>some (N_6 o r):=by
 kernel_rfl
theorem W_6:XU D_6= []:=by kernel_rfl
theorem Q_6:Qk Try.prog 17 Try.f17 D_6:=⟨Try.func17,by kernel_rfl,by kernel_rfl⟩
theorem H_6:Holds Try.prog 17 E_6:=
 Yi3 tabT mixT Q_6 F_6 rfl ⟨⟨H_5,_,_,Q_5⟩,trivial⟩ W_6 trivial
theorem F_7 (a):E_7.run a=Yir C_7 Try.f64 E_7.params E_7.results a λo r=>some (N_7 o r):=by
 kernel_rfl
theorem W_7:XU D_7= []:=by kernel_rfl
theorem Q_7:Qk Try.prog 64 Try.f64 D_7:=⟨Try.func64,by kernel_rfl,by kernel_rfl⟩
theorem H_7:Holds Try.prog 64 E_7:=
 Yi3 tabT mixT Q_7 F_7 rfl trivial W_7 trivial
theorem K_8L2 (n:Nat) (x):Be (n+1) x=Yfg C_8 B_8L2 (S_8L2 Ac) x (Be n):=by
 obtain⟨_,_,_⟩:=x
 kernel_rfl
theorem F_8 (a):E_8.run a=Yir C_8 Try.f53 E_8.params E_8.results a λo r=>some (N_8 o r):=by
 kernel_rfl
theorem W_8:XU D_8= [B_8L2]:=by kernel_rfl
theorem Q_8:Qk Try.prog 53 Try.f53 D_8:=⟨Try.func53,by kernel_rfl,by kernel_rfl⟩
theorem H_8:Holds Try.prog 53 E_8:=
 Yi3 tabT mixT Q_8 F_8 rfl trivial W_8 ⟨Yi8 (L:=S_8L2 Ac) K_8L2 (i:=2) (by kernel_rfl),trivial⟩
theorem K_9L2 (n:Nat) (x):Aw (n+1) x=Yfg C_9 B_9L2 (S_9L2 Ac) x (Aw n):=by
 obtain⟨_,_,_⟩:=x
 kernel_rfl
theorem F_9 (a):E_9.run a=Yir C_9 Try.f87 E_9.params E_9.results a λo r=>some (N_9 o r):=by
 kernel_rfl
theorem W_9:XU D_9= [B_9L2]:=by kernel_rfl
theorem Q_9:Qk Try.prog 87 Try.f87 D_9:=⟨Try.func87,by kernel_rfl,by kernel_rfl⟩
theorem H_9:Holds Try.prog 87 E_9:=
 Yi3 tabT mixT Q_9 F_9 rfl ⟨⟨H_7,_,_,Q_7⟩,trivial⟩ W_9 ⟨Yi8 (L:=S_9L2 Ac) K_9L2 (i:=2) (by kernel_rfl),trivial⟩
theorem F_10 (a):E_10.run a=Yir C_10 Try.f65 E_10.params E_10.results a λo r=>some (N_10 o r):=by
 kernel_rfl
theorem W_10:XU D_10= []:=by kernel_rfl
theorem Q_10:Qk Try.prog 65 Try.f65 D_10:=⟨Try.func65,by kernel_rfl,by kernel_rfl⟩
theorem H_10:Holds Try.prog 65 E_10:=
 Yi3 tabT mixT Q_10 F_10 rfl ⟨⟨H_9,_,_,Q_9⟩,trivial⟩ W_10 trivial
theorem K_11L2 (n:Nat) (x):AU (n+1) x=Yfg C_11 B_11L2 (S_11L2 Ac) x (AU n):=by
 obtain⟨_,_,_⟩:=x
 kernel_rfl
theorem F_11 (a):E_11.run a=Yir C_11 Try.f66 E_11.params E_11.results a λo r=>some (N_11 o r):=by
 kernel_rfl
theorem W_11:XU D_11= [B_11L2]:=by kernel_rfl
theorem Q_11:Qk Try.prog 66 Try.f66 D_11:=⟨Try.func66,by kernel_rfl,by kernel_rfl⟩
theorem H_11:Holds Try.prog 66 E_11:=
 Yi3 tabT mixT Q_11 F_11 rfl trivial W_11 ⟨Yi8 (L:=S_11L2 Ac) K_11L2 (i:=2) (by kernel_rfl),trivial⟩
theorem K_12L4 (n:Nat) (x):Ay (n+1) x=Yfg C_12 B_12L4 (S_12L4 Ac) x (Ay n):=by
 obtain⟨_,_,_⟩:=x
 kernel_rfl
theorem F_12 (a):E_12.run a=Yir C_12 Try.f46 E_12.params E_12.results a λo r=>some (N_12 o r):=by
 kernel_rfl
theorem W_12:XU D_12= [B_12L4]:=by kernel_rfl
theorem Q_12:Qk Try.prog 46 Try.f46 D_12:=⟨Try.func46,by kernel_rfl,by kernel_rfl⟩
theorem H_12:Holds Try.prog 46 E_12:=
 Yi3 tabT mixT Q_12 F_12 rfl ⟨⟨H_8,_,_,Q_8⟩,⟨⟨H_7,_,_,Q_7⟩,⟨⟨H_10,_,_,Q_10⟩,⟨⟨H_11,_,_,Q_11⟩,trivial⟩⟩⟩⟩ W_12 ⟨Yi8 (L:=S_12L4 Ac) K_12L4 (i:=4) (by kernel_rfl),trivial⟩
theorem K_13L3 (n:Nat) (x):BK (n+1) x=Yfg C_13 B_13L3 (S_13L3 Ac) x (BK n):=by
 obtain⟨_,_,_,_⟩:=x
 kernel_rfl
theorem F_13 (a):E_13.run a=Yir C_13 Try.f32 E_13.params E_13.results a λo r=>some (N_13 o r):=by
 kernel_rfl
theorem W_13:XU D_13= [B_13L3]:=by kernel_rfl
theorem Q_13:Qk Try.prog 32 Try.f32 D_13:=⟨Try.func32,by kernel_rfl,by kernel_rfl⟩
theorem H_13:Holds Try.prog 32 E_13:=
 Yi3 tabT mixT Q_13 F_13 rfl trivial W_13 ⟨Yi8 (L:=S_13L3 Ac) K_13L3 (i:=3) (by kernel_rfl),trivial⟩
theorem F_14 (a):E_14.run a=Yir C_14 Try.f88 E_14.params E_14.results a λo r=>some (N_14 o r):=by
 kernel_rfl
theorem W_14:XU D_14= []:=by kernel_rfl
theorem Q_14:Qk Try.prog 88 Try.f88 D_14:=⟨Try.func88,by kernel_rfl,by kernel_rfl⟩
theorem H_14:Holds Try.prog 88 E_14:=
 Yi3 tabT mixT Q_14 F_14 rfl ⟨⟨H_11,_,_,Q_11⟩,trivial⟩ W_14 trivial
theorem K_15L7 (n:Nat) (x):Av (n+1) x=Yfg C_15 B_15L7 (S_15L7 Ac) x (Av n):=by
 obtain⟨_,_,_,_,_,_⟩:=x
 kernel_rfl
theorem K_15L14 (n:Nat) (x):Bi (n+1) x=Yfg C_15 B_15L14 (S_15L14 Ac) x (Bi n):=by
 obtain⟨_,_,_,_,_⟩:=x
 kernel_rfl
theorem K_15L3 (n:Nat) (x):Bp (n+1) x=Yfg C_15 B_15L3 (S_15L3 Ac) x (Bp n):=by
 obtain⟨_,_,_⟩:=x
 kernel_rfl
theorem F_15 (a):E_15.run a=Yir C_15 Try.f67 E_15.params E_15.results a λo r=>some (N_15 o r):=by
 kernel_rfl
theorem W_15:XU D_15= [B_15L3,B_15L7,B_15L14]:=by kernel_rfl
theorem Q_15:Qk Try.prog 67 Try.f67 D_15:=⟨Try.func67,by kernel_rfl,by kernel_rfl⟩
theorem H_15:Holds Try.prog 67 E_15:=
 Yi3 tabT mixT Q_15 F_15 rfl ⟨⟨H_13,_,_,Q_13⟩,⟨⟨H_8,_,_,Q_8⟩,⟨⟨H_14,_,_,Q_14⟩,trivial⟩⟩⟩ W_15 ⟨Yi8 (L:=S_15L3 Ac) K_15L3 (i:=3) (by kernel_rfl),⟨Yi8 (L:=S_15L7 Ac) K_15L7 (i:=7) (by kernel_rfl),⟨Yi8 (L:=S_15L14 Ac) K_15L14 (i:=14) (by kernel_rfl),trivial⟩⟩⟩
theorem K_16L2 (n:Nat) (x):An (n+1) x=Yfg C_16 B_16L2 (S_16L2 Ac) x (An n):=by
 obtain⟨_,_,_⟩:=x
 kernel_rfl
theorem F_16 (a):E_16.run a=Yir C_16 Try.f89 E_16.params E_16.results a λo r=>some (N_16 o r):=by
 kernel_rfl
theorem W_16:XU D_16= [B_16L2]:=by kernel_rfl
theorem Q_16:Qk Try.prog 89 Try.f89 D_16:=⟨Try.func89,by kernel_rfl,by kernel_rfl⟩
theorem H_16:Holds Try.prog 89 E_16:=
 Yi3 tabT mixT Q_16 F_16 rfl trivial W_16 ⟨Yi8 (L:=S_16L2 Ac) K_16L2 (i:=2) (by kernel_rfl),trivial⟩
theorem K_17L2 (n:Nat) (x):AT (n+1) x=Yfg C_17 B_17L2 (S_17L2 Ac) x (AT n):=by
 obtain⟨_,_,_⟩:=x
 kernel_rfl
theorem F_17 (a):E_17.run a=Yir C_17 Try.f68 E_17.params E_17.results a λo r=>some (N_17 o r):=by
 kernel_rfl
theorem W_17:XU D_17= [B_17L2]:=by kernel_rfl
theorem Q_17:Qk Try.prog 68 Try.f68 D_17:=⟨Try.func68,by kernel_rfl,by kernel_rfl⟩
theorem H_17:Holds Try.prog 68 E_17:=
 Yi3 tabT mixT Q_17 F_17 rfl ⟨⟨H_16,_,_,Q_16⟩,trivial⟩ W_17 ⟨Yi8 (L:=S_17L2 Ac) K_17L2 (i:=2) (by kernel_rfl),trivial⟩
theorem F_18 (a):E_18.run a=Yir C_18 Try.f31 E_18.params E_18.results a λo r=>some (N_18 o r):=by
 kernel_rfl
theorem W_18:XU D_18= []:=by kernel_rfl
theorem Q_18:Qk Try.prog 31 Try.f31 D_18:=⟨Try.func31,by kernel_rfl,by kernel_rfl⟩
theorem H_18:Holds Try.prog 31 E_18:=
 Yi3 tabT mixT Q_18 F_18 rfl trivial W_18 trivial
theorem K_19L7 (n:Nat) (x):Au (n+1) x=Yfg C_19 B_19L7 (S_19L7 Ac) x (Au n):=by
 obtain⟨_,_,_,_,_,_⟩:=x
 kernel_rfl
theorem K_19L3 (n:Nat) (x):Aq (n+1) x=Yfg C_19 B_19L3 (S_19L3 Ac) x (Aq n):=by
 obtain⟨_,_,_,_⟩:=x
 kernel_rfl
theorem F_19 (a):E_19.run a=Yir C_19 Try.f47 E_19.params E_19.results a λo r=>some (N_19 o r):=by
 kernel_rfl
theorem W_19:XU D_19= [B_19L3,B_19L7]:=by kernel_rfl
theorem Q_19:Qk Try.prog 47 Try.f47 D_19:=⟨Try.func47,by kernel_rfl,by kernel_rfl⟩
theorem H_19:Holds Try.prog 47 E_19:=
 Yi3 tabT mixT Q_19 F_19 rfl ⟨⟨H_18,_,_,Q_18⟩,⟨⟨H_15,_,_,Q_15⟩,⟨⟨H_17,_,_,Q_17⟩,trivial⟩⟩⟩ W_19 ⟨Yi8 (L:=S_19L3 Ac) K_19L3 (i:=3) (by kernel_rfl),⟨Yi8 (L:=S_19L7 Ac) K_19L7 (i:=7) (by kernel_rfl),trivial⟩⟩
theorem K_20L9 (n:Nat) (x):Al (n+1) x=Yfg C_20 B_20L9 (S_20L9 Ac) x (Al n):=by
 obtain⟨_,_,_,_,_⟩:=x
 kernel_rfl
theorem K_20L5 (n:Nat) (x):Ab (n+1) x=Yfg C_20 B_20L5 (S_20L5 Ac) x (Ab n):=by
 obtain⟨_,_,_⟩:=x
 kernel_rfl
theorem F_20 (a):E_20.run a=Yir C_20 Try.f16 E_20.params E_20.results a λo r=>some (N_20 o r):=by
 kernel_rfl
theorem W_20:XU D_20= [B_20L5,B_20L9]:=by kernel_rfl
theorem Q_20:Qk Try.prog 16 Try.f16 D_20:=⟨Try.func16,by kernel_rfl,by kernel_rfl⟩
theorem H_20:Holds Try.prog 16 E_20:=
 Yi3 tabT mixT Q_20 F_20 rfl ⟨⟨H_12,_,_,Q_12⟩,⟨⟨H_19,_,_,Q_19⟩,trivial⟩⟩ W_20 ⟨Yi8 (L:=S_20L5 Ac) K_20L5 (i:=5) (by kernel_rfl),⟨Yi8 (L:=S_20L9 Ac) K_20L9 (i:=9) (by kernel_rfl),trivial⟩⟩
theorem K_21L2 (n:Nat) (x):AQ (n+1) x=Yfg C_21 B_21L2 (S_21L2 Ac) x (AQ n):=by
 obtain⟨_,_,_,_⟩:=x
 kernel_rfl
theorem F_21 (a):E_21.run a=Yir C_21 Try.f69 E_21.params E_21.results a λo r=>some (N_21 o r):=by
 kernel_rfl
theorem W_21:XU D_21= [B_21L2]:=by kernel_rfl
theorem Q_21:Qk Try.prog 69 Try.f69 D_21:=⟨Try.func69,by kernel_rfl,by kernel_rfl⟩
theorem H_21:Holds Try.prog 69 E_21:=
 Yi3 tabT mixT Q_21 F_21 rfl trivial W_21 ⟨Yi8 (L:=S_21L2 Ac) K_21L2 (i:=2) (by kernel_rfl),trivial⟩
theorem K_22L2 (n:Nat) (x):Am (n+1) x=Yfg C_22 B_22L2 (S_22L2 Ac) x (Am n):=by
 obtain⟨_,_,_⟩:=x
 kernel_rfl
theorem F_22 (a):E_22.run a=Yir C_22 Try.f42 E_22.params E_22.results a λo r=>some (N_22 o r):=by
 kernel_rfl
theorem W_22:XU D_22= [B_22L2]:=by kernel_rfl
theorem Q_22:Qk Try.prog 42 Try.f42 D_22:=⟨Try.func42,by kernel_rfl,by kernel_rfl⟩
theorem H_22:Holds Try.prog 42 E_22:=
 Yi3 tabT mixT Q_22 F_22 rfl trivial W_22 ⟨Yi8 (L:=S_22L2 Ac) K_22L2 (i:=2) (by kernel_rfl),trivial⟩
theorem K_23L4 (n:Nat) (x):Ap (n+1) x=Yfg C_23 B_23L4 (S_23L4 Ac) x (Ap n):=by
 obtain⟨_,_,_,_,_⟩:=x
 kernel_rfl
theorem F_23 (a):E_23.run a=Yir C_23 Try.f48 E_23.params E_23.results a λo r=>some (N_23 o r):=by
 kernel_rfl
theorem W_23:XU D_23= [B_23L4]:=by kernel_rfl
theorem Q_23:Qk Try.prog 48 Try.f48 D_23:=⟨Try.func48,by kernel_rfl,by kernel_rfl⟩
theorem H_23:Holds Try.prog 48 E_23:=
 Yi3 tabT mixT Q_23 F_23 rfl ⟨⟨H_22,_,_,Q_22⟩,⟨⟨H_21,_,_,Q_21⟩,trivial⟩⟩ W_23 ⟨Yi8 (L:=S_23L4 Ac) K_23L4 (i:=4) (by kernel_rfl),trivial⟩
theorem K_24L2 (n:Nat) (x):BS (n+1) x=Yfg C_24 B_24L2 (S_24L2 Ac) x (BS n):=by
 obtain⟨_,_,_⟩:=x
 kernel_rfl
theorem F_24 (a):E_24.run a=Yir C_24 Try.f60 E_24.params E_24.results a λo r=>some (N_24 o r):=by
 kernel_rfl
theorem W_24:XU D_24= [B_24L2]:=by kernel_rfl
theorem Q_24:Qk Try.prog 60 Try.f60 D_24:=⟨Try.func60,by kernel_rfl,by kernel_rfl⟩
theorem H_24:Holds Try.prog 60 E_24:=
 Yi3 tabT mixT Q_24 F_24 rfl trivial W_24 ⟨Yi8 (L:=S_24L2 Ac) K_24L2 (i:=2) (by kernel_rfl),trivial⟩
theorem K_25L3 (n:Nat) (x):BF (n+1) x=Yfg C_25 B_25L3 (S_25L3 Ac) x (BF n):=by
 obtain⟨_,_,_,_⟩:=x
 kernel_rfl
theorem F_25 (a):E_25.run a=Yir C_25 Try.f40 E_25.params E_25.results a λo r=>some (N_25 o r):=by
 kernel_rfl
theorem W_25:XU D_25= [B_25L3]:=by kernel_rfl
theorem Q_25:Qk Try.prog 40 Try.f40 D_25:=⟨Try.func40,by kernel_rfl,by kernel_rfl⟩
theorem H_25:Holds Try.prog 40 E_25:=
 Yi3 tabT mixT Q_25 F_25 rfl trivial W_25 ⟨Yi8 (L:=S_25L3 Ac) K_25L3 (i:=3) (by kernel_rfl),trivial⟩
theorem Q_26:Qk Try.prog 41 Try.f41 D_26:=⟨Try.func41,by kernel_rfl,by kernel_rfl⟩
theorem H_26:Holds Try.prog 41 E_26:=Go.Proofs.H_sort_cmpT 1
theorem K_27L7 (n:Nat) (x):AZ (n+1) x=Yfg C_27 B_27L7 (S_27L7 Ac) x (AZ n):=by
 obtain⟨_,_,_,_,_,_,_⟩:=x
 kernel_rfl
theorem K_27L3 (n:Nat) (x):Ao (n+1) x=Yfg C_27 B_27L3 (S_27L3 Ac) x (Ao n):=by
 obtain⟨_,_,_⟩:=x
 kernel_rfl
theorem F_27 (a):E_27.run a=Yir C_27 Try.f70 E_27.params E_27.results a λo r=>some (N_27 o r):=by
 kernel_rfl
theorem W_27:XU D_27= [B_27L3,B_27L7]:=by kernel_rfl
theorem Q_27:Qk Try.prog 70 Try.f70 D_27:=⟨Try.func70,by kernel_rfl,by kernel_rfl⟩
theorem H_27:Holds Try.prog 70 E_27:=
 Yi3 tabT mixT Q_27 F_27 rfl ⟨⟨H_25,_,_,Q_25⟩,⟨⟨H_24,_,_,Q_24⟩,⟨⟨H_26,_,_,Q_26⟩,trivial⟩⟩⟩ W_27 ⟨Yi8 (L:=S_27L3 Ac) K_27L3 (i:=3) (by kernel_rfl),⟨Yi8 (L:=S_27L7 Ac) K_27L7 (i:=7) (by kernel_rfl),trivial⟩⟩
theorem K_28L2 (n:Nat) (x):Ag (n+1) x=Yfg C_28 B_28L2 (S_28L2 Ac) x (Ag n):=by
 obtain⟨_,_,_,_⟩:=x
 kernel_rfl
theorem F_28 (a):E_28.run a=Yir C_28 Try.f91 E_28.params E_28.results a λo r=>some (N_28 o r):=by
 kernel_rfl
theorem W_28:XU D_28= [B_28L2]:=by kernel_rfl
theorem Q_28:Qk Try.prog 91 Try.f91 D_28:=⟨Try.func91,by kernel_rfl,by kernel_rfl⟩
theorem H_28:Holds Try.prog 91 E_28:=
 Yi3 tabT mixT Q_28 F_28 rfl trivial W_28 ⟨Yi8 (L:=S_28L2 Ac) K_28L2 (i:=2) (by kernel_rfl),trivial⟩
theorem K_29L2 (n:Nat) (x):AH (n+1) x=Yfg C_29 B_29L2 (S_29L2 Ac) x (AH n):=by
 obtain⟨_,_,_,_⟩:=x
 kernel_rfl
theorem F_29 (a):E_29.run a=Yir C_29 Try.f71 E_29.params E_29.results a λo r=>some (N_29 o r):=by
 kernel_rfl
theorem W_29:XU D_29= [B_29L2]:=by kernel_rfl
theorem Q_29:Qk Try.prog 71 Try.f71 D_29:=⟨Try.func71,by kernel_rfl,by kernel_rfl⟩
theorem H_29:Holds Try.prog 71 E_29:=
 Yi3 tabT mixT Q_29 F_29 rfl ⟨⟨H_28,_,_,Q_28⟩,trivial⟩ W_29 ⟨Yi8 (L:=S_29L2 Ac) K_29L2 (i:=2) (by kernel_rfl),trivial⟩
theorem F_30 (a):E_30.run a=Yir C_30 Try.f92 E_30.params E_30.results a λo r=>some (N_30 o r):=by
 kernel_rfl
theorem W_30:XU D_30= []:=by kernel_rfl
theorem Q_30:Qk Try.prog 92 Try.f92 D_30:=⟨Try.func92,by kernel_rfl,by kernel_rfl⟩
theorem H_30:Holds Try.prog 92 E_30:=
 Yi3 tabT mixT Q_30 F_30 rfl trivial W_30 trivial
theorem F_31 (a):E_31.run a=Yir C_31 Try.f72 E_31.params E_31.results a λo r=>some (N_31 o r):=by
 kernel_rfl
theorem W_31:XU D_31= []:=by kernel_rfl
theorem Q_31:Qk Try.prog 72 Try.f72 D_31:=⟨Try.func72,by kernel_rfl,by kernel_rfl⟩
theorem H_31:Holds Try.prog 72 E_31:=
 Yi3 tabT mixT Q_31 F_31 rfl ⟨⟨H_30,_,_,Q_30⟩,trivial⟩ W_31 trivial
theorem K_32L7 (n:Nat) (x):Aj (n+1) x=Yfg C_32 B_32L7 (S_32L7 Ac) x (Aj n):=by
 obtain⟨_,_,_,_,_,_,_,_,_⟩:=x
 kernel_rfl
theorem K_32L3 (n:Nat) (x):Ai (n+1) x=Yfg C_32 B_32L3 (S_32L3 Ac) x (Ai n):=by
 obtain⟨_,_,_,_,_⟩:=x
 kernel_rfl
theorem F_32 (a):E_32.run a=Yir C_32 Try.f49 E_32.params E_32.results a λo r=>some (N_32 o r):=by
 kernel_rfl
theorem W_32:XU D_32= [B_32L3,B_32L7]:=by kernel_rfl
theorem Q_32:Qk Try.prog 49 Try.f49 D_32:=⟨Try.func49,by kernel_rfl,by kernel_rfl⟩
theorem H_32:Holds Try.prog 49 E_32:=
 Yi3 tabT mixT Q_32 F_32 rfl ⟨⟨H_27,_,_,Q_27⟩,⟨⟨H_29,_,_,Q_29⟩,⟨⟨H_31,_,_,Q_31⟩,trivial⟩⟩⟩ W_32 ⟨Yi8 (L:=S_32L3 Ac) K_32L3 (i:=3) (by kernel_rfl),⟨Yi8 (L:=S_32L7 Ac) K_32L7 (i:=7) (by kernel_rfl),trivial⟩⟩
theorem K_33L9 (n:Nat) (x):Ak (n+1) x=Yfg C_33 B_33L9 (S_33L9 Ac) x (Ak n):=by
 obtain⟨_,_,_,_,_,_,_,_,_⟩:=x
 kernel_rfl
theorem K_33L5 (n:Nat) (x):Aa (n+1) x=Yfg C_33 B_33L5 (S_33L5 Ac) x (Aa n):=by
 obtain⟨_,_,_,_⟩:=x
 kernel_rfl
theorem F_33 (a):E_33.run a=Yir C_33 Try.f18 E_33.params E_33.results a λo r=>some (N_33 o r):=by
 kernel_rfl
theorem W_33:XU D_33= [B_33L5,B_33L9]:=by kernel_rfl
theorem Q_33:Qk Try.prog 18 Try.f18 D_33:=⟨Try.func18,by kernel_rfl,by kernel_rfl⟩
theorem H_33:Holds Try.prog 18 E_33:=
 Yi3 tabT mixT Q_33 F_33 rfl ⟨⟨H_23,_,_,Q_23⟩,⟨⟨H_32,_,_,Q_32⟩,trivial⟩⟩ W_33 ⟨Yi8 (L:=S_33L5 Ac) K_33L5 (i:=5) (by kernel_rfl),⟨Yi8 (L:=S_33L9 Ac) K_33L9 (i:=9) (by kernel_rfl),trivial⟩⟩
theorem K_34L4 (n:Nat) (x):AI (n+1) x=Yfg C_34 B_34L4 (S_34L4 Ac) x (AI n):=by
 obtain⟨_,_,_⟩:=x
 kernel_rfl
theorem F_34 (a):E_34.run a=Yir C_34 Try.f19 E_34.params E_34.results a λo r=>some (N_34 o r):=by
 kernel_rfl
theorem W_34:XU D_34= [B_34L4]:=by kernel_rfl
theorem Q_34:Qk Try.prog 19 Try.f19 D_34:=⟨Try.func19,by kernel_rfl,by kernel_rfl⟩
theorem H_34:Holds Try.prog 19 E_34:=
 Yi3 tabT mixT Q_34 F_34 rfl trivial W_34 ⟨Yi8 (L:=S_34L4 Ac) K_34L4 (i:=4) (by kernel_rfl),trivial⟩
theorem K_35L4 (n:Nat) (x):AR (n+1) x=Yfg C_35 B_35L4 (S_35L4 Ac) x (AR n):=by
 obtain⟨_,_,_⟩:=x
 kernel_rfl
theorem F_35 (a):E_35.run a=Yir C_35 Try.f43 E_35.params E_35.results a λo r=>some (N_35 o r):=by
 kernel_rfl
theorem W_35:XU D_35= [B_35L4]:=by kernel_rfl
theorem Q_35:Qk Try.prog 43 Try.f43 D_35:=⟨Try.func43,by kernel_rfl,by kernel_rfl⟩
theorem H_35:Holds Try.prog 43 E_35:=
 Yi3 tabT mixT Q_35 F_35 rfl trivial W_35 ⟨Yi8 (L:=S_35L4 Ac) K_35L4 (i:=4) (by kernel_rfl),trivial⟩
theorem K_36L4 (n:Nat) (x):AJ (n+1) x=Yfg C_36 B_36L4 (S_36L4 Ac) x (AJ n):=by
 obtain⟨_,_,_⟩:=x
 kernel_rfl
theorem F_36 (a):E_36.run a=Yir C_36 Try.f10 E_36.params E_36.results a λo r=>some (N_36 o r):=by
 kernel_rfl
theorem W_36:XU D_36= [B_36L4]:=by kernel_rfl
theorem Q_36:Qk Try.prog 10 Try.f10 D_36:=⟨Try.func10,by kernel_rfl,by kernel_rfl⟩
theorem H_36:Holds Try.prog 10 E_36:=
 Yi3 tabT mixT Q_36 F_36 rfl ⟨⟨H_35,_,_,Q_35⟩,trivial⟩ W_36 ⟨Yi8 (L:=S_36L4 Ac) K_36L4 (i:=4) (by kernel_rfl),trivial⟩
theorem F_37 (a):E_37.run a=Yir C_37 Try.f20 E_37.params E_37.results a λo r=>some (N_37 o r):=by
 kernel_rfl
theorem W_37:XU D_37= []:=by kernel_rfl
theorem Q_37:Qk Try.prog 20 Try.f20 D_37:=⟨Try.func20,by kernel_rfl,by kernel_rfl⟩
theorem H_37:Holds Try.prog 20 E_37:=
 Yi3 tabT mixT Q_37 F_37 rfl ⟨⟨H_36,_,_,Q_36⟩,trivial⟩ W_37 trivial
theorem K_38L2 (n:Nat) (x):AF (n+1) x=Yfg C_38 B_38L2 (S_38L2 Ac) x (AF n):=by
 obtain⟨_,_,_⟩:=x
 kernel_rfl
theorem F_38 (a):E_38.run a=Yir C_38 Try.f44 E_38.params E_38.results a λo r=>some (N_38 o r):=by
 kernel_rfl
theorem W_38:XU D_38= [B_38L2]:=by kernel_rfl
theorem Q_38:Qk Try.prog 44 Try.f44 D_38:=⟨Try.func44,by kernel_rfl,by kernel_rfl⟩
theorem H_38:Holds Try.prog 44 E_38:=
 Yi3 tabT mixT Q_38 F_38 rfl trivial W_38 ⟨Yi8 (L:=S_38L2 Ac) K_38L2 (i:=2) (by kernel_rfl),trivial⟩
theorem K_39L2 (n:Nat) (x):AB (n+1) x=Yfg C_39 B_39L2 (S_39L2 Ac) x (AB n):=by
 obtain⟨_,_,_⟩:=x
 kernel_rfl
theorem F_39 (a):E_39.run a=Yir C_39 Try.f13 E_39.params E_39.results a λo r=>some (N_39 o r):=by
 kernel_rfl
theorem W_39:XU D_39= [B_39L2]:=by kernel_rfl
theorem Q_39:Qk Try.prog 13 Try.f13 D_39:=⟨Try.func13,by kernel_rfl,by kernel_rfl⟩
theorem H_39:Holds Try.prog 13 E_39:=
 Yi3 tabT mixT Q_39 F_39 rfl ⟨⟨H_38,_,_,Q_38⟩,trivial⟩ W_39 ⟨Yi8 (L:=S_39L2 Ac) K_39L2 (i:=2) (by kernel_rfl),trivial⟩
theorem F_40 (a):E_40.run a=Yir C_40 Try.f21 E_40.params E_40.results a λo r=>some (N_40 o r):=by
 kernel_rfl
theorem W_40:XU D_40= []:=by kernel_rfl
theorem Q_40:Qk Try.prog 21 Try.f21 D_40:=⟨Try.func21,by kernel_rfl,by kernel_rfl⟩
theorem H_40:Holds Try.prog 21 E_40:=
 Yi3 tabT mixT Q_40 F_40 rfl ⟨⟨H_39,_,_,Q_39⟩,trivial⟩ W_40 trivial
theorem K_41L2 (n:Nat) (x):AA (n+1) x=Yfg C_41 B_41L2 (S_41L2 Ac) x (AA n):=by
 obtain⟨_,_,_⟩:=x
 kernel_rfl
theorem F_41 (a):E_41.run a=Yir C_41 Try.f22 E_41.params E_41.results a λo r=>some (N_41 o r):=by
 kernel_rfl
theorem W_41:XU D_41= [B_41L2]:=by kernel_rfl
theorem Q_41:Qk Try.prog 22 Try.f22 D_41:=⟨Try.func22,by kernel_rfl,by kernel_rfl⟩
theorem H_41:Holds Try.prog 22 E_41:=
 Yi3 tabT mixT Q_41 F_41 rfl trivial W_41 ⟨Yi8 (L:=S_41L2 Ac) K_41L2 (i:=2) (by kernel_rfl),trivial⟩
theorem K_42L2 (n:Nat) (x):Az (n+1) x=Yfg C_42 B_42L2 (S_42L2 Ac) x (Az n):=by
 obtain⟨_,_,_⟩:=x
 kernel_rfl
theorem F_42 (a):E_42.run a=Yir C_42 Try.f23 E_42.params E_42.results a λo r=>some (N_42 o r):=by
 kernel_rfl
theorem W_42:XU D_42= [B_42L2]:=by kernel_rfl
theorem Q_42:Qk Try.prog 23 Try.f23 D_42:=⟨Try.func23,by kernel_rfl,by kernel_rfl⟩
theorem H_42:Holds Try.prog 23 E_42:=
 Yi3 tabT mixT Q_42 F_42 rfl trivial W_42 ⟨Yi8 (L:=S_42L2 Ac) K_42L2 (i:=2) (by kernel_rfl),trivial⟩
theorem F_43 (a):E_43.run a=Yir C_43 Try.f4 E_43.params E_43.results a λo r=>some (N_43 o r):=by
 kernel_rfl
theorem W_43:XU D_43= []:=by kernel_rfl
theorem Q_43:Qk Try.prog 4 Try.f4 D_43:=⟨Try.func4,by kernel_rfl,by kernel_rfl⟩
theorem H_43:Holds Try.prog 4 E_43:=
 Yi3 tabT mixT Q_43 F_43 rfl ⟨⟨H_3,_,_,Q_3⟩,⟨⟨H_20,_,_,Q_20⟩,⟨⟨H_6,_,_,Q_6⟩,⟨⟨H_33,_,_,Q_33⟩,⟨⟨H_34,_,_,Q_34⟩,⟨⟨H_37,_,_,Q_37⟩,⟨⟨H_40,_,_,Q_40⟩,⟨⟨H_41,_,_,Q_41⟩,⟨⟨H_42,_,_,Q_42⟩,trivial⟩⟩⟩⟩⟩⟩⟩⟩⟩ W_43 trivial
end T
