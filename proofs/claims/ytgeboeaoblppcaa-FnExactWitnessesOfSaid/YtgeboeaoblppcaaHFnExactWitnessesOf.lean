/- Each typed function is what the program computes; no conditions. -/
import Derived.Test.YtgeboeaoblppcaaSFnExactWitnessesOf
import Derived.Test.YtgeboeaoblppcaaCFnExactWitnessesOf
set_option linter.all false
set_option maxRecDepth 10000
open Go Go.Va Go.Proofs
namespace T
theorem F_1 (a):E_1.run a=Yir C_1 Try.f28 E_1.params E_1.results a λo r=>some (N_1 o r):=by
 kernel_rfl
theorem W_1:XU D_1= []:=by kernel_rfl
theorem Q_1:Qk Try.prog 28 Try.f28 D_1:=⟨Try.func28,by kernel_rfl,by kernel_rfl⟩
theorem H_1:Holds Try.prog 28 E_1:=
 Yi3 tabT mixT Q_1 F_1 rfl trivial W_1 trivial
theorem K_2L5 (n:Nat) (x):AJ (n+1) x=Yfg C_2 B_2L5 (S_2L5 Af) x (AJ n):=by
 obtain⟨_,_,_⟩:=x
 kernel_rfl
theorem F_2 (a):E_2.run a=Yir C_2 Try.f7 E_2.params E_2.results a λo r=>some (N_2 o r):=by
 kernel_rfl
theorem W_2:XU D_2= [B_2L5]:=by kernel_rfl
theorem Q_2:Qk Try.prog 7 Try.f7 D_2:=⟨Try.func7,by kernel_rfl,by kernel_rfl⟩
theorem H_2:Holds Try.prog 7 E_2:=
 Yi3 tabT mixT Q_2 F_2 rfl ⟨⟨H_1,_,_,Q_1⟩,trivial⟩ W_2 ⟨Yi8 (L:=S_2L5 Af) K_2L5 (i:=5) (by kernel_rfl),trivial⟩
theorem K_3L3 (n:Nat) (x):AN (n+1) x=Yfg C_3 B_3L3 (S_3L3 Af) x (AN n):=by
 obtain⟨_,_,_⟩:=x
 kernel_rfl
theorem F_3 (a):E_3.run a=Yir C_3 Try.f32 E_3.params E_3.results a λo r=>some (N_3 o r):=by
 kernel_rfl
theorem W_3:XU D_3= [B_3L3]:=by kernel_rfl
theorem Q_3:Qk Try.prog 32 Try.f32 D_3:=⟨Try.func32,by kernel_rfl,by kernel_rfl⟩
theorem H_3:Holds Try.prog 32 E_3:=
 Yi3 tabT mixT Q_3 F_3 rfl trivial W_3 ⟨Yi8 (L:=S_3L3 Af) K_3L3 (i:=3) (by kernel_rfl),trivial⟩
theorem K_4L3 (n:Nat) (x):AK (n+1) x=Yfg C_4 B_4L3 (S_4L3 Af) x (AK n):=by
 obtain⟨_,_,_⟩:=x
 kernel_rfl
theorem F_4 (a):E_4.run a=Yir C_4 Try.f10 E_4.params E_4.results a λo r=>some (N_4 o r):=by
 kernel_rfl
theorem W_4:XU D_4= [B_4L3]:=by kernel_rfl
theorem Q_4:Qk Try.prog 10 Try.f10 D_4:=⟨Try.func10,by kernel_rfl,by kernel_rfl⟩
theorem H_4:Holds Try.prog 10 E_4:=
 Yi3 tabT mixT Q_4 F_4 rfl ⟨⟨H_3,_,_,Q_3⟩,trivial⟩ W_4 ⟨Yi8 (L:=S_4L3 Af) K_4L3 (i:=3) (by kernel_rfl),trivial⟩
theorem F_5 (a):E_5.run a=Yir C_5 Try.f59 E_5.params E_5.results a λo r=>some (N_5 o r):=by
 kernel_rfl
theorem W_5:XU D_5= []:=by kernel_rfl
theorem Q_5:Qk Try.prog 59 Try.f59 D_5:=⟨Try.func59,by kernel_rfl,by kernel_rfl⟩
theorem H_5:Holds Try.prog 59 E_5:=
 Yi3 tabT mixT Q_5 F_5 rfl trivial W_5 trivial
theorem F_6 (a):E_6.run a=Yir C_6 Try.f55 E_6.params E_6.results a λo r=>some (N_6 o r):=by
 kernel_rfl
theorem W_6:XU D_6= []:=by kernel_rfl
theorem Q_6:Qk Try.prog 55 Try.f55 D_6:=⟨Try.func55,by kernel_rfl,by kernel_rfl⟩
theorem H_6:Holds Try.prog 55 E_6:=
 Yi3 tabT mixT Q_6 F_6 rfl ⟨⟨H_5,_,_,Q_5⟩,trivial⟩ W_6 trivial
theorem K_7L2 (n:Nat) (x):Bg (n+1) x=Yfg C_7 B_7L2 (S_7L2 Af) x (Bg n):=by
 obtain⟨_,_,_⟩:=x
 kernel_rfl
theorem F_7 (a):E_7.run a=Yir C_7 Try.f60 E_7.params E_7.results a λo r=>some (N_7 o r):=by
 kernel_rfl
theorem W_7:XU D_7= [B_7L2]:=by kernel_rfl
theorem Q_7:Qk Try.prog 60 Try.f60 D_7:=⟨Try.func60,by kernel_rfl,by kernel_rfl⟩
theorem H_7:Holds Try.prog 60 E_7:=
 Yi3 tabT mixT Q_7 F_7 rfl trivial W_7 ⟨Yi8 (L:=S_7L2 Af) K_7L2 (i:=2) (by kernel_rfl),trivial⟩
theorem K_8L2 (n:Nat) (x):Aw (n+1) x=Yfg C_8 B_8L2 (S_8L2 Af) x (Aw n):=by
 obtain⟨_,_,_⟩:=x
 kernel_rfl
theorem F_8 (a):E_8.run a=Yir C_8 Try.f91 E_8.params E_8.results a λo r=>some (N_8 o r):=by
 kernel_rfl
theorem W_8:XU D_8= [B_8L2]:=by kernel_rfl
theorem Q_8:Qk Try.prog 91 Try.f91 D_8:=⟨Try.func91,by kernel_rfl,by kernel_rfl⟩
theorem H_8:Holds Try.prog 91 E_8:=
 Yi3 tabT mixT Q_8 F_8 rfl ⟨⟨H_5,_,_,Q_5⟩,trivial⟩ W_8 ⟨Yi8 (L:=S_8L2 Af) K_8L2 (i:=2) (by kernel_rfl),trivial⟩
theorem F_9 (a):E_9.run a=Yir C_9 Try.f61 E_9.params E_9.results a λo r=>some (N_9 o r):=by
 kernel_rfl
theorem W_9:XU D_9= []:=by kernel_rfl
theorem Q_9:Qk Try.prog 61 Try.f61 D_9:=⟨Try.func61,by kernel_rfl,by kernel_rfl⟩
theorem H_9:Holds Try.prog 61 E_9:=
 Yi3 tabT mixT Q_9 F_9 rfl ⟨⟨H_8,_,_,Q_8⟩,trivial⟩ W_9 trivial
theorem K_10L2 (n:Nat) (x):AQ (n+1) x=Yfg C_10 B_10L2 (S_10L2 Af) x (AQ n):=by
 obtain⟨_,_,_⟩:=x
 kernel_rfl
theorem F_10 (a):E_10.run a=Yir C_10 Try.f62 E_10.params E_10.results a λo r=>some (N_10 o r):=by
 kernel_rfl
theorem W_10:XU D_10= [B_10L2]:=by kernel_rfl
theorem Q_10:Qk Try.prog 62 Try.f62 D_10:=⟨Try.func62,by kernel_rfl,by kernel_rfl⟩
theorem H_10:Holds Try.prog 62 E_10:=
 Yi3 tabT mixT Q_10 F_10 rfl trivial W_10 ⟨Yi8 (L:=S_10L2 Af) K_10L2 (i:=2) (by kernel_rfl),trivial⟩
theorem K_11L4 (n:Nat) (x):AF (n+1) x=Yfg C_11 B_11L4 (S_11L4 Af) x (AF n):=by
 obtain⟨_,_,_,_⟩:=x
 kernel_rfl
theorem F_11 (a):E_11.run a=Yir C_11 Try.f29 E_11.params E_11.results a λo r=>some (N_11 o r):=by
 kernel_rfl
theorem W_11:XU D_11= [B_11L4]:=by kernel_rfl
theorem Q_11:Qk Try.prog 29 Try.f29 D_11:=⟨Try.func29,by kernel_rfl,by kernel_rfl⟩
theorem H_11:Holds Try.prog 29 E_11:=
 Yi3 tabT mixT Q_11 F_11 rfl ⟨⟨H_6,_,_,Q_6⟩,⟨⟨H_5,_,_,Q_5⟩,⟨⟨H_7,_,_,Q_7⟩,⟨⟨H_9,_,_,Q_9⟩,⟨⟨H_10,_,_,Q_10⟩,trivial⟩⟩⟩⟩⟩ W_11 ⟨Yi8 (L:=S_11L4 Af) K_11L4 (i:=4) (by kernel_rfl),trivial⟩
theorem K_12L4 (n:Nat) (x):AP (n+1) x=Yfg C_12 B_12L4 (S_12L4 Af) x (AP n):=by
 obtain⟨_,_,_⟩:=x
 kernel_rfl
theorem F_12 (a):E_12.run a=Yir C_12 Try.f93 E_12.params E_12.results a λo r=>some (N_12 o r):=by
 kernel_rfl
theorem W_12:XU D_12= [B_12L4]:=by kernel_rfl
theorem Q_12:Qk Try.prog 93 Try.f93 D_12:=⟨Try.func93,by kernel_rfl,by kernel_rfl⟩
theorem H_12:Holds Try.prog 93 E_12:=
 Yi3 tabT mixT Q_12 F_12 rfl trivial W_12 ⟨Yi8 (L:=S_12L4 Af) K_12L4 (i:=4) (by kernel_rfl),trivial⟩
theorem K_13L5 (n:Nat) (x):Ak (n+1) x=Yfg C_13 B_13L5 (S_13L5 Af) x (Ak n):=by
 obtain⟨_,_,_,_,_,_⟩:=x
 kernel_rfl
theorem K_13L2 (n:Nat) (x):Ax (n+1) x=Yfg C_13 B_13L2 (S_13L2 Af) x (Ax n):=by
 obtain⟨_,_,_,_,_⟩:=x
 kernel_rfl
theorem F_13 (a):E_13.run a=Yir C_13 Try.f73 E_13.params E_13.results a λo r=>some (N_13 o r):=by
 kernel_rfl
theorem W_13:XU D_13= [B_13L2,B_13L5]:=by kernel_rfl
theorem Q_13:Qk Try.prog 73 Try.f73 D_13:=⟨Try.func73,by kernel_rfl,by kernel_rfl⟩
theorem H_13:Holds Try.prog 73 E_13:=
 Yi3 tabT mixT Q_13 F_13 rfl ⟨⟨H_12,_,_,Q_12⟩,trivial⟩ W_13 ⟨Yi8 (L:=S_13L2 Af) K_13L2 (i:=2) (by kernel_rfl),⟨Yi8 (L:=S_13L5 Af) K_13L5 (i:=5) (by kernel_rfl),trivial⟩⟩
theorem F_14 (a):E_14.run a=Yir C_14 Try.f64 E_14.params E_14.results a λo r=>some (N_14 o r):=by
 kernel_rfl
theorem W_14:XU D_14= []:=by kernel_rfl
theorem Q_14:Qk Try.prog 64 Try.f64 D_14:=⟨Try.func64,by kernel_rfl,by kernel_rfl⟩
theorem H_14:Holds Try.prog 64 E_14:=
 Yi3 tabT mixT Q_14 F_14 rfl trivial W_14 trivial
theorem K_15L2 (n:Nat) (x):AG (n+1) x=Yfg C_15 B_15L2 (S_15L2 Af) x (AG n):=by
 obtain⟨_,_,_,_⟩:=x
 kernel_rfl
theorem F_15 (a):E_15.run a=Yir C_15 Try.f66 E_15.params E_15.results a λo r=>some (N_15 o r):=by
 kernel_rfl
theorem W_15:XU D_15= [B_15L2]:=by kernel_rfl
theorem Q_15:Qk Try.prog 66 Try.f66 D_15:=⟨Try.func66,by kernel_rfl,by kernel_rfl⟩
theorem H_15:Holds Try.prog 66 E_15:=
 Yi3 tabT mixT Q_15 F_15 rfl ⟨⟨H_10,_,_,Q_10⟩,⟨⟨H_12,_,_,Q_12⟩,trivial⟩⟩ W_15 ⟨Yi8 (L:=S_15L2 Af) K_15L2 (i:=2) (by kernel_rfl),trivial⟩
theorem F_16 (a):E_16.run a=Yir C_16 Try.f67 E_16.params E_16.results a λo r=>some (N_16 o r):=by
 kernel_rfl
theorem W_16:XU D_16= []:=by kernel_rfl
theorem Q_16:Qk Try.prog 67 Try.f67 D_16:=⟨Try.func67,by kernel_rfl,by kernel_rfl⟩
theorem H_16:Holds Try.prog 67 E_16:=
 Yi3 tabT mixT Q_16 F_16 rfl ⟨⟨H_15,_,_,Q_15⟩,trivial⟩ W_16 trivial
theorem K_17L9 (n:Nat) (x):An (n+1) x=Yfg C_17 B_17L9 (S_17L9 Af) x (An n):=by
 obtain⟨_,_,_,_,_,_,_,_⟩:=x
 kernel_rfl
theorem K_17L6 (n:Nat) (x):Av (n+1) x=Yfg C_17 B_17L6 (S_17L6 Af) x (Av n):=by
 obtain⟨_,_,_,_,_,_,_⟩:=x
 kernel_rfl
theorem K_17L3 (n:Nat) (x):Au (n+1) x=Yfg C_17 B_17L3 (S_17L3 Af) x (Au n):=by
 obtain⟨_,_,_,_,_,_⟩:=x
 kernel_rfl
theorem F_17 (a):E_17.run a=Yir C_17 Try.f38 E_17.params E_17.results a λo r=>some (N_17 o r):=by
 kernel_rfl
theorem W_17:XU D_17= [B_17L3,B_17L6,B_17L9]:=by kernel_rfl
theorem Q_17:Qk Try.prog 38 Try.f38 D_17:=⟨Try.func38,by kernel_rfl,by kernel_rfl⟩
theorem H_17:Holds Try.prog 38 E_17:=
 Yi3 tabT mixT Q_17 F_17 rfl ⟨⟨H_14,_,_,Q_14⟩,⟨⟨H_16,_,_,Q_16⟩,⟨⟨H_13,_,_,Q_13⟩,trivial⟩⟩⟩ W_17 ⟨Yi8 (L:=S_17L3 Af) K_17L3 (i:=3) (by kernel_rfl),⟨Yi8 (L:=S_17L6 Af) K_17L6 (i:=6) (by kernel_rfl),⟨Yi8 (L:=S_17L9 Af) K_17L9 (i:=9) (by kernel_rfl),trivial⟩⟩⟩
theorem F_18 (a):E_18.run a=Yir C_18 Try.f17 E_18.params E_18.results a λo r=>some (N_18 o r):=by
 kernel_rfl
theorem W_18:XU D_18= []:=by kernel_rfl
theorem Q_18:Qk Try.prog 17 Try.f17 D_18:=⟨Try.func17,by kernel_rfl,by kernel_rfl⟩
theorem H_18:Holds Try.prog 17 E_18:=
 Yi3 tabT mixT Q_18 F_18 rfl ⟨⟨H_11,_,_,Q_11⟩,⟨⟨H_17,_,_,Q_17⟩,trivial⟩⟩ W_18 trivial
theorem F_19 (a):E_19.run a=Yir C_19 Try.f48 E_19.params E_19.results a λo r=>some (N_19 o r):=by
 kernel_rfl
theorem W_19:XU D_19= []:=by kernel_rfl
theorem Q_19:Qk Try.prog 48 Try.f48 D_19:=⟨Try.func48,by kernel_rfl,by kernel_rfl⟩
theorem H_19:Holds Try.prog 48 E_19:=
 Yi3 tabT mixT Q_19 F_19 rfl trivial W_19 trivial
theorem K_20L2 (n:Nat) (x):AL (n+1) x=Yfg C_20 B_20L2 (S_20L2 Af) x (AL n):=by
 obtain⟨_,_,_,_⟩:=x
 kernel_rfl
theorem F_20 (a):E_20.run a=Yir C_20 Try.f71 E_20.params E_20.results a λo r=>some (N_20 o r):=by
 kernel_rfl
theorem W_20:XU D_20= [B_20L2]:=by kernel_rfl
theorem Q_20:Qk Try.prog 71 Try.f71 D_20:=⟨Try.func71,by kernel_rfl,by kernel_rfl⟩
theorem H_20:Holds Try.prog 71 E_20:=
 Yi3 tabT mixT Q_20 F_20 rfl trivial W_20 ⟨Yi8 (L:=S_20L2 Af) K_20L2 (i:=2) (by kernel_rfl),trivial⟩
theorem K_21L2 (n:Nat) (x):Am (n+1) x=Yfg C_21 B_21L2 (S_21L2 Af) x (Am n):=by
 obtain⟨_,_,_⟩:=x
 kernel_rfl
theorem F_21 (a):E_21.run a=Yir C_21 Try.f47 E_21.params E_21.results a λo r=>some (N_21 o r):=by
 kernel_rfl
theorem W_21:XU D_21= [B_21L2]:=by kernel_rfl
theorem Q_21:Qk Try.prog 47 Try.f47 D_21:=⟨Try.func47,by kernel_rfl,by kernel_rfl⟩
theorem H_21:Holds Try.prog 47 E_21:=
 Yi3 tabT mixT Q_21 F_21 rfl trivial W_21 ⟨Yi8 (L:=S_21L2 Af) K_21L2 (i:=2) (by kernel_rfl),trivial⟩
theorem K_22L4 (n:Nat) (x):Aq (n+1) x=Yfg C_22 B_22L4 (S_22L4 Af) x (Aq n):=by
 obtain⟨_,_,_,_,_,_⟩:=x
 kernel_rfl
theorem F_22 (a):E_22.run a=Yir C_22 Try.f33 E_22.params E_22.results a λo r=>some (N_22 o r):=by
 kernel_rfl
theorem W_22:XU D_22= [B_22L4]:=by kernel_rfl
theorem Q_22:Qk Try.prog 33 Try.f33 D_22:=⟨Try.func33,by kernel_rfl,by kernel_rfl⟩
theorem H_22:Holds Try.prog 33 E_22:=
 Yi3 tabT mixT Q_22 F_22 rfl ⟨⟨H_21,_,_,Q_21⟩,⟨⟨H_19,_,_,Q_19⟩,⟨⟨H_20,_,_,Q_20⟩,trivial⟩⟩⟩ W_22 ⟨Yi8 (L:=S_22L4 Af) K_22L4 (i:=4) (by kernel_rfl),trivial⟩
theorem K_23L4 (n:Nat) (x):AA (n+1) x=Yfg C_23 B_23L4 (S_23L4 Af) x (AA n):=by
 obtain⟨_,_,_,_⟩:=x
 kernel_rfl
theorem F_23 (a):E_23.run a=Yir C_23 Try.f74 E_23.params E_23.results a λo r=>some (N_23 o r):=by
 kernel_rfl
theorem W_23:XU D_23= [B_23L4]:=by kernel_rfl
theorem Q_23:Qk Try.prog 74 Try.f74 D_23:=⟨Try.func74,by kernel_rfl,by kernel_rfl⟩
theorem H_23:Holds Try.prog 74 E_23:=
 Yi3 tabT mixT Q_23 F_23 rfl trivial W_23 ⟨Yi8 (L:=S_23L4 Af) K_23L4 (i:=4) (by kernel_rfl),trivial⟩
theorem F_24 (a):E_24.run a=Yir C_24 Try.f82 E_24.params E_24.results a λo r=>some (N_24 o r):=by
 kernel_rfl
theorem W_24:XU D_24= []:=by kernel_rfl
theorem Q_24:Qk Try.prog 82 Try.f82 D_24:=⟨Try.func82,by kernel_rfl,by kernel_rfl⟩
theorem H_24:Holds Try.prog 82 E_24:=
 Yi3 tabT mixT Q_24 F_24 rfl trivial W_24 trivial
theorem K_25L3 (n:Nat) (x):As (n+1) x=Yfg C_25 B_25L3 (S_25L3 Af) x (As n):=by
 obtain⟨_,_,_,_⟩:=x
 kernel_rfl
theorem F_25 (a):E_25.run a=Yir C_25 Try.f75 E_25.params E_25.results a λo r=>some (N_25 o r):=by
 kernel_rfl
theorem W_25:XU D_25= [B_25L3]:=by kernel_rfl
theorem Q_25:Qk Try.prog 75 Try.f75 D_25:=⟨Try.func75,by kernel_rfl,by kernel_rfl⟩
theorem H_25:Holds Try.prog 75 E_25:=
 Yi3 tabT mixT Q_25 F_25 rfl ⟨⟨H_24,_,_,Q_24⟩,trivial⟩ W_25 ⟨Yi8 (L:=S_25L3 Af) K_25L3 (i:=3) (by kernel_rfl),trivial⟩
theorem Q_26:Qk Try.prog 46 Try.f46 D_26:=⟨Try.func46,by kernel_rfl,by kernel_rfl⟩
theorem H_26:Holds Try.prog 46 E_26:=Go.Proofs.H_sort_cmpL 1
theorem F_27 (a):E_27.run a=Yir C_27 Try.f42 E_27.params E_27.results a λo r=>some (N_27 o r):=by
 kernel_rfl
theorem W_27:XU D_27= []:=by kernel_rfl
theorem Q_27:Qk Try.prog 42 Try.f42 D_27:=⟨Try.func42,by kernel_rfl,by kernel_rfl⟩
theorem H_27:Holds Try.prog 42 E_27:=
 Yi3 tabT mixT Q_27 F_27 rfl ⟨⟨H_25,_,_,Q_25⟩,⟨⟨H_26,_,_,Q_26⟩,trivial⟩⟩ W_27 trivial
theorem Q_28:Qk Try.prog 41 Try.f41 D_28:=⟨Try.func41,by kernel_rfl,by kernel_rfl⟩
theorem H_28:Holds Try.prog 41 E_28:=Go.Proofs.H_diff 1
theorem F_29 (a):E_29.run a=Yir C_29 Try.f40 E_29.params E_29.results a λo r=>some (N_29 o r):=by
 kernel_rfl
theorem W_29:XU D_29= []:=by kernel_rfl
theorem Q_29:Qk Try.prog 40 Try.f40 D_29:=⟨Try.func40,by kernel_rfl,by kernel_rfl⟩
theorem H_29:Holds Try.prog 40 E_29:=
 Yi3 tabT mixT Q_29 F_29 rfl trivial W_29 trivial
theorem K_30L7 (n:Nat) (x):Aa (n+1) x=Yfg C_30 B_30L7 (S_30L7 Af) x (Aa n):=by
 obtain⟨_,_,_,_,_,_,_⟩:=x
 kernel_rfl
theorem K_30L15 (n:Nat) (x):Ae (n+1) x=Yfg C_30 B_30L15 (S_30L15 Af) x (Ae n):=by
 obtain⟨_,_,_,_,_,_,_,_,_,_,_,_,_⟩:=x
 kernel_rfl
theorem K_30L12 (n:Nat) (x):Ad (n+1) x=Yfg C_30 B_30L12 (S_30L12 Af) x (Ad n):=by
 obtain⟨_,_,_,_,_,_,_,_,_⟩:=x
 kernel_rfl
theorem K_30L4 (n:Nat) (x):Ac (n+1) x=Yfg C_30 B_30L4 (S_30L4 Af) x (Ac n):=by
 obtain⟨_,_,_,_,_⟩:=x
 kernel_rfl
theorem K_30L1 (n:Nat) (x):Ab (n+1) x=Yfg C_30 B_30L1 (S_30L1 Af) x (Ab n):=by
 obtain⟨_,_,_,_⟩:=x
 kernel_rfl
theorem F_30 (a):E_30.run a=Yir C_30 Try.f39 E_30.params E_30.results a λo r=>some (N_30 o r):=by
 kernel_rfl
theorem W_30:XU D_30= [B_30L1,B_30L4,B_30L7,B_30L12,B_30L15]:=by kernel_rfl
theorem Q_30:Qk Try.prog 39 Try.f39 D_30:=⟨Try.func39,by kernel_rfl,by kernel_rfl⟩
theorem H_30:Holds Try.prog 39 E_30:=
 Yi3 tabT mixT Q_30 F_30 rfl ⟨⟨H_29,_,_,Q_29⟩,⟨⟨H_23,_,_,Q_23⟩,trivial⟩⟩ W_30 ⟨Yi8 (L:=S_30L1 Af) K_30L1 (i:=1) (by kernel_rfl),⟨Yi8 (L:=S_30L4 Af) K_30L4 (i:=4) (by kernel_rfl),⟨Yi8 (L:=S_30L7 Af) K_30L7 (i:=7) (by kernel_rfl),⟨Yi8 (L:=S_30L12 Af) K_30L12 (i:=12) (by kernel_rfl),⟨Yi8 (L:=S_30L15 Af) K_30L15 (i:=15) (by kernel_rfl),trivial⟩⟩⟩⟩⟩
theorem F_31 (a):E_31.run a=Yir C_31 Try.f18 E_31.params E_31.results a λo r=>some (N_31 o r):=by
 kernel_rfl
theorem W_31:XU D_31= []:=by kernel_rfl
theorem Q_31:Qk Try.prog 18 Try.f18 D_31:=⟨Try.func18,by kernel_rfl,by kernel_rfl⟩
theorem H_31:Holds Try.prog 18 E_31:=
 Yi3 tabT mixT Q_31 F_31 rfl ⟨⟨H_22,_,_,Q_22⟩,⟨⟨H_28,_,_,Q_28⟩,⟨⟨H_27,_,_,Q_27⟩,⟨⟨H_30,_,_,Q_30⟩,trivial⟩⟩⟩⟩ W_31 trivial
theorem K_32L4 (n:Nat) (x):AM (n+1) x=Yfg C_32 B_32L4 (S_32L4 Af) x (AM n):=by
 obtain⟨_,_,_⟩:=x
 kernel_rfl
theorem F_32 (a):E_32.run a=Yir C_32 Try.f35 E_32.params E_32.results a λo r=>some (N_32 o r):=by
 kernel_rfl
theorem W_32:XU D_32= [B_32L4]:=by kernel_rfl
theorem Q_32:Qk Try.prog 35 Try.f35 D_32:=⟨Try.func35,by kernel_rfl,by kernel_rfl⟩
theorem H_32:Holds Try.prog 35 E_32:=
 Yi3 tabT mixT Q_32 F_32 rfl trivial W_32 ⟨Yi8 (L:=S_32L4 Af) K_32L4 (i:=4) (by kernel_rfl),trivial⟩
theorem K_33L4 (n:Nat) (x):AI (n+1) x=Yfg C_33 B_33L4 (S_33L4 Af) x (AI n):=by
 obtain⟨_,_,_⟩:=x
 kernel_rfl
theorem F_33 (a):E_33.run a=Yir C_33 Try.f12 E_33.params E_33.results a λo r=>some (N_33 o r):=by
 kernel_rfl
theorem W_33:XU D_33= [B_33L4]:=by kernel_rfl
theorem Q_33:Qk Try.prog 12 Try.f12 D_33:=⟨Try.func12,by kernel_rfl,by kernel_rfl⟩
theorem H_33:Holds Try.prog 12 E_33:=
 Yi3 tabT mixT Q_33 F_33 rfl ⟨⟨H_32,_,_,Q_32⟩,trivial⟩ W_33 ⟨Yi8 (L:=S_33L4 Af) K_33L4 (i:=4) (by kernel_rfl),trivial⟩
theorem K_34L2 (n:Nat) (x):AC (n+1) x=Yfg C_34 B_34L2 (S_34L2 Af) x (AC n):=by
 obtain⟨_,_,_⟩:=x
 kernel_rfl
theorem F_34 (a):E_34.run a=Yir C_34 Try.f36 E_34.params E_34.results a λo r=>some (N_34 o r):=by
 kernel_rfl
theorem W_34:XU D_34= [B_34L2]:=by kernel_rfl
theorem Q_34:Qk Try.prog 36 Try.f36 D_34:=⟨Try.func36,by kernel_rfl,by kernel_rfl⟩
theorem H_34:Holds Try.prog 36 E_34:=
 Yi3 tabT mixT Q_34 F_34 rfl trivial W_34 ⟨Yi8 (L:=S_34L2 Af) K_34L2 (i:=2) (by kernel_rfl),trivial⟩
theorem K_35L2 (n:Nat) (x):Az (n+1) x=Yfg C_35 B_35L2 (S_35L2 Af) x (Az n):=by
 obtain⟨_,_,_⟩:=x
 kernel_rfl
theorem F_35 (a):E_35.run a=Yir C_35 Try.f15 E_35.params E_35.results a λo r=>some (N_35 o r):=by
 kernel_rfl
theorem W_35:XU D_35= [B_35L2]:=by kernel_rfl
theorem Q_35:Qk Try.prog 15 Try.f15 D_35:=⟨Try.func15,by kernel_rfl,by kernel_rfl⟩
theorem H_35:Holds Try.prog 15 E_35:=
 Yi3 tabT mixT Q_35 F_35 rfl ⟨⟨H_34,_,_,Q_34⟩,trivial⟩ W_35 ⟨Yi8 (L:=S_35L2 Af) K_35L2 (i:=2) (by kernel_rfl),trivial⟩
theorem K_36L2 (n:Nat) (x):AB (n+1) x=Yfg C_36 B_36L2 (S_36L2 Af) x (AB n):=by
 obtain⟨_,_,_⟩:=x
 kernel_rfl
theorem F_36 (a):E_36.run a=Yir C_36 Try.f37 E_36.params E_36.results a λo r=>some (N_36 o r):=by
 kernel_rfl
theorem W_36:XU D_36= [B_36L2]:=by kernel_rfl
theorem Q_36:Qk Try.prog 37 Try.f37 D_36:=⟨Try.func37,by kernel_rfl,by kernel_rfl⟩
theorem H_36:Holds Try.prog 37 E_36:=
 Yi3 tabT mixT Q_36 F_36 rfl trivial W_36 ⟨Yi8 (L:=S_36L2 Af) K_36L2 (i:=2) (by kernel_rfl),trivial⟩
theorem K_37L2 (n:Nat) (x):Ay (n+1) x=Yfg C_37 B_37L2 (S_37L2 Af) x (Ay n):=by
 obtain⟨_,_,_⟩:=x
 kernel_rfl
theorem F_37 (a):E_37.run a=Yir C_37 Try.f16 E_37.params E_37.results a λo r=>some (N_37 o r):=by
 kernel_rfl
theorem W_37:XU D_37= [B_37L2]:=by kernel_rfl
theorem Q_37:Qk Try.prog 16 Try.f16 D_37:=⟨Try.func16,by kernel_rfl,by kernel_rfl⟩
theorem H_37:Holds Try.prog 16 E_37:=
 Yi3 tabT mixT Q_37 F_37 rfl ⟨⟨H_36,_,_,Q_36⟩,trivial⟩ W_37 ⟨Yi8 (L:=S_37L2 Af) K_37L2 (i:=2) (by kernel_rfl),trivial⟩
theorem F_38 (a):E_38.run a=Yir C_38 Try.f4 E_38.params E_38.results a λo r=>some (N_38 o r):=by
 kernel_rfl
theorem W_38:XU D_38= []:=by kernel_rfl
theorem Q_38:Qk Try.prog 4 Try.f4 D_38:=⟨Try.func4,by kernel_rfl,by kernel_rfl⟩
theorem H_38:Holds Try.prog 4 E_38:=
 Yi3 tabT mixT Q_38 F_38 rfl ⟨⟨H_2,_,_,Q_2⟩,⟨⟨H_4,_,_,Q_4⟩,⟨⟨H_33,_,_,Q_33⟩,⟨⟨H_35,_,_,Q_35⟩,⟨⟨H_37,_,_,Q_37⟩,⟨⟨H_18,_,_,Q_18⟩,⟨⟨H_31,_,_,Q_31⟩,trivial⟩⟩⟩⟩⟩⟩⟩ W_38 trivial
end T
