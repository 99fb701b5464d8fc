/- Each typed function is what the program computes; no conditions. -/
import Derived.Test.YtgeboeaoblppcacCFnArcConsistency
set_option linter.all false
set_option maxRecDepth 10000
open Go Go.Va Go.Proofs
namespace T
theorem F_1 (a):E_1.run a=Yir C_1 Try.f5 E_1.params E_1.results a λo r=>some (N_1 o r):=by
 kernel_rfl
theorem W_1:XU D_1= []:=by kernel_rfl
theorem Q_1:Qk Try.prog 5 Try.f5 D_1:=⟨Try.func5,by kernel_rfl,by kernel_rfl⟩
theorem H_1:Holds Try.prog 5 E_1:=
 Yi3 tabT mixT Q_1 F_1 rfl trivial W_1 trivial
theorem F_2 (a):E_2.run a=Yir C_2 Try.f120 E_2.params E_2.results a λo r=>some (N_2 o r):=by
 kernel_rfl
theorem W_2:XU D_2= []:=by kernel_rfl
theorem Q_2:Qk Try.prog 120 Try.f120 D_2:=⟨Try.func120,by kernel_rfl,by kernel_rfl⟩
theorem H_2:Holds Try.prog 120 E_2:=
 Yi3 tabT mixT Q_2 F_2 rfl trivial W_2 trivial
theorem F_3 (a):E_3.run a=Yir C_3 Try.f79 E_3.params E_3.results a λo r=>some (N_3 o r):=by
 kernel_rfl
theorem W_3:XU D_3= []:=by kernel_rfl
theorem Q_3:Qk Try.prog 79 Try.f79 D_3:=⟨Try.func79,by kernel_rfl,by kernel_rfl⟩
theorem H_3:Holds Try.prog 79 E_3:=
 Yi3 tabT mixT Q_3 F_3 rfl ⟨⟨H_2,_,_,Q_2⟩,trivial⟩ W_3 trivial
theorem F_4 (a):E_4.run a=Yir C_4 Try.f77 E_4.params E_4.results a λo r=>some (N_4 o r):=by
 kernel_rfl
theorem W_4:XU D_4= []:=by kernel_rfl
theorem Q_4:Qk Try.prog 77 Try.f77 D_4:=⟨Try.func77,by kernel_rfl,by kernel_rfl⟩
theorem H_4:Holds Try.prog 77 E_4:=
 Yi3 tabT mixT Q_4 F_4 rfl ⟨⟨H_3,_,_,Q_3⟩,trivial⟩ W_4 trivial
theorem F_5 (a):E_5.run a=Yir C_5 Try.f105 E_5.params E_5.results a λo r=>some (N_5 o r):=by
 kernel_rfl
theorem W_5:XU D_5= []:=by kernel_rfl
theorem Q_5:Qk Try.prog 105 Try.f105 D_5:=⟨Try.func105,by kernel_rfl,by kernel_rfl⟩
theorem H_5:Holds Try.prog 105 E_5:=
 Yi3 tabT mixT Q_5 F_5 rfl trivial W_5 trivial
theorem F_6 (a):E_6.run a=Yir C_6 Try.f78 E_6.params E_6.results a λo r=>some (N_6 o r):=by
 kernel_rfl
theorem W_6:XU D_6= []:=by kernel_rfl
theorem Q_6:Qk Try.prog 78 Try.f78 D_6:=⟨Try.func78,by kernel_rfl,by kernel_rfl⟩
theorem H_6:Holds Try.prog 78 E_6:=
 Yi3 tabT mixT Q_6 F_6 rfl trivial W_6 trivial
theorem F_7 (a):E_7.run a=Yir C_7 Try.f106 E_7.params E_7.results a λo r=>some (N_7 o r):=by
 kernel_rfl
theorem W_7:XU D_7= []:=by kernel_rfl
theorem Q_7:Qk Try.prog 106 Try.f106 D_7:=⟨Try.func106,by kernel_rfl,by kernel_rfl⟩
theorem H_7:Holds Try.prog 106 E_7:=
 Yi3 tabT mixT Q_7 F_7 rfl ⟨⟨H_3,_,_,Q_3⟩,trivial⟩ W_7 trivial
theorem F_8 (a):E_8.run a=Yir C_8 Try.f90 E_8.params E_8.results a λo r=>some (N_8 o r):=by
 kernel_rfl
theorem W_8:XU D_8= []:=by kernel_rfl
theorem Q_8:Qk Try.prog 90 Try.f90 D_8:=⟨Try.func90,by kernel_rfl,by kernel_rfl⟩
theorem H_8:Holds Try.prog 90 E_8:=
 Yi3 tabT mixT Q_8 F_8 rfl trivial W_8 trivial
theorem F_9 (a):E_9.run a=Yir C_9 Try.f132 E_9.params E_9.results a λo r=>some (N_9 o r):=by
 kernel_rfl
theorem W_9:XU D_9= []:=by kernel_rfl
theorem Q_9:Qk Try.prog 132 Try.f132 D_9:=⟨Try.func132,by kernel_rfl,by kernel_rfl⟩
theorem H_9:Holds Try.prog 132 E_9:=
 Yi3 tabT mixT Q_9 F_9 rfl ⟨⟨H_8,_,_,Q_8⟩,trivial⟩ W_9 trivial
theorem K_10L2 (n:Nat) (x):CQ (n+1) x=Yfg C_10 B_10L2 (S_10L2 Aa) x (CQ n):=by
 obtain⟨_,_,_⟩:=x
 kernel_rfl
theorem F_10 (a):E_10.run a=Yir C_10 Try.f140 E_10.params E_10.results a λo r=>some (N_10 o r):=by
 kernel_rfl
theorem W_10:XU D_10= [B_10L2]:=by kernel_rfl
theorem Q_10:Qk Try.prog 140 Try.f140 D_10:=⟨Try.func140,by kernel_rfl,by kernel_rfl⟩
theorem H_10:Holds Try.prog 140 E_10:=
 Yi3 tabT mixT Q_10 F_10 rfl trivial W_10 ⟨Yi8 (L:=S_10L2 Aa) K_10L2 (i:=2) (by kernel_rfl),trivial⟩
theorem K_11L4 (n:Nat) (x):CN (n+1) x=Yfg C_11 B_11L4 (S_11L4 Aa) x (CN n):=by
 obtain⟨_,_,_⟩:=x
 kernel_rfl
theorem F_11 (a):E_11.run a=Yir C_11 Try.f149 E_11.params E_11.results a λo r=>some (N_11 o r):=by
 kernel_rfl
theorem W_11:XU D_11= [B_11L4]:=by kernel_rfl
theorem Q_11:Qk Try.prog 149 Try.f149 D_11:=⟨Try.func149,by kernel_rfl,by kernel_rfl⟩
theorem H_11:Holds Try.prog 149 E_11:=
 Yi3 tabT mixT Q_11 F_11 rfl trivial W_11 ⟨Yi8 (L:=S_11L4 Aa) K_11L4 (i:=4) (by kernel_rfl),trivial⟩
theorem K_12L2 (n:Nat) (x):Cn (n+1) x=Yfg C_12 B_12L2 (S_12L2 Aa) x (Cn n):=by
 obtain⟨_,_,_,_⟩:=x
 kernel_rfl
theorem F_12 (a):E_12.run a=Yir C_12 Try.f147 E_12.params E_12.results a λo r=>some (N_12 o r):=by
 kernel_rfl
theorem W_12:XU D_12= [B_12L2]:=by kernel_rfl
theorem Q_12:Qk Try.prog 147 Try.f147 D_12:=⟨Try.func147,by kernel_rfl,by kernel_rfl⟩
theorem H_12:Holds Try.prog 147 E_12:=
 Yi3 tabT mixT Q_12 F_12 rfl ⟨⟨H_10,_,_,Q_10⟩,⟨⟨H_11,_,_,Q_11⟩,trivial⟩⟩ W_12 ⟨Yi8 (L:=S_12L2 Aa) K_12L2 (i:=2) (by kernel_rfl),trivial⟩
theorem F_13 (a):E_13.run a=Yir C_13 Try.f133 E_13.params E_13.results a λo r=>some (N_13 o r):=by
 kernel_rfl
theorem W_13:XU D_13= []:=by kernel_rfl
theorem Q_13:Qk Try.prog 133 Try.f133 D_13:=⟨Try.func133,by kernel_rfl,by kernel_rfl⟩
theorem H_13:Holds Try.prog 133 E_13:=
 Yi3 tabT mixT Q_13 F_13 rfl ⟨⟨H_12,_,_,Q_12⟩,trivial⟩ W_13 trivial
theorem K_14L3 (n:Nat) (x):Aw (n+1) x=Yfg C_14 B_14L3 (S_14L3 Aa) x (Aw n):=by
 obtain⟨_,_,_,_⟩:=x
 kernel_rfl
theorem F_14 (a):E_14.run a=Yir C_14 Try.f135 E_14.params E_14.results a λo r=>some (N_14 o r):=by
 kernel_rfl
theorem W_14:XU D_14= [B_14L3]:=by kernel_rfl
theorem Q_14:Qk Try.prog 135 Try.f135 D_14:=⟨Try.func135,by kernel_rfl,by kernel_rfl⟩
theorem H_14:Holds Try.prog 135 E_14:=
 Yi3 tabT mixT Q_14 F_14 rfl ⟨⟨H_3,_,_,Q_3⟩,trivial⟩ W_14 ⟨Yi8 (L:=S_14L3 Aa) K_14L3 (i:=3) (by kernel_rfl),trivial⟩
theorem K_15L6 (n:Nat) (x):AI (n+1) x=Yfg C_15 B_15L6 (S_15L6 Aa) x (AI n):=by
 obtain⟨_,_,_,_,_⟩:=x
 kernel_rfl
theorem K_15L3 (n:Nat) (x):AX (n+1) x=Yfg C_15 B_15L3 (S_15L3 Aa) x (AX n):=by
 obtain⟨_,_,_,_⟩:=x
 kernel_rfl
theorem F_15 (a):E_15.run a=Yir C_15 Try.f134 E_15.params E_15.results a λo r=>some (N_15 o r):=by
 kernel_rfl
theorem W_15:XU D_15= [B_15L3,B_15L6]:=by kernel_rfl
theorem Q_15:Qk Try.prog 134 Try.f134 D_15:=⟨Try.func134,by kernel_rfl,by kernel_rfl⟩
theorem H_15:Holds Try.prog 134 E_15:=
 Yi3 tabT mixT Q_15 F_15 rfl trivial W_15 ⟨Yi8 (L:=S_15L3 Aa) K_15L3 (i:=3) (by kernel_rfl),⟨Yi8 (L:=S_15L6 Aa) K_15L6 (i:=6) (by kernel_rfl),trivial⟩⟩
theorem K_16L2 (n:Nat) (x):DJ (n+1) x=Yfg C_16 B_16L2 (S_16L2 Aa) x (DJ n):=by
 obtain⟨_,_,_⟩:=x
 kernel_rfl
theorem F_16 (a):E_16.run a=Yir C_16 Try.f66 E_16.params E_16.results a λo r=>some (N_16 o r):=by
 kernel_rfl
theorem W_16:XU D_16= [B_16L2]:=by kernel_rfl
theorem Q_16:Qk Try.prog 66 Try.f66 D_16:=⟨Try.func66,by kernel_rfl,by kernel_rfl⟩
theorem H_16:Holds Try.prog 66 E_16:=
 Yi3 tabT mixT Q_16 F_16 rfl trivial W_16 ⟨Yi8 (L:=S_16L2 Aa) K_16L2 (i:=2) (by kernel_rfl),trivial⟩
theorem K_17L3 (n:Nat) (x):CP (n+1) x=Yfg C_17 B_17L3 (S_17L3 Aa) x (CP n):=by
 obtain⟨_,_,_,_⟩:=x
 kernel_rfl
theorem F_17 (a):E_17.run a=Yir C_17 Try.f138 E_17.params E_17.results a λo r=>some (N_17 o r):=by
 kernel_rfl
theorem W_17:XU D_17= [B_17L3]:=by kernel_rfl
theorem Q_17:Qk Try.prog 138 Try.f138 D_17:=⟨Try.func138,by kernel_rfl,by kernel_rfl⟩
theorem H_17:Holds Try.prog 138 E_17:=
 Yi3 tabT mixT Q_17 F_17 rfl trivial W_17 ⟨Yi8 (L:=S_17L3 Aa) K_17L3 (i:=3) (by kernel_rfl),trivial⟩
theorem K_18L3 (n:Nat) (x):B4 (n+1) x=Yfg C_18 B_18L3 (S_18L3 Aa) x (B4 n):=by
 obtain⟨_,_,_,_,_⟩:=x
 kernel_rfl
theorem F_18 (a):E_18.run a=Yir C_18 Try.f136 E_18.params E_18.results a λo r=>some (N_18 o r):=by
 kernel_rfl
theorem W_18:XU D_18= [B_18L3]:=by kernel_rfl
theorem Q_18:Qk Try.prog 136 Try.f136 D_18:=⟨Try.func136,by kernel_rfl,by kernel_rfl⟩
theorem H_18:Holds Try.prog 136 E_18:=
 Yi3 tabT mixT Q_18 F_18 rfl ⟨⟨H_16,_,_,Q_16⟩,⟨⟨H_17,_,_,Q_17⟩,trivial⟩⟩ W_18 ⟨Yi8 (L:=S_18L3 Aa) K_18L3 (i:=3) (by kernel_rfl),trivial⟩
theorem F_19 (a):E_19.run a=Yir C_19 Try.f133 E_19.params E_19.results a λo r=>some (N_19 o r):=by
 kernel_rfl
theorem W_19:XU D_19= []:=by kernel_rfl
theorem Q_19:Qk Try.prog 133 Try.f133 D_19:=⟨Try.func133,by kernel_rfl,by kernel_rfl⟩
theorem H_19:Holds Try.prog 133 E_19:=
 Yi3 tabT mixT Q_19 F_19 rfl ⟨⟨H_12,_,_,Q_12⟩,trivial⟩ W_19 trivial
theorem K_20L9 (n:Nat) (x):A7 (n+1) x=Yfg C_20 B_20L9 (S_20L9 Aa) x (A7 n):=by
 obtain⟨_,_,_,_,_,_,_,_⟩:=x
 kernel_rfl
theorem K_20L5 (n:Nat) (x):AZ (n+1) x=Yfg C_20 B_20L5 (S_20L5 Aa) x (AZ n):=by
 obtain⟨_,_,_,_,_,_⟩:=x
 kernel_rfl
theorem F_20 (a):E_20.run a=Yir C_20 Try.f107 E_20.params E_20.results a λo r=>some (N_20 o r):=by
 kernel_rfl
theorem W_20:XU D_20= [B_20L5,B_20L9]:=by kernel_rfl
theorem Q_20:Qk Try.prog 107 Try.f107 D_20:=⟨Try.func107,by kernel_rfl,by kernel_rfl⟩
theorem H_20:Holds Try.prog 107 E_20:=
 Yi3 tabT mixT Q_20 F_20 rfl ⟨⟨H_4,_,_,Q_4⟩,⟨⟨H_3,_,_,Q_3⟩,⟨⟨H_8,_,_,Q_8⟩,⟨⟨H_7,_,_,Q_7⟩,⟨⟨H_9,_,_,Q_9⟩,⟨⟨H_19,_,_,Q_19⟩,⟨⟨H_15,_,_,Q_15⟩,⟨⟨H_14,_,_,Q_14⟩,⟨⟨H_18,_,_,Q_18⟩,trivial⟩⟩⟩⟩⟩⟩⟩⟩⟩ W_20 ⟨Yi8 (L:=S_20L5 Aa) K_20L5 (i:=5) (by kernel_rfl),⟨Yi8 (L:=S_20L9 Aa) K_20L9 (i:=9) (by kernel_rfl),trivial⟩⟩
theorem K_21L9 (n:Nat) (x):AK (n+1) x=Yfg C_21 B_21L9 (S_21L9 Aa) x (AK n):=by
 obtain⟨_,_,_,_,_,_,_⟩:=x
 kernel_rfl
theorem K_21L5 (n:Nat) (x):AJ (n+1) x=Yfg C_21 B_21L5 (S_21L5 Aa) x (AJ n):=by
 obtain⟨_,_,_,_,_⟩:=x
 kernel_rfl
theorem K_21L17 (n:Nat) (x):AR (n+1) x=Yfg C_21 B_21L17 (S_21L17 Aa) x (AR n):=by
 obtain⟨_,_,_,_⟩:=x
 kernel_rfl
theorem F_21 (a):E_21.run a=Yir C_21 Try.f57 E_21.params E_21.results a λo r=>some (N_21 o r):=by
 kernel_rfl
theorem W_21:XU D_21= [B_21L5,B_21L9,B_21L17]:=by kernel_rfl
theorem Q_21:Qk Try.prog 57 Try.f57 D_21:=⟨Try.func57,by kernel_rfl,by kernel_rfl⟩
theorem H_21:Holds Try.prog 57 E_21:=
 Yi3 tabT mixT Q_21 F_21 rfl ⟨⟨H_4,_,_,Q_4⟩,⟨⟨H_6,_,_,Q_6⟩,⟨⟨H_3,_,_,Q_3⟩,⟨⟨H_5,_,_,Q_5⟩,⟨⟨H_7,_,_,Q_7⟩,⟨⟨H_20,_,_,Q_20⟩,trivial⟩⟩⟩⟩⟩⟩ W_21 ⟨Yi8 (L:=S_21L5 Aa) K_21L5 (i:=5) (by kernel_rfl),⟨Yi8 (L:=S_21L9 Aa) K_21L9 (i:=9) (by kernel_rfl),⟨Yi8 (L:=S_21L17 Aa) K_21L17 (i:=17) (by kernel_rfl),trivial⟩⟩⟩
theorem F_22 (a):E_22.run a=Yir C_22 Try.f122 E_22.params E_22.results a λo r=>some (N_22 o r):=by
 kernel_rfl
theorem W_22:XU D_22= []:=by kernel_rfl
theorem Q_22:Qk Try.prog 122 Try.f122 D_22:=⟨Try.func122,by kernel_rfl,by kernel_rfl⟩
theorem H_22:Holds Try.prog 122 E_22:=
 Yi3 tabT mixT Q_22 F_22 rfl trivial W_22 trivial
theorem K_23L11 (n:Nat) (x):Aq (n+1) x=Yfg C_23 B_23L11 (S_23L11 Aa) x (Aq n):=by
 obtain⟨_,_,_,_,_,_,_,_,_⟩:=x
 kernel_rfl
theorem K_23L4 (n:Nat) (x):As (n+1) x=Yfg C_23 B_23L4 (S_23L4 Aa) x (As n):=by
 obtain⟨_,_,_,_,_,_⟩:=x
 kernel_rfl
theorem K_23L23 (n:Nat) (x):AY (n+1) x=Yfg C_23 B_23L23 (S_23L23 Aa) x (AY n):=by
 obtain⟨_,_,_,_⟩:=x
 kernel_rfl
theorem F_23 (a):E_23.run a=Yir C_23 Try.f86 E_23.params E_23.results a λo r=>some (N_23 o r):=by
 kernel_rfl
theorem W_23:XU D_23= [B_23L4,B_23L11,B_23L23]:=by kernel_rfl
theorem Q_23:Qk Try.prog 86 Try.f86 D_23:=⟨Try.func86,by kernel_rfl,by kernel_rfl⟩
theorem H_23:Holds Try.prog 86 E_23:=
 Yi3 tabT mixT Q_23 F_23 rfl ⟨⟨H_21,_,_,Q_21⟩,⟨⟨H_4,_,_,Q_4⟩,⟨⟨H_3,_,_,Q_3⟩,⟨⟨H_7,_,_,Q_7⟩,⟨⟨H_20,_,_,Q_20⟩,⟨⟨H_22,_,_,Q_22⟩,trivial⟩⟩⟩⟩⟩⟩ W_23 ⟨Yi8 (L:=S_23L4 Aa) K_23L4 (i:=4) (by kernel_rfl),⟨Yi8 (L:=S_23L11 Aa) K_23L11 (i:=11) (by kernel_rfl),⟨Yi8 (L:=S_23L23 Aa) K_23L23 (i:=23) (by kernel_rfl),trivial⟩⟩⟩
theorem F_24 (a):E_24.run a=Yir C_24 Try.f35 E_24.params E_24.results a λo r=>some (N_24 o r):=by
 kernel_rfl
theorem W_24:XU D_24= []:=by kernel_rfl
theorem Q_24:Qk Try.prog 35 Try.f35 D_24:=⟨Try.func35,by kernel_rfl,by kernel_rfl⟩
theorem H_24:Holds Try.prog 35 E_24:=
 Yi3 tabT mixT Q_24 F_24 rfl ⟨⟨H_23,_,_,Q_23⟩,trivial⟩ W_24 trivial
theorem F_25 (a):E_25.run a=Yir C_25 Try.f6 E_25.params E_25.results a λo r=>some (N_25 o r):=by
 kernel_rfl
theorem W_25:XU D_25= []:=by kernel_rfl
theorem Q_25:Qk Try.prog 6 Try.f6 D_25:=⟨Try.func6,by kernel_rfl,by kernel_rfl⟩
theorem H_25:Holds Try.prog 6 E_25:=
 Yi3 tabT mixT Q_25 F_25 rfl ⟨⟨H_24,_,_,Q_24⟩,trivial⟩ W_25 trivial
theorem F_26 (a):E_26.run a=Yir C_26 Try.f87 E_26.params E_26.results a λo r=>some (N_26 o r):=by
 kernel_rfl
theorem W_26:XU D_26= []:=by kernel_rfl
theorem Q_26:Qk Try.prog 87 Try.f87 D_26:=⟨Try.func87,by kernel_rfl,by kernel_rfl⟩
theorem H_26:Holds Try.prog 87 E_26:=
 Yi3 tabT mixT Q_26 F_26 rfl trivial W_26 trivial
theorem K_27L2 (n:Nat) (x):CJ (n+1) x=Yfg C_27 B_27L2 (S_27L2 Aa) x (CJ n):=by
 obtain⟨_,_,_,_⟩:=x
 kernel_rfl
theorem F_27 (a):E_27.run a=Yir C_27 Try.f117 E_27.params E_27.results a λo r=>some (N_27 o r):=by
 kernel_rfl
theorem W_27:XU D_27= [B_27L2]:=by kernel_rfl
theorem Q_27:Qk Try.prog 117 Try.f117 D_27:=⟨Try.func117,by kernel_rfl,by kernel_rfl⟩
theorem H_27:Holds Try.prog 117 E_27:=
 Yi3 tabT mixT Q_27 F_27 rfl trivial W_27 ⟨Yi8 (L:=S_27L2 Aa) K_27L2 (i:=2) (by kernel_rfl),trivial⟩
theorem K_28L2 (n:Nat) (x):Bf (n+1) x=Yfg C_28 B_28L2 (S_28L2 Aa) x (Bf n):=by
 obtain⟨_,_,_⟩:=x
 kernel_rfl
theorem F_28 (a):E_28.run a=Yir C_28 Try.f145 E_28.params E_28.results a λo r=>some (N_28 o r):=by
 kernel_rfl
theorem W_28:XU D_28= [B_28L2]:=by kernel_rfl
theorem Q_28:Qk Try.prog 145 Try.f145 D_28:=⟨Try.func145,by kernel_rfl,by kernel_rfl⟩
theorem H_28:Holds Try.prog 145 E_28:=
 Yi3 tabT mixT Q_28 F_28 rfl trivial W_28 ⟨Yi8 (L:=S_28L2 Aa) K_28L2 (i:=2) (by kernel_rfl),trivial⟩
theorem K_29L4 (n:Nat) (x):By (n+1) x=Yfg C_29 B_29L4 (S_29L4 Aa) x (By n):=by
 obtain⟨_,_,_,_,_⟩:=x
 kernel_rfl
theorem F_29 (a):E_29.run a=Yir C_29 Try.f126 E_29.params E_29.results a λo r=>some (N_29 o r):=by
 kernel_rfl
theorem W_29:XU D_29= [B_29L4]:=by kernel_rfl
theorem Q_29:Qk Try.prog 126 Try.f126 D_29:=⟨Try.func126,by kernel_rfl,by kernel_rfl⟩
theorem H_29:Holds Try.prog 126 E_29:=
 Yi3 tabT mixT Q_29 F_29 rfl ⟨⟨H_27,_,_,Q_27⟩,⟨⟨H_28,_,_,Q_28⟩,trivial⟩⟩ W_29 ⟨Yi8 (L:=S_29L4 Aa) K_29L4 (i:=4) (by kernel_rfl),trivial⟩
theorem F_30 (a):E_30.run a=Yir C_30 Try.f88 E_30.params E_30.results a λo r=>some (N_30 o r):=by
 kernel_rfl
theorem W_30:XU D_30= []:=by kernel_rfl
theorem Q_30:Qk Try.prog 88 Try.f88 D_30:=⟨Try.func88,by kernel_rfl,by kernel_rfl⟩
theorem H_30:Holds Try.prog 88 E_30:=
 Yi3 tabT mixT Q_30 F_30 rfl ⟨⟨H_27,_,_,Q_27⟩,⟨⟨H_29,_,_,Q_29⟩,trivial⟩⟩ W_30 trivial
theorem K_31L4 (n:Nat) (x):Cd (n+1) x=Yfg C_31 B_31L4 (S_31L4 Aa) x (Cd n):=by
 obtain⟨_,_,_,_⟩:=x
 kernel_rfl
theorem F_31 (a):E_31.run a=Yir C_31 Try.f36 E_31.params E_31.results a λo r=>some (N_31 o r):=by
 kernel_rfl
theorem W_31:XU D_31= [B_31L4]:=by kernel_rfl
theorem Q_31:Qk Try.prog 36 Try.f36 D_31:=⟨Try.func36,by kernel_rfl,by kernel_rfl⟩
theorem H_31:Holds Try.prog 36 E_31:=
 Yi3 tabT mixT Q_31 F_31 rfl ⟨⟨H_26,_,_,Q_26⟩,⟨⟨H_30,_,_,Q_30⟩,trivial⟩⟩ W_31 ⟨Yi8 (L:=S_31L4 Aa) K_31L4 (i:=4) (by kernel_rfl),trivial⟩
theorem K_32L7 (n:Nat) (x):Bi (n+1) x=Yfg C_32 B_32L7 (S_32L7 Aa) x (Bi n):=by
 obtain⟨_,_,_,_,_,_,_⟩:=x
 kernel_rfl
theorem K_32L3 (n:Nat) (x):BE (n+1) x=Yfg C_32 B_32L3 (S_32L3 Aa) x (BE n):=by
 obtain⟨_,_,_,_⟩:=x
 kernel_rfl
theorem F_32 (a):E_32.run a=Yir C_32 Try.f43 E_32.params E_32.results a λo r=>some (N_32 o r):=by
 kernel_rfl
theorem W_32:XU D_32= [B_32L3,B_32L7]:=by kernel_rfl
theorem Q_32:Qk Try.prog 43 Try.f43 D_32:=⟨Try.func43,by kernel_rfl,by kernel_rfl⟩
theorem H_32:Holds Try.prog 43 E_32:=
 Yi3 tabT mixT Q_32 F_32 rfl trivial W_32 ⟨Yi8 (L:=S_32L3 Aa) K_32L3 (i:=3) (by kernel_rfl),⟨Yi8 (L:=S_32L7 Aa) K_32L7 (i:=7) (by kernel_rfl),trivial⟩⟩
theorem K_33L5 (n:Nat) (x):Ch (n+1) x=Yfg C_33 B_33L5 (S_33L5 Aa) x (Ch n):=by
 obtain⟨_,_,_,_,_,_,_,_,_,_⟩:=x
 kernel_rfl
theorem K_33L2 (n:Nat) (x):CI (n+1) x=Yfg C_33 B_33L2 (S_33L2 Aa) x (CI n):=by
 obtain⟨_,_,_,_,_⟩:=x
 kernel_rfl
theorem F_33 (a):E_33.run a=Yir C_33 Try.f95 E_33.params E_33.results a λo r=>some (N_33 o r):=by
 kernel_rfl
theorem W_33:XU D_33= [B_33L2,B_33L5]:=by kernel_rfl
theorem Q_33:Qk Try.prog 95 Try.f95 D_33:=⟨Try.func95,by kernel_rfl,by kernel_rfl⟩
theorem H_33:Holds Try.prog 95 E_33:=
 Yi3 tabT mixT Q_33 F_33 rfl trivial W_33 ⟨Yi8 (L:=S_33L2 Aa) K_33L2 (i:=2) (by kernel_rfl),⟨Yi8 (L:=S_33L5 Aa) K_33L5 (i:=5) (by kernel_rfl),trivial⟩⟩
theorem K_34L7 (n:Nat) (x):Ay (n+1) x=Yfg C_34 B_34L7 (S_34L7 Aa) x (Ay n):=by
 obtain⟨_,_,_,_,_,_,_,_,_,_,_⟩:=x
 kernel_rfl
theorem K_34L2 (n:Nat) (x):Ax (n+1) x=Yfg C_34 B_34L2 (S_34L2 Aa) x (Ax n):=by
 obtain⟨_,_,_,_,_,_,_⟩:=x
 kernel_rfl
theorem F_34 (a):E_34.run a=Yir C_34 Try.f45 E_34.params E_34.results a λo r=>some (N_34 o r):=by
 kernel_rfl
theorem W_34:XU D_34= [B_34L2,B_34L7]:=by kernel_rfl
theorem Q_34:Qk Try.prog 45 Try.f45 D_34:=⟨Try.func45,by kernel_rfl,by kernel_rfl⟩
theorem H_34:Holds Try.prog 45 E_34:=
 Yi3 tabT mixT Q_34 F_34 rfl ⟨⟨H_33,_,_,Q_33⟩,trivial⟩ W_34 ⟨Yi8 (L:=S_34L2 Aa) K_34L2 (i:=2) (by kernel_rfl),⟨Yi8 (L:=S_34L7 Aa) K_34L7 (i:=7) (by kernel_rfl),trivial⟩⟩
theorem K_35L12 (n:Nat) (x):Au (n+1) x=Yfg C_35 B_35L12 (S_35L12 Aa) x (Au n):=by
 obtain⟨_,_,_,_,_,_,_,_,_,_,_,_,_,_,_,_⟩:=x
 kernel_rfl
theorem K_35L9 (n:Nat) (x):AW (n+1) x=Yfg C_35 B_35L9 (S_35L9 Aa) x (AW n):=by
 obtain⟨_,_,_,_,_,_,_,_,_,_,_,_⟩:=x
 kernel_rfl
theorem K_35L6 (n:Nat) (x):AU (n+1) x=Yfg C_35 B_35L6 (S_35L6 Aa) x (AU n):=by
 obtain⟨_,_,_,_,_,_,_⟩:=x
 kernel_rfl
theorem K_35L3 (n:Nat) (x):Bn (n+1) x=Yfg C_35 B_35L3 (S_35L3 Aa) x (Bn n):=by
 obtain⟨_,_,_,_⟩:=x
 kernel_rfl
theorem F_35 (a):E_35.run a=Yir C_35 Try.f44 E_35.params E_35.results a λo r=>some (N_35 o r):=by
 kernel_rfl
theorem W_35:XU D_35= [B_35L3,B_35L6,B_35L9,B_35L12]:=by kernel_rfl
theorem Q_35:Qk Try.prog 44 Try.f44 D_35:=⟨Try.func44,by kernel_rfl,by kernel_rfl⟩
theorem H_35:Holds Try.prog 44 E_35:=
 Yi3 tabT mixT Q_35 F_35 rfl ⟨⟨H_34,_,_,Q_34⟩,trivial⟩ W_35 ⟨Yi8 (L:=S_35L3 Aa) K_35L3 (i:=3) (by kernel_rfl),⟨Yi8 (L:=S_35L6 Aa) K_35L6 (i:=6) (by kernel_rfl),⟨Yi8 (L:=S_35L9 Aa) K_35L9 (i:=9) (by kernel_rfl),⟨Yi8 (L:=S_35L12 Aa) K_35L12 (i:=12) (by kernel_rfl),trivial⟩⟩⟩⟩
theorem F_36 (a):E_36.run a=Yir C_36 Try.f37 E_36.params E_36.results a λo r=>some (N_36 o r):=by
 kernel_rfl
theorem W_36:XU D_36= []:=by kernel_rfl
theorem Q_36:Qk Try.prog 37 Try.f37 D_36:=⟨Try.func37,by kernel_rfl,by kernel_rfl⟩
theorem H_36:Holds Try.prog 37 E_36:=
 Yi3 tabT mixT Q_36 F_36 rfl ⟨⟨H_32,_,_,Q_32⟩,⟨⟨H_35,_,_,Q_35⟩,trivial⟩⟩ W_36 trivial
theorem K_37L3 (n:Nat) (x):Ci (n+1) x=Yfg C_37 B_37L3 (S_37L3 Aa) x (Ci n):=by
 obtain⟨_,_,_,_⟩:=x
 kernel_rfl
theorem F_37 (a):E_37.run a=Yir C_37 Try.f89 E_37.params E_37.results a λo r=>some (N_37 o r):=by
 kernel_rfl
theorem W_37:XU D_37= [B_37L3]:=by kernel_rfl
theorem Q_37:Qk Try.prog 89 Try.f89 D_37:=⟨Try.func89,by kernel_rfl,by kernel_rfl⟩
theorem H_37:Holds Try.prog 89 E_37:=
 Yi3 tabT mixT Q_37 F_37 rfl trivial W_37 ⟨Yi8 (L:=S_37L3 Aa) K_37L3 (i:=3) (by kernel_rfl),trivial⟩
theorem K_38L3 (n:Nat) (x):Bv (n+1) x=Yfg C_38 B_38L3 (S_38L3 Aa) x (Bv n):=by
 obtain⟨_,_,_,_⟩:=x
 kernel_rfl
theorem F_38 (a):E_38.run a=Yir C_38 Try.f38 E_38.params E_38.results a λo r=>some (N_38 o r):=by
 kernel_rfl
theorem W_38:XU D_38= [B_38L3]:=by kernel_rfl
theorem Q_38:Qk Try.prog 38 Try.f38 D_38:=⟨Try.func38,by kernel_rfl,by kernel_rfl⟩
theorem H_38:Holds Try.prog 38 E_38:=
 Yi3 tabT mixT Q_38 F_38 rfl ⟨⟨H_37,_,_,Q_37⟩,trivial⟩ W_38 ⟨Yi8 (L:=S_38L3 Aa) K_38L3 (i:=3) (by kernel_rfl),trivial⟩
theorem F_39 (a):E_39.run a=Yir C_39 Try.f7 E_39.params E_39.results a λo r=>some (N_39 o r):=by
 kernel_rfl
theorem W_39:XU D_39= []:=by kernel_rfl
theorem Q_39:Qk Try.prog 7 Try.f7 D_39:=⟨Try.func7,by kernel_rfl,by kernel_rfl⟩
theorem H_39:Holds Try.prog 7 E_39:=
 Yi3 tabT mixT Q_39 F_39 rfl ⟨⟨H_31,_,_,Q_31⟩,⟨⟨H_36,_,_,Q_36⟩,⟨⟨H_38,_,_,Q_38⟩,trivial⟩⟩⟩ W_39 trivial
theorem K_40L2 (n:Nat) (x):BU (n+1) x=Yfg C_40 B_40L2 (S_40L2 Aa) x (BU n):=by
 obtain⟨_,_,_⟩:=x
 kernel_rfl
theorem F_40 (a):E_40.run a=Yir C_40 Try.f127 E_40.params E_40.results a λo r=>some (N_40 o r):=by
 kernel_rfl
theorem W_40:XU D_40= [B_40L2]:=by kernel_rfl
theorem Q_40:Qk Try.prog 127 Try.f127 D_40:=⟨Try.func127,by kernel_rfl,by kernel_rfl⟩
theorem H_40:Holds Try.prog 127 E_40:=
 Yi3 tabT mixT Q_40 F_40 rfl ⟨⟨H_8,_,_,Q_8⟩,trivial⟩ W_40 ⟨Yi8 (L:=S_40L2 Aa) K_40L2 (i:=2) (by kernel_rfl),trivial⟩
theorem F_41 (a):E_41.run a=Yir C_41 Try.f139 E_41.params E_41.results a λo r=>some (N_41 o r):=by
 kernel_rfl
theorem W_41:XU D_41= []:=by kernel_rfl
theorem Q_41:Qk Try.prog 139 Try.f139 D_41:=⟨Try.func139,by kernel_rfl,by kernel_rfl⟩
theorem H_41:Holds Try.prog 139 E_41:=
 Yi3 tabT mixT Q_41 F_41 rfl ⟨⟨H_40,_,_,Q_40⟩,trivial⟩ W_41 trivial
theorem K_42L4 (n:Nat) (x):B5 (n+1) x=Yfg C_42 B_42L4 (S_42L4 Aa) x (B5 n):=by
 obtain⟨_,_,_⟩:=x
 kernel_rfl
theorem F_42 (a):E_42.run a=Yir C_42 Try.f124 E_42.params E_42.results a λo r=>some (N_42 o r):=by
 kernel_rfl
theorem W_42:XU D_42= [B_42L4]:=by kernel_rfl
theorem Q_42:Qk Try.prog 124 Try.f124 D_42:=⟨Try.func124,by kernel_rfl,by kernel_rfl⟩
theorem H_42:Holds Try.prog 124 E_42:=
 Yi3 tabT mixT Q_42 F_42 rfl ⟨⟨H_16,_,_,Q_16⟩,⟨⟨H_8,_,_,Q_8⟩,⟨⟨H_41,_,_,Q_41⟩,⟨⟨H_10,_,_,Q_10⟩,trivial⟩⟩⟩⟩ W_42 ⟨Yi8 (L:=S_42L4 Aa) K_42L4 (i:=4) (by kernel_rfl),trivial⟩
theorem F_43 (a):E_43.run a=Yir C_43 Try.f91 E_43.params E_43.results a λo r=>some (N_43 o r):=by
 kernel_rfl
theorem W_43:XU D_43= []:=by kernel_rfl
theorem Q_43:Qk Try.prog 91 Try.f91 D_43:=⟨Try.func91,by kernel_rfl,by kernel_rfl⟩
theorem H_43:Holds Try.prog 91 E_43:=
 Yi3 tabT mixT Q_43 F_43 rfl ⟨⟨H_42,_,_,Q_42⟩,⟨⟨H_40,_,_,Q_40⟩,trivial⟩⟩ W_43 trivial
theorem K_44L4 (n:Nat) (x):Cz (n+1) x=Yfg C_44 B_44L4 (S_44L4 Aa) x (Cz n):=by
 obtain⟨_,_⟩:=x
 kernel_rfl
theorem F_44 (a):E_44.run a=Yir C_44 Try.f39 E_44.params E_44.results a λo r=>some (N_44 o r):=by
 kernel_rfl
theorem W_44:XU D_44= [B_44L4]:=by kernel_rfl
theorem Q_44:Qk Try.prog 39 Try.f39 D_44:=⟨Try.func39,by kernel_rfl,by kernel_rfl⟩
theorem H_44:Holds Try.prog 39 E_44:=
 Yi3 tabT mixT Q_44 F_44 rfl ⟨⟨H_8,_,_,Q_8⟩,⟨⟨H_43,_,_,Q_43⟩,trivial⟩⟩ W_44 ⟨Yi8 (L:=S_44L4 Aa) K_44L4 (i:=4) (by kernel_rfl),trivial⟩
theorem K_45L3 (n:Nat) (x):BV (n+1) x=Yfg C_45 B_45L3 (S_45L3 Aa) x (BV n):=by
 obtain⟨_,_,_⟩:=x
 kernel_rfl
theorem F_45 (a):E_45.run a=Yir C_45 Try.f94 E_45.params E_45.results a λo r=>some (N_45 o r):=by
 kernel_rfl
theorem W_45:XU D_45= [B_45L3]:=by kernel_rfl
theorem Q_45:Qk Try.prog 94 Try.f94 D_45:=⟨Try.func94,by kernel_rfl,by kernel_rfl⟩
theorem H_45:Holds Try.prog 94 E_45:=
 Yi3 tabT mixT Q_45 F_45 rfl trivial W_45 ⟨Yi8 (L:=S_45L3 Aa) K_45L3 (i:=3) (by kernel_rfl),trivial⟩
theorem K_46L3 (n:Nat) (x):CC (n+1) x=Yfg C_46 B_46L3 (S_46L3 Aa) x (CC n):=by
 obtain⟨_,_,_⟩:=x
 kernel_rfl
theorem F_46 (a):E_46.run a=Yir C_46 Try.f41 E_46.params E_46.results a λo r=>some (N_46 o r):=by
 kernel_rfl
theorem W_46:XU D_46= [B_46L3]:=by kernel_rfl
theorem Q_46:Qk Try.prog 41 Try.f41 D_46:=⟨Try.func41,by kernel_rfl,by kernel_rfl⟩
theorem H_46:Holds Try.prog 41 E_46:=
 Yi3 tabT mixT Q_46 F_46 rfl ⟨⟨H_45,_,_,Q_45⟩,trivial⟩ W_46 ⟨Yi8 (L:=S_46L3 Aa) K_46L3 (i:=3) (by kernel_rfl),trivial⟩
theorem K_47L2 (n:Nat) (x):C1 (n+1) x=Yfg C_47 B_47L2 (S_47L2 Aa) x (C1 n):=by
 obtain⟨_,_,_⟩:=x
 kernel_rfl
theorem F_47 (a):E_47.run a=Yir C_47 Try.f146 E_47.params E_47.results a λo r=>some (N_47 o r):=by
 kernel_rfl
theorem W_47:XU D_47= [B_47L2]:=by kernel_rfl
theorem Q_47:Qk Try.prog 146 Try.f146 D_47:=⟨Try.func146,by kernel_rfl,by kernel_rfl⟩
theorem H_47:Holds Try.prog 146 E_47:=
 Yi3 tabT mixT Q_47 F_47 rfl trivial W_47 ⟨Yi8 (L:=S_47L2 Aa) K_47L2 (i:=2) (by kernel_rfl),trivial⟩
theorem K_48L7 (n:Nat) (x):BN (n+1) x=Yfg C_48 B_48L7 (S_48L7 Aa) x (BN n):=by
 obtain⟨_,_,_,_,_⟩:=x
 kernel_rfl
theorem K_48L2 (n:Nat) (x):CB (n+1) x=Yfg C_48 B_48L2 (S_48L2 Aa) x (CB n):=by
 obtain⟨_,_,_,_⟩:=x
 kernel_rfl
theorem F_48 (a):E_48.run a=Yir C_48 Try.f128 E_48.params E_48.results a λo r=>some (N_48 o r):=by
 kernel_rfl
theorem W_48:XU D_48= [B_48L2,B_48L7]:=by kernel_rfl
theorem Q_48:Qk Try.prog 128 Try.f128 D_48:=⟨Try.func128,by kernel_rfl,by kernel_rfl⟩
theorem H_48:Holds Try.prog 128 E_48:=
 Yi3 tabT mixT Q_48 F_48 rfl ⟨⟨H_47,_,_,Q_47⟩,trivial⟩ W_48 ⟨Yi8 (L:=S_48L2 Aa) K_48L2 (i:=2) (by kernel_rfl),⟨Yi8 (L:=S_48L7 Aa) K_48L7 (i:=7) (by kernel_rfl),trivial⟩⟩
theorem K_49L2 (n:Nat) (x):BA (n+1) x=Yfg C_49 B_49L2 (S_49L2 Aa) x (BA n):=by
 obtain⟨_,_,_,_,_⟩:=x
 kernel_rfl
theorem F_49 (a):E_49.run a=Yir C_49 Try.f92 E_49.params E_49.results a λo r=>some (N_49 o r):=by
 kernel_rfl
theorem W_49:XU D_49= [B_49L2]:=by kernel_rfl
theorem Q_49:Qk Try.prog 92 Try.f92 D_49:=⟨Try.func92,by kernel_rfl,by kernel_rfl⟩
theorem H_49:Holds Try.prog 92 E_49:=
 Yi3 tabT mixT Q_49 F_49 rfl ⟨⟨H_48,_,_,Q_48⟩,trivial⟩ W_49 ⟨Yi8 (L:=S_49L2 Aa) K_49L2 (i:=2) (by kernel_rfl),trivial⟩
theorem K_50L3 (n:Nat) (x):BB (n+1) x=Yfg C_50 B_50L3 (S_50L3 Aa) x (BB n):=by
 obtain⟨_,_,_,_⟩:=x
 kernel_rfl
theorem F_50 (a):E_50.run a=Yir C_50 Try.f93 E_50.params E_50.results a λo r=>some (N_50 o r):=by
 kernel_rfl
theorem W_50:XU D_50= [B_50L3]:=by kernel_rfl
theorem Q_50:Qk Try.prog 93 Try.f93 D_50:=⟨Try.func93,by kernel_rfl,by kernel_rfl⟩
theorem H_50:Holds Try.prog 93 E_50:=
 Yi3 tabT mixT Q_50 F_50 rfl trivial W_50 ⟨Yi8 (L:=S_50L3 Aa) K_50L3 (i:=3) (by kernel_rfl),trivial⟩
theorem K_51L15 (n:Nat) (x):BM (n+1) x=Yfg C_51 B_51L15 (S_51L15 Aa) x (BM n):=by
 obtain⟨_,_,_,_,_,_,_,_,_⟩:=x
 kernel_rfl
theorem K_51L11 (n:Nat) (x):Ca (n+1) x=Yfg C_51 B_51L11 (S_51L11 Aa) x (Ca n):=by
 obtain⟨_,_,_,_,_,_,_⟩:=x
 kernel_rfl
theorem K_51L7 (n:Nat) (x):Cl (n+1) x=Yfg C_51 B_51L7 (S_51L7 Aa) x (Cl n):=by
 obtain⟨_,_,_,_,_⟩:=x
 kernel_rfl
theorem K_51L4 (n:Nat) (x):Dt (n+1) x=Yfg C_51 B_51L4 (S_51L4 Aa) x (Dt n):=by
 obtain⟨_,_,_,_⟩:=x
 kernel_rfl
theorem F_51 (a):E_51.run a=Yir C_51 Try.f40 E_51.params E_51.results a λo r=>some (N_51 o r):=by
 kernel_rfl
theorem W_51:XU D_51= [B_51L4,B_51L7,B_51L11,B_51L15]:=by kernel_rfl
theorem Q_51:Qk Try.prog 40 Try.f40 D_51:=⟨Try.func40,by kernel_rfl,by kernel_rfl⟩
theorem H_51:Holds Try.prog 40 E_51:=
 Yi3 tabT mixT Q_51 F_51 rfl ⟨⟨H_49,_,_,Q_49⟩,⟨⟨H_50,_,_,Q_50⟩,trivial⟩⟩ W_51 ⟨Yi8 (L:=S_51L4 Aa) K_51L4 (i:=4) (by kernel_rfl),⟨Yi8 (L:=S_51L7 Aa) K_51L7 (i:=7) (by kernel_rfl),⟨Yi8 (L:=S_51L11 Aa) K_51L11 (i:=11) (by kernel_rfl),⟨Yi8 (L:=S_51L15 Aa) K_51L15 (i:=15) (by kernel_rfl),trivial⟩⟩⟩⟩
theorem K_52L3 (n:Nat) (x):CO (n+1) x=Yfg C_52 B_52L3 (S_52L3 Aa) x (CO n):=by
 obtain⟨_,_,_⟩:=x
 kernel_rfl
theorem F_52 (a):E_52.run a=Yir C_52 Try.f42 E_52.params E_52.results a λo r=>some (N_52 o r):=by
 kernel_rfl
theorem W_52:XU D_52= [B_52L3]:=by kernel_rfl
theorem Q_52:Qk Try.prog 42 Try.f42 D_52:=⟨Try.func42,by kernel_rfl,by kernel_rfl⟩
theorem H_52:Holds Try.prog 42 E_52:=
 Yi3 tabT mixT Q_52 F_52 rfl ⟨⟨H_6,_,_,Q_6⟩,trivial⟩ W_52 ⟨Yi8 (L:=S_52L3 Aa) K_52L3 (i:=3) (by kernel_rfl),trivial⟩
theorem F_53 (a):E_53.run a=Yir C_53 Try.f8 E_53.params E_53.results a λo r=>some (N_53 o r):=by
 kernel_rfl
theorem W_53:XU D_53= []:=by kernel_rfl
theorem Q_53:Qk Try.prog 8 Try.f8 D_53:=⟨Try.func8,by kernel_rfl,by kernel_rfl⟩
theorem H_53:Holds Try.prog 8 E_53:=
 Yi3 tabT mixT Q_53 F_53 rfl ⟨⟨H_44,_,_,Q_44⟩,⟨⟨H_51,_,_,Q_51⟩,⟨⟨H_46,_,_,Q_46⟩,⟨⟨H_52,_,_,Q_52⟩,trivial⟩⟩⟩⟩ W_53 trivial
theorem K_54L4 (n:Nat) (x):CE (n+1) x=Yfg C_54 B_54L4 (S_54L4 Aa) x (CE n):=by
 obtain⟨_,_,_⟩:=x
 kernel_rfl
theorem F_54 (a):E_54.run a=Yir C_54 Try.f22 E_54.params E_54.results a λo r=>some (N_54 o r):=by
 kernel_rfl
theorem W_54:XU D_54= [B_54L4]:=by kernel_rfl
theorem Q_54:Qk Try.prog 22 Try.f22 D_54:=⟨Try.func22,by kernel_rfl,by kernel_rfl⟩
theorem H_54:Holds Try.prog 22 E_54:=
 Yi3 tabT mixT Q_54 F_54 rfl trivial W_54 ⟨Yi8 (L:=S_54L4 Aa) K_54L4 (i:=4) (by kernel_rfl),trivial⟩
theorem K_55L4 (n:Nat) (x):Ck (n+1) x=Yfg C_55 B_55L4 (S_55L4 Aa) x (Ck n):=by
 obtain⟨_,_,_⟩:=x
 kernel_rfl
theorem F_55 (a):E_55.run a=Yir C_55 Try.f9 E_55.params E_55.results a λo r=>some (N_55 o r):=by
 kernel_rfl
theorem W_55:XU D_55= [B_55L4]:=by kernel_rfl
theorem Q_55:Qk Try.prog 9 Try.f9 D_55:=⟨Try.func9,by kernel_rfl,by kernel_rfl⟩
theorem H_55:Holds Try.prog 9 E_55:=
 Yi3 tabT mixT Q_55 F_55 rfl ⟨⟨H_54,_,_,Q_54⟩,trivial⟩ W_55 ⟨Yi8 (L:=S_55L4 Aa) K_55L4 (i:=4) (by kernel_rfl),trivial⟩
theorem F_56 (a):E_56.run a=Yir C_56 Try.f10 E_56.params E_56.results a λo r=>some (N_56 o r):=by
 kernel_rfl
theorem W_56:XU D_56= []:=by kernel_rfl
theorem Q_56:Qk Try.prog 10 Try.f10 D_56:=⟨Try.func10,by kernel_rfl,by kernel_rfl⟩
theorem H_56:Holds Try.prog 10 E_56:=
 Yi3 tabT mixT Q_56 F_56 rfl ⟨⟨H_31,_,_,Q_31⟩,⟨⟨H_32,_,_,Q_32⟩,⟨⟨H_35,_,_,Q_35⟩,trivial⟩⟩⟩ W_56 trivial
theorem F_57 (a):E_57.run a=Yir C_57 Try.f11 E_57.params E_57.results a λo r=>some (N_57 o r):=by
 kernel_rfl
theorem W_57:XU D_57= []:=by kernel_rfl
theorem Q_57:Qk Try.prog 11 Try.f11 D_57:=⟨Try.func11,by kernel_rfl,by kernel_rfl⟩
theorem H_57:Holds Try.prog 11 E_57:=
 Yi3 tabT mixT Q_57 F_57 rfl ⟨⟨H_44,_,_,Q_44⟩,⟨⟨H_51,_,_,Q_51⟩,⟨⟨H_46,_,_,Q_46⟩,trivial⟩⟩⟩ W_57 trivial
theorem K_58L2 (n:Nat) (x):Dq (n+1) x=Yfg C_58 B_58L2 (S_58L2 Aa) x (Dq n):=by
 obtain⟨_,_,_⟩:=x
 kernel_rfl
theorem F_58 (a):E_58.run a=Yir C_58 Try.f12 E_58.params E_58.results a λo r=>some (N_58 o r):=by
 kernel_rfl
theorem W_58:XU D_58= [B_58L2]:=by kernel_rfl
theorem Q_58:Qk Try.prog 12 Try.f12 D_58:=⟨Try.func12,by kernel_rfl,by kernel_rfl⟩
theorem H_58:Holds Try.prog 12 E_58:=
 Yi3 tabT mixT Q_58 F_58 rfl trivial W_58 ⟨Yi8 (L:=S_58L2 Aa) K_58L2 (i:=2) (by kernel_rfl),trivial⟩
theorem K_59L5 (n:Nat) (x):Bx (n+1) x=Yfg C_59 B_59L5 (S_59L5 Aa) x (Bx n):=by
 obtain⟨_,_,_,_,_⟩:=x
 kernel_rfl
theorem F_59 (a):E_59.run a=Yir C_59 Try.f13 E_59.params E_59.results a λo r=>some (N_59 o r):=by
 kernel_rfl
theorem W_59:XU D_59= [B_59L5]:=by kernel_rfl
theorem Q_59:Qk Try.prog 13 Try.f13 D_59:=⟨Try.func13,by kernel_rfl,by kernel_rfl⟩
theorem H_59:Holds Try.prog 13 E_59:=
 Yi3 tabT mixT Q_59 F_59 rfl ⟨⟨H_31,_,_,Q_31⟩,⟨⟨H_32,_,_,Q_32⟩,⟨⟨H_34,_,_,Q_34⟩,trivial⟩⟩⟩ W_59 ⟨Yi8 (L:=S_59L5 Aa) K_59L5 (i:=5) (by kernel_rfl),trivial⟩
theorem K_60L3 (n:Nat) (x):Bm (n+1) x=Yfg C_60 B_60L3 (S_60L3 Aa) x (Bm n):=by
 obtain⟨_,_,_,_⟩:=x
 kernel_rfl
theorem F_60 (a):E_60.run a=Yir C_60 Try.f96 E_60.params E_60.results a λo r=>some (N_60 o r):=by
 kernel_rfl
theorem W_60:XU D_60= [B_60L3]:=by kernel_rfl
theorem Q_60:Qk Try.prog 96 Try.f96 D_60:=⟨Try.func96,by kernel_rfl,by kernel_rfl⟩
theorem H_60:Holds Try.prog 96 E_60:=
 Yi3 tabT mixT Q_60 F_60 rfl trivial W_60 ⟨Yi8 (L:=S_60L3 Aa) K_60L3 (i:=3) (by kernel_rfl),trivial⟩
theorem K_61L1 (n:Nat) (x):BP (n+1) x=Yfg C_61 B_61L1 (S_61L1 Aa) x (BP n):=by
 obtain⟨_,_,_,_,_⟩:=x
 kernel_rfl
theorem F_61 (a):E_61.run a=Yir C_61 Try.f97 E_61.params E_61.results a λo r=>some (N_61 o r):=by
 kernel_rfl
theorem W_61:XU D_61= [B_61L1]:=by kernel_rfl
theorem Q_61:Qk Try.prog 97 Try.f97 D_61:=⟨Try.func97,by kernel_rfl,by kernel_rfl⟩
theorem H_61:Holds Try.prog 97 E_61:=
 Yi3 tabT mixT Q_61 F_61 rfl trivial W_61 ⟨Yi8 (L:=S_61L1 Aa) K_61L1 (i:=1) (by kernel_rfl),trivial⟩
theorem K_62L2 (n:Nat) (x):Bb (n+1) x=Yfg C_62 B_62L2 (S_62L2 Aa) x (Bb n):=by
 obtain⟨_,_,_⟩:=x
 kernel_rfl
theorem F_62 (a):E_62.run a=Yir C_62 Try.f48 E_62.params E_62.results a λo r=>some (N_62 o r):=by
 kernel_rfl
theorem W_62:XU D_62= [B_62L2]:=by kernel_rfl
theorem Q_62:Qk Try.prog 48 Try.f48 D_62:=⟨Try.func48,by kernel_rfl,by kernel_rfl⟩
theorem H_62:Holds Try.prog 48 E_62:=
 Yi3 tabT mixT Q_62 F_62 rfl ⟨⟨H_37,_,_,Q_37⟩,trivial⟩ W_62 ⟨Yi8 (L:=S_62L2 Aa) K_62L2 (i:=2) (by kernel_rfl),trivial⟩
theorem K_63L9 (n:Nat) (x):Az (n+1) x=Yfg C_63 B_63L9 (S_63L9 Aa) x (Az n):=by
 obtain⟨_,_,_,_,_,_,_,_⟩:=x
 kernel_rfl
theorem K_63L6 (n:Nat) (x):A9 (n+1) x=Yfg C_63 B_63L6 (S_63L6 Aa) x (A9 n):=by
 obtain⟨_,_,_,_,_⟩:=x
 kernel_rfl
theorem K_63L3 (n:Nat) (x):Bw (n+1) x=Yfg C_63 B_63L3 (S_63L3 Aa) x (Bw n):=by
 obtain⟨_,_,_⟩:=x
 kernel_rfl
theorem F_63 (a):E_63.run a=Yir C_63 Try.f46 E_63.params E_63.results a λo r=>some (N_63 o r):=by
 kernel_rfl
theorem W_63:XU D_63= [B_63L3,B_63L6,B_63L9]:=by kernel_rfl
theorem Q_63:Qk Try.prog 46 Try.f46 D_63:=⟨Try.func46,by kernel_rfl,by kernel_rfl⟩
theorem H_63:Holds Try.prog 46 E_63:=
 Yi3 tabT mixT Q_63 F_63 rfl ⟨⟨H_32,_,_,Q_32⟩,⟨⟨H_35,_,_,Q_35⟩,⟨⟨H_62,_,_,Q_62⟩,⟨⟨H_60,_,_,Q_60⟩,⟨⟨H_61,_,_,Q_61⟩,trivial⟩⟩⟩⟩⟩ W_63 ⟨Yi8 (L:=S_63L3 Aa) K_63L3 (i:=3) (by kernel_rfl),⟨Yi8 (L:=S_63L6 Aa) K_63L6 (i:=6) (by kernel_rfl),⟨Yi8 (L:=S_63L9 Aa) K_63L9 (i:=9) (by kernel_rfl),trivial⟩⟩⟩
theorem F_64 (a):E_64.run a=Yir C_64 Try.f14 E_64.params E_64.results a λo r=>some (N_64 o r):=by
 kernel_rfl
theorem W_64:XU D_64= []:=by kernel_rfl
theorem Q_64:Qk Try.prog 14 Try.f14 D_64:=⟨Try.func14,by kernel_rfl,by kernel_rfl⟩
theorem H_64:Holds Try.prog 14 E_64:=
 Yi3 tabT mixT Q_64 F_64 rfl ⟨⟨H_31,_,_,Q_31⟩,⟨⟨H_38,_,_,Q_38⟩,⟨⟨H_63,_,_,Q_63⟩,trivial⟩⟩⟩ W_64 trivial
theorem K_65L2 (n:Nat) (x):Cm (n+1) x=Yfg C_65 B_65L2 (S_65L2 Aa) x (Cm n):=by
 obtain⟨_,_⟩:=x
 kernel_rfl
theorem F_65 (a):E_65.run a=Yir C_65 Try.f98 E_65.params E_65.results a λo r=>some (N_65 o r):=by
 kernel_rfl
theorem W_65:XU D_65= [B_65L2]:=by kernel_rfl
theorem Q_65:Qk Try.prog 98 Try.f98 D_65:=⟨Try.func98,by kernel_rfl,by kernel_rfl⟩
theorem H_65:Holds Try.prog 98 E_65:=
 Yi3 tabT mixT Q_65 F_65 rfl trivial W_65 ⟨Yi8 (L:=S_65L2 Aa) K_65L2 (i:=2) (by kernel_rfl),trivial⟩
theorem K_66L10 (n:Nat) (x):Be (n+1) x=Yfg C_66 B_66L10 (S_66L10 Aa) x (Be n):=by
 obtain⟨_,_,_,_,_,_⟩:=x
 kernel_rfl
theorem K_66L6 (n:Nat) (x):BK (n+1) x=Yfg C_66 B_66L6 (S_66L6 Aa) x (BK n):=by
 obtain⟨_,_,_,_⟩:=x
 kernel_rfl
theorem K_66L3 (n:Nat) (x):Cf (n+1) x=Yfg C_66 B_66L3 (S_66L3 Aa) x (Cf n):=by
 obtain⟨_,_,_⟩:=x
 kernel_rfl
theorem F_66 (a):E_66.run a=Yir C_66 Try.f47 E_66.params E_66.results a λo r=>some (N_66 o r):=by
 kernel_rfl
theorem W_66:XU D_66= [B_66L3,B_66L6,B_66L10]:=by kernel_rfl
theorem Q_66:Qk Try.prog 47 Try.f47 D_66:=⟨Try.func47,by kernel_rfl,by kernel_rfl⟩
theorem H_66:Holds Try.prog 47 E_66:=
 Yi3 tabT mixT Q_66 F_66 rfl ⟨⟨H_51,_,_,Q_51⟩,⟨⟨H_46,_,_,Q_46⟩,⟨⟨H_50,_,_,Q_50⟩,⟨⟨H_65,_,_,Q_65⟩,trivial⟩⟩⟩⟩ W_66 ⟨Yi8 (L:=S_66L3 Aa) K_66L3 (i:=3) (by kernel_rfl),⟨Yi8 (L:=S_66L6 Aa) K_66L6 (i:=6) (by kernel_rfl),⟨Yi8 (L:=S_66L10 Aa) K_66L10 (i:=10) (by kernel_rfl),trivial⟩⟩⟩
theorem F_67 (a):E_67.run a=Yir C_67 Try.f15 E_67.params E_67.results a λo r=>some (N_67 o r):=by
 kernel_rfl
theorem W_67:XU D_67= []:=by kernel_rfl
theorem Q_67:Qk Try.prog 15 Try.f15 D_67:=⟨Try.func15,by kernel_rfl,by kernel_rfl⟩
theorem H_67:Holds Try.prog 15 E_67:=
 Yi3 tabT mixT Q_67 F_67 rfl ⟨⟨H_44,_,_,Q_44⟩,⟨⟨H_52,_,_,Q_52⟩,⟨⟨H_66,_,_,Q_66⟩,trivial⟩⟩⟩ W_67 trivial
theorem F_68 (a):E_68.run a=Yir C_68 Try.f16 E_68.params E_68.results a λo r=>some (N_68 o r):=by
 kernel_rfl
theorem W_68:XU D_68= []:=by kernel_rfl
theorem Q_68:Qk Try.prog 16 Try.f16 D_68:=⟨Try.func16,by kernel_rfl,by kernel_rfl⟩
theorem H_68:Holds Try.prog 16 E_68:=
 Yi3 tabT mixT Q_68 F_68 rfl ⟨⟨H_31,_,_,Q_31⟩,⟨⟨H_36,_,_,Q_36⟩,⟨⟨H_62,_,_,Q_62⟩,trivial⟩⟩⟩ W_68 trivial
theorem K_69L3 (n:Nat) (x):CD (n+1) x=Yfg C_69 B_69L3 (S_69L3 Aa) x (CD n):=by
 obtain⟨_,_,_,_⟩:=x
 kernel_rfl
theorem F_69 (a):E_69.run a=Yir C_69 Try.f114 E_69.params E_69.results a λo r=>some (N_69 o r):=by
 kernel_rfl
theorem W_69:XU D_69= [B_69L3]:=by kernel_rfl
theorem Q_69:Qk Try.prog 114 Try.f114 D_69:=⟨Try.func114,by kernel_rfl,by kernel_rfl⟩
theorem H_69:Holds Try.prog 114 E_69:=
 Yi3 tabT mixT Q_69 F_69 rfl trivial W_69 ⟨Yi8 (L:=S_69L3 Aa) K_69L3 (i:=3) (by kernel_rfl),trivial⟩
theorem K_70L3 (n:Nat) (x):Cj (n+1) x=Yfg C_70 B_70L3 (S_70L3 Aa) x (Cj n):=by
 obtain⟨_,_,_,_⟩:=x
 kernel_rfl
theorem F_70 (a):E_70.run a=Yir C_70 Try.f112 E_70.params E_70.results a λo r=>some (N_70 o r):=by
 kernel_rfl
theorem W_70:XU D_70= [B_70L3]:=by kernel_rfl
theorem Q_70:Qk Try.prog 112 Try.f112 D_70:=⟨Try.func112,by kernel_rfl,by kernel_rfl⟩
theorem H_70:Holds Try.prog 112 E_70:=
 Yi3 tabT mixT Q_70 F_70 rfl ⟨⟨H_69,_,_,Q_69⟩,trivial⟩ W_70 ⟨Yi8 (L:=S_70L3 Aa) K_70L3 (i:=3) (by kernel_rfl),trivial⟩
theorem K_71L7 (n:Nat) (x):Bh (n+1) x=Yfg C_71 B_71L7 (S_71L7 Aa) x (Bh n):=by
 obtain⟨_,_,_,_,_,_,_,_,_⟩:=x
 kernel_rfl
theorem K_71L3 (n:Nat) (x):Bg (n+1) x=Yfg C_71 B_71L3 (S_71L3 Aa) x (Bg n):=by
 obtain⟨_,_,_,_⟩:=x
 kernel_rfl
theorem F_71 (a):E_71.run a=Yir C_71 Try.f99 E_71.params E_71.results a λo r=>some (N_71 o r):=by
 kernel_rfl
theorem W_71:XU D_71= [B_71L3,B_71L7]:=by kernel_rfl
theorem Q_71:Qk Try.prog 99 Try.f99 D_71:=⟨Try.func99,by kernel_rfl,by kernel_rfl⟩
theorem H_71:Holds Try.prog 99 E_71:=
 Yi3 tabT mixT Q_71 F_71 rfl ⟨⟨H_70,_,_,Q_70⟩,trivial⟩ W_71 ⟨Yi8 (L:=S_71L3 Aa) K_71L3 (i:=3) (by kernel_rfl),⟨Yi8 (L:=S_71L7 Aa) K_71L7 (i:=7) (by kernel_rfl),trivial⟩⟩
theorem K_72L3 (n:Nat) (x):BI (n+1) x=Yfg C_72 B_72L3 (S_72L3 Aa) x (BI n):=by
 obtain⟨_,_,_⟩:=x
 kernel_rfl
theorem F_72 (a):E_72.run a=Yir C_72 Try.f62 E_72.params E_72.results a λo r=>some (N_72 o r):=by
 kernel_rfl
theorem W_72:XU D_72= [B_72L3]:=by kernel_rfl
theorem Q_72:Qk Try.prog 62 Try.f62 D_72:=⟨Try.func62,by kernel_rfl,by kernel_rfl⟩
theorem H_72:Holds Try.prog 62 E_72:=
 Yi3 tabT mixT Q_72 F_72 rfl trivial W_72 ⟨Yi8 (L:=S_72L3 Aa) K_72L3 (i:=3) (by kernel_rfl),trivial⟩
theorem K_73L3 (n:Nat) (x):AQ (n+1) x=Yfg C_73 B_73L3 (S_73L3 Aa) x (AQ n):=by
 obtain⟨_,_,_,_⟩:=x
 kernel_rfl
theorem F_73 (a):E_73.run a=Yir C_73 Try.f51 E_73.params E_73.results a λo r=>some (N_73 o r):=by
 kernel_rfl
theorem W_73:XU D_73= [B_73L3]:=by kernel_rfl
theorem Q_73:Qk Try.prog 51 Try.f51 D_73:=⟨Try.func51,by kernel_rfl,by kernel_rfl⟩
theorem H_73:Holds Try.prog 51 E_73:=
 Yi3 tabT mixT Q_73 F_73 rfl ⟨⟨H_37,_,_,Q_37⟩,trivial⟩ W_73 ⟨Yi8 (L:=S_73L3 Aa) K_73L3 (i:=3) (by kernel_rfl),trivial⟩
theorem K_74L2 (n:Nat) (x):AL (n+1) x=Yfg C_74 B_74L2 (S_74L2 Aa) x (AL n):=by
 obtain⟨_,_,_,_⟩:=x
 kernel_rfl
theorem F_74 (a):E_74.run a=Yir C_74 Try.f50 E_74.params E_74.results a λo r=>some (N_74 o r):=by
 kernel_rfl
theorem W_74:XU D_74= [B_74L2]:=by kernel_rfl
theorem Q_74:Qk Try.prog 50 Try.f50 D_74:=⟨Try.func50,by kernel_rfl,by kernel_rfl⟩
theorem H_74:Holds Try.prog 50 E_74:=
 Yi3 tabT mixT Q_74 F_74 rfl trivial W_74 ⟨Yi8 (L:=S_74L2 Aa) K_74L2 (i:=2) (by kernel_rfl),trivial⟩
theorem K_75L3 (n:Nat) (x):Cv (n+1) x=Yfg C_75 B_75L3 (S_75L3 Aa) x (Cv n):=by
 obtain⟨_,_,_,_,_⟩:=x
 kernel_rfl
theorem F_75 (a):E_75.run a=Yir C_75 Try.f130 E_75.params E_75.results a λo r=>some (N_75 o r):=by
 kernel_rfl
theorem W_75:XU D_75= [B_75L3]:=by kernel_rfl
theorem Q_75:Qk Try.prog 130 Try.f130 D_75:=⟨Try.func130,by kernel_rfl,by kernel_rfl⟩
theorem H_75:Holds Try.prog 130 E_75:=
 Yi3 tabT mixT Q_75 F_75 rfl trivial W_75 ⟨Yi8 (L:=S_75L3 Aa) K_75L3 (i:=3) (by kernel_rfl),trivial⟩
theorem K_76L10 (rec:(Int×(List Int)×(List (List Bool))×(Bool×Int×(List (List (List Int)))×(List (List (List ByteArray))))×(List Int)×Unit)->Option ((List Int)×(List (List Bool))×(Bool×Int×(List (List (List Int)))×(List (List (List ByteArray))))×(List Int)×Bool)) (n:Nat) (x):Aj rec (n+1) x=Yfg (C_76 rec) B_76L10 (S_76L10 rec Aa) x (Aj rec n):=by
 obtain⟨_,_,_,_,_,_,_,_,_,_,_⟩:=x
 kernel_rfl
theorem K_76L4 (rec:(Int×(List Int)×(List (List Bool))×(Bool×Int×(List (List (List Int)))×(List (List (List ByteArray))))×(List Int)×Unit)->Option ((List Int)×(List (List Bool))×(Bool×Int×(List (List (List Int)))×(List (List (List ByteArray))))×(List Int)×Bool)) (n:Nat) (x):Ah rec (n+1) x=Yfg (C_76 rec) B_76L4 (S_76L4 rec Aa) x (Ah rec n):=by
 obtain⟨_,_,_,_,_,_,_⟩:=x
 kernel_rfl
theorem F_76 (rec:(Int×(List Int)×(List (List Bool))×(Bool×Int×(List (List (List Int)))×(List (List (List ByteArray))))×(List Int)×Unit)->Option ((List Int)×(List (List Bool))×(Bool×Int×(List (List (List Int)))×(List (List (List ByteArray))))×(List Int)×Bool)) (a:YH [.v .int,.bx (.mv .int 0),.bx (.mv y6 1),.bx (.v (.ptr y3)),.bx (.v y1),.jk 1]):AS rec a.1 a.2.1 a.2.2.1 a.2.2.2.1 a.2.2.2.2.1 a.2.2.2.2.2=Yir (C_76 rec) Try.f129 [.v .int,.bx (.mv .int 0),.bx (.mv y6 1),.bx (.v (.ptr y3)),.bx (.v y1),.jk 1] [.v .bool] a (λo r=>some (N_76 o r)):=by
 kernel_rfl
theorem W_76:XU D_76= [B_76L4,B_76L10]:=by kernel_rfl
theorem R_76L10:YZ B_76L10=10:=by kernel_rfl
theorem R_76L4:YZ B_76L4=4:=by kernel_rfl
theorem Q_76:Qk Try.prog 129 Try.f129 D_76:=⟨Try.func129,by kernel_rfl,by kernel_rfl⟩
theorem H_76: ∀d,Holds Try.prog 129 (E_76 d)
 |0=>λ_ b h=>absurd (show(none:Option _)=some b from h) (by simp)
 |d+1=>YgE (en:=E_76 (d+1)) (cx:=(C_76 (Al d))) (Yhe tabT rfl).1 (Yfz ⟨⟨H_74,_,_,Q_74⟩,⟨⟨H_69,_,_,Q_69⟩,⟨⟨H_75,_,_,Q_75⟩,⟨⟨H_76 d,_,_,Q_76⟩,trivial⟩⟩⟩⟩) mixT Q_76.1 Q_76.2.2 (YgL W_76 ⟨YhE (cx:=(C_76 (Al d))) (L:=S_76L4 (Al d) Aa) rfl (by rw[R_76L4];rfl) ⟨Ah (Al d),λ_=>rfl,λn x=>K_76L4 (Al d) n x,Aa,λ_=>rfl⟩,⟨YhE (cx:=(C_76 (Al d))) (L:=S_76L10 (Al d) Aa) rfl (by rw[R_76L10];rfl) ⟨Aj (Al d),λ_=>rfl,λn x=>K_76L10 (Al d) n x,Aa,λ_=>rfl⟩,trivial⟩⟩) (enc:=N_76) (λ_ _=>⟨rfl,rfl⟩) (F_76 (Al d)) rfl
theorem F_77 (a):E_77.run a=Yir C_77 Try.f100 E_77.params E_77.results a λo r=>some (N_77 o r):=by
 kernel_rfl
theorem W_77:XU D_77= []:=by kernel_rfl
theorem Q_77:Qk Try.prog 100 Try.f100 D_77:=⟨Try.func100,by kernel_rfl,by kernel_rfl⟩
theorem H_77:Holds Try.prog 100 E_77:=
 Yi3 tabT mixT Q_77 F_77 rfl ⟨⟨H_76 Aa,_,_,Q_76⟩,trivial⟩ W_77 trivial
theorem F_78 (a):E_78.run a=Yir C_78 Try.f49 E_78.params E_78.results a λo r=>some (N_78 o r):=by
 kernel_rfl
theorem W_78:XU D_78= []:=by kernel_rfl
theorem Q_78:Qk Try.prog 49 Try.f49 D_78:=⟨Try.func49,by kernel_rfl,by kernel_rfl⟩
theorem H_78:Holds Try.prog 49 E_78:=
 Yi3 tabT mixT Q_78 F_78 rfl ⟨⟨H_72,_,_,Q_72⟩,⟨⟨H_71,_,_,Q_71⟩,⟨⟨H_77,_,_,Q_77⟩,trivial⟩⟩⟩ W_78 trivial
theorem K_79L5 (n:Nat) (x):AM (n+1) x=Yfg C_79 B_79L5 (S_79L5 Aa) x (AM n):=by
 obtain⟨_,_,_,_⟩:=x
 kernel_rfl
theorem F_79 (a):E_79.run a=Yir C_79 Try.f17 E_79.params E_79.results a λo r=>some (N_79 o r):=by
 kernel_rfl
theorem W_79:XU D_79= [B_79L5]:=by kernel_rfl
theorem Q_79:Qk Try.prog 17 Try.f17 D_79:=⟨Try.func17,by kernel_rfl,by kernel_rfl⟩
theorem H_79:Holds Try.prog 17 E_79:=
 Yi3 tabT mixT Q_79 F_79 rfl ⟨⟨H_31,_,_,Q_31⟩,⟨⟨H_36,_,_,Q_36⟩,⟨⟨H_32,_,_,Q_32⟩,⟨⟨H_63,_,_,Q_63⟩,⟨⟨H_73,_,_,Q_73⟩,⟨⟨H_78,_,_,Q_78⟩,trivial⟩⟩⟩⟩⟩⟩ W_79 ⟨Yi8 (L:=S_79L5 Aa) K_79L5 (i:=5) (by kernel_rfl),trivial⟩
theorem K_80L3 (n:Nat) (x):B6 (n+1) x=Yfg C_80 B_80L3 (S_80L3 Aa) x (B6 n):=by
 obtain⟨_,_,_⟩:=x
 kernel_rfl
theorem F_80 (a):E_80.run a=Yir C_80 Try.f52 E_80.params E_80.results a λo r=>some (N_80 o r):=by
 kernel_rfl
theorem W_80:XU D_80= [B_80L3]:=by kernel_rfl
theorem Q_80:Qk Try.prog 52 Try.f52 D_80:=⟨Try.func52,by kernel_rfl,by kernel_rfl⟩
theorem H_80:Holds Try.prog 52 E_80:=
 Yi3 tabT mixT Q_80 F_80 rfl trivial W_80 ⟨Yi8 (L:=S_80L3 Aa) K_80L3 (i:=3) (by kernel_rfl),trivial⟩
theorem K_81L7 (n:Nat) (x):B8 (n+1) x=Yfg C_81 B_81L7 (S_81L7 Aa) x (B8 n):=by
 obtain⟨_,_,_,_,_⟩:=x
 kernel_rfl
theorem K_81L3 (n:Nat) (x):B7 (n+1) x=Yfg C_81 B_81L3 (S_81L3 Aa) x (B7 n):=by
 obtain⟨_,_,_⟩:=x
 kernel_rfl
theorem F_81 (a):E_81.run a=Yir C_81 Try.f102 E_81.params E_81.results a λo r=>some (N_81 o r):=by
 kernel_rfl
theorem W_81:XU D_81= [B_81L3,B_81L7]:=by kernel_rfl
theorem Q_81:Qk Try.prog 102 Try.f102 D_81:=⟨Try.func102,by kernel_rfl,by kernel_rfl⟩
theorem H_81:Holds Try.prog 102 E_81:=
 Yi3 tabT mixT Q_81 F_81 rfl ⟨⟨H_22,_,_,Q_22⟩,trivial⟩ W_81 ⟨Yi8 (L:=S_81L3 Aa) K_81L3 (i:=3) (by kernel_rfl),⟨Yi8 (L:=S_81L7 Aa) K_81L7 (i:=7) (by kernel_rfl),trivial⟩⟩
theorem F_82 (a):E_82.run a=Yir C_82 Try.f143 E_82.params E_82.results a λo r=>some (N_82 o r):=by
 kernel_rfl
theorem W_82:XU D_82= []:=by kernel_rfl
theorem Q_82:Qk Try.prog 143 Try.f143 D_82:=⟨Try.func143,by kernel_rfl,by kernel_rfl⟩
theorem H_82:Holds Try.prog 143 E_82:=
 Yi3 tabT mixT Q_82 F_82 rfl ⟨⟨H_12,_,_,Q_12⟩,trivial⟩ W_82 trivial
theorem K_83L3 (n:Nat) (x):BF (n+1) x=Yfg C_83 B_83L3 (S_83L3 Aa) x (BF n):=by
 obtain⟨_,_,_,_⟩:=x
 kernel_rfl
theorem F_83 (a):E_83.run a=Yir C_83 Try.f131 E_83.params E_83.results a λo r=>some (N_83 o r):=by
 kernel_rfl
theorem W_83:XU D_83= [B_83L3]:=by kernel_rfl
theorem Q_83:Qk Try.prog 131 Try.f131 D_83:=⟨Try.func131,by kernel_rfl,by kernel_rfl⟩
theorem H_83:Holds Try.prog 131 E_83:=
 Yi3 tabT mixT Q_83 F_83 rfl ⟨⟨H_82,_,_,Q_82⟩,trivial⟩ W_83 ⟨Yi8 (L:=S_83L3 Aa) K_83L3 (i:=3) (by kernel_rfl),trivial⟩
theorem K_84L14 (rec:(Int×(List (List ((List Int)×Int×(List (List Int)))))×(List Int)×(List Int)×((List (List Int))×(Int×Int×Bool)))->Option (((List (List Int))×(Int×Int×Bool)))) (n:Nat) (x):AA rec (n+1) x=Yfg (C_84 rec) B_84L14 (S_84L14 rec Aa) x (AA rec n):=by
 obtain⟨_,_,_,_,_,_,_,_,_,_,_⟩:=x
 kernel_rfl
theorem K_84L8 (rec:(Int×(List (List ((List Int)×Int×(List (List Int)))))×(List Int)×(List Int)×((List (List Int))×(Int×Int×Bool)))->Option (((List (List Int))×(Int×Int×Bool)))) (n:Nat) (x):An rec (n+1) x=Yfg (C_84 rec) B_84L8 (S_84L8 rec Aa) x (An rec n):=by
 obtain⟨_,_,_,_,_,_,_,_⟩:=x
 kernel_rfl
theorem F_84 (rec:(Int×(List (List ((List Int)×Int×(List (List Int)))))×(List Int)×(List Int)×((List (List Int))×(Int×Int×Bool)))->Option (((List (List Int))×(Int×Int×Bool)))) (a:YH [.v .int,.v y14,.v y1,.v y1,.pr (.mv y1 1) (.v y8)]):DS rec a.1 a.2.1 a.2.2.1 a.2.2.2.1 a.2.2.2.2=Yir (C_84 rec) Try.f101 [.v .int,.v y14,.v y1,.v y1,.pr (.mv y1 1) (.v y8)] [.pr (.mv y1 1) (.v y8)] a (λo r=>some (N_84 o r)):=by
 kernel_rfl
theorem W_84:XU D_84= [B_84L8,B_84L14]:=by kernel_rfl
theorem R_84L14:YZ B_84L14=14:=by kernel_rfl
theorem R_84L8:YZ B_84L8=8:=by kernel_rfl
theorem Q_84:Qk Try.prog 101 Try.f101 D_84:=⟨Try.func101,by kernel_rfl,by kernel_rfl⟩
theorem H_84: ∀d,Holds Try.prog 101 (E_84 d)
 |0=>λ_ b h=>absurd (show(none:Option _)=some b from h) (by simp)
 |d+1=>YgE (en:=E_84 (d+1)) (cx:=(C_84 (Ap d))) (Yhe tabT rfl).1 (Yfz ⟨⟨H_6,_,_,Q_6⟩,⟨⟨H_84 d,_,_,Q_84⟩,⟨⟨H_83,_,_,Q_83⟩,trivial⟩⟩⟩) mixT Q_84.1 Q_84.2.2 (YgL W_84 ⟨YhE (cx:=(C_84 (Ap d))) (L:=S_84L8 (Ap d) Aa) rfl (by rw[R_84L8];rfl) ⟨An (Ap d),λ_=>rfl,λn x=>K_84L8 (Ap d) n x,Aa,λ_=>rfl⟩,⟨YhE (cx:=(C_84 (Ap d))) (L:=S_84L14 (Ap d) Aa) rfl (by rw[R_84L14];rfl) ⟨AA (Ap d),λ_=>rfl,λn x=>K_84L14 (Ap d) n x,Aa,λ_=>rfl⟩,trivial⟩⟩) (enc:=N_84) (λ_ _=>⟨rfl,rfl⟩) (F_84 (Ap d)) rfl
theorem F_85 (a):E_85.run a=Yir C_85 Try.f53 E_85.params E_85.results a λo r=>some (N_85 o r):=by
 kernel_rfl
theorem W_85:XU D_85= []:=by kernel_rfl
theorem Q_85:Qk Try.prog 53 Try.f53 D_85:=⟨Try.func53,by kernel_rfl,by kernel_rfl⟩
theorem H_85:Holds Try.prog 53 E_85:=
 Yi3 tabT mixT Q_85 F_85 rfl ⟨⟨H_84 Aa,_,_,Q_84⟩,⟨⟨H_81,_,_,Q_81⟩,trivial⟩⟩ W_85 trivial
theorem K_86L3 (n:Nat) (x):Cb (n+1) x=Yfg C_86 B_86L3 (S_86L3 Aa) x (Cb n):=by
 obtain⟨_,_,_⟩:=x
 kernel_rfl
theorem F_86 (a):E_86.run a=Yir C_86 Try.f54 E_86.params E_86.results a λo r=>some (N_86 o r):=by
 kernel_rfl
theorem W_86:XU D_86= [B_86L3]:=by kernel_rfl
theorem Q_86:Qk Try.prog 54 Try.f54 D_86:=⟨Try.func54,by kernel_rfl,by kernel_rfl⟩
theorem H_86:Holds Try.prog 54 E_86:=
 Yi3 tabT mixT Q_86 F_86 rfl trivial W_86 ⟨Yi8 (L:=S_86L3 Aa) K_86L3 (i:=3) (by kernel_rfl),trivial⟩
theorem K_87L10 (n:Nat) (x):AH (n+1) x=Yfg C_87 B_87L10 (S_87L10 Aa) x (AH n):=by
 obtain⟨_,_,_,_,_,_⟩:=x
 kernel_rfl
theorem K_87L7 (n:Nat) (x):Ba (n+1) x=Yfg C_87 B_87L7 (S_87L7 Aa) x (Ba n):=by
 obtain⟨_,_,_,_,_⟩:=x
 kernel_rfl
theorem F_87 (a):E_87.run a=Yir C_87 Try.f18 E_87.params E_87.results a λo r=>some (N_87 o r):=by
 kernel_rfl
theorem W_87:XU D_87= [B_87L7,B_87L10]:=by kernel_rfl
theorem Q_87:Qk Try.prog 18 Try.f18 D_87:=⟨Try.func18,by kernel_rfl,by kernel_rfl⟩
theorem H_87:Holds Try.prog 18 E_87:=
 Yi3 tabT mixT Q_87 F_87 rfl ⟨⟨H_44,_,_,Q_44⟩,⟨⟨H_51,_,_,Q_51⟩,⟨⟨H_46,_,_,Q_46⟩,⟨⟨H_66,_,_,Q_66⟩,⟨⟨H_80,_,_,Q_80⟩,⟨⟨H_85,_,_,Q_85⟩,⟨⟨H_86,_,_,Q_86⟩,trivial⟩⟩⟩⟩⟩⟩⟩ W_87 ⟨Yi8 (L:=S_87L7 Aa) K_87L7 (i:=7) (by kernel_rfl),⟨Yi8 (L:=S_87L10 Aa) K_87L10 (i:=10) (by kernel_rfl),trivial⟩⟩
theorem K_88L2 (n:Nat) (x):Cw (n+1) x=Yfg C_88 B_88L2 (S_88L2 Aa) x (Cw n):=by
 obtain⟨_,_,_⟩:=x
 kernel_rfl
theorem F_88 (a):E_88.run a=Yir C_88 Try.f19 E_88.params E_88.results a λo r=>some (N_88 o r):=by
 kernel_rfl
theorem W_88:XU D_88= [B_88L2]:=by kernel_rfl
theorem Q_88:Qk Try.prog 19 Try.f19 D_88:=⟨Try.func19,by kernel_rfl,by kernel_rfl⟩
theorem H_88:Holds Try.prog 19 E_88:=
 Yi3 tabT mixT Q_88 F_88 rfl ⟨⟨H_58,_,_,Q_58⟩,trivial⟩ W_88 ⟨Yi8 (L:=S_88L2 Aa) K_88L2 (i:=2) (by kernel_rfl),trivial⟩
theorem F_89 (a):E_89.run a=Yir C_89 Try.f104 E_89.params E_89.results a λo r=>some (N_89 o r):=by
 kernel_rfl
theorem W_89:XU D_89= []:=by kernel_rfl
theorem Q_89:Qk Try.prog 104 Try.f104 D_89:=⟨Try.func104,by kernel_rfl,by kernel_rfl⟩
theorem H_89:Holds Try.prog 104 E_89:=
 Yi3 tabT mixT Q_89 F_89 rfl trivial W_89 trivial
theorem F_90 (a):E_90.run a=Yir C_90 Try.f103 E_90.params E_90.results a λo r=>some (N_90 o r):=by
 kernel_rfl
theorem W_90:XU D_90= []:=by kernel_rfl
theorem Q_90:Qk Try.prog 103 Try.f103 D_90:=⟨Try.func103,by kernel_rfl,by kernel_rfl⟩
theorem H_90:Holds Try.prog 103 E_90:=
 Yi3 tabT mixT Q_90 F_90 rfl ⟨⟨H_89,_,_,Q_89⟩,trivial⟩ W_90 trivial
theorem K_91L10 (rec:(Int×(List Int)×(Bool×(List Int))×(Bool×Int×(List (List (List Int)))×(List (List (List ByteArray))))×(List Int)×Unit)->Option ((List Int)×(Bool×(List Int))×(Bool×Int×(List (List (List Int)))×(List (List (List ByteArray))))×(List Int)×Bool)) (n:Nat) (x):Ak rec (n+1) x=Yfg (C_91 rec) B_91L10 (S_91L10 rec Aa) x (Ak rec n):=by
 obtain⟨_,_,_,_,_,_,_,_,_,_,_⟩:=x
 kernel_rfl
theorem K_91L4 (rec:(Int×(List Int)×(Bool×(List Int))×(Bool×Int×(List (List (List Int)))×(List (List (List ByteArray))))×(List Int)×Unit)->Option ((List Int)×(Bool×(List Int))×(Bool×Int×(List (List (List Int)))×(List (List (List ByteArray))))×(List Int)×Bool)) (n:Nat) (x):Ai rec (n+1) x=Yfg (C_91 rec) B_91L4 (S_91L4 rec Aa) x (Ai rec n):=by
 obtain⟨_,_,_,_,_,_,_⟩:=x
 kernel_rfl
theorem F_91 (rec:(Int×(List Int)×(Bool×(List Int))×(Bool×Int×(List (List (List Int)))×(List (List (List ByteArray))))×(List Int)×Unit)->Option ((List Int)×(Bool×(List Int))×(Bool×Int×(List (List (List Int)))×(List (List (List ByteArray))))×(List Int)×Bool)) (a:YH [.v .int,.bx (.mv .int 0),.bx (.nv .int 0),.bx (.v (.ptr y3)),.bx (.v y1),.jk 1]):AT rec a.1 a.2.1 a.2.2.1 a.2.2.2.1 a.2.2.2.2.1 a.2.2.2.2.2=Yir (C_91 rec) Try.f129 [.v .int,.bx (.mv .int 0),.bx (.nv .int 0),.bx (.v (.ptr y3)),.bx (.v y1),.jk 1] [.v .bool] a (λo r=>some (N_91 o r)):=by
 kernel_rfl
theorem W_91:XU D_91= [B_91L4,B_91L10]:=by kernel_rfl
theorem R_91L10:YZ B_91L10=10:=by kernel_rfl
theorem R_91L4:YZ B_91L4=4:=by kernel_rfl
theorem Q_91:Qk Try.prog 129 Try.f129 D_91:=⟨Try.func129,by kernel_rfl,by kernel_rfl⟩
theorem H_91: ∀d,Holds Try.prog 129 (E_91 d)
 |0=>λ_ b h=>absurd (show(none:Option _)=some b from h) (by simp)
 |d+1=>YgE (en:=E_91 (d+1)) (cx:=(C_91 (Am d))) (Yhe tabT rfl).1 (Yfz ⟨⟨H_90,_,_,Q_90⟩,⟨⟨H_69,_,_,Q_69⟩,⟨⟨H_75,_,_,Q_75⟩,⟨⟨H_91 d,_,_,Q_91⟩,trivial⟩⟩⟩⟩) mixT Q_91.1 Q_91.2.2 (YgL W_91 ⟨YhE (cx:=(C_91 (Am d))) (L:=S_91L4 (Am d) Aa) rfl (by rw[R_91L4];rfl) ⟨Ai (Am d),λ_=>rfl,λn x=>K_91L4 (Am d) n x,Aa,λ_=>rfl⟩,⟨YhE (cx:=(C_91 (Am d))) (L:=S_91L10 (Am d) Aa) rfl (by rw[R_91L10];rfl) ⟨Ak (Am d),λ_=>rfl,λn x=>K_91L10 (Am d) n x,Aa,λ_=>rfl⟩,trivial⟩⟩) (enc:=N_91) (λ_ _=>⟨rfl,rfl⟩) (F_91 (Am d)) rfl
theorem F_92 (a):E_92.run a=Yir C_92 Try.f100 E_92.params E_92.results a λo r=>some (N_92 o r):=by
 kernel_rfl
theorem W_92:XU D_92= []:=by kernel_rfl
theorem Q_92:Qk Try.prog 100 Try.f100 D_92:=⟨Try.func100,by kernel_rfl,by kernel_rfl⟩
theorem H_92:Holds Try.prog 100 E_92:=
 Yi3 tabT mixT Q_92 F_92 rfl ⟨⟨H_91 Aa,_,_,Q_91⟩,trivial⟩ W_92 trivial
theorem F_93 (a):E_93.run a=Yir C_93 Try.f55 E_93.params E_93.results a λo r=>some (N_93 o r):=by
 kernel_rfl
theorem W_93:XU D_93= []:=by kernel_rfl
theorem Q_93:Qk Try.prog 55 Try.f55 D_93:=⟨Try.func55,by kernel_rfl,by kernel_rfl⟩
theorem H_93:Holds Try.prog 55 E_93:=
 Yi3 tabT mixT Q_93 F_93 rfl ⟨⟨H_71,_,_,Q_71⟩,⟨⟨H_92,_,_,Q_92⟩,trivial⟩⟩ W_93 trivial
theorem K_94L4 (n:Nat) (x):A8 (n+1) x=Yfg C_94 B_94L4 (S_94L4 Aa) x (A8 n):=by
 obtain⟨_,_,_,_,_⟩:=x
 kernel_rfl
theorem F_94 (a):E_94.run a=Yir C_94 Try.f20 E_94.params E_94.results a λo r=>some (N_94 o r):=by
 kernel_rfl
theorem W_94:XU D_94= [B_94L4]:=by kernel_rfl
theorem Q_94:Qk Try.prog 20 Try.f20 D_94:=⟨Try.func20,by kernel_rfl,by kernel_rfl⟩
theorem H_94:Holds Try.prog 20 E_94:=
 Yi3 tabT mixT Q_94 F_94 rfl ⟨⟨H_31,_,_,Q_31⟩,⟨⟨H_93,_,_,Q_93⟩,trivial⟩⟩ W_94 ⟨Yi8 (L:=S_94L4 Aa) K_94L4 (i:=4) (by kernel_rfl),trivial⟩
theorem K_95L2 (n:Nat) (x):Bz (n+1) x=Yfg C_95 B_95L2 (S_95L2 Aa) x (Bz n):=by
 obtain⟨_,_,_⟩:=x
 kernel_rfl
theorem F_95 (a):E_95.run a=Yir C_95 Try.f56 E_95.params E_95.results a λo r=>some (N_95 o r):=by
 kernel_rfl
theorem W_95:XU D_95= [B_95L2]:=by kernel_rfl
theorem Q_95:Qk Try.prog 56 Try.f56 D_95:=⟨Try.func56,by kernel_rfl,by kernel_rfl⟩
theorem H_95:Holds Try.prog 56 E_95:=
 Yi3 tabT mixT Q_95 F_95 rfl ⟨⟨H_8,_,_,Q_8⟩,trivial⟩ W_95 ⟨Yi8 (L:=S_95L2 Aa) K_95L2 (i:=2) (by kernel_rfl),trivial⟩
theorem F_96 (a):E_96.run a=Yir C_96 Try.f21 E_96.params E_96.results a λo r=>some (N_96 o r):=by
 kernel_rfl
theorem W_96:XU D_96= []:=by kernel_rfl
theorem Q_96:Qk Try.prog 21 Try.f21 D_96:=⟨Try.func21,by kernel_rfl,by kernel_rfl⟩
theorem H_96:Holds Try.prog 21 E_96:=
 Yi3 tabT mixT Q_96 F_96 rfl ⟨⟨H_44,_,_,Q_44⟩,⟨⟨H_85,_,_,Q_85⟩,⟨⟨H_95,_,_,Q_95⟩,trivial⟩⟩⟩ W_96 trivial
theorem K_97L16 (n:Nat) (x):AE (n+1) x=Yfg C_97 B_97L16 (S_97L16 Aa) x (AE n):=by
 obtain⟨_,_,_,_,_,_⟩:=x
 kernel_rfl
theorem K_97L26 (n:Nat) (x):AF (n+1) x=Yfg C_97 B_97L26 (S_97L26 Aa) x (AF n):=by
 obtain⟨_,_,_,_,_,_⟩:=x
 kernel_rfl
theorem K_97L43 (n:Nat) (x):AG (n+1) x=Yfg C_97 B_97L43 (S_97L43 Aa) x (AG n):=by
 obtain⟨_,_,_,_,_,_⟩:=x
 kernel_rfl
theorem K_97L53 (n:Nat) (x):Av (n+1) x=Yfg C_97 B_97L53 (S_97L53 Aa) x (Av n):=by
 obtain⟨_,_,_⟩:=x
 kernel_rfl
theorem F_97 (a):E_97.run a=Yir C_97 Try.f3 E_97.params E_97.results a λo r=>some (N_97 o r):=by
 kernel_rfl
theorem W_97:XU D_97= [B_97L16,B_97L26,B_97L43,B_97L53]:=by kernel_rfl
theorem Q_97:Qk Try.prog 3 Try.f3 D_97:=⟨Try.func3,by kernel_rfl,by kernel_rfl⟩
theorem H_97:Holds Try.prog 3 E_97:=
 Yi3 tabT mixT Q_97 F_97 rfl ⟨⟨H_1,_,_,Q_1⟩,⟨⟨H_25,_,_,Q_25⟩,⟨⟨H_39,_,_,Q_39⟩,⟨⟨H_53,_,_,Q_53⟩,⟨⟨H_55,_,_,Q_55⟩,⟨⟨H_56,_,_,Q_56⟩,⟨⟨H_57,_,_,Q_57⟩,⟨⟨H_58,_,_,Q_58⟩,⟨⟨H_59,_,_,Q_59⟩,⟨⟨H_64,_,_,Q_64⟩,⟨⟨H_67,_,_,Q_67⟩,⟨⟨H_68,_,_,Q_68⟩,⟨⟨H_79,_,_,Q_79⟩,⟨⟨H_87,_,_,Q_87⟩,⟨⟨H_88,_,_,Q_88⟩,⟨⟨H_94,_,_,Q_94⟩,⟨⟨H_96,_,_,Q_96⟩,⟨⟨H_54,_,_,Q_54⟩,trivial⟩⟩⟩⟩⟩⟩⟩⟩⟩⟩⟩⟩⟩⟩⟩⟩⟩⟩ W_97 ⟨Yi8 (L:=S_97L16 Aa) K_97L16 (i:=16) (by kernel_rfl),⟨Yi8 (L:=S_97L26 Aa) K_97L26 (i:=26) (by kernel_rfl),⟨Yi8 (L:=S_97L43 Aa) K_97L43 (i:=43) (by kernel_rfl),⟨Yi8 (L:=S_97L53 Aa) K_97L53 (i:=53) (by kernel_rfl),trivial⟩⟩⟩⟩
end T
