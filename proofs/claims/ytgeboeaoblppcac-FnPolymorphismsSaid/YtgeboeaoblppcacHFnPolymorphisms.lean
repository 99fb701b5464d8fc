/- Each typed function is what the program computes; no conditions. -/
import Derived.Test.YtgeboeaoblppcacCFnPolymorphisms
set_option linter.all false
set_option maxRecDepth 10000
open Go Go.Va Go.Proofs
namespace T
theorem F_1 (a):E_1.run a=Yir C_1 Try.f5 E_1.params E_1.results a λo r=>some (N_1 o r):=by
 kernel_rfl
theorem W_1:XU D_1= []:=by kernel_rfl
theorem Q_1:Qk Try.prog 5 Try.f5 D_1:=⟨Try.func5,by kernel_rfl,by kernel_rfl⟩
theorem H_1:Holds Try.prog 5 E_1:=
 Yi3 tabT mixT Q_1 F_1 rfl trivial W_1 trivial
theorem F_2 (a):E_2.run a=Yir C_2 Try.f120 E_2.params E_2.results a λo r=>some (N_2 o r):=by
 kernel_rfl
theorem W_2:XU D_2= []:=by kernel_rfl
theorem Q_2:Qk Try.prog 120 Try.f120 D_2:=⟨Try.func120,by kernel_rfl,by kernel_rfl⟩
theorem H_2:Holds Try.prog 120 E_2:=
 Yi3 tabT mixT Q_2 F_2 rfl trivial W_2 trivial
theorem F_3 (a):E_3.run a=Yir C_3 Try.f79 E_3.params E_3.results a λo r=>some (N_3 o r):=by
 kernel_rfl
theorem W_3:XU D_3= []:=by kernel_rfl
theorem Q_3:Qk Try.prog 79 Try.f79 D_3:=⟨Try.func79,by kernel_rfl,by kernel_rfl⟩
theorem H_3:Holds Try.prog 79 E_3:=
 Yi3 tabT mixT Q_3 F_3 rfl ⟨⟨H_2,_,_,Q_2⟩,trivial⟩ W_3 trivial
theorem F_4 (a):E_4.run a=Yir C_4 Try.f77 E_4.params E_4.results a λo r=>some (N_4 o r):=by
 kernel_rfl
theorem W_4:XU D_4= []:=by kernel_rfl
theorem Q_4:Qk Try.prog 77 Try.f77 D_4:=⟨Try.func77,by kernel_rfl,by kernel_rfl⟩
theorem H_4:Holds Try.prog 77 E_4:=
 Yi3 tabT mixT Q_4 F_4 rfl ⟨⟨H_3,_,_,Q_3⟩,trivial⟩ W_4 trivial
theorem F_5 (a):E_5.run a=Yir C_5 Try.f105 E_5.params E_5.results a λo r=>some (N_5 o r):=by
 kernel_rfl
theorem W_5:XU D_5= []:=by kernel_rfl
theorem Q_5:Qk Try.prog 105 Try.f105 D_5:=⟨Try.func105,by kernel_rfl,by kernel_rfl⟩
theorem H_5:Holds Try.prog 105 E_5:=
 Yi3 tabT mixT Q_5 F_5 rfl trivial W_5 trivial
theorem F_6 (a):E_6.run a=Yir C_6 Try.f78 E_6.params E_6.results a λo r=>some (N_6 o r):=by
 kernel_rfl
theorem W_6:XU D_6= []:=by kernel_rfl
theorem Q_6:Qk Try.prog 78 Try.f78 D_6:=⟨Try.func78,by kernel_rfl,by kernel_rfl⟩
theorem H_6:Holds Try.prog 78 E_6:=
 Yi3 tabT mixT Q_6 F_6 rfl trivial W_6 trivial
theorem F_7 (a):E_7.run a=Yir C_7 Try.f106 E_7.params E_7.results a λo r=>some (N_7 o r):=by
 kernel_rfl
theorem W_7:XU D_7= []:=by kernel_rfl
theorem Q_7:Qk Try.prog 106 Try.f106 D_7:=⟨Try.func106,by kernel_rfl,by kernel_rfl⟩
theorem H_7:Holds Try.prog 106 E_7:=
 Yi3 tabT mixT Q_7 F_7 rfl ⟨⟨H_3,_,_,Q_3⟩,trivial⟩ W_7 trivial
theorem F_8 (a):E_8.run a=Yir C_8 Try.f90 E_8.params E_8.results a λo r=>some (N_8 o r):=by
 kernel_rfl
theorem W_8:XU D_8= []:=by kernel_rfl
theorem Q_8:Qk Try.prog 90 Try.f90 D_8:=⟨Try.func90,by kernel_rfl,by kernel_rfl⟩
theorem H_8:Holds Try.prog 90 E_8:=
 Yi3 tabT mixT Q_8 F_8 rfl trivial W_8 trivial
theorem F_9 (a):E_9.run a=Yir C_9 Try.f132 E_9.params E_9.results a λo r=>some (N_9 o r):=by
 kernel_rfl
theorem W_9:XU D_9= []:=by kernel_rfl
theorem Q_9:Qk Try.prog 132 Try.f132 D_9:=⟨Try.func132,by kernel_rfl,by kernel_rfl⟩
theorem H_9:Holds Try.prog 132 E_9:=
 Yi3 tabT mixT Q_9 F_9 rfl ⟨⟨H_8,_,_,Q_8⟩,trivial⟩ W_9 trivial
theorem K_10L2 (n:Nat) (x):Cv (n+1) x=Yfg C_10 B_10L2 (S_10L2 Aa) x (Cv n):=by
 obtain⟨_,_,_⟩:=x
 kernel_rfl
theorem F_10 (a):E_10.run a=Yir C_10 Try.f140 E_10.params E_10.results a λo r=>some (N_10 o r):=by
 kernel_rfl
theorem W_10:XU D_10= [B_10L2]:=by kernel_rfl
theorem Q_10:Qk Try.prog 140 Try.f140 D_10:=⟨Try.func140,by kernel_rfl,by kernel_rfl⟩
theorem H_10:Holds Try.prog 140 E_10:=
 Yi3 tabT mixT Q_10 F_10 rfl trivial W_10 ⟨Yi8 (L:=S_10L2 Aa) K_10L2 (i:=2) (by kernel_rfl),trivial⟩
theorem K_11L4 (n:Nat) (x):Ct (n+1) x=Yfg C_11 B_11L4 (S_11L4 Aa) x (Ct n):=by
 obtain⟨_,_,_⟩:=x
 kernel_rfl
theorem F_11 (a):E_11.run a=Yir C_11 Try.f149 E_11.params E_11.results a λo r=>some (N_11 o r):=by
 kernel_rfl
theorem W_11:XU D_11= [B_11L4]:=by kernel_rfl
theorem Q_11:Qk Try.prog 149 Try.f149 D_11:=⟨Try.func149,by kernel_rfl,by kernel_rfl⟩
theorem H_11:Holds Try.prog 149 E_11:=
 Yi3 tabT mixT Q_11 F_11 rfl trivial W_11 ⟨Yi8 (L:=S_11L4 Aa) K_11L4 (i:=4) (by kernel_rfl),trivial⟩
theorem K_12L2 (n:Nat) (x):Ca (n+1) x=Yfg C_12 B_12L2 (S_12L2 Aa) x (Ca n):=by
 obtain⟨_,_,_,_⟩:=x
 kernel_rfl
theorem F_12 (a):E_12.run a=Yir C_12 Try.f147 E_12.params E_12.results a λo r=>some (N_12 o r):=by
 kernel_rfl
theorem W_12:XU D_12= [B_12L2]:=by kernel_rfl
theorem Q_12:Qk Try.prog 147 Try.f147 D_12:=⟨Try.func147,by kernel_rfl,by kernel_rfl⟩
theorem H_12:Holds Try.prog 147 E_12:=
 Yi3 tabT mixT Q_12 F_12 rfl ⟨⟨H_10,_,_,Q_10⟩,⟨⟨H_11,_,_,Q_11⟩,trivial⟩⟩ W_12 ⟨Yi8 (L:=S_12L2 Aa) K_12L2 (i:=2) (by kernel_rfl),trivial⟩
theorem F_13 (a):E_13.run a=Yir C_13 Try.f133 E_13.params E_13.results a λo r=>some (N_13 o r):=by
 kernel_rfl
theorem W_13:XU D_13= []:=by kernel_rfl
theorem Q_13:Qk Try.prog 133 Try.f133 D_13:=⟨Try.func133,by kernel_rfl,by kernel_rfl⟩
theorem H_13:Holds Try.prog 133 E_13:=
 Yi3 tabT mixT Q_13 F_13 rfl ⟨⟨H_12,_,_,Q_12⟩,trivial⟩ W_13 trivial
theorem K_14L3 (n:Nat) (x):Ar (n+1) x=Yfg C_14 B_14L3 (S_14L3 Aa) x (Ar n):=by
 obtain⟨_,_,_,_⟩:=x
 kernel_rfl
theorem F_14 (a):E_14.run a=Yir C_14 Try.f135 E_14.params E_14.results a λo r=>some (N_14 o r):=by
 kernel_rfl
theorem W_14:XU D_14= [B_14L3]:=by kernel_rfl
theorem Q_14:Qk Try.prog 135 Try.f135 D_14:=⟨Try.func135,by kernel_rfl,by kernel_rfl⟩
theorem H_14:Holds Try.prog 135 E_14:=
 Yi3 tabT mixT Q_14 F_14 rfl ⟨⟨H_3,_,_,Q_3⟩,trivial⟩ W_14 ⟨Yi8 (L:=S_14L3 Aa) K_14L3 (i:=3) (by kernel_rfl),trivial⟩
theorem K_15L6 (n:Nat) (x):AC (n+1) x=Yfg C_15 B_15L6 (S_15L6 Aa) x (AC n):=by
 obtain⟨_,_,_,_,_⟩:=x
 kernel_rfl
theorem K_15L3 (n:Nat) (x):AW (n+1) x=Yfg C_15 B_15L3 (S_15L3 Aa) x (AW n):=by
 obtain⟨_,_,_,_⟩:=x
 kernel_rfl
theorem F_15 (a):E_15.run a=Yir C_15 Try.f134 E_15.params E_15.results a λo r=>some (N_15 o r):=by
 kernel_rfl
theorem W_15:XU D_15= [B_15L3,B_15L6]:=by kernel_rfl
theorem Q_15:Qk Try.prog 134 Try.f134 D_15:=⟨Try.func134,by kernel_rfl,by kernel_rfl⟩
theorem H_15:Holds Try.prog 134 E_15:=
 Yi3 tabT mixT Q_15 F_15 rfl trivial W_15 ⟨Yi8 (L:=S_15L3 Aa) K_15L3 (i:=3) (by kernel_rfl),⟨Yi8 (L:=S_15L6 Aa) K_15L6 (i:=6) (by kernel_rfl),trivial⟩⟩
theorem K_16L2 (n:Nat) (x):BY (n+1) x=Yfg C_16 B_16L2 (S_16L2 Aa) x (BY n):=by
 obtain⟨_,_,_⟩:=x
 kernel_rfl
theorem F_16 (a):E_16.run a=Yir C_16 Try.f66 E_16.params E_16.results a λo r=>some (N_16 o r):=by
 kernel_rfl
theorem W_16:XU D_16= [B_16L2]:=by kernel_rfl
theorem Q_16:Qk Try.prog 66 Try.f66 D_16:=⟨Try.func66,by kernel_rfl,by kernel_rfl⟩
theorem H_16:Holds Try.prog 66 E_16:=
 Yi3 tabT mixT Q_16 F_16 rfl trivial W_16 ⟨Yi8 (L:=S_16L2 Aa) K_16L2 (i:=2) (by kernel_rfl),trivial⟩
theorem K_17L3 (n:Nat) (x):Cu (n+1) x=Yfg C_17 B_17L3 (S_17L3 Aa) x (Cu n):=by
 obtain⟨_,_,_,_⟩:=x
 kernel_rfl
theorem F_17 (a):E_17.run a=Yir C_17 Try.f138 E_17.params E_17.results a λo r=>some (N_17 o r):=by
 kernel_rfl
theorem W_17:XU D_17= [B_17L3]:=by kernel_rfl
theorem Q_17:Qk Try.prog 138 Try.f138 D_17:=⟨Try.func138,by kernel_rfl,by kernel_rfl⟩
theorem H_17:Holds Try.prog 138 E_17:=
 Yi3 tabT mixT Q_17 F_17 rfl trivial W_17 ⟨Yi8 (L:=S_17L3 Aa) K_17L3 (i:=3) (by kernel_rfl),trivial⟩
theorem K_18L3 (n:Nat) (x):BP (n+1) x=Yfg C_18 B_18L3 (S_18L3 Aa) x (BP n):=by
 obtain⟨_,_,_,_,_⟩:=x
 kernel_rfl
theorem F_18 (a):E_18.run a=Yir C_18 Try.f136 E_18.params E_18.results a λo r=>some (N_18 o r):=by
 kernel_rfl
theorem W_18:XU D_18= [B_18L3]:=by kernel_rfl
theorem Q_18:Qk Try.prog 136 Try.f136 D_18:=⟨Try.func136,by kernel_rfl,by kernel_rfl⟩
theorem H_18:Holds Try.prog 136 E_18:=
 Yi3 tabT mixT Q_18 F_18 rfl ⟨⟨H_16,_,_,Q_16⟩,⟨⟨H_17,_,_,Q_17⟩,trivial⟩⟩ W_18 ⟨Yi8 (L:=S_18L3 Aa) K_18L3 (i:=3) (by kernel_rfl),trivial⟩
theorem F_19 (a):E_19.run a=Yir C_19 Try.f133 E_19.params E_19.results a λo r=>some (N_19 o r):=by
 kernel_rfl
theorem W_19:XU D_19= []:=by kernel_rfl
theorem Q_19:Qk Try.prog 133 Try.f133 D_19:=⟨Try.func133,by kernel_rfl,by kernel_rfl⟩
theorem H_19:Holds Try.prog 133 E_19:=
 Yi3 tabT mixT Q_19 F_19 rfl ⟨⟨H_12,_,_,Q_12⟩,trivial⟩ W_19 trivial
theorem K_20L9 (n:Nat) (x):AY (n+1) x=Yfg C_20 B_20L9 (S_20L9 Aa) x (AY n):=by
 obtain⟨_,_,_,_,_,_,_,_⟩:=x
 kernel_rfl
theorem K_20L5 (n:Nat) (x):AX (n+1) x=Yfg C_20 B_20L5 (S_20L5 Aa) x (AX n):=by
 obtain⟨_,_,_,_,_,_⟩:=x
 kernel_rfl
theorem F_20 (a):E_20.run a=Yir C_20 Try.f107 E_20.params E_20.results a λo r=>some (N_20 o r):=by
 kernel_rfl
theorem W_20:XU D_20= [B_20L5,B_20L9]:=by kernel_rfl
theorem Q_20:Qk Try.prog 107 Try.f107 D_20:=⟨Try.func107,by kernel_rfl,by kernel_rfl⟩
theorem H_20:Holds Try.prog 107 E_20:=
 Yi3 tabT mixT Q_20 F_20 rfl ⟨⟨H_4,_,_,Q_4⟩,⟨⟨H_3,_,_,Q_3⟩,⟨⟨H_8,_,_,Q_8⟩,⟨⟨H_7,_,_,Q_7⟩,⟨⟨H_9,_,_,Q_9⟩,⟨⟨H_19,_,_,Q_19⟩,⟨⟨H_15,_,_,Q_15⟩,⟨⟨H_14,_,_,Q_14⟩,⟨⟨H_18,_,_,Q_18⟩,trivial⟩⟩⟩⟩⟩⟩⟩⟩⟩ W_20 ⟨Yi8 (L:=S_20L5 Aa) K_20L5 (i:=5) (by kernel_rfl),⟨Yi8 (L:=S_20L9 Aa) K_20L9 (i:=9) (by kernel_rfl),trivial⟩⟩
theorem K_21L9 (n:Nat) (x):AF (n+1) x=Yfg C_21 B_21L9 (S_21L9 Aa) x (AF n):=by
 obtain⟨_,_,_,_,_,_,_⟩:=x
 kernel_rfl
theorem K_21L5 (n:Nat) (x):AE (n+1) x=Yfg C_21 B_21L5 (S_21L5 Aa) x (AE n):=by
 obtain⟨_,_,_,_,_⟩:=x
 kernel_rfl
theorem K_21L17 (n:Nat) (x):AO (n+1) x=Yfg C_21 B_21L17 (S_21L17 Aa) x (AO n):=by
 obtain⟨_,_,_,_⟩:=x
 kernel_rfl
theorem F_21 (a):E_21.run a=Yir C_21 Try.f57 E_21.params E_21.results a λo r=>some (N_21 o r):=by
 kernel_rfl
theorem W_21:XU D_21= [B_21L5,B_21L9,B_21L17]:=by kernel_rfl
theorem Q_21:Qk Try.prog 57 Try.f57 D_21:=⟨Try.func57,by kernel_rfl,by kernel_rfl⟩
theorem H_21:Holds Try.prog 57 E_21:=
 Yi3 tabT mixT Q_21 F_21 rfl ⟨⟨H_4,_,_,Q_4⟩,⟨⟨H_6,_,_,Q_6⟩,⟨⟨H_3,_,_,Q_3⟩,⟨⟨H_5,_,_,Q_5⟩,⟨⟨H_7,_,_,Q_7⟩,⟨⟨H_20,_,_,Q_20⟩,trivial⟩⟩⟩⟩⟩⟩ W_21 ⟨Yi8 (L:=S_21L5 Aa) K_21L5 (i:=5) (by kernel_rfl),⟨Yi8 (L:=S_21L9 Aa) K_21L9 (i:=9) (by kernel_rfl),⟨Yi8 (L:=S_21L17 Aa) K_21L17 (i:=17) (by kernel_rfl),trivial⟩⟩⟩
theorem F_22 (a):E_22.run a=Yir C_22 Try.f58 E_22.params E_22.results a λo r=>some (N_22 o r):=by
 kernel_rfl
theorem W_22:XU D_22= []:=by kernel_rfl
theorem Q_22:Qk Try.prog 58 Try.f58 D_22:=⟨Try.func58,by kernel_rfl,by kernel_rfl⟩
theorem H_22:Holds Try.prog 58 E_22:=
 Yi3 tabT mixT Q_22 F_22 rfl ⟨⟨H_3,_,_,Q_3⟩,⟨⟨H_7,_,_,Q_7⟩,trivial⟩⟩ W_22 trivial
theorem F_23 (a):E_23.run a=Yir C_23 Try.f23 E_23.params E_23.results a λo r=>some (N_23 o r):=by
 kernel_rfl
theorem W_23:XU D_23= []:=by kernel_rfl
theorem Q_23:Qk Try.prog 23 Try.f23 D_23:=⟨Try.func23,by kernel_rfl,by kernel_rfl⟩
theorem H_23:Holds Try.prog 23 E_23:=
 Yi3 tabT mixT Q_23 F_23 rfl ⟨⟨H_21,_,_,Q_21⟩,⟨⟨H_22,_,_,Q_22⟩,trivial⟩⟩ W_23 trivial
theorem F_24 (a):E_24.run a=Yir C_24 Try.f87 E_24.params E_24.results a λo r=>some (N_24 o r):=by
 kernel_rfl
theorem W_24:XU D_24= []:=by kernel_rfl
theorem Q_24:Qk Try.prog 87 Try.f87 D_24:=⟨Try.func87,by kernel_rfl,by kernel_rfl⟩
theorem H_24:Holds Try.prog 87 E_24:=
 Yi3 tabT mixT Q_24 F_24 rfl trivial W_24 trivial
theorem K_25L2 (n:Nat) (x):Cq (n+1) x=Yfg C_25 B_25L2 (S_25L2 Aa) x (Cq n):=by
 obtain⟨_,_,_,_⟩:=x
 kernel_rfl
theorem F_25 (a):E_25.run a=Yir C_25 Try.f117 E_25.params E_25.results a λo r=>some (N_25 o r):=by
 kernel_rfl
theorem W_25:XU D_25= [B_25L2]:=by kernel_rfl
theorem Q_25:Qk Try.prog 117 Try.f117 D_25:=⟨Try.func117,by kernel_rfl,by kernel_rfl⟩
theorem H_25:Holds Try.prog 117 E_25:=
 Yi3 tabT mixT Q_25 F_25 rfl trivial W_25 ⟨Yi8 (L:=S_25L2 Aa) K_25L2 (i:=2) (by kernel_rfl),trivial⟩
theorem K_26L2 (n:Nat) (x):Be (n+1) x=Yfg C_26 B_26L2 (S_26L2 Aa) x (Be n):=by
 obtain⟨_,_,_⟩:=x
 kernel_rfl
theorem F_26 (a):E_26.run a=Yir C_26 Try.f145 E_26.params E_26.results a λo r=>some (N_26 o r):=by
 kernel_rfl
theorem W_26:XU D_26= [B_26L2]:=by kernel_rfl
theorem Q_26:Qk Try.prog 145 Try.f145 D_26:=⟨Try.func145,by kernel_rfl,by kernel_rfl⟩
theorem H_26:Holds Try.prog 145 E_26:=
 Yi3 tabT mixT Q_26 F_26 rfl trivial W_26 ⟨Yi8 (L:=S_26L2 Aa) K_26L2 (i:=2) (by kernel_rfl),trivial⟩
theorem K_27L4 (n:Nat) (x):Bm (n+1) x=Yfg C_27 B_27L4 (S_27L4 Aa) x (Bm n):=by
 obtain⟨_,_,_,_,_⟩:=x
 kernel_rfl
theorem F_27 (a):E_27.run a=Yir C_27 Try.f126 E_27.params E_27.results a λo r=>some (N_27 o r):=by
 kernel_rfl
theorem W_27:XU D_27= [B_27L4]:=by kernel_rfl
theorem Q_27:Qk Try.prog 126 Try.f126 D_27:=⟨Try.func126,by kernel_rfl,by kernel_rfl⟩
theorem H_27:Holds Try.prog 126 E_27:=
 Yi3 tabT mixT Q_27 F_27 rfl ⟨⟨H_25,_,_,Q_25⟩,⟨⟨H_26,_,_,Q_26⟩,trivial⟩⟩ W_27 ⟨Yi8 (L:=S_27L4 Aa) K_27L4 (i:=4) (by kernel_rfl),trivial⟩
theorem K_28L4 (n:Nat) (x):BK (n+1) x=Yfg C_28 B_28L4 (S_28L4 Aa) x (BK n):=by
 obtain⟨_,_,_,_⟩:=x
 kernel_rfl
theorem F_28 (a):E_28.run a=Yir C_28 Try.f108 E_28.params E_28.results a λo r=>some (N_28 o r):=by
 kernel_rfl
theorem W_28:XU D_28= [B_28L4]:=by kernel_rfl
theorem Q_28:Qk Try.prog 108 Try.f108 D_28:=⟨Try.func108,by kernel_rfl,by kernel_rfl⟩
theorem H_28:Holds Try.prog 108 E_28:=
 Yi3 tabT mixT Q_28 F_28 rfl ⟨⟨H_27,_,_,Q_27⟩,trivial⟩ W_28 ⟨Yi8 (L:=S_28L4 Aa) K_28L4 (i:=4) (by kernel_rfl),trivial⟩
theorem K_29L4 (n:Nat) (x):B3 (n+1) x=Yfg C_29 B_29L4 (S_29L4 Aa) x (B3 n):=by
 obtain⟨_,_,_,_⟩:=x
 kernel_rfl
theorem F_29 (a):E_29.run a=Yir C_29 Try.f59 E_29.params E_29.results a λo r=>some (N_29 o r):=by
 kernel_rfl
theorem W_29:XU D_29= [B_29L4]:=by kernel_rfl
theorem Q_29:Qk Try.prog 59 Try.f59 D_29:=⟨Try.func59,by kernel_rfl,by kernel_rfl⟩
theorem H_29:Holds Try.prog 59 E_29:=
 Yi3 tabT mixT Q_29 F_29 rfl ⟨⟨H_24,_,_,Q_24⟩,⟨⟨H_28,_,_,Q_28⟩,trivial⟩⟩ W_29 ⟨Yi8 (L:=S_29L4 Aa) K_29L4 (i:=4) (by kernel_rfl),trivial⟩
theorem K_30L2 (n:Nat) (x):BW (n+1) x=Yfg C_30 B_30L2 (S_30L2 Aa) x (BW n):=by
 obtain⟨_,_,_⟩:=x
 kernel_rfl
theorem F_30 (a):E_30.run a=Yir C_30 Try.f63 E_30.params E_30.results a λo r=>some (N_30 o r):=by
 kernel_rfl
theorem W_30:XU D_30= [B_30L2]:=by kernel_rfl
theorem Q_30:Qk Try.prog 63 Try.f63 D_30:=⟨Try.func63,by kernel_rfl,by kernel_rfl⟩
theorem H_30:Holds Try.prog 63 E_30:=
 Yi3 tabT mixT Q_30 F_30 rfl trivial W_30 ⟨Yi8 (L:=S_30L2 Aa) K_30L2 (i:=2) (by kernel_rfl),trivial⟩
theorem F_31 (a):E_31.run a=Yir C_31 Try.f60 E_31.params E_31.results a λo r=>some (N_31 o r):=by
 kernel_rfl
theorem W_31:XU D_31= []:=by kernel_rfl
theorem Q_31:Qk Try.prog 60 Try.f60 D_31:=⟨Try.func60,by kernel_rfl,by kernel_rfl⟩
theorem H_31:Holds Try.prog 60 E_31:=
 Yi3 tabT mixT Q_31 F_31 rfl ⟨⟨H_30,_,_,Q_30⟩,trivial⟩ W_31 trivial
theorem K_32L3 (n:Nat) (x):Bu (n+1) x=Yfg C_32 B_32L3 (S_32L3 Aa) x (Bu n):=by
 obtain⟨_,_,_⟩:=x
 kernel_rfl
theorem F_32 (a):E_32.run a=Yir C_32 Try.f62 E_32.params E_32.results a λo r=>some (N_32 o r):=by
 kernel_rfl
theorem W_32:XU D_32= [B_32L3]:=by kernel_rfl
theorem Q_32:Qk Try.prog 62 Try.f62 D_32:=⟨Try.func62,by kernel_rfl,by kernel_rfl⟩
theorem H_32:Holds Try.prog 62 E_32:=
 Yi3 tabT mixT Q_32 F_32 rfl trivial W_32 ⟨Yi8 (L:=S_32L3 Aa) K_32L3 (i:=3) (by kernel_rfl),trivial⟩
theorem K_33L3 (n:Nat) (x):Cg (n+1) x=Yfg C_33 B_33L3 (S_33L3 Aa) x (Cg n):=by
 obtain⟨_,_,_,_⟩:=x
 kernel_rfl
theorem F_33 (a):E_33.run a=Yir C_33 Try.f114 E_33.params E_33.results a λo r=>some (N_33 o r):=by
 kernel_rfl
theorem W_33:XU D_33= [B_33L3]:=by kernel_rfl
theorem Q_33:Qk Try.prog 114 Try.f114 D_33:=⟨Try.func114,by kernel_rfl,by kernel_rfl⟩
theorem H_33:Holds Try.prog 114 E_33:=
 Yi3 tabT mixT Q_33 F_33 rfl trivial W_33 ⟨Yi8 (L:=S_33L3 Aa) K_33L3 (i:=3) (by kernel_rfl),trivial⟩
theorem K_34L3 (n:Nat) (x):B6 (n+1) x=Yfg C_34 B_34L3 (S_34L3 Aa) x (B6 n):=by
 obtain⟨_,_,_,_⟩:=x
 kernel_rfl
theorem F_34 (a):E_34.run a=Yir C_34 Try.f112 E_34.params E_34.results a λo r=>some (N_34 o r):=by
 kernel_rfl
theorem W_34:XU D_34= [B_34L3]:=by kernel_rfl
theorem Q_34:Qk Try.prog 112 Try.f112 D_34:=⟨Try.func112,by kernel_rfl,by kernel_rfl⟩
theorem H_34:Holds Try.prog 112 E_34:=
 Yi3 tabT mixT Q_34 F_34 rfl ⟨⟨H_33,_,_,Q_33⟩,trivial⟩ W_34 ⟨Yi8 (L:=S_34L3 Aa) K_34L3 (i:=3) (by kernel_rfl),trivial⟩
theorem K_35L3 (n:Nat) (x):Cp (n+1) x=Yfg C_35 B_35L3 (S_35L3 Aa) x (Cp n):=by
 obtain⟨_,_,_,_⟩:=x
 kernel_rfl
theorem F_35 (a):E_35.run a=Yir C_35 Try.f113 E_35.params E_35.results a λo r=>some (N_35 o r):=by
 kernel_rfl
theorem W_35:XU D_35= [B_35L3]:=by kernel_rfl
theorem Q_35:Qk Try.prog 113 Try.f113 D_35:=⟨Try.func113,by kernel_rfl,by kernel_rfl⟩
theorem H_35:Holds Try.prog 113 E_35:=
 Yi3 tabT mixT Q_35 F_35 rfl trivial W_35 ⟨Yi8 (L:=S_35L3 Aa) K_35L3 (i:=3) (by kernel_rfl),trivial⟩
theorem K_36L17 (n:Nat) (x):AU (n+1) x=Yfg C_36 B_36L17 (S_36L17 Aa) x (AU n):=by
 obtain⟨_,_,_,_,_,_,_,_,_,_,_,_,_,_,_,_,_,_,_⟩:=x
 kernel_rfl
theorem K_36L14 (n:Nat) (x):AT (n+1) x=Yfg C_36 B_36L14 (S_36L14 Aa) x (AT n):=by
 obtain⟨_,_,_,_,_,_,_,_,_,_,_,_,_,_,_⟩:=x
 kernel_rfl
theorem K_36L8 (n:Nat) (x):AM (n+1) x=Yfg C_36 B_36L8 (S_36L8 Aa) x (AM n):=by
 obtain⟨_,_,_,_,_,_,_,_,_,_⟩:=x
 kernel_rfl
theorem K_36L3 (n:Nat) (x):A8 (n+1) x=Yfg C_36 B_36L3 (S_36L3 Aa) x (A8 n):=by
 obtain⟨_,_,_,_,_,_⟩:=x
 kernel_rfl
theorem F_36 (a):E_36.run a=Yir C_36 Try.f68 E_36.params E_36.results a λo r=>some (N_36 o r):=by
 kernel_rfl
theorem W_36:XU D_36= [B_36L3,B_36L8,B_36L14,B_36L17]:=by kernel_rfl
theorem Q_36:Qk Try.prog 68 Try.f68 D_36:=⟨Try.func68,by kernel_rfl,by kernel_rfl⟩
theorem H_36:Holds Try.prog 68 E_36:=
 Yi3 tabT mixT Q_36 F_36 rfl ⟨⟨H_30,_,_,Q_30⟩,⟨⟨H_34,_,_,Q_34⟩,⟨⟨H_35,_,_,Q_35⟩,⟨⟨H_33,_,_,Q_33⟩,trivial⟩⟩⟩⟩ W_36 ⟨Yi8 (L:=S_36L3 Aa) K_36L3 (i:=3) (by kernel_rfl),⟨Yi8 (L:=S_36L8 Aa) K_36L8 (i:=8) (by kernel_rfl),⟨Yi8 (L:=S_36L14 Aa) K_36L14 (i:=14) (by kernel_rfl),⟨Yi8 (L:=S_36L17 Aa) K_36L17 (i:=17) (by kernel_rfl),trivial⟩⟩⟩⟩
theorem F_37 (a):E_37.run a=Yir C_37 Try.f104 E_37.params E_37.results a λo r=>some (N_37 o r):=by
 kernel_rfl
theorem W_37:XU D_37= []:=by kernel_rfl
theorem Q_37:Qk Try.prog 104 Try.f104 D_37:=⟨Try.func104,by kernel_rfl,by kernel_rfl⟩
theorem H_37:Holds Try.prog 104 E_37:=
 Yi3 tabT mixT Q_37 F_37 rfl trivial W_37 trivial
theorem F_38 (a):E_38.run a=Yir C_38 Try.f109 E_38.params E_38.results a λo r=>some (N_38 o r):=by
 kernel_rfl
theorem W_38:XU D_38= []:=by kernel_rfl
theorem Q_38:Qk Try.prog 109 Try.f109 D_38:=⟨Try.func109,by kernel_rfl,by kernel_rfl⟩
theorem H_38:Holds Try.prog 109 E_38:=
 Yi3 tabT mixT Q_38 F_38 rfl ⟨⟨H_37,_,_,Q_37⟩,trivial⟩ W_38 trivial
theorem K_39L3 (n:Nat) (x):Ce (n+1) x=Yfg C_39 B_39L3 (S_39L3 Aa) x (Ce n):=by
 obtain⟨_,_,_,_,_⟩:=x
 kernel_rfl
theorem F_39 (a):E_39.run a=Yir C_39 Try.f130 E_39.params E_39.results a λo r=>some (N_39 o r):=by
 kernel_rfl
theorem W_39:XU D_39= [B_39L3]:=by kernel_rfl
theorem Q_39:Qk Try.prog 130 Try.f130 D_39:=⟨Try.func130,by kernel_rfl,by kernel_rfl⟩
theorem H_39:Holds Try.prog 130 E_39:=
 Yi3 tabT mixT Q_39 F_39 rfl trivial W_39 ⟨Yi8 (L:=S_39L3 Aa) K_39L3 (i:=3) (by kernel_rfl),trivial⟩
theorem K_40L2 (n:Nat) (x):AB (n+1) x=Yfg C_40 B_40L2 (S_40L2 Aa) x (AB n):=by
 obtain⟨_,_,_,_⟩:=x
 kernel_rfl
theorem F_40 (a):E_40.run a=Yir C_40 Try.f116 E_40.params E_40.results a λo r=>some (N_40 o r):=by
 kernel_rfl
theorem W_40:XU D_40= [B_40L2]:=by kernel_rfl
theorem Q_40:Qk Try.prog 116 Try.f116 D_40:=⟨Try.func116,by kernel_rfl,by kernel_rfl⟩
theorem H_40:Holds Try.prog 116 E_40:=
 Yi3 tabT mixT Q_40 F_40 rfl ⟨⟨H_33,_,_,Q_33⟩,⟨⟨H_39,_,_,Q_39⟩,trivial⟩⟩ W_40 ⟨Yi8 (L:=S_40L2 Aa) K_40L2 (i:=2) (by kernel_rfl),trivial⟩
theorem K_41L4 (rec:(Int×(List Int)×((List (Int×(List Int)))×Int)×(Bool×Int×Int×(List (List ((List Int)×(List ByteArray)))))×(List Int)×Unit)->Option ((List Int)×((List (Int×(List Int)))×Int)×(Bool×Int×Int×(List (List ((List Int)×(List ByteArray)))))×(List Int)×Bool)) (n:Nat) (x):Af rec (n+1) x=Yfg (C_41 rec) B_41L4 (S_41L4 rec Aa) x (Af rec n):=by
 obtain⟨_,_,_,_,_,_,_⟩:=x
 kernel_rfl
theorem F_41 (rec:(Int×(List Int)×((List (Int×(List Int)))×Int)×(Bool×Int×Int×(List (List ((List Int)×(List ByteArray)))))×(List Int)×Unit)->Option ((List Int)×((List (Int×(List Int)))×Int)×(Bool×Int×Int×(List (List ((List Int)×(List ByteArray)))))×(List Int)×Bool)) (a:YH [.v .int,.bx (.mv .int 0),.pr (.bx (.mv y4 1)) (.bx (.v .int)),.bx (.v (.ptr y2)),.bx (.v y0),.jk 1]):Bb rec a.1 a.2.1 a.2.2.1 a.2.2.2.1 a.2.2.2.2.1 a.2.2.2.2.2=Yir (C_41 rec) Try.f115 [.v .int,.bx (.mv .int 0),.pr (.bx (.mv y4 1)) (.bx (.v .int)),.bx (.v (.ptr y2)),.bx (.v y0),.jk 1] [.v .bool] a (λo r=>some (N_41 o r)):=by
 kernel_rfl
theorem W_41:XU D_41= [B_41L4]:=by kernel_rfl
theorem R_41L4:YZ B_41L4=4:=by kernel_rfl
theorem Q_41:Qk Try.prog 115 Try.f115 D_41:=⟨Try.func115,by kernel_rfl,by kernel_rfl⟩
theorem H_41: ∀d,Holds Try.prog 115 (E_41 d)
 |0=>λ_ b h=>absurd (show(none:Option _)=some b from h) (by simp)
 |d+1=>YgE (en:=E_41 (d+1)) (cx:=(C_41 (An d))) (Yhe tabT rfl).1 (Yfz ⟨⟨H_38,_,_,Q_38⟩,⟨⟨H_40,_,_,Q_40⟩,⟨⟨H_41 d,_,_,Q_41⟩,trivial⟩⟩⟩) mixT Q_41.1 Q_41.2.2 (YgL W_41 ⟨YhE (cx:=(C_41 (An d))) (L:=S_41L4 (An d) Aa) rfl (by rw[R_41L4];rfl) ⟨Af (An d),λ_=>rfl,λn x=>K_41L4 (An d) n x,Aa,λ_=>rfl⟩,trivial⟩) (enc:=N_41) (λ_ _=>⟨rfl,rfl⟩) (F_41 (An d)) rfl
theorem F_42 (a):E_42.run a=Yir C_42 Try.f69 E_42.params E_42.results a λo r=>some (N_42 o r):=by
 kernel_rfl
theorem W_42:XU D_42= []:=by kernel_rfl
theorem Q_42:Qk Try.prog 69 Try.f69 D_42:=⟨Try.func69,by kernel_rfl,by kernel_rfl⟩
theorem H_42:Holds Try.prog 69 E_42:=
 Yi3 tabT mixT Q_42 F_42 rfl ⟨⟨H_41 Aa,_,_,Q_41⟩,trivial⟩ W_42 trivial
theorem F_43 (a):E_43.run a=Yir C_43 Try.f61 E_43.params E_43.results a λo r=>some (N_43 o r):=by
 kernel_rfl
theorem W_43:XU D_43= []:=by kernel_rfl
theorem Q_43:Qk Try.prog 61 Try.f61 D_43:=⟨Try.func61,by kernel_rfl,by kernel_rfl⟩
theorem H_43:Holds Try.prog 61 E_43:=
 Yi3 tabT mixT Q_43 F_43 rfl ⟨⟨H_36,_,_,Q_36⟩,⟨⟨H_42,_,_,Q_42⟩,trivial⟩⟩ W_43 trivial
theorem F_44 (a):E_44.run a=Yir C_44 Try.f24 E_44.params E_44.results a λo r=>some (N_44 o r):=by
 kernel_rfl
theorem W_44:XU D_44= []:=by kernel_rfl
theorem Q_44:Qk Try.prog 24 Try.f24 D_44:=⟨Try.func24,by kernel_rfl,by kernel_rfl⟩
theorem H_44:Holds Try.prog 24 E_44:=
 Yi3 tabT mixT Q_44 F_44 rfl ⟨⟨H_29,_,_,Q_29⟩,⟨⟨H_31,_,_,Q_31⟩,⟨⟨H_43,_,_,Q_43⟩,⟨⟨H_32,_,_,Q_32⟩,⟨⟨H_30,_,_,Q_30⟩,trivial⟩⟩⟩⟩⟩ W_44 trivial
theorem F_45 (a):E_45.run a=Yir C_45 Try.f81 E_45.params E_45.results a λo r=>some (N_45 o r):=by
 kernel_rfl
theorem W_45:XU D_45= []:=by kernel_rfl
theorem Q_45:Qk Try.prog 81 Try.f81 D_45:=⟨Try.func81,by kernel_rfl,by kernel_rfl⟩
theorem H_45:Holds Try.prog 81 E_45:=
 Yi3 tabT mixT Q_45 F_45 rfl ⟨⟨H_8,_,_,Q_8⟩,trivial⟩ W_45 trivial
theorem K_46L2 (n:Nat) (x):BN (n+1) x=Yfg C_46 B_46L2 (S_46L2 Aa) x (BN n):=by
 obtain⟨_,_,_⟩:=x
 kernel_rfl
theorem F_46 (a):E_46.run a=Yir C_46 Try.f127 E_46.params E_46.results a λo r=>some (N_46 o r):=by
 kernel_rfl
theorem W_46:XU D_46= [B_46L2]:=by kernel_rfl
theorem Q_46:Qk Try.prog 127 Try.f127 D_46:=⟨Try.func127,by kernel_rfl,by kernel_rfl⟩
theorem H_46:Holds Try.prog 127 E_46:=
 Yi3 tabT mixT Q_46 F_46 rfl ⟨⟨H_8,_,_,Q_8⟩,trivial⟩ W_46 ⟨Yi8 (L:=S_46L2 Aa) K_46L2 (i:=2) (by kernel_rfl),trivial⟩
theorem F_47 (a):E_47.run a=Yir C_47 Try.f139 E_47.params E_47.results a λo r=>some (N_47 o r):=by
 kernel_rfl
theorem W_47:XU D_47= []:=by kernel_rfl
theorem Q_47:Qk Try.prog 139 Try.f139 D_47:=⟨Try.func139,by kernel_rfl,by kernel_rfl⟩
theorem H_47:Holds Try.prog 139 E_47:=
 Yi3 tabT mixT Q_47 F_47 rfl ⟨⟨H_46,_,_,Q_46⟩,trivial⟩ W_47 trivial
theorem K_48L4 (n:Nat) (x):BQ (n+1) x=Yfg C_48 B_48L4 (S_48L4 Aa) x (BQ n):=by
 obtain⟨_,_,_⟩:=x
 kernel_rfl
theorem F_48 (a):E_48.run a=Yir C_48 Try.f124 E_48.params E_48.results a λo r=>some (N_48 o r):=by
 kernel_rfl
theorem W_48:XU D_48= [B_48L4]:=by kernel_rfl
theorem Q_48:Qk Try.prog 124 Try.f124 D_48:=⟨Try.func124,by kernel_rfl,by kernel_rfl⟩
theorem H_48:Holds Try.prog 124 E_48:=
 Yi3 tabT mixT Q_48 F_48 rfl ⟨⟨H_16,_,_,Q_16⟩,⟨⟨H_8,_,_,Q_8⟩,⟨⟨H_47,_,_,Q_47⟩,⟨⟨H_10,_,_,Q_10⟩,trivial⟩⟩⟩⟩ W_48 ⟨Yi8 (L:=S_48L4 Aa) K_48L4 (i:=4) (by kernel_rfl),trivial⟩
theorem K_49L4 (n:Nat) (x):Bi (n+1) x=Yfg C_49 B_49L4 (S_49L4 Aa) x (Bi n):=by
 obtain⟨_,_,_⟩:=x
 kernel_rfl
theorem F_49 (a):E_49.run a=Yir C_49 Try.f82 E_49.params E_49.results a λo r=>some (N_49 o r):=by
 kernel_rfl
theorem W_49:XU D_49= [B_49L4]:=by kernel_rfl
theorem Q_49:Qk Try.prog 82 Try.f82 D_49:=⟨Try.func82,by kernel_rfl,by kernel_rfl⟩
theorem H_49:Holds Try.prog 82 E_49:=
 Yi3 tabT mixT Q_49 F_49 rfl ⟨⟨H_48,_,_,Q_48⟩,trivial⟩ W_49 ⟨Yi8 (L:=S_49L4 Aa) K_49L4 (i:=4) (by kernel_rfl),trivial⟩
theorem K_50L4 (n:Nat) (x):BH (n+1) x=Yfg C_50 B_50L4 (S_50L4 Aa) x (BH n):=by
 obtain⟨_,_,_⟩:=x
 kernel_rfl
theorem F_50 (a):E_50.run a=Yir C_50 Try.f84 E_50.params E_50.results a λo r=>some (N_50 o r):=by
 kernel_rfl
theorem W_50:XU D_50= [B_50L4]:=by kernel_rfl
theorem Q_50:Qk Try.prog 84 Try.f84 D_50:=⟨Try.func84,by kernel_rfl,by kernel_rfl⟩
theorem H_50:Holds Try.prog 84 E_50:=
 Yi3 tabT mixT Q_50 F_50 rfl ⟨⟨H_45,_,_,Q_45⟩,⟨⟨H_49,_,_,Q_49⟩,⟨⟨H_8,_,_,Q_8⟩,trivial⟩⟩⟩ W_50 ⟨Yi8 (L:=S_50L4 Aa) K_50L4 (i:=4) (by kernel_rfl),trivial⟩
theorem F_51 (a):E_51.run a=Yir C_51 Try.f64 E_51.params E_51.results a λo r=>some (N_51 o r):=by
 kernel_rfl
theorem W_51:XU D_51= []:=by kernel_rfl
theorem Q_51:Qk Try.prog 64 Try.f64 D_51:=⟨Try.func64,by kernel_rfl,by kernel_rfl⟩
theorem H_51:Holds Try.prog 64 E_51:=
 Yi3 tabT mixT Q_51 F_51 rfl ⟨⟨H_16,_,_,Q_16⟩,⟨⟨H_50,_,_,Q_50⟩,trivial⟩⟩ W_51 trivial
theorem K_52L3 (n:Nat) (x):BR (n+1) x=Yfg C_52 B_52L3 (S_52L3 Aa) x (BR n):=by
 obtain⟨_,_,_⟩:=x
 kernel_rfl
theorem F_52 (a):E_52.run a=Yir C_52 Try.f52 E_52.params E_52.results a λo r=>some (N_52 o r):=by
 kernel_rfl
theorem W_52:XU D_52= [B_52L3]:=by kernel_rfl
theorem Q_52:Qk Try.prog 52 Try.f52 D_52:=⟨Try.func52,by kernel_rfl,by kernel_rfl⟩
theorem H_52:Holds Try.prog 52 E_52:=
 Yi3 tabT mixT Q_52 F_52 rfl trivial W_52 ⟨Yi8 (L:=S_52L3 Aa) K_52L3 (i:=3) (by kernel_rfl),trivial⟩
theorem F_53 (a):E_53.run a=Yir C_53 Try.f122 E_53.params E_53.results a λo r=>some (N_53 o r):=by
 kernel_rfl
theorem W_53:XU D_53= []:=by kernel_rfl
theorem Q_53:Qk Try.prog 122 Try.f122 D_53:=⟨Try.func122,by kernel_rfl,by kernel_rfl⟩
theorem H_53:Holds Try.prog 122 E_53:=
 Yi3 tabT mixT Q_53 F_53 rfl trivial W_53 trivial
theorem K_54L3 (n:Nat) (x):BF (n+1) x=Yfg C_54 B_54L3 (S_54L3 Aa) x (BF n):=by
 obtain⟨_,_,_,_,_⟩:=x
 kernel_rfl
theorem K_54L21 (n:Nat) (x):By (n+1) x=Yfg C_54 B_54L21 (S_54L21 Aa) x (By n):=by
 obtain⟨_,_,_,_,_,_,_,_,_,_,_,_,_⟩:=x
 kernel_rfl
theorem K_54L17 (n:Nat) (x):Bx (n+1) x=Yfg C_54 B_54L17 (S_54L17 Aa) x (Bx n):=by
 obtain⟨_,_,_,_,_,_,_,_,_,_,_⟩:=x
 kernel_rfl
theorem K_54L11 (n:Nat) (x):Bw (n+1) x=Yfg C_54 B_54L11 (S_54L11 Aa) x (Bw n):=by
 obtain⟨_,_,_,_,_,_,_⟩:=x
 kernel_rfl
theorem K_54L7 (n:Nat) (x):BG (n+1) x=Yfg C_54 B_54L7 (S_54L7 Aa) x (BG n):=by
 obtain⟨_,_,_,_,_⟩:=x
 kernel_rfl
theorem F_54 (a):E_54.run a=Yir C_54 Try.f111 E_54.params E_54.results a λo r=>some (N_54 o r):=by
 kernel_rfl
theorem W_54:XU D_54= [B_54L3,B_54L7,B_54L11,B_54L17,B_54L21]:=by kernel_rfl
theorem Q_54:Qk Try.prog 111 Try.f111 D_54:=⟨Try.func111,by kernel_rfl,by kernel_rfl⟩
theorem H_54:Holds Try.prog 111 E_54:=
 Yi3 tabT mixT Q_54 F_54 rfl ⟨⟨H_16,_,_,Q_16⟩,⟨⟨H_53,_,_,Q_53⟩,⟨⟨H_17,_,_,Q_17⟩,trivial⟩⟩⟩ W_54 ⟨Yi8 (L:=S_54L3 Aa) K_54L3 (i:=3) (by kernel_rfl),⟨Yi8 (L:=S_54L7 Aa) K_54L7 (i:=7) (by kernel_rfl),⟨Yi8 (L:=S_54L11 Aa) K_54L11 (i:=11) (by kernel_rfl),⟨Yi8 (L:=S_54L17 Aa) K_54L17 (i:=17) (by kernel_rfl),⟨Yi8 (L:=S_54L21 Aa) K_54L21 (i:=21) (by kernel_rfl),trivial⟩⟩⟩⟩⟩
theorem F_55 (a):E_55.run a=Yir C_55 Try.f143 E_55.params E_55.results a λo r=>some (N_55 o r):=by
 kernel_rfl
theorem W_55:XU D_55= []:=by kernel_rfl
theorem Q_55:Qk Try.prog 143 Try.f143 D_55:=⟨Try.func143,by kernel_rfl,by kernel_rfl⟩
theorem H_55:Holds Try.prog 143 E_55:=
 Yi3 tabT mixT Q_55 F_55 rfl ⟨⟨H_12,_,_,Q_12⟩,trivial⟩ W_55 trivial
theorem K_56L6 (n:Nat) (x):BE (n+1) x=Yfg C_56 B_56L6 (S_56L6 Aa) x (BE n):=by
 obtain⟨_,_,_,_,_⟩:=x
 kernel_rfl
theorem K_56L2 (n:Nat) (x):BD (n+1) x=Yfg C_56 B_56L2 (S_56L2 Aa) x (BD n):=by
 obtain⟨_,_,_⟩:=x
 kernel_rfl
theorem F_56 (a):E_56.run a=Yir C_56 Try.f137 E_56.params E_56.results a λo r=>some (N_56 o r):=by
 kernel_rfl
theorem W_56:XU D_56= [B_56L2,B_56L6]:=by kernel_rfl
theorem Q_56:Qk Try.prog 137 Try.f137 D_56:=⟨Try.func137,by kernel_rfl,by kernel_rfl⟩
theorem H_56:Holds Try.prog 137 E_56:=
 Yi3 tabT mixT Q_56 F_56 rfl ⟨⟨H_55,_,_,Q_55⟩,trivial⟩ W_56 ⟨Yi8 (L:=S_56L2 Aa) K_56L2 (i:=2) (by kernel_rfl),⟨Yi8 (L:=S_56L6 Aa) K_56L6 (i:=6) (by kernel_rfl),trivial⟩⟩
theorem K_57L8 (rec:(Int×(List (List ((List Int)×Int×(List (List Int)))))×(List Int)×(List Int)×((List (List Int))×(Int×Int)))->Option (((List (List Int))×(Int×Int)))) (n:Nat) (x):Ao rec (n+1) x=Yfg (C_57 rec) B_57L8 (S_57L8 rec Aa) x (Ao rec n):=by
 obtain⟨_,_,_,_,_,_,_,_⟩:=x
 kernel_rfl
theorem F_57 (rec:(Int×(List (List ((List Int)×Int×(List (List Int)))))×(List Int)×(List Int)×((List (List Int))×(Int×Int)))->Option (((List (List Int))×(Int×Int)))) (a:YH [.v .int,.v (.slice y5),.v y0,.v y0,.pr (.mv y0 1) (.v y8)]):Df rec a.1 a.2.1 a.2.2.1 a.2.2.2.1 a.2.2.2.2=Yir (C_57 rec) Try.f110 [.v .int,.v (.slice y5),.v y0,.v y0,.pr (.mv y0 1) (.v y8)] [.pr (.mv y0 1) (.v y8)] a (λo r=>some (N_57 o r)):=by
 kernel_rfl
theorem W_57:XU D_57= [B_57L8]:=by kernel_rfl
theorem R_57L8:YZ B_57L8=8:=by kernel_rfl
theorem Q_57:Qk Try.prog 110 Try.f110 D_57:=⟨Try.func110,by kernel_rfl,by kernel_rfl⟩
theorem H_57: ∀d,Holds Try.prog 110 (E_57 d)
 |0=>λ_ b h=>absurd (show(none:Option _)=some b from h) (by simp)
 |d+1=>YgE (en:=E_57 (d+1)) (cx:=(C_57 (Bp d))) (Yhe tabT rfl).1 (Yfz ⟨⟨H_6,_,_,Q_6⟩,⟨⟨H_57 d,_,_,Q_57⟩,⟨⟨H_56,_,_,Q_56⟩,trivial⟩⟩⟩) mixT Q_57.1 Q_57.2.2 (YgL W_57 ⟨YhE (cx:=(C_57 (Bp d))) (L:=S_57L8 (Bp d) Aa) rfl (by rw[R_57L8];rfl) ⟨Ao (Bp d),λ_=>rfl,λn x=>K_57L8 (Bp d) n x,Aa,λ_=>rfl⟩,trivial⟩) (enc:=N_57) (λ_ _=>⟨rfl,rfl⟩) (F_57 (Bp d)) rfl
theorem F_58 (a):E_58.run a=Yir C_58 Try.f65 E_58.params E_58.results a λo r=>some (N_58 o r):=by
 kernel_rfl
theorem W_58:XU D_58= []:=by kernel_rfl
theorem Q_58:Qk Try.prog 65 Try.f65 D_58:=⟨Try.func65,by kernel_rfl,by kernel_rfl⟩
theorem H_58:Holds Try.prog 65 E_58:=
 Yi3 tabT mixT Q_58 F_58 rfl ⟨⟨H_57 Aa,_,_,Q_57⟩,⟨⟨H_54,_,_,Q_54⟩,trivial⟩⟩ W_58 trivial
theorem K_59L3 (n:Nat) (x):B8 (n+1) x=Yfg C_59 B_59L3 (S_59L3 Aa) x (B8 n):=by
 obtain⟨_,_,_,_⟩:=x
 kernel_rfl
theorem F_59 (a):E_59.run a=Yir C_59 Try.f67 E_59.params E_59.results a λo r=>some (N_59 o r):=by
 kernel_rfl
theorem W_59:XU D_59= [B_59L3]:=by kernel_rfl
theorem Q_59:Qk Try.prog 67 Try.f67 D_59:=⟨Try.func67,by kernel_rfl,by kernel_rfl⟩
theorem H_59:Holds Try.prog 67 E_59:=
 Yi3 tabT mixT Q_59 F_59 rfl ⟨⟨H_6,_,_,Q_6⟩,trivial⟩ W_59 ⟨Yi8 (L:=S_59L3 Aa) K_59L3 (i:=3) (by kernel_rfl),trivial⟩
theorem F_60 (a):E_60.run a=Yir C_60 Try.f25 E_60.params E_60.results a λo r=>some (N_60 o r):=by
 kernel_rfl
theorem W_60:XU D_60= []:=by kernel_rfl
theorem Q_60:Qk Try.prog 25 Try.f25 D_60:=⟨Try.func25,by kernel_rfl,by kernel_rfl⟩
theorem H_60:Holds Try.prog 25 E_60:=
 Yi3 tabT mixT Q_60 F_60 rfl ⟨⟨H_52,_,_,Q_52⟩,⟨⟨H_51,_,_,Q_51⟩,⟨⟨H_58,_,_,Q_58⟩,⟨⟨H_16,_,_,Q_16⟩,⟨⟨H_59,_,_,Q_59⟩,trivial⟩⟩⟩⟩⟩ W_60 trivial
theorem K_61L4 (n:Nat) (x):Ci (n+1) x=Yfg C_61 B_61L4 (S_61L4 Aa) x (Ci n):=by
 obtain⟨_,_,_⟩:=x
 kernel_rfl
theorem F_61 (a):E_61.run a=Yir C_61 Try.f22 E_61.params E_61.results a λo r=>some (N_61 o r):=by
 kernel_rfl
theorem W_61:XU D_61= [B_61L4]:=by kernel_rfl
theorem Q_61:Qk Try.prog 22 Try.f22 D_61:=⟨Try.func22,by kernel_rfl,by kernel_rfl⟩
theorem H_61:Holds Try.prog 22 E_61:=
 Yi3 tabT mixT Q_61 F_61 rfl trivial W_61 ⟨Yi8 (L:=S_61L4 Aa) K_61L4 (i:=4) (by kernel_rfl),trivial⟩
theorem F_62 (a):E_62.run a=Yir C_62 Try.f32 E_62.params E_62.results a λo r=>some (N_62 o r):=by
 kernel_rfl
theorem W_62:XU D_62= []:=by kernel_rfl
theorem Q_62:Qk Try.prog 32 Try.f32 D_62:=⟨Try.func32,by kernel_rfl,by kernel_rfl⟩
theorem H_62:Holds Try.prog 32 E_62:=
 Yi3 tabT mixT Q_62 F_62 rfl ⟨⟨H_61,_,_,Q_61⟩,trivial⟩ W_62 trivial
theorem K_63L4 (n:Nat) (x):Cy (n+1) x=Yfg C_63 B_63L4 (S_63L4 Aa) x (Cy n):=by
 obtain⟨_,_,_⟩:=x
 kernel_rfl
theorem F_63 (a):E_63.run a=Yir C_63 Try.f26 E_63.params E_63.results a λo r=>some (N_63 o r):=by
 kernel_rfl
theorem W_63:XU D_63= [B_63L4]:=by kernel_rfl
theorem Q_63:Qk Try.prog 26 Try.f26 D_63:=⟨Try.func26,by kernel_rfl,by kernel_rfl⟩
theorem H_63:Holds Try.prog 26 E_63:=
 Yi3 tabT mixT Q_63 F_63 rfl ⟨⟨H_62,_,_,Q_62⟩,trivial⟩ W_63 ⟨Yi8 (L:=S_63L4 Aa) K_63L4 (i:=4) (by kernel_rfl),trivial⟩
theorem F_64 (a):E_64.run a=Yir C_64 Try.f70 E_64.params E_64.results a λo r=>some (N_64 o r):=by
 kernel_rfl
theorem W_64:XU D_64= []:=by kernel_rfl
theorem Q_64:Qk Try.prog 70 Try.f70 D_64:=⟨Try.func70,by kernel_rfl,by kernel_rfl⟩
theorem H_64:Holds Try.prog 70 E_64:=
 Yi3 tabT mixT Q_64 F_64 rfl trivial W_64 trivial
theorem K_65L4 (rec:(Int×(List Int)×Int×(Bool×Int×Int×(List (List ((List Int)×(List ByteArray)))))×(List Int)×Unit)->Option ((List Int)×Int×(Bool×Int×Int×(List (List ((List Int)×(List ByteArray)))))×(List Int)×Bool)) (n:Nat) (x):Ad rec (n+1) x=Yfg (C_65 rec) B_65L4 (S_65L4 rec Aa) x (Ad rec n):=by
 obtain⟨_,_,_,_,_,_,_⟩:=x
 kernel_rfl
theorem F_65 (rec:(Int×(List Int)×Int×(Bool×Int×Int×(List (List ((List Int)×(List ByteArray)))))×(List Int)×Unit)->Option ((List Int)×Int×(Bool×Int×Int×(List (List ((List Int)×(List ByteArray)))))×(List Int)×Bool)) (a:YH [.v .int,.bx (.mv .int 0),.bx (.v .int),.bx (.v (.ptr y2)),.bx (.v y0),.jk 1]):AG rec a.1 a.2.1 a.2.2.1 a.2.2.2.1 a.2.2.2.2.1 a.2.2.2.2.2=Yir (C_65 rec) Try.f115 [.v .int,.bx (.mv .int 0),.bx (.v .int),.bx (.v (.ptr y2)),.bx (.v y0),.jk 1] [.v .bool] a (λo r=>some (N_65 o r)):=by
 kernel_rfl
theorem W_65:XU D_65= [B_65L4]:=by kernel_rfl
theorem R_65L4:YZ B_65L4=4:=by kernel_rfl
theorem Q_65:Qk Try.prog 115 Try.f115 D_65:=⟨Try.func115,by kernel_rfl,by kernel_rfl⟩
theorem H_65: ∀d,Holds Try.prog 115 (E_65 d)
 |0=>λ_ b h=>absurd (show(none:Option _)=some b from h) (by simp)
 |d+1=>YgE (en:=E_65 (d+1)) (cx:=(C_65 (Ak d))) (Yhe tabT rfl).1 (Yfz ⟨⟨H_64,_,_,Q_64⟩,⟨⟨H_40,_,_,Q_40⟩,⟨⟨H_65 d,_,_,Q_65⟩,trivial⟩⟩⟩) mixT Q_65.1 Q_65.2.2 (YgL W_65 ⟨YhE (cx:=(C_65 (Ak d))) (L:=S_65L4 (Ak d) Aa) rfl (by rw[R_65L4];rfl) ⟨Ad (Ak d),λ_=>rfl,λn x=>K_65L4 (Ak d) n x,Aa,λ_=>rfl⟩,trivial⟩) (enc:=N_65) (λ_ _=>⟨rfl,rfl⟩) (F_65 (Ak d)) rfl
theorem F_66 (a):E_66.run a=Yir C_66 Try.f69 E_66.params E_66.results a λo r=>some (N_66 o r):=by
 kernel_rfl
theorem W_66:XU D_66= []:=by kernel_rfl
theorem Q_66:Qk Try.prog 69 Try.f69 D_66:=⟨Try.func69,by kernel_rfl,by kernel_rfl⟩
theorem H_66:Holds Try.prog 69 E_66:=
 Yi3 tabT mixT Q_66 F_66 rfl ⟨⟨H_65 Aa,_,_,Q_65⟩,trivial⟩ W_66 trivial
theorem F_67 (a):E_67.run a=Yir C_67 Try.f27 E_67.params E_67.results a λo r=>some (N_67 o r):=by
 kernel_rfl
theorem W_67:XU D_67= []:=by kernel_rfl
theorem Q_67:Qk Try.prog 27 Try.f27 D_67:=⟨Try.func27,by kernel_rfl,by kernel_rfl⟩
theorem H_67:Holds Try.prog 27 E_67:=
 Yi3 tabT mixT Q_67 F_67 rfl ⟨⟨H_29,_,_,Q_29⟩,⟨⟨H_31,_,_,Q_31⟩,⟨⟨H_32,_,_,Q_32⟩,⟨⟨H_30,_,_,Q_30⟩,⟨⟨H_36,_,_,Q_36⟩,⟨⟨H_66,_,_,Q_66⟩,trivial⟩⟩⟩⟩⟩⟩ W_67 trivial
theorem F_68 (a):E_68.run a=Yir C_68 Try.f28 E_68.params E_68.results a λo r=>some (N_68 o r):=by
 kernel_rfl
theorem W_68:XU D_68= []:=by kernel_rfl
theorem Q_68:Qk Try.prog 28 Try.f28 D_68:=⟨Try.func28,by kernel_rfl,by kernel_rfl⟩
theorem H_68:Holds Try.prog 28 E_68:=
 Yi3 tabT mixT Q_68 F_68 rfl ⟨⟨H_52,_,_,Q_52⟩,⟨⟨H_51,_,_,Q_51⟩,⟨⟨H_58,_,_,Q_58⟩,⟨⟨H_16,_,_,Q_16⟩,trivial⟩⟩⟩⟩ W_68 trivial
theorem F_69 (a):E_69.run a=Yir C_69 Try.f71 E_69.params E_69.results a λo r=>some (N_69 o r):=by
 kernel_rfl
theorem W_69:XU D_69= []:=by kernel_rfl
theorem Q_69:Qk Try.prog 71 Try.f71 D_69:=⟨Try.func71,by kernel_rfl,by kernel_rfl⟩
theorem H_69:Holds Try.prog 71 E_69:=
 Yi3 tabT mixT Q_69 F_69 rfl ⟨⟨H_30,_,_,Q_30⟩,⟨⟨H_25,_,_,Q_25⟩,trivial⟩⟩ W_69 trivial
theorem K_70L10 (n:Nat) (x):Bz (n+1) x=Yfg C_70 B_70L10 (S_70L10 Aa) x (Bz n):=by
 obtain⟨_,_,_,_,_,_,_,_,_,_⟩:=x
 kernel_rfl
theorem K_70L19 (n:Nat) (x):Bh (n+1) x=Yfg C_70 B_70L19 (S_70L19 Aa) x (Bh n):=by
 obtain⟨_,_,_,_,_,_,_,_,_,_,_,_,_,_,_⟩:=x
 kernel_rfl
theorem K_70L15 (n:Nat) (x):Bg (n+1) x=Yfg C_70 B_70L15 (S_70L15 Aa) x (Bg n):=by
 obtain⟨_,_,_,_,_,_,_,_,_,_⟩:=x
 kernel_rfl
theorem K_70L6 (n:Nat) (x):Bl (n+1) x=Yfg C_70 B_70L6 (S_70L6 Aa) x (Bl n):=by
 obtain⟨_,_,_,_,_,_,_,_⟩:=x
 kernel_rfl
theorem F_70 (a):E_70.run a=Yir C_70 Try.f118 E_70.params E_70.results a λo r=>some (N_70 o r):=by
 kernel_rfl
theorem W_70:XU D_70= [B_70L6,B_70L10,B_70L15,B_70L19]:=by kernel_rfl
theorem Q_70:Qk Try.prog 118 Try.f118 D_70:=⟨Try.func118,by kernel_rfl,by kernel_rfl⟩
theorem H_70:Holds Try.prog 118 E_70:=
 Yi3 tabT mixT Q_70 F_70 rfl ⟨⟨H_30,_,_,Q_30⟩,⟨⟨H_34,_,_,Q_34⟩,⟨⟨H_33,_,_,Q_33⟩,trivial⟩⟩⟩ W_70 ⟨Yi8 (L:=S_70L6 Aa) K_70L6 (i:=6) (by kernel_rfl),⟨Yi8 (L:=S_70L10 Aa) K_70L10 (i:=10) (by kernel_rfl),⟨Yi8 (L:=S_70L15 Aa) K_70L15 (i:=15) (by kernel_rfl),⟨Yi8 (L:=S_70L19 Aa) K_70L19 (i:=19) (by kernel_rfl),trivial⟩⟩⟩⟩
theorem K_71L2 (n:Nat) (x):B5 (n+1) x=Yfg C_71 B_71L2 (S_71L2 Aa) x (B5 n):=by
 obtain⟨_,_,_,_,_⟩:=x
 kernel_rfl
theorem F_71 (a):E_71.run a=Yir C_71 Try.f72 E_71.params E_71.results a λo r=>some (N_71 o r):=by
 kernel_rfl
theorem W_71:XU D_71= [B_71L2]:=by kernel_rfl
theorem Q_71:Qk Try.prog 72 Try.f72 D_71:=⟨Try.func72,by kernel_rfl,by kernel_rfl⟩
theorem H_71:Holds Try.prog 72 E_71:=
 Yi3 tabT mixT Q_71 F_71 rfl ⟨⟨H_70,_,_,Q_70⟩,trivial⟩ W_71 ⟨Yi8 (L:=S_71L2 Aa) K_71L2 (i:=2) (by kernel_rfl),trivial⟩
theorem F_72 (a):E_72.run a=Yir C_72 Try.f29 E_72.params E_72.results a λo r=>some (N_72 o r):=by
 kernel_rfl
theorem W_72:XU D_72= []:=by kernel_rfl
theorem Q_72:Qk Try.prog 29 Try.f29 D_72:=⟨Try.func29,by kernel_rfl,by kernel_rfl⟩
theorem H_72:Holds Try.prog 29 E_72:=
 Yi3 tabT mixT Q_72 F_72 rfl ⟨⟨H_29,_,_,Q_29⟩,⟨⟨H_69,_,_,Q_69⟩,⟨⟨H_71,_,_,Q_71⟩,trivial⟩⟩⟩ W_72 trivial
theorem F_73 (a):E_73.run a=Yir C_73 Try.f73 E_73.params E_73.results a λo r=>some (N_73 o r):=by
 kernel_rfl
theorem W_73:XU D_73= []:=by kernel_rfl
theorem Q_73:Qk Try.prog 73 Try.f73 D_73:=⟨Try.func73,by kernel_rfl,by kernel_rfl⟩
theorem H_73:Holds Try.prog 73 E_73:=
 Yi3 tabT mixT Q_73 F_73 rfl trivial W_73 trivial
theorem K_74L7 (n:Nat) (x):A7 (n+1) x=Yfg C_74 B_74L7 (S_74L7 Aa) x (A7 n):=by
 obtain⟨_,_,_,_,_,_,_,_,_,_,_⟩:=x
 kernel_rfl
theorem K_74L3 (n:Nat) (x):AZ (n+1) x=Yfg C_74 B_74L3 (S_74L3 Aa) x (AZ n):=by
 obtain⟨_,_,_,_,_,_⟩:=x
 kernel_rfl
theorem F_74 (a):E_74.run a=Yir C_74 Try.f74 E_74.params E_74.results a λo r=>some (N_74 o r):=by
 kernel_rfl
theorem W_74:XU D_74= [B_74L3,B_74L7]:=by kernel_rfl
theorem Q_74:Qk Try.prog 74 Try.f74 D_74:=⟨Try.func74,by kernel_rfl,by kernel_rfl⟩
theorem H_74:Holds Try.prog 74 E_74:=
 Yi3 tabT mixT Q_74 F_74 rfl trivial W_74 ⟨Yi8 (L:=S_74L3 Aa) K_74L3 (i:=3) (by kernel_rfl),⟨Yi8 (L:=S_74L7 Aa) K_74L7 (i:=7) (by kernel_rfl),trivial⟩⟩
theorem K_75L6 (n:Nat) (x):AH (n+1) x=Yfg C_75 B_75L6 (S_75L6 Aa) x (AH n):=by
 obtain⟨_,_,_,_,_,_,_,_⟩:=x
 kernel_rfl
theorem F_75 (a):E_75.run a=Yir C_75 Try.f30 E_75.params E_75.results a λo r=>some (N_75 o r):=by
 kernel_rfl
theorem W_75:XU D_75= [B_75L6]:=by kernel_rfl
theorem Q_75:Qk Try.prog 30 Try.f30 D_75:=⟨Try.func30,by kernel_rfl,by kernel_rfl⟩
theorem H_75:Holds Try.prog 30 E_75:=
 Yi3 tabT mixT Q_75 F_75 rfl ⟨⟨H_30,_,_,Q_30⟩,⟨⟨H_69,_,_,Q_69⟩,⟨⟨H_73,_,_,Q_73⟩,⟨⟨H_74,_,_,Q_74⟩,trivial⟩⟩⟩⟩ W_75 ⟨Yi8 (L:=S_75L6 Aa) K_75L6 (i:=6) (by kernel_rfl),trivial⟩
theorem F_76 (a):E_76.run a=Yir C_76 Try.f76 E_76.params E_76.results a λo r=>some (N_76 o r):=by
 kernel_rfl
theorem W_76:XU D_76= []:=by kernel_rfl
theorem Q_76:Qk Try.prog 76 Try.f76 D_76:=⟨Try.func76,by kernel_rfl,by kernel_rfl⟩
theorem H_76:Holds Try.prog 76 E_76:=
 Yi3 tabT mixT Q_76 F_76 rfl trivial W_76 trivial
theorem F_77 (a):E_77.run a=Yir C_77 Try.f119 E_77.params E_77.results a λo r=>some (N_77 o r):=by
 kernel_rfl
theorem W_77:XU D_77= []:=by kernel_rfl
theorem Q_77:Qk Try.prog 119 Try.f119 D_77:=⟨Try.func119,by kernel_rfl,by kernel_rfl⟩
theorem H_77:Holds Try.prog 119 E_77:=
 Yi3 tabT mixT Q_77 F_77 rfl ⟨⟨H_76,_,_,Q_76⟩,⟨⟨H_37,_,_,Q_37⟩,trivial⟩⟩ W_77 trivial
theorem K_78L4 (rec:(Int×(List Int)×(Unit×(Int×((Int×(List Int))×Bool)))×(Bool×Int×Int×(List (List ((List Int)×(List ByteArray)))))×(List Int)×Unit)->Option ((List Int)×(Unit×(Int×((Int×(List Int))×Bool)))×(Bool×Int×Int×(List (List ((List Int)×(List ByteArray)))))×(List Int)×Bool)) (n:Nat) (x):Ab rec (n+1) x=Yfg (C_78 rec) B_78L4 (S_78L4 rec Aa) x (Ab rec n):=by
 obtain⟨_,_,_,_,_,_,_⟩:=x
 kernel_rfl
theorem F_78 (rec:(Int×(List Int)×(Unit×(Int×((Int×(List Int))×Bool)))×(Bool×Int×Int×(List (List ((List Int)×(List ByteArray)))))×(List Int)×Unit)->Option ((List Int)×(Unit×(Int×((Int×(List Int))×Bool)))×(Bool×Int×Int×(List (List ((List Int)×(List ByteArray)))))×(List Int)×Bool)) (a:YH [.v .int,.bx (.mv .int 0),.pr (.bx (.v (.fn 76))) (.pr (.bx (.v .int)) (.pr (.bx (.pr (.v .int) (.mv .int 0))) (.bx (.v .bool)))),.bx (.v (.ptr y2)),.bx (.v y0),.jk 1]):Ay rec a.1 a.2.1 a.2.2.1 a.2.2.2.1 a.2.2.2.2.1 a.2.2.2.2.2=Yir (C_78 rec) Try.f115 [.v .int,.bx (.mv .int 0),.pr (.bx (.v (.fn 76))) (.pr (.bx (.v .int)) (.pr (.bx (.pr (.v .int) (.mv .int 0))) (.bx (.v .bool)))),.bx (.v (.ptr y2)),.bx (.v y0),.jk 1] [.v .bool] a (λo r=>some (N_78 o r)):=by
 kernel_rfl
theorem W_78:XU D_78= [B_78L4]:=by kernel_rfl
theorem R_78L4:YZ B_78L4=4:=by kernel_rfl
theorem Q_78:Qk Try.prog 115 Try.f115 D_78:=⟨Try.func115,by kernel_rfl,by kernel_rfl⟩
theorem H_78: ∀d,Holds Try.prog 115 (E_78 d)
 |0=>λ_ b h=>absurd (show(none:Option _)=some b from h) (by simp)
 |d+1=>YgE (en:=E_78 (d+1)) (cx:=(C_78 (Aj d))) (Yhe tabT rfl).1 (Yfz ⟨⟨H_40,_,_,Q_40⟩,⟨⟨H_77,_,_,Q_77⟩,⟨⟨H_78 d,_,_,Q_78⟩,trivial⟩⟩⟩) mixT Q_78.1 Q_78.2.2 (YgL W_78 ⟨YhE (cx:=(C_78 (Aj d))) (L:=S_78L4 (Aj d) Aa) rfl (by rw[R_78L4];rfl) ⟨Ab (Aj d),λ_=>rfl,λn x=>K_78L4 (Aj d) n x,Aa,λ_=>rfl⟩,trivial⟩) (enc:=N_78) (λ_ _=>⟨rfl,rfl⟩) (F_78 (Aj d)) rfl
theorem F_79 (a):E_79.run a=Yir C_79 Try.f69 E_79.params E_79.results a λo r=>some (N_79 o r):=by
 kernel_rfl
theorem W_79:XU D_79= []:=by kernel_rfl
theorem Q_79:Qk Try.prog 69 Try.f69 D_79:=⟨Try.func69,by kernel_rfl,by kernel_rfl⟩
theorem H_79:Holds Try.prog 69 E_79:=
 Yi3 tabT mixT Q_79 F_79 rfl ⟨⟨H_78 Aa,_,_,Q_78⟩,trivial⟩ W_79 trivial
theorem F_80 (a):E_80.run a=Yir C_80 Try.f75 E_80.params E_80.results a λo r=>some (N_80 o r):=by
 kernel_rfl
theorem W_80:XU D_80= []:=by kernel_rfl
theorem Q_80:Qk Try.prog 75 Try.f75 D_80:=⟨Try.func75,by kernel_rfl,by kernel_rfl⟩
theorem H_80:Holds Try.prog 75 E_80:=
 Yi3 tabT mixT Q_80 F_80 rfl ⟨⟨H_36,_,_,Q_36⟩,⟨⟨H_79,_,_,Q_79⟩,trivial⟩⟩ W_80 trivial
theorem K_81L4 (n:Nat) (x):AP (n+1) x=Yfg C_81 B_81L4 (S_81L4 Aa) x (AP n):=by
 obtain⟨_,_,_,_,_,_,_,_⟩:=x
 kernel_rfl
theorem F_81 (a):E_81.run a=Yir C_81 Try.f31 E_81.params E_81.results a λo r=>some (N_81 o r):=by
 kernel_rfl
theorem W_81:XU D_81= [B_81L4]:=by kernel_rfl
theorem Q_81:Qk Try.prog 31 Try.f31 D_81:=⟨Try.func31,by kernel_rfl,by kernel_rfl⟩
theorem H_81:Holds Try.prog 31 E_81:=
 Yi3 tabT mixT Q_81 F_81 rfl ⟨⟨H_29,_,_,Q_29⟩,⟨⟨H_31,_,_,Q_31⟩,⟨⟨H_30,_,_,Q_30⟩,⟨⟨H_80,_,_,Q_80⟩,trivial⟩⟩⟩⟩ W_81 ⟨Yi8 (L:=S_81L4 Aa) K_81L4 (i:=4) (by kernel_rfl),trivial⟩
theorem F_82 (a):E_82.run a=Yir C_82 Try.f121 E_82.params E_82.results a λo r=>some (N_82 o r):=by
 kernel_rfl
theorem W_82:XU D_82= []:=by kernel_rfl
theorem Q_82:Qk Try.prog 121 Try.f121 D_82:=⟨Try.func121,by kernel_rfl,by kernel_rfl⟩
theorem H_82:Holds Try.prog 121 E_82:=
 Yi3 tabT mixT Q_82 F_82 rfl trivial W_82 trivial
theorem K_83L3 (n:Nat) (x):A9 (n+1) x=Yfg C_83 B_83L3 (S_83L3 Aa) x (A9 n):=by
 obtain⟨_,_,_,_,_⟩:=x
 kernel_rfl
theorem F_83 (a):E_83.run a=Yir C_83 Try.f123 E_83.params E_83.results a λo r=>some (N_83 o r):=by
 kernel_rfl
theorem W_83:XU D_83= [B_83L3]:=by kernel_rfl
theorem Q_83:Qk Try.prog 123 Try.f123 D_83:=⟨Try.func123,by kernel_rfl,by kernel_rfl⟩
theorem H_83:Holds Try.prog 123 E_83:=
 Yi3 tabT mixT Q_83 F_83 rfl ⟨⟨H_16,_,_,Q_16⟩,⟨⟨H_17,_,_,Q_17⟩,trivial⟩⟩ W_83 ⟨Yi8 (L:=S_83L3 Aa) K_83L3 (i:=3) (by kernel_rfl),trivial⟩
theorem K_84L4 (n:Nat) (x):AJ (n+1) x=Yfg C_84 B_84L4 (S_84L4 Aa) x (AJ n):=by
 obtain⟨_,_,_,_,_⟩:=x
 kernel_rfl
theorem F_84 (a):E_84.run a=Yir C_84 Try.f80 E_84.params E_84.results a λo r=>some (N_84 o r):=by
 kernel_rfl
theorem W_84:XU D_84= [B_84L4]:=by kernel_rfl
theorem Q_84:Qk Try.prog 80 Try.f80 D_84:=⟨Try.func80,by kernel_rfl,by kernel_rfl⟩
theorem H_84:Holds Try.prog 80 E_84:=
 Yi3 tabT mixT Q_84 F_84 rfl ⟨⟨H_16,_,_,Q_16⟩,⟨⟨H_3,_,_,Q_3⟩,⟨⟨H_7,_,_,Q_7⟩,⟨⟨H_82,_,_,Q_82⟩,⟨⟨H_53,_,_,Q_53⟩,⟨⟨H_83,_,_,Q_83⟩,trivial⟩⟩⟩⟩⟩⟩ W_84 ⟨Yi8 (L:=S_84L4 Aa) K_84L4 (i:=4) (by kernel_rfl),trivial⟩
theorem F_85 (a):E_85.run a=Yir C_85 Try.f33 E_85.params E_85.results a λo r=>some (N_85 o r):=by
 kernel_rfl
theorem W_85:XU D_85= []:=by kernel_rfl
theorem Q_85:Qk Try.prog 33 Try.f33 D_85:=⟨Try.func33,by kernel_rfl,by kernel_rfl⟩
theorem H_85:Holds Try.prog 33 E_85:=
 Yi3 tabT mixT Q_85 F_85 rfl ⟨⟨H_52,_,_,Q_52⟩,⟨⟨H_21,_,_,Q_21⟩,⟨⟨H_22,_,_,Q_22⟩,⟨⟨H_51,_,_,Q_51⟩,⟨⟨H_58,_,_,Q_58⟩,⟨⟨H_16,_,_,Q_16⟩,⟨⟨H_4,_,_,Q_4⟩,⟨⟨H_6,_,_,Q_6⟩,⟨⟨H_3,_,_,Q_3⟩,⟨⟨H_84,_,_,Q_84⟩,trivial⟩⟩⟩⟩⟩⟩⟩⟩⟩⟩ W_85 trivial
theorem K_86L4 (n:Nat) (x):CU (n+1) x=Yfg C_86 B_86L4 (S_86L4 Aa) x (CU n):=by
 obtain⟨_,_,_⟩:=x
 kernel_rfl
theorem F_86 (a):E_86.run a=Yir C_86 Try.f83 E_86.params E_86.results a λo r=>some (N_86 o r):=by
 kernel_rfl
theorem W_86:XU D_86= [B_86L4]:=by kernel_rfl
theorem Q_86:Qk Try.prog 83 Try.f83 D_86:=⟨Try.func83,by kernel_rfl,by kernel_rfl⟩
theorem H_86:Holds Try.prog 83 E_86:=
 Yi3 tabT mixT Q_86 F_86 rfl ⟨⟨H_16,_,_,Q_16⟩,⟨⟨H_8,_,_,Q_8⟩,trivial⟩⟩ W_86 ⟨Yi8 (L:=S_86L4 Aa) K_86L4 (i:=4) (by kernel_rfl),trivial⟩
theorem K_87L3 (n:Nat) (x):B9 (n+1) x=Yfg C_87 B_87L3 (S_87L3 Aa) x (B9 n):=by
 obtain⟨_,_,_,_⟩:=x
 kernel_rfl
theorem F_87 (a):E_87.run a=Yir C_87 Try.f142 E_87.params E_87.results a λo r=>some (N_87 o r):=by
 kernel_rfl
theorem W_87:XU D_87= [B_87L3]:=by kernel_rfl
theorem Q_87:Qk Try.prog 142 Try.f142 D_87:=⟨Try.func142,by kernel_rfl,by kernel_rfl⟩
theorem H_87:Holds Try.prog 142 E_87:=
 Yi3 tabT mixT Q_87 F_87 rfl trivial W_87 ⟨Yi8 (L:=S_87L3 Aa) K_87L3 (i:=3) (by kernel_rfl),trivial⟩
theorem K_88L7 (n:Nat) (x):BT (n+1) x=Yfg C_88 B_88L7 (S_88L7 Aa) x (BT n):=by
 obtain⟨_,_,_,_,_,_,_,_⟩:=x
 kernel_rfl
theorem K_88L3 (n:Nat) (x):Cf (n+1) x=Yfg C_88 B_88L3 (S_88L3 Aa) x (Cf n):=by
 obtain⟨_,_,_,_,_,_⟩:=x
 kernel_rfl
theorem F_88 (a):E_88.run a=Yir C_88 Try.f148 E_88.params E_88.results a λo r=>some (N_88 o r):=by
 kernel_rfl
theorem W_88:XU D_88= [B_88L3,B_88L7]:=by kernel_rfl
theorem Q_88:Qk Try.prog 148 Try.f148 D_88:=⟨Try.func148,by kernel_rfl,by kernel_rfl⟩
theorem H_88:Holds Try.prog 148 E_88:=
 Yi3 tabT mixT Q_88 F_88 rfl trivial W_88 ⟨Yi8 (L:=S_88L3 Aa) K_88L3 (i:=3) (by kernel_rfl),⟨Yi8 (L:=S_88L7 Aa) K_88L7 (i:=7) (by kernel_rfl),trivial⟩⟩
theorem F_89 (a):E_89.run a=Yir C_89 Try.f141 E_89.params E_89.results a λo r=>some (N_89 o r):=by
 kernel_rfl
theorem W_89:XU D_89= []:=by kernel_rfl
theorem Q_89:Qk Try.prog 141 Try.f141 D_89:=⟨Try.func141,by kernel_rfl,by kernel_rfl⟩
theorem H_89:Holds Try.prog 141 E_89:=
 Yi3 tabT mixT Q_89 F_89 rfl ⟨⟨H_88,_,_,Q_88⟩,trivial⟩ W_89 trivial
theorem K_90L3 (n:Nat) (x):Cw (n+1) x=Yfg C_90 B_90L3 (S_90L3 Aa) x (Cw n):=by
 obtain⟨_,_,_⟩:=x
 kernel_rfl
theorem F_90 (a):E_90.run a=Yir C_90 Try.f144 E_90.params E_90.results a λo r=>some (N_90 o r):=by
 kernel_rfl
theorem W_90:XU D_90= [B_90L3]:=by kernel_rfl
theorem Q_90:Qk Try.prog 144 Try.f144 D_90:=⟨Try.func144,by kernel_rfl,by kernel_rfl⟩
theorem H_90:Holds Try.prog 144 E_90:=
 Yi3 tabT mixT Q_90 F_90 rfl ⟨⟨H_6,_,_,Q_6⟩,trivial⟩ W_90 ⟨Yi8 (L:=S_90L3 Aa) K_90L3 (i:=3) (by kernel_rfl),trivial⟩
theorem K_91L2 (n:Nat) (x):Bn (n+1) x=Yfg C_91 B_91L2 (S_91L2 Aa) x (Bn n):=by
 obtain⟨_,_,_,_,_⟩:=x
 kernel_rfl
theorem F_91 (a):E_91.run a=Yir C_91 Try.f125 E_91.params E_91.results a λo r=>some (N_91 o r):=by
 kernel_rfl
theorem W_91:XU D_91= [B_91L2]:=by kernel_rfl
theorem Q_91:Qk Try.prog 125 Try.f125 D_91:=⟨Try.func125,by kernel_rfl,by kernel_rfl⟩
theorem H_91:Holds Try.prog 125 E_91:=
 Yi3 tabT mixT Q_91 F_91 rfl ⟨⟨H_89,_,_,Q_89⟩,⟨⟨H_87,_,_,Q_87⟩,⟨⟨H_55,_,_,Q_55⟩,⟨⟨H_90,_,_,Q_90⟩,trivial⟩⟩⟩⟩ W_91 ⟨Yi8 (L:=S_91L2 Aa) K_91L2 (i:=2) (by kernel_rfl),trivial⟩
theorem F_92 (a):E_92.run a=Yir C_92 Try.f85 E_92.params E_92.results a λo r=>some (N_92 o r):=by
 kernel_rfl
theorem W_92:XU D_92= []:=by kernel_rfl
theorem Q_92:Qk Try.prog 85 Try.f85 D_92:=⟨Try.func85,by kernel_rfl,by kernel_rfl⟩
theorem H_92:Holds Try.prog 85 E_92:=
 Yi3 tabT mixT Q_92 F_92 rfl ⟨⟨H_91,_,_,Q_91⟩,trivial⟩ W_92 trivial
theorem K_93L6 (n:Nat) (x):Au (n+1) x=Yfg C_93 B_93L6 (S_93L6 Aa) x (Au n):=by
 obtain⟨_,_,_,_⟩:=x
 kernel_rfl
theorem F_93 (a):E_93.run a=Yir C_93 Try.f34 E_93.params E_93.results a λo r=>some (N_93 o r):=by
 kernel_rfl
theorem W_93:XU D_93= [B_93L6]:=by kernel_rfl
theorem Q_93:Qk Try.prog 34 Try.f34 D_93:=⟨Try.func34,by kernel_rfl,by kernel_rfl⟩
theorem H_93:Holds Try.prog 34 E_93:=
 Yi3 tabT mixT Q_93 F_93 rfl ⟨⟨H_45,_,_,Q_45⟩,⟨⟨H_49,_,_,Q_49⟩,⟨⟨H_86,_,_,Q_86⟩,⟨⟨H_50,_,_,Q_50⟩,⟨⟨H_92,_,_,Q_92⟩,trivial⟩⟩⟩⟩⟩ W_93 ⟨Yi8 (L:=S_93L6 Aa) K_93L6 (i:=6) (by kernel_rfl),trivial⟩
theorem K_94L22 (n:Nat) (x):AI (n+1) x=Yfg C_94 B_94L22 (S_94L22 Aa) x (AI n):=by
 obtain⟨_,_,_,_,_,_,_,_,_⟩:=x
 kernel_rfl
theorem K_94L14 (n:Nat) (x):Av (n+1) x=Yfg C_94 B_94L14 (S_94L14 Aa) x (Av n):=by
 obtain⟨_,_,_,_,_,_⟩:=x
 kernel_rfl
theorem K_94L30 (n:Nat) (x):Aw (n+1) x=Yfg C_94 B_94L30 (S_94L30 Aa) x (Aw n):=by
 obtain⟨_,_,_,_,_,_⟩:=x
 kernel_rfl
theorem F_94 (a):E_94.run a=Yir C_94 Try.f4 E_94.params E_94.results a λo r=>some (N_94 o r):=by
 kernel_rfl
theorem W_94:XU D_94= [B_94L14,B_94L22,B_94L30]:=by kernel_rfl
theorem Q_94:Qk Try.prog 4 Try.f4 D_94:=⟨Try.func4,by kernel_rfl,by kernel_rfl⟩
theorem H_94:Holds Try.prog 4 E_94:=
 Yi3 tabT mixT Q_94 F_94 rfl ⟨⟨H_1,_,_,Q_1⟩,⟨⟨H_23,_,_,Q_23⟩,⟨⟨H_44,_,_,Q_44⟩,⟨⟨H_60,_,_,Q_60⟩,⟨⟨H_63,_,_,Q_63⟩,⟨⟨H_67,_,_,Q_67⟩,⟨⟨H_68,_,_,Q_68⟩,⟨⟨H_72,_,_,Q_72⟩,⟨⟨H_75,_,_,Q_75⟩,⟨⟨H_81,_,_,Q_81⟩,⟨⟨H_62,_,_,Q_62⟩,⟨⟨H_85,_,_,Q_85⟩,⟨⟨H_93,_,_,Q_93⟩,trivial⟩⟩⟩⟩⟩⟩⟩⟩⟩⟩⟩⟩⟩ W_94 ⟨Yi8 (L:=S_94L14 Aa) K_94L14 (i:=14) (by kernel_rfl),⟨Yi8 (L:=S_94L22 Aa) K_94L22 (i:=22) (by kernel_rfl),⟨Yi8 (L:=S_94L30 Aa) K_94L30 (i:=30) (by kernel_rfl),trivial⟩⟩⟩
end T
