/- Each typed function is what the program computes; no conditions. -/
import Derived.Test.YtbfbcfnbcbdgjabSFnExactSolutionRelation
import Derived.Test.YtbfbcfnbcbdgjabCFnExactSolutionRelation
set_option linter.all false
set_option maxRecDepth 10000
open Go Go.Va Go.Proofs
namespace T
theorem F_1 (a):E_1.run a=Yir C_1 Try.f117 E_1.params E_1.results a λo r=>some (N_1 o r):=by
 kernel_rfl
theorem W_1:XU D_1= []:=by kernel_rfl
theorem Q_1:Qk Try.prog 117 Try.f117 D_1:=⟨Try.func117,by kernel_rfl,by kernel_rfl⟩
theorem H_1:Holds Try.prog 117 E_1:=
 Yi3 tabT mixT Q_1 F_1 rfl trivial W_1 trivial
theorem K_2L5 (n:Nat) (x):Bg (n+1) x=Yfg C_2 B_2L5 (S_2L5 Ac) x (Bg n):=by
 obtain⟨_,_,_⟩:=x
 kernel_rfl
theorem F_2 (a):E_2.run a=Yir C_2 Try.f139 E_2.params E_2.results a λo r=>some (N_2 o r):=by
 kernel_rfl
theorem W_2:XU D_2= [B_2L5]:=by kernel_rfl
theorem Q_2:Qk Try.prog 139 Try.f139 D_2:=⟨Try.func139,by kernel_rfl,by kernel_rfl⟩
theorem H_2:Holds Try.prog 139 E_2:=
 Yi3 tabT mixT Q_2 F_2 rfl ⟨⟨H_1,_,_,Q_1⟩,trivial⟩ W_2 ⟨Yi8 (L:=S_2L5 Ac) K_2L5 (i:=5) (by kernel_rfl),trivial⟩
theorem F_3 (a):E_3.run a=Yir C_3 Try.f118 E_3.params E_3.results a λo r=>some (N_3 o r):=by
 kernel_rfl
theorem W_3:XU D_3= []:=by kernel_rfl
theorem Q_3:Qk Try.prog 118 Try.f118 D_3:=⟨Try.func118,by kernel_rfl,by kernel_rfl⟩
theorem H_3:Holds Try.prog 118 E_3:=
 Yi3 tabT mixT Q_3 F_3 rfl ⟨⟨H_2,_,_,Q_2⟩,trivial⟩ W_3 trivial
theorem F_4 (a):E_4.run a=Yir C_4 Try.f90 E_4.params E_4.results a λo r=>some (N_4 o r):=by
 kernel_rfl
theorem W_4:XU D_4= []:=by kernel_rfl
theorem Q_4:Qk Try.prog 90 Try.f90 D_4:=⟨Try.func90,by kernel_rfl,by kernel_rfl⟩
theorem H_4:Holds Try.prog 90 E_4:=
 Yi3 tabT mixT Q_4 F_4 rfl ⟨⟨H_1,_,_,Q_1⟩,⟨⟨H_3,_,_,Q_3⟩,trivial⟩⟩ W_4 trivial
theorem K_5L5 (n:Nat) (x):AE (n+1) x=Yfg C_5 B_5L5 (S_5L5 Ac) x (AE n):=by
 obtain⟨_,_,_⟩:=x
 kernel_rfl
theorem F_5 (a):E_5.run a=Yir C_5 Try.f61 E_5.params E_5.results a λo r=>some (N_5 o r):=by
 kernel_rfl
theorem W_5:XU D_5= [B_5L5]:=by kernel_rfl
theorem Q_5:Qk Try.prog 61 Try.f61 D_5:=⟨Try.func61,by kernel_rfl,by kernel_rfl⟩
theorem H_5:Holds Try.prog 61 E_5:=
 Yi3 tabT mixT Q_5 F_5 rfl ⟨⟨H_4,_,_,Q_4⟩,trivial⟩ W_5 ⟨Yi8 (L:=S_5L5 Ac) K_5L5 (i:=5) (by kernel_rfl),trivial⟩
theorem F_6 (a):E_6.run a=Yir C_6 Try.f24 E_6.params E_6.results a λo r=>some (N_6 o r):=by
 kernel_rfl
theorem W_6:XU D_6= []:=by kernel_rfl
theorem Q_6:Qk Try.prog 24 Try.f24 D_6:=⟨Try.func24,by kernel_rfl,by kernel_rfl⟩
theorem H_6:Holds Try.prog 24 E_6:=
 Yi3 tabT mixT Q_6 F_6 rfl ⟨⟨H_5,_,_,Q_5⟩,trivial⟩ W_6 trivial
theorem K_7L3 (n:Nat) (x):Bx (n+1) x=Yfg C_7 B_7L3 (S_7L3 Ac) x (Bx n):=by
 obtain⟨_,_,_⟩:=x
 kernel_rfl
theorem F_7 (a):E_7.run a=Yir C_7 Try.f27 E_7.params E_7.results a λo r=>some (N_7 o r):=by
 kernel_rfl
theorem W_7:XU D_7= [B_7L3]:=by kernel_rfl
theorem Q_7:Qk Try.prog 27 Try.f27 D_7:=⟨Try.func27,by kernel_rfl,by kernel_rfl⟩
theorem H_7:Holds Try.prog 27 E_7:=
 Yi3 tabT mixT Q_7 F_7 rfl trivial W_7 ⟨Yi8 (L:=S_7L3 Ac) K_7L3 (i:=3) (by kernel_rfl),trivial⟩
theorem K_8L3 (n:Nat) (x):Bh (n+1) x=Yfg C_8 B_8L3 (S_8L3 Ac) x (Bh n):=by
 obtain⟨_,_,_⟩:=x
 kernel_rfl
theorem F_8 (a):E_8.run a=Yir C_8 Try.f141 E_8.params E_8.results a λo r=>some (N_8 o r):=by
 kernel_rfl
theorem W_8:XU D_8= [B_8L3]:=by kernel_rfl
theorem Q_8:Qk Try.prog 141 Try.f141 D_8:=⟨Try.func141,by kernel_rfl,by kernel_rfl⟩
theorem H_8:Holds Try.prog 141 E_8:=
 Yi3 tabT mixT Q_8 F_8 rfl ⟨⟨H_7,_,_,Q_7⟩,trivial⟩ W_8 ⟨Yi8 (L:=S_8L3 Ac) K_8L3 (i:=3) (by kernel_rfl),trivial⟩
theorem F_9 (a):E_9.run a=Yir C_9 Try.f122 E_9.params E_9.results a λo r=>some (N_9 o r):=by
 kernel_rfl
theorem W_9:XU D_9= []:=by kernel_rfl
theorem Q_9:Qk Try.prog 122 Try.f122 D_9:=⟨Try.func122,by kernel_rfl,by kernel_rfl⟩
theorem H_9:Holds Try.prog 122 E_9:=
 Yi3 tabT mixT Q_9 F_9 rfl ⟨⟨H_8,_,_,Q_8⟩,trivial⟩ W_9 trivial
theorem F_10 (a):E_10.run a=Yir C_10 Try.f94 E_10.params E_10.results a λo r=>some (N_10 o r):=by
 kernel_rfl
theorem W_10:XU D_10= []:=by kernel_rfl
theorem Q_10:Qk Try.prog 94 Try.f94 D_10:=⟨Try.func94,by kernel_rfl,by kernel_rfl⟩
theorem H_10:Holds Try.prog 94 E_10:=
 Yi3 tabT mixT Q_10 F_10 rfl ⟨⟨H_7,_,_,Q_7⟩,⟨⟨H_9,_,_,Q_9⟩,trivial⟩⟩ W_10 trivial
theorem K_11L3 (n:Nat) (x):AF (n+1) x=Yfg C_11 B_11L3 (S_11L3 Ac) x (AF n):=by
 obtain⟨_,_,_⟩:=x
 kernel_rfl
theorem F_11 (a):E_11.run a=Yir C_11 Try.f67 E_11.params E_11.results a λo r=>some (N_11 o r):=by
 kernel_rfl
theorem W_11:XU D_11= [B_11L3]:=by kernel_rfl
theorem Q_11:Qk Try.prog 67 Try.f67 D_11:=⟨Try.func67,by kernel_rfl,by kernel_rfl⟩
theorem H_11:Holds Try.prog 67 E_11:=
 Yi3 tabT mixT Q_11 F_11 rfl ⟨⟨H_10,_,_,Q_10⟩,trivial⟩ W_11 ⟨Yi8 (L:=S_11L3 Ac) K_11L3 (i:=3) (by kernel_rfl),trivial⟩
theorem F_12 (a):E_12.run a=Yir C_12 Try.f26 E_12.params E_12.results a λo r=>some (N_12 o r):=by
 kernel_rfl
theorem W_12:XU D_12= []:=by kernel_rfl
theorem Q_12:Qk Try.prog 26 Try.f26 D_12:=⟨Try.func26,by kernel_rfl,by kernel_rfl⟩
theorem H_12:Holds Try.prog 26 E_12:=
 Yi3 tabT mixT Q_12 F_12 rfl ⟨⟨H_11,_,_,Q_11⟩,trivial⟩ W_12 trivial
theorem F_13 (a):E_13.run a=Yir C_13 Try.f63 E_13.params E_13.results a λo r=>some (N_13 o r):=by
 kernel_rfl
theorem W_13:XU D_13= []:=by kernel_rfl
theorem Q_13:Qk Try.prog 63 Try.f63 D_13:=⟨Try.func63,by kernel_rfl,by kernel_rfl⟩
theorem H_13:Holds Try.prog 63 E_13:=
 Yi3 tabT mixT Q_13 F_13 rfl trivial W_13 trivial
theorem K_14L2 (n:Nat) (x):AY (n+1) x=Yfg C_14 B_14L2 (S_14L2 Ac) x (AY n):=by
 obtain⟨_,_,_⟩:=x
 kernel_rfl
theorem F_14 (a):E_14.run a=Yir C_14 Try.f52 E_14.params E_14.results a λo r=>some (N_14 o r):=by
 kernel_rfl
theorem W_14:XU D_14= [B_14L2]:=by kernel_rfl
theorem Q_14:Qk Try.prog 52 Try.f52 D_14:=⟨Try.func52,by kernel_rfl,by kernel_rfl⟩
theorem H_14:Holds Try.prog 52 E_14:=
 Yi3 tabT mixT Q_14 F_14 rfl trivial W_14 ⟨Yi8 (L:=S_14L2 Ac) K_14L2 (i:=2) (by kernel_rfl),trivial⟩
theorem K_15L2 (n:Nat) (x):AN (n+1) x=Yfg C_15 B_15L2 (S_15L2 Ac) x (AN n):=by
 obtain⟨_,_,_⟩:=x
 kernel_rfl
theorem F_15 (a):E_15.run a=Yir C_15 Try.f64 E_15.params E_15.results a λo r=>some (N_15 o r):=by
 kernel_rfl
theorem W_15:XU D_15= [B_15L2]:=by kernel_rfl
theorem Q_15:Qk Try.prog 64 Try.f64 D_15:=⟨Try.func64,by kernel_rfl,by kernel_rfl⟩
theorem H_15:Holds Try.prog 64 E_15:=
 Yi3 tabT mixT Q_15 F_15 rfl ⟨⟨H_13,_,_,Q_13⟩,trivial⟩ W_15 ⟨Yi8 (L:=S_15L2 Ac) K_15L2 (i:=2) (by kernel_rfl),trivial⟩
theorem F_16 (a):E_16.run a=Yir C_16 Try.f109 E_16.params E_16.results a λo r=>some (N_16 o r):=by
 kernel_rfl
theorem W_16:XU D_16= []:=by kernel_rfl
theorem Q_16:Qk Try.prog 109 Try.f109 D_16:=⟨Try.func109,by kernel_rfl,by kernel_rfl⟩
theorem H_16:Holds Try.prog 109 E_16:=
 Yi3 tabT mixT Q_16 F_16 rfl ⟨⟨H_15,_,_,Q_15⟩,trivial⟩ W_16 trivial
theorem K_17L2 (n:Nat) (x):BB (n+1) x=Yfg C_17 B_17L2 (S_17L2 Ac) x (BB n):=by
 obtain⟨_,_,_⟩:=x
 kernel_rfl
theorem F_17 (a):E_17.run a=Yir C_17 Try.f115 E_17.params E_17.results a λo r=>some (N_17 o r):=by
 kernel_rfl
theorem W_17:XU D_17= [B_17L2]:=by kernel_rfl
theorem Q_17:Qk Try.prog 115 Try.f115 D_17:=⟨Try.func115,by kernel_rfl,by kernel_rfl⟩
theorem H_17:Holds Try.prog 115 E_17:=
 Yi3 tabT mixT Q_17 F_17 rfl trivial W_17 ⟨Yi8 (L:=S_17L2 Ac) K_17L2 (i:=2) (by kernel_rfl),trivial⟩
theorem K_18L4 (n:Nat) (x):AQ (n+1) x=Yfg C_18 B_18L4 (S_18L4 Ac) x (AQ n):=by
 obtain⟨_,_,_⟩:=x
 kernel_rfl
theorem F_18 (a):E_18.run a=Yir C_18 Try.f119 E_18.params E_18.results a λo r=>some (N_18 o r):=by
 kernel_rfl
theorem W_18:XU D_18= [B_18L4]:=by kernel_rfl
theorem Q_18:Qk Try.prog 119 Try.f119 D_18:=⟨Try.func119,by kernel_rfl,by kernel_rfl⟩
theorem H_18:Holds Try.prog 119 E_18:=
 Yi3 tabT mixT Q_18 F_18 rfl ⟨⟨H_14,_,_,Q_14⟩,⟨⟨H_13,_,_,Q_13⟩,⟨⟨H_16,_,_,Q_16⟩,⟨⟨H_17,_,_,Q_17⟩,trivial⟩⟩⟩⟩ W_18 ⟨Yi8 (L:=S_18L4 Ac) K_18L4 (i:=4) (by kernel_rfl),trivial⟩
theorem F_19 (a):E_19.run a=Yir C_19 Try.f91 E_19.params E_19.results a λo r=>some (N_19 o r):=by
 kernel_rfl
theorem W_19:XU D_19= []:=by kernel_rfl
theorem Q_19:Qk Try.prog 91 Try.f91 D_19:=⟨Try.func91,by kernel_rfl,by kernel_rfl⟩
theorem H_19:Holds Try.prog 91 E_19:=
 Yi3 tabT mixT Q_19 F_19 rfl ⟨⟨H_15,_,_,Q_15⟩,⟨⟨H_18,_,_,Q_18⟩,trivial⟩⟩ W_19 trivial
theorem K_20L4 (n:Nat) (x):Bj (n+1) x=Yfg C_20 B_20L4 (S_20L4 Ac) x (Bj n):=by
 obtain⟨_,_⟩:=x
 kernel_rfl
theorem F_20 (a):E_20.run a=Yir C_20 Try.f62 E_20.params E_20.results a λo r=>some (N_20 o r):=by
 kernel_rfl
theorem W_20:XU D_20= [B_20L4]:=by kernel_rfl
theorem Q_20:Qk Try.prog 62 Try.f62 D_20:=⟨Try.func62,by kernel_rfl,by kernel_rfl⟩
theorem H_20:Holds Try.prog 62 E_20:=
 Yi3 tabT mixT Q_20 F_20 rfl ⟨⟨H_13,_,_,Q_13⟩,⟨⟨H_19,_,_,Q_19⟩,trivial⟩⟩ W_20 ⟨Yi8 (L:=S_20L4 Ac) K_20L4 (i:=4) (by kernel_rfl),trivial⟩
theorem K_21L3 (n:Nat) (x):BA (n+1) x=Yfg C_21 B_21L3 (S_21L3 Ac) x (BA n):=by
 obtain⟨_,_,_,_⟩:=x
 kernel_rfl
theorem F_21 (a):E_21.run a=Yir C_21 Try.f58 E_21.params E_21.results a λo r=>some (N_21 o r):=by
 kernel_rfl
theorem W_21:XU D_21= [B_21L3]:=by kernel_rfl
theorem Q_21:Qk Try.prog 58 Try.f58 D_21:=⟨Try.func58,by kernel_rfl,by kernel_rfl⟩
theorem H_21:Holds Try.prog 58 E_21:=
 Yi3 tabT mixT Q_21 F_21 rfl trivial W_21 ⟨Yi8 (L:=S_21L3 Ac) K_21L3 (i:=3) (by kernel_rfl),trivial⟩
theorem K_22L3 (n:Nat) (x):AR (n+1) x=Yfg C_22 B_22L3 (S_22L3 Ac) x (AR n):=by
 obtain⟨_,_,_⟩:=x
 kernel_rfl
theorem F_22 (a):E_22.run a=Yir C_22 Try.f65 E_22.params E_22.results a λo r=>some (N_22 o r):=by
 kernel_rfl
theorem W_22:XU D_22= [B_22L3]:=by kernel_rfl
theorem Q_22:Qk Try.prog 65 Try.f65 D_22:=⟨Try.func65,by kernel_rfl,by kernel_rfl⟩
theorem H_22:Holds Try.prog 65 E_22:=
 Yi3 tabT mixT Q_22 F_22 rfl trivial W_22 ⟨Yi8 (L:=S_22L3 Ac) K_22L3 (i:=3) (by kernel_rfl),trivial⟩
theorem F_23 (a):E_23.run a=Yir C_23 Try.f121 E_23.params E_23.results a λo r=>some (N_23 o r):=by
 kernel_rfl
theorem W_23:XU D_23= []:=by kernel_rfl
theorem Q_23:Qk Try.prog 121 Try.f121 D_23:=⟨Try.func121,by kernel_rfl,by kernel_rfl⟩
theorem H_23:Holds Try.prog 121 E_23:=
 Yi3 tabT mixT Q_23 F_23 rfl trivial W_23 trivial
theorem K_24L7 (n:Nat) (x):AT (n+1) x=Yfg C_24 B_24L7 (S_24L7 Ac) x (AT n):=by
 obtain⟨_,_,_,_,_⟩:=x
 kernel_rfl
theorem K_24L3 (n:Nat) (x):AS (n+1) x=Yfg C_24 B_24L3 (S_24L3 Ac) x (AS n):=by
 obtain⟨_,_,_⟩:=x
 kernel_rfl
theorem F_24 (a):E_24.run a=Yir C_24 Try.f93 E_24.params E_24.results a λo r=>some (N_24 o r):=by
 kernel_rfl
theorem W_24:XU D_24= [B_24L3,B_24L7]:=by kernel_rfl
theorem Q_24:Qk Try.prog 93 Try.f93 D_24:=⟨Try.func93,by kernel_rfl,by kernel_rfl⟩
theorem H_24:Holds Try.prog 93 E_24:=
 Yi3 tabT mixT Q_24 F_24 rfl ⟨⟨H_23,_,_,Q_23⟩,trivial⟩ W_24 ⟨Yi8 (L:=S_24L3 Ac) K_24L3 (i:=3) (by kernel_rfl),⟨Yi8 (L:=S_24L7 Ac) K_24L7 (i:=7) (by kernel_rfl),trivial⟩⟩
theorem F_25 (a):E_25.run a=Yir C_25 Try.f57 E_25.params E_25.results a λo r=>some (N_25 o r):=by
 kernel_rfl
theorem W_25:XU D_25= []:=by kernel_rfl
theorem Q_25:Qk Try.prog 57 Try.f57 D_25:=⟨Try.func57,by kernel_rfl,by kernel_rfl⟩
theorem H_25:Holds Try.prog 57 E_25:=
 Yi3 tabT mixT Q_25 F_25 rfl trivial W_25 trivial
theorem K_26L4 (n:Nat) (x):Bz (n+1) x=Yfg C_26 B_26L4 (S_26L4 Ac) x (Bz n):=by
 obtain⟨_,_,_⟩:=x
 kernel_rfl
theorem F_26 (a):E_26.run a=Yir C_26 Try.f116 E_26.params E_26.results a λo r=>some (N_26 o r):=by
 kernel_rfl
theorem W_26:XU D_26= [B_26L4]:=by kernel_rfl
theorem Q_26:Qk Try.prog 116 Try.f116 D_26:=⟨Try.func116,by kernel_rfl,by kernel_rfl⟩
theorem H_26:Holds Try.prog 116 E_26:=
 Yi3 tabT mixT Q_26 F_26 rfl trivial W_26 ⟨Yi8 (L:=S_26L4 Ac) K_26L4 (i:=4) (by kernel_rfl),trivial⟩
theorem K_27L2 (n:Nat) (x):Ba (n+1) x=Yfg C_27 B_27L2 (S_27L2 Ac) x (Ba n):=by
 obtain⟨_,_,_,_⟩:=x
 kernel_rfl
theorem F_27 (a):E_27.run a=Yir C_27 Try.f89 E_27.params E_27.results a λo r=>some (N_27 o r):=by
 kernel_rfl
theorem W_27:XU D_27= [B_27L2]:=by kernel_rfl
theorem Q_27:Qk Try.prog 89 Try.f89 D_27:=⟨Try.func89,by kernel_rfl,by kernel_rfl⟩
theorem H_27:Holds Try.prog 89 E_27:=
 Yi3 tabT mixT Q_27 F_27 rfl ⟨⟨H_17,_,_,Q_17⟩,⟨⟨H_26,_,_,Q_26⟩,trivial⟩⟩ W_27 ⟨Yi8 (L:=S_27L2 Ac) K_27L2 (i:=2) (by kernel_rfl),trivial⟩
theorem F_28 (a):E_28.run a=Yir C_28 Try.f140 E_28.params E_28.results a λo r=>some (N_28 o r):=by
 kernel_rfl
theorem W_28:XU D_28= []:=by kernel_rfl
theorem Q_28:Qk Try.prog 140 Try.f140 D_28:=⟨Try.func140,by kernel_rfl,by kernel_rfl⟩
theorem H_28:Holds Try.prog 140 E_28:=
 Yi3 tabT mixT Q_28 F_28 rfl ⟨⟨H_27,_,_,Q_27⟩,trivial⟩ W_28 trivial
theorem K_29L3 (n:Nat) (x):AI (n+1) x=Yfg C_29 B_29L3 (S_29L3 Ac) x (AI n):=by
 obtain⟨_,_,_,_⟩:=x
 kernel_rfl
theorem F_29 (a):E_29.run a=Yir C_29 Try.f120 E_29.params E_29.results a λo r=>some (N_29 o r):=by
 kernel_rfl
theorem W_29:XU D_29= [B_29L3]:=by kernel_rfl
theorem Q_29:Qk Try.prog 120 Try.f120 D_29:=⟨Try.func120,by kernel_rfl,by kernel_rfl⟩
theorem H_29:Holds Try.prog 120 E_29:=
 Yi3 tabT mixT Q_29 F_29 rfl ⟨⟨H_28,_,_,Q_28⟩,trivial⟩ W_29 ⟨Yi8 (L:=S_29L3 Ac) K_29L3 (i:=3) (by kernel_rfl),trivial⟩
theorem K_30L14 (rec:(Int×(List (List ((List Int)×Int×(List (List Int)))))×(List Int)×(List Int)×((List (List Int))×(Int×Int×Bool)))->Option (((List (List Int))×(Int×Int×Bool)))) (n:Nat) (x):Am rec (n+1) x=Yfg (C_30 rec) B_30L14 (S_30L14 rec Ac) x (Am rec n):=by
 obtain⟨_,_,_,_,_,_,_,_,_,_,_⟩:=x
 kernel_rfl
theorem K_30L8 (rec:(Int×(List (List ((List Int)×Int×(List (List Int)))))×(List Int)×(List Int)×((List (List Int))×(Int×Int×Bool)))->Option (((List (List Int))×(Int×Int×Bool)))) (n:Nat) (x):Ad rec (n+1) x=Yfg (C_30 rec) B_30L8 (S_30L8 rec Ac) x (Ad rec n):=by
 obtain⟨_,_,_,_,_,_,_,_⟩:=x
 kernel_rfl
theorem F_30 (rec:(Int×(List (List ((List Int)×Int×(List (List Int)))))×(List Int)×(List Int)×((List (List Int))×(Int×Int×Bool)))->Option (((List (List Int))×(Int×Int×Bool)))) (a:YH [.v .int,.v y9,.v y1,.v y1,.pr (.mv y1 1) (.v y4)]):B5 rec a.1 a.2.1 a.2.2.1 a.2.2.2.1 a.2.2.2.2=Yir (C_30 rec) Try.f92 [.v .int,.v y9,.v y1,.v y1,.pr (.mv y1 1) (.v y4)] [.pr (.mv y1 1) (.v y4)] a (λo r=>some (N_30 o r)):=by
 kernel_rfl
theorem W_30:XU D_30= [B_30L8,B_30L14]:=by kernel_rfl
theorem R_30L14:YZ B_30L14=14:=by kernel_rfl
theorem R_30L8:YZ B_30L8=8:=by kernel_rfl
theorem Q_30:Qk Try.prog 92 Try.f92 D_30:=⟨Try.func92,by kernel_rfl,by kernel_rfl⟩
theorem H_30: ∀d,Holds Try.prog 92 (E_30 d)
 |0=>λ_ b h=>absurd (show(none:Option _)=some b from h) (by simp)
 |d+1=>YgE (en:=E_30 (d+1)) (cx:=(C_30 (Aj d))) (Yhe tabT rfl).1 (Yfz ⟨⟨H_25,_,_,Q_25⟩,⟨⟨H_30 d,_,_,Q_30⟩,⟨⟨H_29,_,_,Q_29⟩,trivial⟩⟩⟩) mixT Q_30.1 Q_30.2.2 (YgL W_30 ⟨YhE (cx:=(C_30 (Aj d))) (L:=S_30L8 (Aj d) Ac) rfl (by rw[R_30L8];rfl) ⟨Ad (Aj d),λ_=>rfl,λn x=>K_30L8 (Aj d) n x,Ac,λ_=>rfl⟩,⟨YhE (cx:=(C_30 (Aj d))) (L:=S_30L14 (Aj d) Ac) rfl (by rw[R_30L14];rfl) ⟨Am (Aj d),λ_=>rfl,λn x=>K_30L14 (Aj d) n x,Ac,λ_=>rfl⟩,trivial⟩⟩) (enc:=N_30) (λ_ _=>⟨rfl,rfl⟩) (F_30 (Aj d)) rfl
theorem F_31 (a):E_31.run a=Yir C_31 Try.f66 E_31.params E_31.results a λo r=>some (N_31 o r):=by
 kernel_rfl
theorem W_31:XU D_31= []:=by kernel_rfl
theorem Q_31:Qk Try.prog 66 Try.f66 D_31:=⟨Try.func66,by kernel_rfl,by kernel_rfl⟩
theorem H_31:Holds Try.prog 66 E_31:=
 Yi3 tabT mixT Q_31 F_31 rfl ⟨⟨H_30 Ac,_,_,Q_30⟩,⟨⟨H_24,_,_,Q_24⟩,trivial⟩⟩ W_31 trivial
theorem K_32L10 (n:Nat) (x):Ah (n+1) x=Yfg C_32 B_32L10 (S_32L10 Ac) x (Ah n):=by
 obtain⟨_,_,_,_,_,_,_,_,_⟩:=x
 kernel_rfl
theorem K_32L5 (n:Nat) (x):Ak (n+1) x=Yfg C_32 B_32L5 (S_32L5 Ac) x (Ak n):=by
 obtain⟨_,_,_,_,_⟩:=x
 kernel_rfl
theorem F_32 (a):E_32.run a=Yir C_32 Try.f25 E_32.params E_32.results a λo r=>some (N_32 o r):=by
 kernel_rfl
theorem W_32:XU D_32= [B_32L5,B_32L10]:=by kernel_rfl
theorem Q_32:Qk Try.prog 25 Try.f25 D_32:=⟨Try.func25,by kernel_rfl,by kernel_rfl⟩
theorem H_32:Holds Try.prog 25 E_32:=
 Yi3 tabT mixT Q_32 F_32 rfl ⟨⟨H_14,_,_,Q_14⟩,⟨⟨H_21,_,_,Q_21⟩,⟨⟨H_20,_,_,Q_20⟩,⟨⟨H_13,_,_,Q_13⟩,⟨⟨H_15,_,_,Q_15⟩,⟨⟨H_22,_,_,Q_22⟩,⟨⟨H_31,_,_,Q_31⟩,trivial⟩⟩⟩⟩⟩⟩⟩ W_32 ⟨Yi8 (L:=S_32L5 Ac) K_32L5 (i:=5) (by kernel_rfl),⟨Yi8 (L:=S_32L10 Ac) K_32L10 (i:=10) (by kernel_rfl),trivial⟩⟩
theorem F_33 (a):E_33.run a=Yir C_33 Try.f95 E_33.params E_33.results a λo r=>some (N_33 o r):=by
 kernel_rfl
theorem W_33:XU D_33= []:=by kernel_rfl
theorem Q_33:Qk Try.prog 95 Try.f95 D_33:=⟨Try.func95,by kernel_rfl,by kernel_rfl⟩
theorem H_33:Holds Try.prog 95 E_33:=
 Yi3 tabT mixT Q_33 F_33 rfl trivial W_33 trivial
theorem K_34L2 (n:Nat) (x):Bs (n+1) x=Yfg C_34 B_34L2 (S_34L2 Ac) x (Bs n):=by
 obtain⟨_,_,_,_⟩:=x
 kernel_rfl
theorem F_34 (a):E_34.run a=Yir C_34 Try.f42 E_34.params E_34.results a λo r=>some (N_34 o r):=by
 kernel_rfl
theorem W_34:XU D_34= [B_34L2]:=by kernel_rfl
theorem Q_34:Qk Try.prog 42 Try.f42 D_34:=⟨Try.func42,by kernel_rfl,by kernel_rfl⟩
theorem H_34:Holds Try.prog 42 E_34:=
 Yi3 tabT mixT Q_34 F_34 rfl trivial W_34 ⟨Yi8 (L:=S_34L2 Ac) K_34L2 (i:=2) (by kernel_rfl),trivial⟩
theorem K_35L2 (n:Nat) (x):Ar (n+1) x=Yfg C_35 B_35L2 (S_35L2 Ac) x (Ar n):=by
 obtain⟨_,_,_⟩:=x
 kernel_rfl
theorem F_35 (a):E_35.run a=Yir C_35 Try.f56 E_35.params E_35.results a λo r=>some (N_35 o r):=by
 kernel_rfl
theorem W_35:XU D_35= [B_35L2]:=by kernel_rfl
theorem Q_35:Qk Try.prog 56 Try.f56 D_35:=⟨Try.func56,by kernel_rfl,by kernel_rfl⟩
theorem H_35:Holds Try.prog 56 E_35:=
 Yi3 tabT mixT Q_35 F_35 rfl trivial W_35 ⟨Yi8 (L:=S_35L2 Ac) K_35L2 (i:=2) (by kernel_rfl),trivial⟩
theorem K_36L4 (n:Nat) (x):AG (n+1) x=Yfg C_36 B_36L4 (S_36L4 Ac) x (AG n):=by
 obtain⟨_,_,_,_,_⟩:=x
 kernel_rfl
theorem F_36 (a):E_36.run a=Yir C_36 Try.f123 E_36.params E_36.results a λo r=>some (N_36 o r):=by
 kernel_rfl
theorem W_36:XU D_36= [B_36L4]:=by kernel_rfl
theorem Q_36:Qk Try.prog 123 Try.f123 D_36:=⟨Try.func123,by kernel_rfl,by kernel_rfl⟩
theorem H_36:Holds Try.prog 123 E_36:=
 Yi3 tabT mixT Q_36 F_36 rfl ⟨⟨H_34,_,_,Q_34⟩,⟨⟨H_35,_,_,Q_35⟩,trivial⟩⟩ W_36 ⟨Yi8 (L:=S_36L4 Ac) K_36L4 (i:=4) (by kernel_rfl),trivial⟩
theorem F_37 (a):E_37.run a=Yir C_37 Try.f96 E_37.params E_37.results a λo r=>some (N_37 o r):=by
 kernel_rfl
theorem W_37:XU D_37= []:=by kernel_rfl
theorem Q_37:Qk Try.prog 96 Try.f96 D_37:=⟨Try.func96,by kernel_rfl,by kernel_rfl⟩
theorem H_37:Holds Try.prog 96 E_37:=
 Yi3 tabT mixT Q_37 F_37 rfl ⟨⟨H_34,_,_,Q_34⟩,⟨⟨H_36,_,_,Q_36⟩,trivial⟩⟩ W_37 trivial
theorem K_38L4 (n:Nat) (x):AU (n+1) x=Yfg C_38 B_38L4 (S_38L4 Ac) x (AU n):=by
 obtain⟨_,_,_,_⟩:=x
 kernel_rfl
theorem F_38 (a):E_38.run a=Yir C_38 Try.f68 E_38.params E_38.results a λo r=>some (N_38 o r):=by
 kernel_rfl
theorem W_38:XU D_38= [B_38L4]:=by kernel_rfl
theorem Q_38:Qk Try.prog 68 Try.f68 D_38:=⟨Try.func68,by kernel_rfl,by kernel_rfl⟩
theorem H_38:Holds Try.prog 68 E_38:=
 Yi3 tabT mixT Q_38 F_38 rfl ⟨⟨H_33,_,_,Q_33⟩,⟨⟨H_37,_,_,Q_37⟩,trivial⟩⟩ W_38 ⟨Yi8 (L:=S_38L4 Ac) K_38L4 (i:=4) (by kernel_rfl),trivial⟩
theorem K_39L3 (n:Nat) (x):Bl (n+1) x=Yfg C_39 B_39L3 (S_39L3 Ac) x (Bl n):=by
 obtain⟨_,_,_,_⟩:=x
 kernel_rfl
theorem F_39 (a):E_39.run a=Yir C_39 Try.f72 E_39.params E_39.results a λo r=>some (N_39 o r):=by
 kernel_rfl
theorem W_39:XU D_39= [B_39L3]:=by kernel_rfl
theorem Q_39:Qk Try.prog 72 Try.f72 D_39:=⟨Try.func72,by kernel_rfl,by kernel_rfl⟩
theorem H_39:Holds Try.prog 72 E_39:=
 Yi3 tabT mixT Q_39 F_39 rfl trivial W_39 ⟨Yi8 (L:=S_39L3 Ac) K_39L3 (i:=3) (by kernel_rfl),trivial⟩
theorem K_40L3 (n:Nat) (x):A7 (n+1) x=Yfg C_40 B_40L3 (S_40L3 Ac) x (A7 n):=by
 obtain⟨_,_,_,_⟩:=x
 kernel_rfl
theorem F_40 (a):E_40.run a=Yir C_40 Try.f124 E_40.params E_40.results a λo r=>some (N_40 o r):=by
 kernel_rfl
theorem W_40:XU D_40= [B_40L3]:=by kernel_rfl
theorem Q_40:Qk Try.prog 124 Try.f124 D_40:=⟨Try.func124,by kernel_rfl,by kernel_rfl⟩
theorem H_40:Holds Try.prog 124 E_40:=
 Yi3 tabT mixT Q_40 F_40 rfl ⟨⟨H_39,_,_,Q_39⟩,trivial⟩ W_40 ⟨Yi8 (L:=S_40L3 Ac) K_40L3 (i:=3) (by kernel_rfl),trivial⟩
theorem K_41L7 (n:Nat) (x):Av (n+1) x=Yfg C_41 B_41L7 (S_41L7 Ac) x (Av n):=by
 obtain⟨_,_,_,_,_,_,_,_,_⟩:=x
 kernel_rfl
theorem K_41L3 (n:Nat) (x):Au (n+1) x=Yfg C_41 B_41L3 (S_41L3 Ac) x (Au n):=by
 obtain⟨_,_,_,_⟩:=x
 kernel_rfl
theorem F_41 (a):E_41.run a=Yir C_41 Try.f97 E_41.params E_41.results a λo r=>some (N_41 o r):=by
 kernel_rfl
theorem W_41:XU D_41= [B_41L3,B_41L7]:=by kernel_rfl
theorem Q_41:Qk Try.prog 97 Try.f97 D_41:=⟨Try.func97,by kernel_rfl,by kernel_rfl⟩
theorem H_41:Holds Try.prog 97 E_41:=
 Yi3 tabT mixT Q_41 F_41 rfl ⟨⟨H_40,_,_,Q_40⟩,trivial⟩ W_41 ⟨Yi8 (L:=S_41L3 Ac) K_41L3 (i:=3) (by kernel_rfl),⟨Yi8 (L:=S_41L7 Ac) K_41L7 (i:=7) (by kernel_rfl),trivial⟩⟩
theorem K_42L3 (n:Nat) (x):AK (n+1) x=Yfg C_42 B_42L3 (S_42L3 Ac) x (AK n):=by
 obtain⟨_,_,_⟩:=x
 kernel_rfl
theorem F_42 (a):E_42.run a=Yir C_42 Try.f99 E_42.params E_42.results a λo r=>some (N_42 o r):=by
 kernel_rfl
theorem W_42:XU D_42= [B_42L3]:=by kernel_rfl
theorem Q_42:Qk Try.prog 99 Try.f99 D_42:=⟨Try.func99,by kernel_rfl,by kernel_rfl⟩
theorem H_42:Holds Try.prog 99 E_42:=
 Yi3 tabT mixT Q_42 F_42 rfl trivial W_42 ⟨Yi8 (L:=S_42L3 Ac) K_42L3 (i:=3) (by kernel_rfl),trivial⟩
theorem F_43 (a):E_43.run a=Yir C_43 Try.f81 E_43.params E_43.results a λo r=>some (N_43 o r):=by
 kernel_rfl
theorem W_43:XU D_43= []:=by kernel_rfl
theorem Q_43:Qk Try.prog 81 Try.f81 D_43:=⟨Try.func81,by kernel_rfl,by kernel_rfl⟩
theorem H_43:Holds Try.prog 81 E_43:=
 Yi3 tabT mixT Q_43 F_43 rfl trivial W_43 trivial
theorem K_44L3 (n:Nat) (x):AJ (n+1) x=Yfg C_44 B_44L3 (S_44L3 Ac) x (AJ n):=by
 obtain⟨_,_,_,_⟩:=x
 kernel_rfl
theorem F_44 (a):E_44.run a=Yir C_44 Try.f80 E_44.params E_44.results a λo r=>some (N_44 o r):=by
 kernel_rfl
theorem W_44:XU D_44= [B_44L3]:=by kernel_rfl
theorem Q_44:Qk Try.prog 80 Try.f80 D_44:=⟨Try.func80,by kernel_rfl,by kernel_rfl⟩
theorem H_44:Holds Try.prog 80 E_44:=
 Yi3 tabT mixT Q_44 F_44 rfl ⟨⟨H_43,_,_,Q_43⟩,trivial⟩ W_44 ⟨Yi8 (L:=S_44L3 Ac) K_44L3 (i:=3) (by kernel_rfl),trivial⟩
theorem Q_45:Qk Try.prog 55 Try.f55 D_45:=⟨Try.func55,by kernel_rfl,by kernel_rfl⟩
theorem H_45:Holds Try.prog 55 E_45:=Go.Proofs.H_sort_cmpL 1
theorem F_46 (a):E_46.run a=Yir C_46 Try.f101 E_46.params E_46.results a λo r=>some (N_46 o r):=by
 kernel_rfl
theorem W_46:XU D_46= []:=by kernel_rfl
theorem Q_46:Qk Try.prog 101 Try.f101 D_46:=⟨Try.func101,by kernel_rfl,by kernel_rfl⟩
theorem H_46:Holds Try.prog 101 E_46:=
 Yi3 tabT mixT Q_46 F_46 rfl ⟨⟨H_44,_,_,Q_44⟩,⟨⟨H_45,_,_,Q_45⟩,trivial⟩⟩ W_46 trivial
theorem K_47L4 (n:Nat) (x):Cq (n+1) x=Yfg C_47 B_47L4 (S_47L4 Ac) x (Cq n):=by
 obtain⟨_,_,_,_⟩:=x
 kernel_rfl
theorem F_47 (a):E_47.run a=Yir C_47 Try.f126 E_47.params E_47.results a λo r=>some (N_47 o r):=by
 kernel_rfl
theorem W_47:XU D_47= [B_47L4]:=by kernel_rfl
theorem Q_47:Qk Try.prog 126 Try.f126 D_47:=⟨Try.func126,by kernel_rfl,by kernel_rfl⟩
theorem H_47:Holds Try.prog 126 E_47:=
 Yi3 tabT mixT Q_47 F_47 rfl trivial W_47 ⟨Yi8 (L:=S_47L4 Ac) K_47L4 (i:=4) (by kernel_rfl),trivial⟩
theorem Q_48:Qk Try.prog 100 Try.f100 D_48:=⟨Try.func100,by kernel_rfl,by kernel_rfl⟩
theorem H_48:Holds Try.prog 100 E_48:=Go.Proofs.H_diff 1
theorem F_49 (a):E_49.run a=Yir C_49 Try.f73 E_49.params E_49.results a λo r=>some (N_49 o r):=by
 kernel_rfl
theorem W_49:XU D_49= []:=by kernel_rfl
theorem Q_49:Qk Try.prog 73 Try.f73 D_49:=⟨Try.func73,by kernel_rfl,by kernel_rfl⟩
theorem H_49:Holds Try.prog 73 E_49:=
 Yi3 tabT mixT Q_49 F_49 rfl ⟨⟨H_48,_,_,Q_48⟩,⟨⟨H_46,_,_,Q_46⟩,trivial⟩⟩ W_49 trivial
theorem K_50L3 (n:Nat) (x):Bd (n+1) x=Yfg C_50 B_50L3 (S_50L3 Ac) x (Bd n):=by
 obtain⟨_,_,_,_,_⟩:=x
 kernel_rfl
theorem F_50 (a):E_50.run a=Yir C_50 Try.f71 E_50.params E_50.results a λo r=>some (N_50 o r):=by
 kernel_rfl
theorem W_50:XU D_50= [B_50L3]:=by kernel_rfl
theorem Q_50:Qk Try.prog 71 Try.f71 D_50:=⟨Try.func71,by kernel_rfl,by kernel_rfl⟩
theorem H_50:Holds Try.prog 71 E_50:=
 Yi3 tabT mixT Q_50 F_50 rfl trivial W_50 ⟨Yi8 (L:=S_50L3 Ac) K_50L3 (i:=3) (by kernel_rfl),trivial⟩
theorem F_51 (a):E_51.run a=Yir C_51 Try.f70 E_51.params E_51.results a λo r=>some (N_51 o r):=by
 kernel_rfl
theorem W_51:XU D_51= []:=by kernel_rfl
theorem Q_51:Qk Try.prog 70 Try.f70 D_51:=⟨Try.func70,by kernel_rfl,by kernel_rfl⟩
theorem H_51:Holds Try.prog 70 E_51:=
 Yi3 tabT mixT Q_51 F_51 rfl ⟨⟨H_50,_,_,Q_50⟩,⟨⟨H_39,_,_,Q_39⟩,trivial⟩⟩ W_51 trivial
theorem K_52L10 (rec:(Int×(List Int)×((List Int)×((List ByteArray)×(List (List Int))))×(Bool×Int×(List (List (List Int)))×(List (List (List ByteArray))))×(List Int)×Unit)->Option ((List Int)×(Unit×((List ByteArray)×(List (List Int))))×(Bool×Int×(List (List (List Int)))×(List (List (List ByteArray))))×(List Int)×Bool)) (n:Nat) (x):Ab rec (n+1) x=Yfg (C_52 rec) B_52L10 (S_52L10 rec Ac) x (Ab rec n):=by
 obtain⟨_,_,_,_,_,_,_,_,_,_,_⟩:=x
 kernel_rfl
theorem K_52L4 (rec:(Int×(List Int)×((List Int)×((List ByteArray)×(List (List Int))))×(Bool×Int×(List (List (List Int)))×(List (List (List ByteArray))))×(List Int)×Unit)->Option ((List Int)×(Unit×((List ByteArray)×(List (List Int))))×(Bool×Int×(List (List (List Int)))×(List (List (List ByteArray))))×(List Int)×Bool)) (n:Nat) (x):Aa rec (n+1) x=Yfg (C_52 rec) B_52L4 (S_52L4 rec Ac) x (Aa rec n):=by
 obtain⟨_,_,_,_,_,_,_⟩:=x
 kernel_rfl
theorem F_52 (rec:(Int×(List Int)×((List Int)×((List ByteArray)×(List (List Int))))×(Bool×Int×(List (List (List Int)))×(List (List (List ByteArray))))×(List Int)×Unit)->Option ((List Int)×(Unit×((List ByteArray)×(List (List Int))))×(Bool×Int×(List (List (List Int)))×(List (List (List ByteArray))))×(List Int)×Bool)) (a:YH [.v .int,.bx (.mv .int 0),.pr (.pz y1) (.pr (.bx ((.mp .sb))) (.bx (.mv y1 1))),.bx (.v (.ptr y2)),.bx (.v y1),.jk 1]):Ap rec a.1 a.2.1 a.2.2.1 a.2.2.2.1 a.2.2.2.2.1 a.2.2.2.2.2=Yir (C_52 rec) Try.f125 [.v .int,.bx (.mv .int 0),.pr (.pz y1) (.pr (.bx ((.mp .sb))) (.bx (.mv y1 1))),.bx (.v (.ptr y2)),.bx (.v y1),.jk 1] [.v .bool] a (λo r=>some (N_52 o r)):=by
 kernel_rfl
theorem W_52:XU D_52= [B_52L4,B_52L10]:=by kernel_rfl
theorem R_52L10:YZ B_52L10=10:=by kernel_rfl
theorem R_52L4:YZ B_52L4=4:=by kernel_rfl
theorem Q_52:Qk Try.prog 125 Try.f125 D_52:=⟨Try.func125,by kernel_rfl,by kernel_rfl⟩
theorem H_52: ∀d,Holds Try.prog 125 (E_52 d)
 |0=>λ_ b h=>absurd (show(none:Option _)=some b from h) (by simp)
 |d+1=>YgE (en:=E_52 (d+1)) (cx:=(C_52 (Ag d))) (Yhe tabT rfl).1 (Yfz ⟨⟨H_51,_,_,Q_51⟩,⟨⟨H_50,_,_,Q_50⟩,⟨⟨H_39,_,_,Q_39⟩,⟨⟨H_52 d,_,_,Q_52⟩,trivial⟩⟩⟩⟩) mixT Q_52.1 Q_52.2.2 (YgL W_52 ⟨YhE (cx:=(C_52 (Ag d))) (L:=S_52L4 (Ag d) Ac) rfl (by rw[R_52L4];rfl) ⟨Aa (Ag d),λ_=>rfl,λn x=>K_52L4 (Ag d) n x,Ac,λ_=>rfl⟩,⟨YhE (cx:=(C_52 (Ag d))) (L:=S_52L10 (Ag d) Ac) rfl (by rw[R_52L10];rfl) ⟨Ab (Ag d),λ_=>rfl,λn x=>K_52L10 (Ag d) n x,Ac,λ_=>rfl⟩,trivial⟩⟩) (enc:=N_52) (λ_ _=>⟨rfl,rfl⟩) (F_52 (Ag d)) rfl
theorem F_53 (a):E_53.run a=Yir C_53 Try.f98 E_53.params E_53.results a λo r=>some (N_53 o r):=by
 kernel_rfl
theorem W_53:XU D_53= []:=by kernel_rfl
theorem Q_53:Qk Try.prog 98 Try.f98 D_53:=⟨Try.func98,by kernel_rfl,by kernel_rfl⟩
theorem H_53:Holds Try.prog 98 E_53:=
 Yi3 tabT mixT Q_53 F_53 rfl ⟨⟨H_52 Ac,_,_,Q_52⟩,trivial⟩ W_53 trivial
theorem F_54 (a):E_54.run a=Yir C_54 Try.f69 E_54.params E_54.results a λo r=>some (N_54 o r):=by
 kernel_rfl
theorem W_54:XU D_54= []:=by kernel_rfl
theorem Q_54:Qk Try.prog 69 Try.f69 D_54:=⟨Try.func69,by kernel_rfl,by kernel_rfl⟩
theorem H_54:Holds Try.prog 69 E_54:=
 Yi3 tabT mixT Q_54 F_54 rfl ⟨⟨H_41,_,_,Q_41⟩,⟨⟨H_42,_,_,Q_42⟩,⟨⟨H_53,_,_,Q_53⟩,trivial⟩⟩⟩ W_54 trivial
theorem F_55 (a):E_55.run a=Yir C_55 Try.f28 E_55.params E_55.results a λo r=>some (N_55 o r):=by
 kernel_rfl
theorem W_55:XU D_55= []:=by kernel_rfl
theorem Q_55:Qk Try.prog 28 Try.f28 D_55:=⟨Try.func28,by kernel_rfl,by kernel_rfl⟩
theorem H_55:Holds Try.prog 28 E_55:=
 Yi3 tabT mixT Q_55 F_55 rfl ⟨⟨H_34,_,_,Q_34⟩,⟨⟨H_38,_,_,Q_38⟩,⟨⟨H_49,_,_,Q_49⟩,⟨⟨H_54,_,_,Q_54⟩,trivial⟩⟩⟩⟩ W_55 trivial
theorem K_56L4 (n:Nat) (x):Bt (n+1) x=Yfg C_56 B_56L4 (S_56L4 Ac) x (Bt n):=by
 obtain⟨_,_,_⟩:=x
 kernel_rfl
theorem F_56 (a):E_56.run a=Yir C_56 Try.f31 E_56.params E_56.results a λo r=>some (N_56 o r):=by
 kernel_rfl
theorem W_56:XU D_56= [B_56L4]:=by kernel_rfl
theorem Q_56:Qk Try.prog 31 Try.f31 D_56:=⟨Try.func31,by kernel_rfl,by kernel_rfl⟩
theorem H_56:Holds Try.prog 31 E_56:=
 Yi3 tabT mixT Q_56 F_56 rfl trivial W_56 ⟨Yi8 (L:=S_56L4 Ac) K_56L4 (i:=4) (by kernel_rfl),trivial⟩
theorem K_57L4 (n:Nat) (x):Bf (n+1) x=Yfg C_57 B_57L4 (S_57L4 Ac) x (Bf n):=by
 obtain⟨_,_,_⟩:=x
 kernel_rfl
theorem F_57 (a):E_57.run a=Yir C_57 Try.f74 E_57.params E_57.results a λo r=>some (N_57 o r):=by
 kernel_rfl
theorem W_57:XU D_57= [B_57L4]:=by kernel_rfl
theorem Q_57:Qk Try.prog 74 Try.f74 D_57:=⟨Try.func74,by kernel_rfl,by kernel_rfl⟩
theorem H_57:Holds Try.prog 74 E_57:=
 Yi3 tabT mixT Q_57 F_57 rfl ⟨⟨H_56,_,_,Q_56⟩,trivial⟩ W_57 ⟨Yi8 (L:=S_57L4 Ac) K_57L4 (i:=4) (by kernel_rfl),trivial⟩
theorem F_58 (a):E_58.run a=Yir C_58 Try.f29 E_58.params E_58.results a λo r=>some (N_58 o r):=by
 kernel_rfl
theorem W_58:XU D_58= []:=by kernel_rfl
theorem Q_58:Qk Try.prog 29 Try.f29 D_58:=⟨Try.func29,by kernel_rfl,by kernel_rfl⟩
theorem H_58:Holds Try.prog 29 E_58:=
 Yi3 tabT mixT Q_58 F_58 rfl ⟨⟨H_57,_,_,Q_57⟩,trivial⟩ W_58 trivial
theorem F_59 (a):E_59.run a=Yir C_59 Try.f102 E_59.params E_59.results a λo r=>some (N_59 o r):=by
 kernel_rfl
theorem W_59:XU D_59= []:=by kernel_rfl
theorem Q_59:Qk Try.prog 102 Try.f102 D_59:=⟨Try.func102,by kernel_rfl,by kernel_rfl⟩
theorem H_59:Holds Try.prog 102 E_59:=
 Yi3 tabT mixT Q_59 F_59 rfl ⟨⟨H_58,_,_,Q_58⟩,⟨⟨H_56,_,_,Q_56⟩,trivial⟩⟩ W_59 trivial
theorem K_60L4 (n:Nat) (x):AC (n+1) x=Yfg C_60 B_60L4 (S_60L4 Ac) x (AC n):=by
 obtain⟨_,_,_⟩:=x
 kernel_rfl
theorem F_60 (a):E_60.run a=Yir C_60 Try.f75 E_60.params E_60.results a λo r=>some (N_60 o r):=by
 kernel_rfl
theorem W_60:XU D_60= [B_60L4]:=by kernel_rfl
theorem Q_60:Qk Try.prog 75 Try.f75 D_60:=⟨Try.func75,by kernel_rfl,by kernel_rfl⟩
theorem H_60:Holds Try.prog 75 E_60:=
 Yi3 tabT mixT Q_60 F_60 rfl ⟨⟨H_59,_,_,Q_59⟩,trivial⟩ W_60 ⟨Yi8 (L:=S_60L4 Ac) K_60L4 (i:=4) (by kernel_rfl),trivial⟩
theorem F_61 (a):E_61.run a=Yir C_61 Try.f30 E_61.params E_61.results a λo r=>some (N_61 o r):=by
 kernel_rfl
theorem W_61:XU D_61= []:=by kernel_rfl
theorem Q_61:Qk Try.prog 30 Try.f30 D_61:=⟨Try.func30,by kernel_rfl,by kernel_rfl⟩
theorem H_61:Holds Try.prog 30 E_61:=
 Yi3 tabT mixT Q_61 F_61 rfl ⟨⟨H_60,_,_,Q_60⟩,trivial⟩ W_61 trivial
theorem K_62L2 (n:Nat) (x):A9 (n+1) x=Yfg C_62 B_62L2 (S_62L2 Ac) x (A9 n):=by
 obtain⟨_,_,_⟩:=x
 kernel_rfl
theorem F_62 (a):E_62.run a=Yir C_62 Try.f33 E_62.params E_62.results a λo r=>some (N_62 o r):=by
 kernel_rfl
theorem W_62:XU D_62= [B_62L2]:=by kernel_rfl
theorem Q_62:Qk Try.prog 33 Try.f33 D_62:=⟨Try.func33,by kernel_rfl,by kernel_rfl⟩
theorem H_62:Holds Try.prog 33 E_62:=
 Yi3 tabT mixT Q_62 F_62 rfl trivial W_62 ⟨Yi8 (L:=S_62L2 Ac) K_62L2 (i:=2) (by kernel_rfl),trivial⟩
theorem K_63L2 (n:Nat) (x):AX (n+1) x=Yfg C_63 B_63L2 (S_63L2 Ac) x (AX n):=by
 obtain⟨_,_,_⟩:=x
 kernel_rfl
theorem F_63 (a):E_63.run a=Yir C_63 Try.f77 E_63.params E_63.results a λo r=>some (N_63 o r):=by
 kernel_rfl
theorem W_63:XU D_63= [B_63L2]:=by kernel_rfl
theorem Q_63:Qk Try.prog 77 Try.f77 D_63:=⟨Try.func77,by kernel_rfl,by kernel_rfl⟩
theorem H_63:Holds Try.prog 77 E_63:=
 Yi3 tabT mixT Q_63 F_63 rfl ⟨⟨H_62,_,_,Q_62⟩,trivial⟩ W_63 ⟨Yi8 (L:=S_63L2 Ac) K_63L2 (i:=2) (by kernel_rfl),trivial⟩
theorem K_64L2 (n:Nat) (x):Aw (n+1) x=Yfg C_64 B_64L2 (S_64L2 Ac) x (Aw n):=by
 obtain⟨_,_,_⟩:=x
 kernel_rfl
theorem F_64 (a):E_64.run a=Yir C_64 Try.f76 E_64.params E_64.results a λo r=>some (N_64 o r):=by
 kernel_rfl
theorem W_64:XU D_64= [B_64L2]:=by kernel_rfl
theorem Q_64:Qk Try.prog 76 Try.f76 D_64:=⟨Try.func76,by kernel_rfl,by kernel_rfl⟩
theorem H_64:Holds Try.prog 76 E_64:=
 Yi3 tabT mixT Q_64 F_64 rfl ⟨⟨H_62,_,_,Q_62⟩,⟨⟨H_63,_,_,Q_63⟩,trivial⟩⟩ W_64 ⟨Yi8 (L:=S_64L2 Ac) K_64L2 (i:=2) (by kernel_rfl),trivial⟩
theorem F_65 (a):E_65.run a=Yir C_65 Try.f32 E_65.params E_65.results a λo r=>some (N_65 o r):=by
 kernel_rfl
theorem W_65:XU D_65= []:=by kernel_rfl
theorem Q_65:Qk Try.prog 32 Try.f32 D_65:=⟨Try.func32,by kernel_rfl,by kernel_rfl⟩
theorem H_65:Holds Try.prog 32 E_65:=
 Yi3 tabT mixT Q_65 F_65 rfl ⟨⟨H_64,_,_,Q_64⟩,trivial⟩ W_65 trivial
theorem F_66 (a):E_66.run a=Yir C_66 Try.f34 E_66.params E_66.results a λo r=>some (N_66 o r):=by
 kernel_rfl
theorem W_66:XU D_66= []:=by kernel_rfl
theorem Q_66:Qk Try.prog 34 Try.f34 D_66:=⟨Try.func34,by kernel_rfl,by kernel_rfl⟩
theorem H_66:Holds Try.prog 34 E_66:=
 Yi3 tabT mixT Q_66 F_66 rfl ⟨⟨H_63,_,_,Q_63⟩,trivial⟩ W_66 trivial
theorem K_67L2 (n:Nat) (x):A8 (n+1) x=Yfg C_67 B_67L2 (S_67L2 Ac) x (A8 n):=by
 obtain⟨_,_,_⟩:=x
 kernel_rfl
theorem F_67 (a):E_67.run a=Yir C_67 Try.f103 E_67.params E_67.results a λo r=>some (N_67 o r):=by
 kernel_rfl
theorem W_67:XU D_67= [B_67L2]:=by kernel_rfl
theorem Q_67:Qk Try.prog 103 Try.f103 D_67:=⟨Try.func103,by kernel_rfl,by kernel_rfl⟩
theorem H_67:Holds Try.prog 103 E_67:=
 Yi3 tabT mixT Q_67 F_67 rfl trivial W_67 ⟨Yi8 (L:=S_67L2 Ac) K_67L2 (i:=2) (by kernel_rfl),trivial⟩
theorem K_68L2 (n:Nat) (x):AW (n+1) x=Yfg C_68 B_68L2 (S_68L2 Ac) x (AW n):=by
 obtain⟨_,_,_⟩:=x
 kernel_rfl
theorem F_68 (a):E_68.run a=Yir C_68 Try.f78 E_68.params E_68.results a λo r=>some (N_68 o r):=by
 kernel_rfl
theorem W_68:XU D_68= [B_68L2]:=by kernel_rfl
theorem Q_68:Qk Try.prog 78 Try.f78 D_68:=⟨Try.func78,by kernel_rfl,by kernel_rfl⟩
theorem H_68:Holds Try.prog 78 E_68:=
 Yi3 tabT mixT Q_68 F_68 rfl ⟨⟨H_67,_,_,Q_67⟩,trivial⟩ W_68 ⟨Yi8 (L:=S_68L2 Ac) K_68L2 (i:=2) (by kernel_rfl),trivial⟩
theorem F_69 (a):E_69.run a=Yir C_69 Try.f35 E_69.params E_69.results a λo r=>some (N_69 o r):=by
 kernel_rfl
theorem W_69:XU D_69= []:=by kernel_rfl
theorem Q_69:Qk Try.prog 35 Try.f35 D_69:=⟨Try.func35,by kernel_rfl,by kernel_rfl⟩
theorem H_69:Holds Try.prog 35 E_69:=
 Yi3 tabT mixT Q_69 F_69 rfl ⟨⟨H_68,_,_,Q_68⟩,trivial⟩ W_69 trivial
theorem F_70 (a):E_70.run a=Yir C_70 Try.f4 E_70.params E_70.results a λo r=>some (N_70 o r):=by
 kernel_rfl
theorem W_70:XU D_70= []:=by kernel_rfl
theorem Q_70:Qk Try.prog 4 Try.f4 D_70:=⟨Try.func4,by kernel_rfl,by kernel_rfl⟩
theorem H_70:Holds Try.prog 4 E_70:=
 Yi3 tabT mixT Q_70 F_70 rfl ⟨⟨H_6,_,_,Q_6⟩,⟨⟨H_32,_,_,Q_32⟩,⟨⟨H_12,_,_,Q_12⟩,⟨⟨H_7,_,_,Q_7⟩,⟨⟨H_55,_,_,Q_55⟩,⟨⟨H_58,_,_,Q_58⟩,⟨⟨H_61,_,_,Q_61⟩,⟨⟨H_56,_,_,Q_56⟩,⟨⟨H_65,_,_,Q_65⟩,⟨⟨H_62,_,_,Q_62⟩,⟨⟨H_66,_,_,Q_66⟩,⟨⟨H_69,_,_,Q_69⟩,trivial⟩⟩⟩⟩⟩⟩⟩⟩⟩⟩⟩⟩ W_70 trivial
end T
