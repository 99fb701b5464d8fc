/- Each typed function is what the program computes; no conditions. -/
import Derived.Test.YtbfbcfnbcbdgjabSFnLinear
import Derived.Test.YtbfbcfnbcbdgjabCFnLinear
set_option linter.all false
set_option maxRecDepth 10000
open Go Go.Va Go.Proofs
namespace T
theorem F_1 (a):E_1.run a=Yir C_1 Try.f5 E_1.params E_1.results a λo r=>some (N_1 o r):=by
 kernel_rfl
theorem W_1:XU D_1= []:=by kernel_rfl
theorem Q_1:Qk Try.prog 5 Try.f5 D_1:=⟨Try.func5,by kernel_rfl,by kernel_rfl⟩
theorem H_1:Holds Try.prog 5 E_1:=
 Yi3 tabT mixT Q_1 F_1 rfl trivial W_1 trivial
theorem F_2 (a):E_2.run a=Yir C_2 Try.f127 E_2.params E_2.results a λo r=>some (N_2 o r):=by
 kernel_rfl
theorem W_2:XU D_2= []:=by kernel_rfl
theorem Q_2:Qk Try.prog 127 Try.f127 D_2:=⟨Try.func127,by kernel_rfl,by kernel_rfl⟩
theorem H_2:Holds Try.prog 127 E_2:=
 Yi3 tabT mixT Q_2 F_2 rfl trivial W_2 trivial
theorem F_3 (a):E_3.run a=Yir C_3 Try.f105 E_3.params E_3.results a λo r=>some (N_3 o r):=by
 kernel_rfl
theorem W_3:XU D_3= []:=by kernel_rfl
theorem Q_3:Qk Try.prog 105 Try.f105 D_3:=⟨Try.func105,by kernel_rfl,by kernel_rfl⟩
theorem H_3:Holds Try.prog 105 E_3:=
 Yi3 tabT mixT Q_3 F_3 rfl ⟨⟨H_2,_,_,Q_2⟩,trivial⟩ W_3 trivial
theorem F_4 (a):E_4.run a=Yir C_4 Try.f104 E_4.params E_4.results a λo r=>some (N_4 o r):=by
 kernel_rfl
theorem W_4:XU D_4= []:=by kernel_rfl
theorem Q_4:Qk Try.prog 104 Try.f104 D_4:=⟨Try.func104,by kernel_rfl,by kernel_rfl⟩
theorem H_4:Holds Try.prog 104 E_4:=
 Yi3 tabT mixT Q_4 F_4 rfl ⟨⟨H_3,_,_,Q_3⟩,trivial⟩ W_4 trivial
theorem F_5 (a):E_5.run a=Yir C_5 Try.f106 E_5.params E_5.results a λo r=>some (N_5 o r):=by
 kernel_rfl
theorem W_5:XU D_5= []:=by kernel_rfl
theorem Q_5:Qk Try.prog 106 Try.f106 D_5:=⟨Try.func106,by kernel_rfl,by kernel_rfl⟩
theorem H_5:Holds Try.prog 106 E_5:=
 Yi3 tabT mixT Q_5 F_5 rfl ⟨⟨H_3,_,_,Q_3⟩,trivial⟩ W_5 trivial
theorem K_6L3 (n:Nat) (x):BH (n+1) x=Yfg C_6 B_6L3 (S_6L3 Aa) x (BH n):=by
 obtain⟨_,_,_,_,_⟩:=x
 kernel_rfl
theorem F_6 (a):E_6.run a=Yir C_6 Try.f107 E_6.params E_6.results a λo r=>some (N_6 o r):=by
 kernel_rfl
theorem W_6:XU D_6= [B_6L3]:=by kernel_rfl
theorem Q_6:Qk Try.prog 107 Try.f107 D_6:=⟨Try.func107,by kernel_rfl,by kernel_rfl⟩
theorem H_6:Holds Try.prog 107 E_6:=
 Yi3 tabT mixT Q_6 F_6 rfl trivial W_6 ⟨Yi8 (L:=S_6L3 Aa) K_6L3 (i:=3) (by kernel_rfl),trivial⟩
theorem K_7L8 (n:Nat) (x):Bc (n+1) x=Yfg C_7 B_7L8 (S_7L8 Aa) x (Bc n):=by
 obtain⟨_,_,_,_,_,_,_⟩:=x
 kernel_rfl
theorem K_7L4 (n:Nat) (x):As (n+1) x=Yfg C_7 B_7L4 (S_7L4 Aa) x (As n):=by
 obtain⟨_,_,_,_,_⟩:=x
 kernel_rfl
theorem K_7L22 (n:Nat) (x):A7 (n+1) x=Yfg C_7 B_7L22 (S_7L22 Aa) x (A7 n):=by
 obtain⟨_,_,_⟩:=x
 kernel_rfl
theorem F_7 (a):E_7.run a=Yir C_7 Try.f79 E_7.params E_7.results a λo r=>some (N_7 o r):=by
 kernel_rfl
theorem W_7:XU D_7= [B_7L4,B_7L8,B_7L22]:=by kernel_rfl
theorem Q_7:Qk Try.prog 79 Try.f79 D_7:=⟨Try.func79,by kernel_rfl,by kernel_rfl⟩
theorem H_7:Holds Try.prog 79 E_7:=
 Yi3 tabT mixT Q_7 F_7 rfl ⟨⟨H_4,_,_,Q_4⟩,⟨⟨H_3,_,_,Q_3⟩,⟨⟨H_5,_,_,Q_5⟩,⟨⟨H_6,_,_,Q_6⟩,trivial⟩⟩⟩⟩ W_7 ⟨Yi8 (L:=S_7L4 Aa) K_7L4 (i:=4) (by kernel_rfl),⟨Yi8 (L:=S_7L8 Aa) K_7L8 (i:=8) (by kernel_rfl),⟨Yi8 (L:=S_7L22 Aa) K_7L22 (i:=22) (by kernel_rfl),trivial⟩⟩⟩
theorem F_8 (a):E_8.run a=Yir C_8 Try.f36 E_8.params E_8.results a λo r=>some (N_8 o r):=by
 kernel_rfl
theorem W_8:XU D_8= []:=by kernel_rfl
theorem Q_8:Qk Try.prog 36 Try.f36 D_8:=⟨Try.func36,by kernel_rfl,by kernel_rfl⟩
theorem H_8:Holds Try.prog 36 E_8:=
 Yi3 tabT mixT Q_8 F_8 rfl ⟨⟨H_7,_,_,Q_7⟩,trivial⟩ W_8 trivial
theorem F_9 (a):E_9.run a=Yir C_9 Try.f6 E_9.params E_9.results a λo r=>some (N_9 o r):=by
 kernel_rfl
theorem W_9:XU D_9= []:=by kernel_rfl
theorem Q_9:Qk Try.prog 6 Try.f6 D_9:=⟨Try.func6,by kernel_rfl,by kernel_rfl⟩
theorem H_9:Holds Try.prog 6 E_9:=
 Yi3 tabT mixT Q_9 F_9 rfl ⟨⟨H_8,_,_,Q_8⟩,trivial⟩ W_9 trivial
theorem F_10 (a):E_10.run a=Yir C_10 Try.f41 E_10.params E_10.results a λo r=>some (N_10 o r):=by
 kernel_rfl
theorem W_10:XU D_10= []:=by kernel_rfl
theorem Q_10:Qk Try.prog 41 Try.f41 D_10:=⟨Try.func41,by kernel_rfl,by kernel_rfl⟩
theorem H_10:Holds Try.prog 41 E_10:=
 Yi3 tabT mixT Q_10 F_10 rfl trivial W_10 trivial
theorem K_11L2 (n:Nat) (x):Ck (n+1) x=Yfg C_11 B_11L2 (S_11L2 Aa) x (Ck n):=by
 obtain⟨_,_,_,_⟩:=x
 kernel_rfl
theorem F_11 (a):E_11.run a=Yir C_11 Try.f42 E_11.params E_11.results a λo r=>some (N_11 o r):=by
 kernel_rfl
theorem W_11:XU D_11= [B_11L2]:=by kernel_rfl
theorem Q_11:Qk Try.prog 42 Try.f42 D_11:=⟨Try.func42,by kernel_rfl,by kernel_rfl⟩
theorem H_11:Holds Try.prog 42 E_11:=
 Yi3 tabT mixT Q_11 F_11 rfl trivial W_11 ⟨Yi8 (L:=S_11L2 Aa) K_11L2 (i:=2) (by kernel_rfl),trivial⟩
theorem K_12L4 (n:Nat) (x):BY (n+1) x=Yfg C_12 B_12L4 (S_12L4 Aa) x (BY n):=by
 obtain⟨_,_,_,_⟩:=x
 kernel_rfl
theorem F_12 (a):E_12.run a=Yir C_12 Try.f9 E_12.params E_12.results a λo r=>some (N_12 o r):=by
 kernel_rfl
theorem W_12:XU D_12= [B_12L4]:=by kernel_rfl
theorem Q_12:Qk Try.prog 9 Try.f9 D_12:=⟨Try.func9,by kernel_rfl,by kernel_rfl⟩
theorem H_12:Holds Try.prog 9 E_12:=
 Yi3 tabT mixT Q_12 F_12 rfl ⟨⟨H_10,_,_,Q_10⟩,⟨⟨H_11,_,_,Q_11⟩,trivial⟩⟩ W_12 ⟨Yi8 (L:=S_12L4 Aa) K_12L4 (i:=4) (by kernel_rfl),trivial⟩
theorem F_13 (a):E_13.run a=Yir C_13 Try.f81 E_13.params E_13.results a λo r=>some (N_13 o r):=by
 kernel_rfl
theorem W_13:XU D_13= []:=by kernel_rfl
theorem Q_13:Qk Try.prog 81 Try.f81 D_13:=⟨Try.func81,by kernel_rfl,by kernel_rfl⟩
theorem H_13:Holds Try.prog 81 E_13:=
 Yi3 tabT mixT Q_13 F_13 rfl trivial W_13 trivial
theorem K_14L3 (n:Nat) (x):Bv (n+1) x=Yfg C_14 B_14L3 (S_14L3 Aa) x (Bv n):=by
 obtain⟨_,_,_,_⟩:=x
 kernel_rfl
theorem F_14 (a):E_14.run a=Yir C_14 Try.f80 E_14.params E_14.results a λo r=>some (N_14 o r):=by
 kernel_rfl
theorem W_14:XU D_14= [B_14L3]:=by kernel_rfl
theorem Q_14:Qk Try.prog 80 Try.f80 D_14:=⟨Try.func80,by kernel_rfl,by kernel_rfl⟩
theorem H_14:Holds Try.prog 80 E_14:=
 Yi3 tabT mixT Q_14 F_14 rfl ⟨⟨H_13,_,_,Q_13⟩,trivial⟩ W_14 ⟨Yi8 (L:=S_14L3 Aa) K_14L3 (i:=3) (by kernel_rfl),trivial⟩
theorem K_15L3 (n:Nat) (x):By (n+1) x=Yfg C_15 B_15L3 (S_15L3 Aa) x (By n):=by
 obtain⟨_,_,_⟩:=x
 kernel_rfl
theorem F_15 (a):E_15.run a=Yir C_15 Try.f99 E_15.params E_15.results a λo r=>some (N_15 o r):=by
 kernel_rfl
theorem W_15:XU D_15= [B_15L3]:=by kernel_rfl
theorem Q_15:Qk Try.prog 99 Try.f99 D_15:=⟨Try.func99,by kernel_rfl,by kernel_rfl⟩
theorem H_15:Holds Try.prog 99 E_15:=
 Yi3 tabT mixT Q_15 F_15 rfl trivial W_15 ⟨Yi8 (L:=S_15L3 Aa) K_15L3 (i:=3) (by kernel_rfl),trivial⟩
theorem K_16L2 (n:Nat) (x):De (n+1) x=Yfg C_16 B_16L2 (S_16L2 Aa) x (De n):=by
 obtain⟨_,_,_⟩:=x
 kernel_rfl
theorem F_16 (a):E_16.run a=Yir C_16 Try.f108 E_16.params E_16.results a λo r=>some (N_16 o r):=by
 kernel_rfl
theorem W_16:XU D_16= [B_16L2]:=by kernel_rfl
theorem Q_16:Qk Try.prog 108 Try.f108 D_16:=⟨Try.func108,by kernel_rfl,by kernel_rfl⟩
theorem H_16:Holds Try.prog 108 E_16:=
 Yi3 tabT mixT Q_16 F_16 rfl trivial W_16 ⟨Yi8 (L:=S_16L2 Aa) K_16L2 (i:=2) (by kernel_rfl),trivial⟩
theorem K_17L6 (n:Nat) (x):AY (n+1) x=Yfg C_17 B_17L6 (S_17L6 Aa) x (AY n):=by
 obtain⟨_,_,_,_,_⟩:=x
 kernel_rfl
theorem K_17L14 (n:Nat) (x):AQ (n+1) x=Yfg C_17 B_17L14 (S_17L14 Aa) x (AQ n):=by
 obtain⟨_,_,_,_,_,_,_,_⟩:=x
 kernel_rfl
theorem K_17L24 (n:Nat) (x):AR (n+1) x=Yfg C_17 B_17L24 (S_17L24 Aa) x (AR n):=by
 obtain⟨_,_,_,_,_,_,_,_,_,_,_,_⟩:=x
 kernel_rfl
theorem K_17L19 (n:Nat) (x):Az (n+1) x=Yfg C_17 B_17L19 (S_17L19 Aa) x (Az n):=by
 obtain⟨_,_,_,_,_,_,_,_⟩:=x
 kernel_rfl
theorem K_17L3 (n:Nat) (x):AG (n+1) x=Yfg C_17 B_17L3 (S_17L3 Aa) x (AG n):=by
 obtain⟨_,_,_,_⟩:=x
 kernel_rfl
theorem F_17 (a):E_17.run a=Yir C_17 Try.f82 E_17.params E_17.results a λo r=>some (N_17 o r):=by
 kernel_rfl
theorem W_17:XU D_17= [B_17L3,B_17L6,B_17L14,B_17L19,B_17L24]:=by kernel_rfl
theorem Q_17:Qk Try.prog 82 Try.f82 D_17:=⟨Try.func82,by kernel_rfl,by kernel_rfl⟩
theorem H_17:Holds Try.prog 82 E_17:=
 Yi3 tabT mixT Q_17 F_17 rfl ⟨⟨H_14,_,_,Q_14⟩,⟨⟨H_15,_,_,Q_15⟩,⟨⟨H_16,_,_,Q_16⟩,trivial⟩⟩⟩ W_17 ⟨Yi8 (L:=S_17L3 Aa) K_17L3 (i:=3) (by kernel_rfl),⟨Yi8 (L:=S_17L6 Aa) K_17L6 (i:=6) (by kernel_rfl),⟨Yi8 (L:=S_17L14 Aa) K_17L14 (i:=14) (by kernel_rfl),⟨Yi8 (L:=S_17L19 Aa) K_17L19 (i:=19) (by kernel_rfl),⟨Yi8 (L:=S_17L24 Aa) K_17L24 (i:=24) (by kernel_rfl),trivial⟩⟩⟩⟩⟩
theorem F_18 (a):E_18.run a=Yir C_18 Try.f38 E_18.params E_18.results a λo r=>some (N_18 o r):=by
 kernel_rfl
theorem W_18:XU D_18= []:=by kernel_rfl
theorem Q_18:Qk Try.prog 38 Try.f38 D_18:=⟨Try.func38,by kernel_rfl,by kernel_rfl⟩
theorem H_18:Holds Try.prog 38 E_18:=
 Yi3 tabT mixT Q_18 F_18 rfl ⟨⟨H_17,_,_,Q_17⟩,trivial⟩ W_18 trivial
theorem K_19L3 (n:Nat) (x):Ba (n+1) x=Yfg C_19 B_19L3 (S_19L3 Aa) x (Ba n):=by
 obtain⟨_,_,_,_,_,_⟩:=x
 kernel_rfl
theorem F_19 (a):E_19.run a=Yir C_19 Try.f37 E_19.params E_19.results a λo r=>some (N_19 o r):=by
 kernel_rfl
theorem W_19:XU D_19= [B_19L3]:=by kernel_rfl
theorem Q_19:Qk Try.prog 37 Try.f37 D_19:=⟨Try.func37,by kernel_rfl,by kernel_rfl⟩
theorem H_19:Holds Try.prog 37 E_19:=
 Yi3 tabT mixT Q_19 F_19 rfl ⟨⟨H_14,_,_,Q_14⟩,⟨⟨H_13,_,_,Q_13⟩,trivial⟩⟩ W_19 ⟨Yi8 (L:=S_19L3 Aa) K_19L3 (i:=3) (by kernel_rfl),trivial⟩
theorem F_20 (a):E_20.run a=Yir C_20 Try.f7 E_20.params E_20.results a λo r=>some (N_20 o r):=by
 kernel_rfl
theorem W_20:XU D_20= []:=by kernel_rfl
theorem Q_20:Qk Try.prog 7 Try.f7 D_20:=⟨Try.func7,by kernel_rfl,by kernel_rfl⟩
theorem H_20:Holds Try.prog 7 E_20:=
 Yi3 tabT mixT Q_20 F_20 rfl ⟨⟨H_12,_,_,Q_12⟩,⟨⟨H_19,_,_,Q_19⟩,⟨⟨H_18,_,_,Q_18⟩,trivial⟩⟩⟩ W_20 trivial
theorem F_21 (a):E_21.run a=Yir C_21 Try.f83 E_21.params E_21.results a λo r=>some (N_21 o r):=by
 kernel_rfl
theorem W_21:XU D_21= []:=by kernel_rfl
theorem Q_21:Qk Try.prog 83 Try.f83 D_21:=⟨Try.func83,by kernel_rfl,by kernel_rfl⟩
theorem H_21:Holds Try.prog 83 E_21:=
 Yi3 tabT mixT Q_21 F_21 rfl trivial W_21 trivial
theorem F_22 (a):E_22.run a=Yir C_22 Try.f63 E_22.params E_22.results a λo r=>some (N_22 o r):=by
 kernel_rfl
theorem W_22:XU D_22= []:=by kernel_rfl
theorem Q_22:Qk Try.prog 63 Try.f63 D_22:=⟨Try.func63,by kernel_rfl,by kernel_rfl⟩
theorem H_22:Holds Try.prog 63 E_22:=
 Yi3 tabT mixT Q_22 F_22 rfl trivial W_22 trivial
theorem K_23L2 (n:Nat) (x):BK (n+1) x=Yfg C_23 B_23L2 (S_23L2 Aa) x (BK n):=by
 obtain⟨_,_,_⟩:=x
 kernel_rfl
theorem F_23 (a):E_23.run a=Yir C_23 Try.f64 E_23.params E_23.results a λo r=>some (N_23 o r):=by
 kernel_rfl
theorem W_23:XU D_23= [B_23L2]:=by kernel_rfl
theorem Q_23:Qk Try.prog 64 Try.f64 D_23:=⟨Try.func64,by kernel_rfl,by kernel_rfl⟩
theorem H_23:Holds Try.prog 64 E_23:=
 Yi3 tabT mixT Q_23 F_23 rfl ⟨⟨H_22,_,_,Q_22⟩,trivial⟩ W_23 ⟨Yi8 (L:=S_23L2 Aa) K_23L2 (i:=2) (by kernel_rfl),trivial⟩
theorem F_24 (a):E_24.run a=Yir C_24 Try.f109 E_24.params E_24.results a λo r=>some (N_24 o r):=by
 kernel_rfl
theorem W_24:XU D_24= []:=by kernel_rfl
theorem Q_24:Qk Try.prog 109 Try.f109 D_24:=⟨Try.func109,by kernel_rfl,by kernel_rfl⟩
theorem H_24:Holds Try.prog 109 E_24:=
 Yi3 tabT mixT Q_24 F_24 rfl ⟨⟨H_23,_,_,Q_23⟩,trivial⟩ W_24 trivial
theorem K_25L2 (n:Nat) (x):Cb (n+1) x=Yfg C_25 B_25L2 (S_25L2 Aa) x (Cb n):=by
 obtain⟨_,_,_,_⟩:=x
 kernel_rfl
theorem F_25 (a):E_25.run a=Yir C_25 Try.f84 E_25.params E_25.results a λo r=>some (N_25 o r):=by
 kernel_rfl
theorem W_25:XU D_25= [B_25L2]:=by kernel_rfl
theorem Q_25:Qk Try.prog 84 Try.f84 D_25:=⟨Try.func84,by kernel_rfl,by kernel_rfl⟩
theorem H_25:Holds Try.prog 84 E_25:=
 Yi3 tabT mixT Q_25 F_25 rfl ⟨⟨H_24,_,_,Q_24⟩,trivial⟩ W_25 ⟨Yi8 (L:=S_25L2 Aa) K_25L2 (i:=2) (by kernel_rfl),trivial⟩
theorem F_26 (a):E_26.run a=Yir C_26 Try.f39 E_26.params E_26.results a λo r=>some (N_26 o r):=by
 kernel_rfl
theorem W_26:XU D_26= []:=by kernel_rfl
theorem Q_26:Qk Try.prog 39 Try.f39 D_26:=⟨Try.func39,by kernel_rfl,by kernel_rfl⟩
theorem H_26:Holds Try.prog 39 E_26:=
 Yi3 tabT mixT Q_26 F_26 rfl ⟨⟨H_22,_,_,Q_22⟩,⟨⟨H_21,_,_,Q_21⟩,⟨⟨H_25,_,_,Q_25⟩,trivial⟩⟩⟩ W_26 trivial
theorem F_27 (a):E_27.run a=Yir C_27 Try.f57 E_27.params E_27.results a λo r=>some (N_27 o r):=by
 kernel_rfl
theorem W_27:XU D_27= []:=by kernel_rfl
theorem Q_27:Qk Try.prog 57 Try.f57 D_27:=⟨Try.func57,by kernel_rfl,by kernel_rfl⟩
theorem H_27:Holds Try.prog 57 E_27:=
 Yi3 tabT mixT Q_27 F_27 rfl trivial W_27 trivial
theorem K_28L2 (n:Nat) (x):Dc (n+1) x=Yfg C_28 B_28L2 (S_28L2 Aa) x (Dc n):=by
 obtain⟨_,_,_⟩:=x
 kernel_rfl
theorem F_28 (a):E_28.run a=Yir C_28 Try.f110 E_28.params E_28.results a λo r=>some (N_28 o r):=by
 kernel_rfl
theorem W_28:XU D_28= [B_28L2]:=by kernel_rfl
theorem Q_28:Qk Try.prog 110 Try.f110 D_28:=⟨Try.func110,by kernel_rfl,by kernel_rfl⟩
theorem H_28:Holds Try.prog 110 E_28:=
 Yi3 tabT mixT Q_28 F_28 rfl trivial W_28 ⟨Yi8 (L:=S_28L2 Aa) K_28L2 (i:=2) (by kernel_rfl),trivial⟩
theorem K_29L3 (n:Nat) (x):AW (n+1) x=Yfg C_29 B_29L3 (S_29L3 Aa) x (AW n):=by
 obtain⟨_,_,_,_,_,_⟩:=x
 kernel_rfl
theorem F_29 (a):E_29.run a=Yir C_29 Try.f59 E_29.params E_29.results a λo r=>some (N_29 o r):=by
 kernel_rfl
theorem W_29:XU D_29= [B_29L3]:=by kernel_rfl
theorem Q_29:Qk Try.prog 59 Try.f59 D_29:=⟨Try.func59,by kernel_rfl,by kernel_rfl⟩
theorem H_29:Holds Try.prog 59 E_29:=
 Yi3 tabT mixT Q_29 F_29 rfl trivial W_29 ⟨Yi8 (L:=S_29L3 Aa) K_29L3 (i:=3) (by kernel_rfl),trivial⟩
theorem K_30L3 (n:Nat) (x):Bd (n+1) x=Yfg C_30 B_30L3 (S_30L3 Aa) x (Bd n):=by
 obtain⟨_,_,_,_,_,_⟩:=x
 kernel_rfl
theorem K_30L10 (n:Nat) (x):AM (n+1) x=Yfg C_30 B_30L10 (S_30L10 Aa) x (AM n):=by
 obtain⟨_,_,_,_,_,_⟩:=x
 kernel_rfl
theorem K_30L16 (n:Nat) (x):AN (n+1) x=Yfg C_30 B_30L16 (S_30L16 Aa) x (AN n):=by
 obtain⟨_,_,_,_,_,_,_,_⟩:=x
 kernel_rfl
theorem K_30L20 (n:Nat) (x):AO (n+1) x=Yfg C_30 B_30L20 (S_30L20 Aa) x (AO n):=by
 obtain⟨_,_,_,_,_,_,_,_⟩:=x
 kernel_rfl
theorem K_30L7 (n:Nat) (x):AU (n+1) x=Yfg C_30 B_30L7 (S_30L7 Aa) x (AU n):=by
 obtain⟨_,_,_,_,_⟩:=x
 kernel_rfl
theorem F_30 (a):E_30.run a=Yir C_30 Try.f85 E_30.params E_30.results a λo r=>some (N_30 o r):=by
 kernel_rfl
theorem W_30:XU D_30= [B_30L3,B_30L7,B_30L10,B_30L16,B_30L20]:=by kernel_rfl
theorem Q_30:Qk Try.prog 85 Try.f85 D_30:=⟨Try.func85,by kernel_rfl,by kernel_rfl⟩
theorem H_30:Holds Try.prog 85 E_30:=
 Yi3 tabT mixT Q_30 F_30 rfl ⟨⟨H_27,_,_,Q_27⟩,⟨⟨H_29,_,_,Q_29⟩,⟨⟨H_6,_,_,Q_6⟩,⟨⟨H_28,_,_,Q_28⟩,trivial⟩⟩⟩⟩ W_30 ⟨Yi8 (L:=S_30L3 Aa) K_30L3 (i:=3) (by kernel_rfl),⟨Yi8 (L:=S_30L7 Aa) K_30L7 (i:=7) (by kernel_rfl),⟨Yi8 (L:=S_30L10 Aa) K_30L10 (i:=10) (by kernel_rfl),⟨Yi8 (L:=S_30L16 Aa) K_30L16 (i:=16) (by kernel_rfl),⟨Yi8 (L:=S_30L20 Aa) K_30L20 (i:=20) (by kernel_rfl),trivial⟩⟩⟩⟩⟩
theorem F_31 (a):E_31.run a=Yir C_31 Try.f40 E_31.params E_31.results a λo r=>some (N_31 o r):=by
 kernel_rfl
theorem W_31:XU D_31= []:=by kernel_rfl
theorem Q_31:Qk Try.prog 40 Try.f40 D_31:=⟨Try.func40,by kernel_rfl,by kernel_rfl⟩
theorem H_31:Holds Try.prog 40 E_31:=
 Yi3 tabT mixT Q_31 F_31 rfl ⟨⟨H_30,_,_,Q_30⟩,trivial⟩ W_31 trivial
theorem K_32L6 (n:Nat) (x):Bi (n+1) x=Yfg C_32 B_32L6 (S_32L6 Aa) x (Bi n):=by
 obtain⟨_,_,_,_,_⟩:=x
 kernel_rfl
theorem F_32 (a):E_32.run a=Yir C_32 Try.f8 E_32.params E_32.results a λo r=>some (N_32 o r):=by
 kernel_rfl
theorem W_32:XU D_32= [B_32L6]:=by kernel_rfl
theorem Q_32:Qk Try.prog 8 Try.f8 D_32:=⟨Try.func8,by kernel_rfl,by kernel_rfl⟩
theorem H_32:Holds Try.prog 8 E_32:=
 Yi3 tabT mixT Q_32 F_32 rfl ⟨⟨H_26,_,_,Q_26⟩,⟨⟨H_31,_,_,Q_31⟩,trivial⟩⟩ W_32 ⟨Yi8 (L:=S_32L6 Aa) K_32L6 (i:=6) (by kernel_rfl),trivial⟩
theorem K_33L4 (n:Nat) (x):Cw (n+1) x=Yfg C_33 B_33L4 (S_33L4 Aa) x (Cw n):=by
 obtain⟨_,_,_⟩:=x
 kernel_rfl
theorem F_33 (a):E_33.run a=Yir C_33 Try.f13 E_33.params E_33.results a λo r=>some (N_33 o r):=by
 kernel_rfl
theorem W_33:XU D_33= [B_33L4]:=by kernel_rfl
theorem Q_33:Qk Try.prog 13 Try.f13 D_33:=⟨Try.func13,by kernel_rfl,by kernel_rfl⟩
theorem H_33:Holds Try.prog 13 E_33:=
 Yi3 tabT mixT Q_33 F_33 rfl trivial W_33 ⟨Yi8 (L:=S_33L4 Aa) K_33L4 (i:=4) (by kernel_rfl),trivial⟩
theorem K_34L4 (n:Nat) (x):Cn (n+1) x=Yfg C_34 B_34L4 (S_34L4 Aa) x (Cn n):=by
 obtain⟨_,_,_⟩:=x
 kernel_rfl
theorem F_34 (a):E_34.run a=Yir C_34 Try.f18 E_34.params E_34.results a λo r=>some (N_34 o r):=by
 kernel_rfl
theorem W_34:XU D_34= [B_34L4]:=by kernel_rfl
theorem Q_34:Qk Try.prog 18 Try.f18 D_34:=⟨Try.func18,by kernel_rfl,by kernel_rfl⟩
theorem H_34:Holds Try.prog 18 E_34:=
 Yi3 tabT mixT Q_34 F_34 rfl ⟨⟨H_33,_,_,Q_33⟩,trivial⟩ W_34 ⟨Yi8 (L:=S_34L4 Aa) K_34L4 (i:=4) (by kernel_rfl),trivial⟩
theorem F_35 (a):E_35.run a=Yir C_35 Try.f10 E_35.params E_35.results a λo r=>some (N_35 o r):=by
 kernel_rfl
theorem W_35:XU D_35= []:=by kernel_rfl
theorem Q_35:Qk Try.prog 10 Try.f10 D_35:=⟨Try.func10,by kernel_rfl,by kernel_rfl⟩
theorem H_35:Holds Try.prog 10 E_35:=
 Yi3 tabT mixT Q_35 F_35 rfl ⟨⟨H_34,_,_,Q_34⟩,trivial⟩ W_35 trivial
theorem K_36L3 (n:Nat) (x):Aq (n+1) x=Yfg C_36 B_36L3 (S_36L3 Aa) x (Aq n):=by
 obtain⟨_,_,_,_,_⟩:=x
 kernel_rfl
theorem F_36 (a):E_36.run a=Yir C_36 Try.f45 E_36.params E_36.results a λo r=>some (N_36 o r):=by
 kernel_rfl
theorem W_36:XU D_36= [B_36L3]:=by kernel_rfl
theorem Q_36:Qk Try.prog 45 Try.f45 D_36:=⟨Try.func45,by kernel_rfl,by kernel_rfl⟩
theorem H_36:Holds Try.prog 45 E_36:=
 Yi3 tabT mixT Q_36 F_36 rfl trivial W_36 ⟨Yi8 (L:=S_36L3 Aa) K_36L3 (i:=3) (by kernel_rfl),trivial⟩
theorem K_37L4 (n:Nat) (x):AB (n+1) x=Yfg C_37 B_37L4 (S_37L4 Aa) x (AB n):=by
 obtain⟨_,_,_,_,_,_,_⟩:=x
 kernel_rfl
theorem K_37L14 (n:Nat) (x):Ax (n+1) x=Yfg C_37 B_37L14 (S_37L14 Aa) x (Ax n):=by
 obtain⟨_,_,_,_,_,_,_,_,_,_,_,_,_⟩:=x
 kernel_rfl
theorem K_37L9 (n:Nat) (x):Ar (n+1) x=Yfg C_37 B_37L9 (S_37L9 Aa) x (Ar n):=by
 obtain⟨_,_,_,_,_,_,_⟩:=x
 kernel_rfl
theorem F_37 (a):E_37.run a=Yir C_37 Try.f53 E_37.params E_37.results a λo r=>some (N_37 o r):=by
 kernel_rfl
theorem W_37:XU D_37= [B_37L4,B_37L9,B_37L14]:=by kernel_rfl
theorem Q_37:Qk Try.prog 53 Try.f53 D_37:=⟨Try.func53,by kernel_rfl,by kernel_rfl⟩
theorem H_37:Holds Try.prog 53 E_37:=
 Yi3 tabT mixT Q_37 F_37 rfl ⟨⟨H_36,_,_,Q_36⟩,trivial⟩ W_37 ⟨Yi8 (L:=S_37L4 Aa) K_37L4 (i:=4) (by kernel_rfl),⟨Yi8 (L:=S_37L9 Aa) K_37L9 (i:=9) (by kernel_rfl),⟨Yi8 (L:=S_37L14 Aa) K_37L14 (i:=14) (by kernel_rfl),trivial⟩⟩⟩
theorem K_38L2 (n:Nat) (x):AS (n+1) x=Yfg C_38 B_38L2 (S_38L2 Aa) x (AS n):=by
 obtain⟨_,_,_,_⟩:=x
 kernel_rfl
theorem F_38 (a):E_38.run a=Yir C_38 Try.f49 E_38.params E_38.results a λo r=>some (N_38 o r):=by
 kernel_rfl
theorem W_38:XU D_38= [B_38L2]:=by kernel_rfl
theorem Q_38:Qk Try.prog 49 Try.f49 D_38:=⟨Try.func49,by kernel_rfl,by kernel_rfl⟩
theorem H_38:Holds Try.prog 49 E_38:=
 Yi3 tabT mixT Q_38 F_38 rfl trivial W_38 ⟨Yi8 (L:=S_38L2 Aa) K_38L2 (i:=2) (by kernel_rfl),trivial⟩
theorem K_39L3 (n:Nat) (x):An (n+1) x=Yfg C_39 B_39L3 (S_39L3 Aa) x (An n):=by
 obtain⟨_,_,_,_⟩:=x
 kernel_rfl
theorem F_39 (a):E_39.run a=Yir C_39 Try.f45 E_39.params E_39.results a λo r=>some (N_39 o r):=by
 kernel_rfl
theorem W_39:XU D_39= [B_39L3]:=by kernel_rfl
theorem Q_39:Qk Try.prog 45 Try.f45 D_39:=⟨Try.func45,by kernel_rfl,by kernel_rfl⟩
theorem H_39:Holds Try.prog 45 E_39:=
 Yi3 tabT mixT Q_39 F_39 rfl trivial W_39 ⟨Yi8 (L:=S_39L3 Aa) K_39L3 (i:=3) (by kernel_rfl),trivial⟩
theorem K_40L4 (n:Nat) (x):Ag (n+1) x=Yfg C_40 B_40L4 (S_40L4 Aa) x (Ag n):=by
 obtain⟨_,_,_,_,_,_,_⟩:=x
 kernel_rfl
theorem K_40L14 (n:Nat) (x):Af (n+1) x=Yfg C_40 B_40L14 (S_40L14 Aa) x (Af n):=by
 obtain⟨_,_,_,_,_,_,_,_,_,_,_,_,_⟩:=x
 kernel_rfl
theorem K_40L9 (n:Nat) (x):Ad (n+1) x=Yfg C_40 B_40L9 (S_40L9 Aa) x (Ad n):=by
 obtain⟨_,_,_,_,_,_,_⟩:=x
 kernel_rfl
theorem F_40 (a):E_40.run a=Yir C_40 Try.f53 E_40.params E_40.results a λo r=>some (N_40 o r):=by
 kernel_rfl
theorem W_40:XU D_40= [B_40L4,B_40L9,B_40L14]:=by kernel_rfl
theorem Q_40:Qk Try.prog 53 Try.f53 D_40:=⟨Try.func53,by kernel_rfl,by kernel_rfl⟩
theorem H_40:Holds Try.prog 53 E_40:=
 Yi3 tabT mixT Q_40 F_40 rfl ⟨⟨H_39,_,_,Q_39⟩,trivial⟩ W_40 ⟨Yi8 (L:=S_40L4 Aa) K_40L4 (i:=4) (by kernel_rfl),⟨Yi8 (L:=S_40L9 Aa) K_40L9 (i:=9) (by kernel_rfl),⟨Yi8 (L:=S_40L14 Aa) K_40L14 (i:=14) (by kernel_rfl),trivial⟩⟩⟩
theorem F_41 (a):E_41.run a=Yir C_41 Try.f43 E_41.params E_41.results a λo r=>some (N_41 o r):=by
 kernel_rfl
theorem W_41:XU D_41= []:=by kernel_rfl
theorem Q_41:Qk Try.prog 43 Try.f43 D_41:=⟨Try.func43,by kernel_rfl,by kernel_rfl⟩
theorem H_41:Holds Try.prog 43 E_41:=
 Yi3 tabT mixT Q_41 F_41 rfl ⟨⟨H_38,_,_,Q_38⟩,⟨⟨H_40,_,_,Q_40⟩,trivial⟩⟩ W_41 trivial
theorem F_42 (a):E_42.run a=Yir C_42 Try.f11 E_42.params E_42.results a λo r=>some (N_42 o r):=by
 kernel_rfl
theorem W_42:XU D_42= []:=by kernel_rfl
theorem Q_42:Qk Try.prog 11 Try.f11 D_42:=⟨Try.func11,by kernel_rfl,by kernel_rfl⟩
theorem H_42:Holds Try.prog 11 E_42:=
 Yi3 tabT mixT Q_42 F_42 rfl ⟨⟨H_12,_,_,Q_12⟩,⟨⟨H_18,_,_,Q_18⟩,⟨⟨H_41,_,_,Q_41⟩,trivial⟩⟩⟩ W_42 trivial
theorem K_43L2 (n:Nat) (x):B2 (n+1) x=Yfg C_43 B_43L2 (S_43L2 Aa) x (B2 n):=by
 obtain⟨_,_,_⟩:=x
 kernel_rfl
theorem F_43 (a):E_43.run a=Yir C_43 Try.f51 E_43.params E_43.results a λo r=>some (N_43 o r):=by
 kernel_rfl
theorem W_43:XU D_43= [B_43L2]:=by kernel_rfl
theorem Q_43:Qk Try.prog 51 Try.f51 D_43:=⟨Try.func51,by kernel_rfl,by kernel_rfl⟩
theorem H_43:Holds Try.prog 51 E_43:=
 Yi3 tabT mixT Q_43 F_43 rfl trivial W_43 ⟨Yi8 (L:=S_43L2 Aa) K_43L2 (i:=2) (by kernel_rfl),trivial⟩
theorem K_44L6 (n:Nat) (x):BI (n+1) x=Yfg C_44 B_44L6 (S_44L6 Aa) x (BI n):=by
 obtain⟨_,_,_,_⟩:=x
 kernel_rfl
theorem F_44 (a):E_44.run a=Yir C_44 Try.f44 E_44.params E_44.results a λo r=>some (N_44 o r):=by
 kernel_rfl
theorem W_44:XU D_44= [B_44L6]:=by kernel_rfl
theorem Q_44:Qk Try.prog 44 Try.f44 D_44:=⟨Try.func44,by kernel_rfl,by kernel_rfl⟩
theorem H_44:Holds Try.prog 44 E_44:=
 Yi3 tabT mixT Q_44 F_44 rfl ⟨⟨H_43,_,_,Q_43⟩,⟨⟨H_30,_,_,Q_30⟩,trivial⟩⟩ W_44 ⟨Yi8 (L:=S_44L6 Aa) K_44L6 (i:=6) (by kernel_rfl),trivial⟩
theorem F_45 (a):E_45.run a=Yir C_45 Try.f12 E_45.params E_45.results a λo r=>some (N_45 o r):=by
 kernel_rfl
theorem W_45:XU D_45= []:=by kernel_rfl
theorem Q_45:Qk Try.prog 12 Try.f12 D_45:=⟨Try.func12,by kernel_rfl,by kernel_rfl⟩
theorem H_45:Holds Try.prog 12 E_45:=
 Yi3 tabT mixT Q_45 F_45 rfl ⟨⟨H_26,_,_,Q_26⟩,⟨⟨H_44,_,_,Q_44⟩,trivial⟩⟩ W_45 trivial
theorem F_46 (a):E_46.run a=Yir C_46 Try.f14 E_46.params E_46.results a λo r=>some (N_46 o r):=by
 kernel_rfl
theorem W_46:XU D_46= []:=by kernel_rfl
theorem Q_46:Qk Try.prog 14 Try.f14 D_46:=⟨Try.func14,by kernel_rfl,by kernel_rfl⟩
theorem H_46:Holds Try.prog 14 E_46:=
 Yi3 tabT mixT Q_46 F_46 rfl ⟨⟨H_12,_,_,Q_12⟩,⟨⟨H_18,_,_,Q_18⟩,⟨⟨H_39,_,_,Q_39⟩,trivial⟩⟩⟩ W_46 trivial
theorem K_47L2 (n:Nat) (x):Cy (n+1) x=Yfg C_47 B_47L2 (S_47L2 Aa) x (Cy n):=by
 obtain⟨_,_,_⟩:=x
 kernel_rfl
theorem F_47 (a):E_47.run a=Yir C_47 Try.f86 E_47.params E_47.results a λo r=>some (N_47 o r):=by
 kernel_rfl
theorem W_47:XU D_47= [B_47L2]:=by kernel_rfl
theorem Q_47:Qk Try.prog 86 Try.f86 D_47:=⟨Try.func86,by kernel_rfl,by kernel_rfl⟩
theorem H_47:Holds Try.prog 86 E_47:=
 Yi3 tabT mixT Q_47 F_47 rfl trivial W_47 ⟨Yi8 (L:=S_47L2 Aa) K_47L2 (i:=2) (by kernel_rfl),trivial⟩
theorem K_48L3 (n:Nat) (x):BC (n+1) x=Yfg C_48 B_48L3 (S_48L3 Aa) x (BC n):=by
 obtain⟨_,_,_,_⟩:=x
 kernel_rfl
theorem F_48 (a):E_48.run a=Yir C_48 Try.f46 E_48.params E_48.results a λo r=>some (N_48 o r):=by
 kernel_rfl
theorem W_48:XU D_48= [B_48L3]:=by kernel_rfl
theorem Q_48:Qk Try.prog 46 Try.f46 D_48:=⟨Try.func46,by kernel_rfl,by kernel_rfl⟩
theorem H_48:Holds Try.prog 46 E_48:=
 Yi3 tabT mixT Q_48 F_48 rfl ⟨⟨H_47,_,_,Q_47⟩,trivial⟩ W_48 ⟨Yi8 (L:=S_48L3 Aa) K_48L3 (i:=3) (by kernel_rfl),trivial⟩
theorem F_49 (a):E_49.run a=Yir C_49 Try.f15 E_49.params E_49.results a λo r=>some (N_49 o r):=by
 kernel_rfl
theorem W_49:XU D_49= []:=by kernel_rfl
theorem Q_49:Qk Try.prog 15 Try.f15 D_49:=⟨Try.func15,by kernel_rfl,by kernel_rfl⟩
theorem H_49:Holds Try.prog 15 E_49:=
 Yi3 tabT mixT Q_49 F_49 rfl ⟨⟨H_26,_,_,Q_26⟩,⟨⟨H_31,_,_,Q_31⟩,⟨⟨H_48,_,_,Q_48⟩,trivial⟩⟩⟩ W_49 trivial
theorem K_50L2 (n:Nat) (x):Aw (n+1) x=Yfg C_50 B_50L2 (S_50L2 Aa) x (Aw n):=by
 obtain⟨_,_,_,_⟩:=x
 kernel_rfl
theorem K_50L9 (n:Nat) (x):AH (n+1) x=Yfg C_50 B_50L9 (S_50L9 Aa) x (AH n):=by
 obtain⟨_,_,_,_,_⟩:=x
 kernel_rfl
theorem F_50 (a):E_50.run a=Yir C_50 Try.f47 E_50.params E_50.results a λo r=>some (N_50 o r):=by
 kernel_rfl
theorem W_50:XU D_50= [B_50L2,B_50L9]:=by kernel_rfl
theorem Q_50:Qk Try.prog 47 Try.f47 D_50:=⟨Try.func47,by kernel_rfl,by kernel_rfl⟩
theorem H_50:Holds Try.prog 47 E_50:=
 Yi3 tabT mixT Q_50 F_50 rfl ⟨⟨H_36,_,_,Q_36⟩,⟨⟨H_37,_,_,Q_37⟩,trivial⟩⟩ W_50 ⟨Yi8 (L:=S_50L2 Aa) K_50L2 (i:=2) (by kernel_rfl),⟨Yi8 (L:=S_50L9 Aa) K_50L9 (i:=9) (by kernel_rfl),trivial⟩⟩
theorem K_51L6 (n:Nat) (x):BU (n+1) x=Yfg C_51 B_51L6 (S_51L6 Aa) x (BU n):=by
 obtain⟨_,_,_,_,_⟩:=x
 kernel_rfl
theorem K_51L14 (n:Nat) (x):BN (n+1) x=Yfg C_51 B_51L14 (S_51L14 Aa) x (BN n):=by
 obtain⟨_,_,_,_,_,_,_,_⟩:=x
 kernel_rfl
theorem K_51L24 (n:Nat) (x):BO (n+1) x=Yfg C_51 B_51L24 (S_51L24 Aa) x (BO n):=by
 obtain⟨_,_,_,_,_,_,_,_,_,_,_,_⟩:=x
 kernel_rfl
theorem K_51L19 (n:Nat) (x):Bb (n+1) x=Yfg C_51 B_51L19 (S_51L19 Aa) x (Bb n):=by
 obtain⟨_,_,_,_,_,_,_,_⟩:=x
 kernel_rfl
theorem K_51L3 (n:Nat) (x):BD (n+1) x=Yfg C_51 B_51L3 (S_51L3 Aa) x (BD n):=by
 obtain⟨_,_,_,_⟩:=x
 kernel_rfl
theorem F_51 (a):E_51.run a=Yir C_51 Try.f82 E_51.params E_51.results a λo r=>some (N_51 o r):=by
 kernel_rfl
theorem W_51:XU D_51= [B_51L3,B_51L6,B_51L14,B_51L19,B_51L24]:=by kernel_rfl
theorem Q_51:Qk Try.prog 82 Try.f82 D_51:=⟨Try.func82,by kernel_rfl,by kernel_rfl⟩
theorem H_51:Holds Try.prog 82 E_51:=
 Yi3 tabT mixT Q_51 F_51 rfl ⟨⟨H_14,_,_,Q_14⟩,⟨⟨H_15,_,_,Q_15⟩,⟨⟨H_16,_,_,Q_16⟩,trivial⟩⟩⟩ W_51 ⟨Yi8 (L:=S_51L3 Aa) K_51L3 (i:=3) (by kernel_rfl),⟨Yi8 (L:=S_51L6 Aa) K_51L6 (i:=6) (by kernel_rfl),⟨Yi8 (L:=S_51L14 Aa) K_51L14 (i:=14) (by kernel_rfl),⟨Yi8 (L:=S_51L19 Aa) K_51L19 (i:=19) (by kernel_rfl),⟨Yi8 (L:=S_51L24 Aa) K_51L24 (i:=24) (by kernel_rfl),trivial⟩⟩⟩⟩⟩
theorem F_52 (a):E_52.run a=Yir C_52 Try.f38 E_52.params E_52.results a λo r=>some (N_52 o r):=by
 kernel_rfl
theorem W_52:XU D_52= []:=by kernel_rfl
theorem Q_52:Qk Try.prog 38 Try.f38 D_52:=⟨Try.func38,by kernel_rfl,by kernel_rfl⟩
theorem H_52:Holds Try.prog 38 E_52:=
 Yi3 tabT mixT Q_52 F_52 rfl ⟨⟨H_51,_,_,Q_51⟩,trivial⟩ W_52 trivial
theorem F_53 (a):E_53.run a=Yir C_53 Try.f16 E_53.params E_53.results a λo r=>some (N_53 o r):=by
 kernel_rfl
theorem W_53:XU D_53= []:=by kernel_rfl
theorem Q_53:Qk Try.prog 16 Try.f16 D_53:=⟨Try.func16,by kernel_rfl,by kernel_rfl⟩
theorem H_53:Holds Try.prog 16 E_53:=
 Yi3 tabT mixT Q_53 F_53 rfl ⟨⟨H_12,_,_,Q_12⟩,⟨⟨H_52,_,_,Q_52⟩,⟨⟨H_50,_,_,Q_50⟩,trivial⟩⟩⟩ W_53 trivial
theorem K_54L8 (n:Nat) (x):BB (n+1) x=Yfg C_54 B_54L8 (S_54L8 Aa) x (BB n):=by
 obtain⟨_,_,_,_,_,_,_,_⟩:=x
 kernel_rfl
theorem K_54L3 (n:Nat) (x):BA (n+1) x=Yfg C_54 B_54L3 (S_54L3 Aa) x (BA n):=by
 obtain⟨_,_,_,_,_,_⟩:=x
 kernel_rfl
theorem F_54 (a):E_54.run a=Yir C_54 Try.f48 E_54.params E_54.results a λo r=>some (N_54 o r):=by
 kernel_rfl
theorem W_54:XU D_54= [B_54L3,B_54L8]:=by kernel_rfl
theorem Q_54:Qk Try.prog 48 Try.f48 D_54:=⟨Try.func48,by kernel_rfl,by kernel_rfl⟩
theorem H_54:Holds Try.prog 48 E_54:=
 Yi3 tabT mixT Q_54 F_54 rfl ⟨⟨H_48,_,_,Q_48⟩,trivial⟩ W_54 ⟨Yi8 (L:=S_54L3 Aa) K_54L3 (i:=3) (by kernel_rfl),⟨Yi8 (L:=S_54L8 Aa) K_54L8 (i:=8) (by kernel_rfl),trivial⟩⟩
theorem F_55 (a):E_55.run a=Yir C_55 Try.f17 E_55.params E_55.results a λo r=>some (N_55 o r):=by
 kernel_rfl
theorem W_55:XU D_55= []:=by kernel_rfl
theorem Q_55:Qk Try.prog 17 Try.f17 D_55:=⟨Try.func17,by kernel_rfl,by kernel_rfl⟩
theorem H_55:Holds Try.prog 17 E_55:=
 Yi3 tabT mixT Q_55 F_55 rfl ⟨⟨H_26,_,_,Q_26⟩,⟨⟨H_31,_,_,Q_31⟩,⟨⟨H_54,_,_,Q_54⟩,trivial⟩⟩⟩ W_55 trivial
theorem K_56L2 (n:Nat) (x):CT (n+1) x=Yfg C_56 B_56L2 (S_56L2 Aa) x (CT n):=by
 obtain⟨_,_,_⟩:=x
 kernel_rfl
theorem F_56 (a):E_56.run a=Yir C_56 Try.f50 E_56.params E_56.results a λo r=>some (N_56 o r):=by
 kernel_rfl
theorem W_56:XU D_56= [B_56L2]:=by kernel_rfl
theorem Q_56:Qk Try.prog 50 Try.f50 D_56:=⟨Try.func50,by kernel_rfl,by kernel_rfl⟩
theorem H_56:Holds Try.prog 50 E_56:=
 Yi3 tabT mixT Q_56 F_56 rfl trivial W_56 ⟨Yi8 (L:=S_56L2 Aa) K_56L2 (i:=2) (by kernel_rfl),trivial⟩
theorem F_57 (a):E_57.run a=Yir C_57 Try.f19 E_57.params E_57.results a λo r=>some (N_57 o r):=by
 kernel_rfl
theorem W_57:XU D_57= []:=by kernel_rfl
theorem Q_57:Qk Try.prog 19 Try.f19 D_57:=⟨Try.func19,by kernel_rfl,by kernel_rfl⟩
theorem H_57:Holds Try.prog 19 E_57:=
 Yi3 tabT mixT Q_57 F_57 rfl ⟨⟨H_12,_,_,Q_12⟩,⟨⟨H_18,_,_,Q_18⟩,⟨⟨H_39,_,_,Q_39⟩,⟨⟨H_38,_,_,Q_38⟩,⟨⟨H_56,_,_,Q_56⟩,trivial⟩⟩⟩⟩⟩ W_57 trivial
theorem K_58L2 (n:Nat) (x):CY (n+1) x=Yfg C_58 B_58L2 (S_58L2 Aa) x (CY n):=by
 obtain⟨_,_,_⟩:=x
 kernel_rfl
theorem F_58 (a):E_58.run a=Yir C_58 Try.f52 E_58.params E_58.results a λo r=>some (N_58 o r):=by
 kernel_rfl
theorem W_58:XU D_58= [B_58L2]:=by kernel_rfl
theorem Q_58:Qk Try.prog 52 Try.f52 D_58:=⟨Try.func52,by kernel_rfl,by kernel_rfl⟩
theorem H_58:Holds Try.prog 52 E_58:=
 Yi3 tabT mixT Q_58 F_58 rfl trivial W_58 ⟨Yi8 (L:=S_58L2 Aa) K_58L2 (i:=2) (by kernel_rfl),trivial⟩
theorem F_59 (a):E_59.run a=Yir C_59 Try.f20 E_59.params E_59.results a λo r=>some (N_59 o r):=by
 kernel_rfl
theorem W_59:XU D_59= []:=by kernel_rfl
theorem Q_59:Qk Try.prog 20 Try.f20 D_59:=⟨Try.func20,by kernel_rfl,by kernel_rfl⟩
theorem H_59:Holds Try.prog 20 E_59:=
 Yi3 tabT mixT Q_59 F_59 rfl ⟨⟨H_26,_,_,Q_26⟩,⟨⟨H_31,_,_,Q_31⟩,⟨⟨H_43,_,_,Q_43⟩,⟨⟨H_58,_,_,Q_58⟩,trivial⟩⟩⟩⟩ W_59 trivial
theorem K_60L3 (n:Nat) (x):Ci (n+1) x=Yfg C_60 B_60L3 (S_60L3 Aa) x (Ci n):=by
 obtain⟨_,_,_,_⟩:=x
 kernel_rfl
theorem F_60 (a):E_60.run a=Yir C_60 Try.f54 E_60.params E_60.results a λo r=>some (N_60 o r):=by
 kernel_rfl
theorem W_60:XU D_60= [B_60L3]:=by kernel_rfl
theorem Q_60:Qk Try.prog 54 Try.f54 D_60:=⟨Try.func54,by kernel_rfl,by kernel_rfl⟩
theorem H_60:Holds Try.prog 54 E_60:=
 Yi3 tabT mixT Q_60 F_60 rfl trivial W_60 ⟨Yi8 (L:=S_60L3 Aa) K_60L3 (i:=3) (by kernel_rfl),trivial⟩
theorem Q_61:Qk Try.prog 55 Try.f55 D_61:=⟨Try.func55,by kernel_rfl,by kernel_rfl⟩
theorem H_61:Holds Try.prog 55 E_61:=Go.Proofs.H_sort_cmpL 1
theorem K_62L8 (n:Nat) (x):AE (n+1) x=Yfg C_62 B_62L8 (S_62L8 Aa) x (AE n):=by
 obtain⟨_,_,_,_,_,_⟩:=x
 kernel_rfl
theorem F_62 (a):E_62.run a=Yir C_62 Try.f21 E_62.params E_62.results a λo r=>some (N_62 o r):=by
 kernel_rfl
theorem W_62:XU D_62= [B_62L8]:=by kernel_rfl
theorem Q_62:Qk Try.prog 21 Try.f21 D_62:=⟨Try.func21,by kernel_rfl,by kernel_rfl⟩
theorem H_62:Holds Try.prog 21 E_62:=
 Yi3 tabT mixT Q_62 F_62 rfl ⟨⟨H_57,_,_,Q_57⟩,⟨⟨H_18,_,_,Q_18⟩,⟨⟨H_39,_,_,Q_39⟩,⟨⟨H_40,_,_,Q_40⟩,⟨⟨H_60,_,_,Q_60⟩,⟨⟨H_61,_,_,Q_61⟩,trivial⟩⟩⟩⟩⟩⟩ W_62 ⟨Yi8 (L:=S_62L8 Aa) K_62L8 (i:=8) (by kernel_rfl),trivial⟩
theorem K_63L3 (n:Nat) (x):Cp (n+1) x=Yfg C_63 B_63L3 (S_63L3 Aa) x (Cp n):=by
 obtain⟨_,_,_,_⟩:=x
 kernel_rfl
theorem F_63 (a):E_63.run a=Yir C_63 Try.f58 E_63.params E_63.results a λo r=>some (N_63 o r):=by
 kernel_rfl
theorem W_63:XU D_63= [B_63L3]:=by kernel_rfl
theorem Q_63:Qk Try.prog 58 Try.f58 D_63:=⟨Try.func58,by kernel_rfl,by kernel_rfl⟩
theorem H_63:Holds Try.prog 58 E_63:=
 Yi3 tabT mixT Q_63 F_63 rfl trivial W_63 ⟨Yi8 (L:=S_63L3 Aa) K_63L3 (i:=3) (by kernel_rfl),trivial⟩
theorem K_64L2 (n:Nat) (x):Cq (n+1) x=Yfg C_64 B_64L2 (S_64L2 Aa) x (Cq n):=by
 obtain⟨_,_,_⟩:=x
 kernel_rfl
theorem F_64 (a):E_64.run a=Yir C_64 Try.f115 E_64.params E_64.results a λo r=>some (N_64 o r):=by
 kernel_rfl
theorem W_64:XU D_64= [B_64L2]:=by kernel_rfl
theorem Q_64:Qk Try.prog 115 Try.f115 D_64:=⟨Try.func115,by kernel_rfl,by kernel_rfl⟩
theorem H_64:Holds Try.prog 115 E_64:=
 Yi3 tabT mixT Q_64 F_64 rfl trivial W_64 ⟨Yi8 (L:=S_64L2 Aa) K_64L2 (i:=2) (by kernel_rfl),trivial⟩
theorem K_65L4 (n:Nat) (x):Co (n+1) x=Yfg C_65 B_65L4 (S_65L4 Aa) x (Co n):=by
 obtain⟨_,_,_⟩:=x
 kernel_rfl
theorem F_65 (a):E_65.run a=Yir C_65 Try.f116 E_65.params E_65.results a λo r=>some (N_65 o r):=by
 kernel_rfl
theorem W_65:XU D_65= [B_65L4]:=by kernel_rfl
theorem Q_65:Qk Try.prog 116 Try.f116 D_65:=⟨Try.func116,by kernel_rfl,by kernel_rfl⟩
theorem H_65:Holds Try.prog 116 E_65:=
 Yi3 tabT mixT Q_65 F_65 rfl trivial W_65 ⟨Yi8 (L:=S_65L4 Aa) K_65L4 (i:=4) (by kernel_rfl),trivial⟩
theorem K_66L2 (n:Nat) (x):B4 (n+1) x=Yfg C_66 B_66L2 (S_66L2 Aa) x (B4 n):=by
 obtain⟨_,_,_,_⟩:=x
 kernel_rfl
theorem F_66 (a):E_66.run a=Yir C_66 Try.f89 E_66.params E_66.results a λo r=>some (N_66 o r):=by
 kernel_rfl
theorem W_66:XU D_66= [B_66L2]:=by kernel_rfl
theorem Q_66:Qk Try.prog 89 Try.f89 D_66:=⟨Try.func89,by kernel_rfl,by kernel_rfl⟩
theorem H_66:Holds Try.prog 89 E_66:=
 Yi3 tabT mixT Q_66 F_66 rfl ⟨⟨H_64,_,_,Q_64⟩,⟨⟨H_65,_,_,Q_65⟩,trivial⟩⟩ W_66 ⟨Yi8 (L:=S_66L2 Aa) K_66L2 (i:=2) (by kernel_rfl),trivial⟩
theorem F_67 (a):E_67.run a=Yir C_67 Try.f60 E_67.params E_67.results a λo r=>some (N_67 o r):=by
 kernel_rfl
theorem W_67:XU D_67= []:=by kernel_rfl
theorem Q_67:Qk Try.prog 60 Try.f60 D_67:=⟨Try.func60,by kernel_rfl,by kernel_rfl⟩
theorem H_67:Holds Try.prog 60 E_67:=
 Yi3 tabT mixT Q_67 F_67 rfl ⟨⟨H_66,_,_,Q_66⟩,trivial⟩ W_67 trivial
theorem K_68L12 (n:Nat) (x):AA (n+1) x=Yfg C_68 B_68L12 (S_68L12 Aa) x (AA n):=by
 obtain⟨_,_,_,_,_,_,_,_,_,_⟩:=x
 kernel_rfl
theorem K_68L8 (n:Nat) (x):Ao (n+1) x=Yfg C_68 B_68L8 (S_68L8 Aa) x (Ao n):=by
 obtain⟨_,_,_,_,_,_,_⟩:=x
 kernel_rfl
theorem F_68 (a):E_68.run a=Yir C_68 Try.f22 E_68.params E_68.results a λo r=>some (N_68 o r):=by
 kernel_rfl
theorem W_68:XU D_68= [B_68L8,B_68L12]:=by kernel_rfl
theorem Q_68:Qk Try.prog 22 Try.f22 D_68:=⟨Try.func22,by kernel_rfl,by kernel_rfl⟩
theorem H_68:Holds Try.prog 22 E_68:=
 Yi3 tabT mixT Q_68 F_68 rfl ⟨⟨H_59,_,_,Q_59⟩,⟨⟨H_31,_,_,Q_31⟩,⟨⟨H_44,_,_,Q_44⟩,⟨⟨H_54,_,_,Q_54⟩,⟨⟨H_27,_,_,Q_27⟩,⟨⟨H_63,_,_,Q_63⟩,⟨⟨H_29,_,_,Q_29⟩,⟨⟨H_67,_,_,Q_67⟩,trivial⟩⟩⟩⟩⟩⟩⟩⟩ W_68 ⟨Yi8 (L:=S_68L8 Aa) K_68L8 (i:=8) (by kernel_rfl),⟨Yi8 (L:=S_68L12 Aa) K_68L12 (i:=12) (by kernel_rfl),trivial⟩⟩
theorem K_69L2 (n:Nat) (x):C3 (n+1) x=Yfg C_69 B_69L2 (S_69L2 Aa) x (C3 n):=by
 obtain⟨_,_,_⟩:=x
 kernel_rfl
theorem F_69 (a):E_69.run a=Yir C_69 Try.f23 E_69.params E_69.results a λo r=>some (N_69 o r):=by
 kernel_rfl
theorem W_69:XU D_69= [B_69L2]:=by kernel_rfl
theorem Q_69:Qk Try.prog 23 Try.f23 D_69:=⟨Try.func23,by kernel_rfl,by kernel_rfl⟩
theorem H_69:Holds Try.prog 23 E_69:=
 Yi3 tabT mixT Q_69 F_69 rfl ⟨⟨H_33,_,_,Q_33⟩,trivial⟩ W_69 ⟨Yi8 (L:=S_69L2 Aa) K_69L2 (i:=2) (by kernel_rfl),trivial⟩
theorem K_70L32 (n:Nat) (x):Bf (n+1) x=Yfg C_70 B_70L32 (S_70L32 Aa) x (Bf n):=by
 obtain⟨_,_,_,_,_,_,_,_⟩:=x
 kernel_rfl
theorem K_70L42 (n:Nat) (x):Bg (n+1) x=Yfg C_70 B_70L42 (S_70L42 Aa) x (Bg n):=by
 obtain⟨_,_,_,_,_,_,_,_⟩:=x
 kernel_rfl
theorem K_70L52 (n:Nat) (x):Bh (n+1) x=Yfg C_70 B_70L52 (S_70L52 Aa) x (Bh n):=by
 obtain⟨_,_,_,_,_,_,_,_,_⟩:=x
 kernel_rfl
theorem K_70L48 (n:Nat) (x):AZ (n+1) x=Yfg C_70 B_70L48 (S_70L48 Aa) x (AZ n):=by
 obtain⟨_,_,_,_,_,_,_⟩:=x
 kernel_rfl
theorem K_70L38 (n:Nat) (x):Ay (n+1) x=Yfg C_70 B_70L38 (S_70L38 Aa) x (Ay n):=by
 obtain⟨_,_,_,_,_,_⟩:=x
 kernel_rfl
theorem F_70 (a):E_70.run a=Yir C_70 Try.f3 E_70.params E_70.results a λo r=>some (N_70 o r):=by
 kernel_rfl
theorem W_70:XU D_70= [B_70L32,B_70L38,B_70L42,B_70L48,B_70L52]:=by kernel_rfl
theorem Q_70:Qk Try.prog 3 Try.f3 D_70:=⟨Try.func3,by kernel_rfl,by kernel_rfl⟩
theorem H_70:Holds Try.prog 3 E_70:=
 Yi3 tabT mixT Q_70 F_70 rfl ⟨⟨H_1,_,_,Q_1⟩,⟨⟨H_9,_,_,Q_9⟩,⟨⟨H_20,_,_,Q_20⟩,⟨⟨H_32,_,_,Q_32⟩,⟨⟨H_12,_,_,Q_12⟩,⟨⟨H_35,_,_,Q_35⟩,⟨⟨H_42,_,_,Q_42⟩,⟨⟨H_45,_,_,Q_45⟩,⟨⟨H_33,_,_,Q_33⟩,⟨⟨H_46,_,_,Q_46⟩,⟨⟨H_49,_,_,Q_49⟩,⟨⟨H_53,_,_,Q_53⟩,⟨⟨H_55,_,_,Q_55⟩,⟨⟨H_34,_,_,Q_34⟩,⟨⟨H_57,_,_,Q_57⟩,⟨⟨H_59,_,_,Q_59⟩,⟨⟨H_62,_,_,Q_62⟩,⟨⟨H_68,_,_,Q_68⟩,⟨⟨H_69,_,_,Q_69⟩,trivial⟩⟩⟩⟩⟩⟩⟩⟩⟩⟩⟩⟩⟩⟩⟩⟩⟩⟩⟩ W_70 ⟨Yi8 (L:=S_70L32 Aa) K_70L32 (i:=32) (by kernel_rfl),⟨Yi8 (L:=S_70L38 Aa) K_70L38 (i:=38) (by kernel_rfl),⟨Yi8 (L:=S_70L42 Aa) K_70L42 (i:=42) (by kernel_rfl),⟨Yi8 (L:=S_70L48 Aa) K_70L48 (i:=48) (by kernel_rfl),⟨Yi8 (L:=S_70L52 Aa) K_70L52 (i:=52) (by kernel_rfl),trivial⟩⟩⟩⟩⟩
end T
