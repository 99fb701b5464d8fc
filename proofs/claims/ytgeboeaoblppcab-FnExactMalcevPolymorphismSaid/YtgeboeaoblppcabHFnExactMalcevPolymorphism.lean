/- Each typed function is what the program computes; no conditions. -/
import Derived.Test.YtgeboeaoblppcabCFnExactMalcevPolymorphism
set_option linter.all false
set_option maxRecDepth 10000
open Go Go.Va Go.Proofs
namespace T
theorem F_1 (a):E_1.run a=Yir C_1 Try.f54 E_1.params E_1.results a λo r=>some (N_1 o r):=by
 kernel_rfl
theorem W_1:XU D_1= []:=by kernel_rfl
theorem Q_1:Qk Try.prog 54 Try.f54 D_1:=⟨Try.func54,by kernel_rfl,by kernel_rfl⟩
theorem H_1:Holds Try.prog 54 E_1:=
 Yi3 tabT mixT Q_1 F_1 rfl trivial W_1 trivial
theorem K_2L5 (n:Nat) (x):Bj (n+1) x=Yfg C_2 B_2L5 (S_2L5 Ab) x (Bj n):=by
 obtain⟨_,_,_⟩:=x
 kernel_rfl
theorem F_2 (a):E_2.run a=Yir C_2 Try.f41 E_2.params E_2.results a λo r=>some (N_2 o r):=by
 kernel_rfl
theorem W_2:XU D_2= [B_2L5]:=by kernel_rfl
theorem Q_2:Qk Try.prog 41 Try.f41 D_2:=⟨Try.func41,by kernel_rfl,by kernel_rfl⟩
theorem H_2:Holds Try.prog 41 E_2:=
 Yi3 tabT mixT Q_2 F_2 rfl ⟨⟨H_1,_,_,Q_1⟩,trivial⟩ W_2 ⟨Yi8 (L:=S_2L5 Ab) K_2L5 (i:=5) (by kernel_rfl),trivial⟩
theorem F_3 (a):E_3.run a=Yir C_3 Try.f22 E_3.params E_3.results a λo r=>some (N_3 o r):=by
 kernel_rfl
theorem W_3:XU D_3= []:=by kernel_rfl
theorem Q_3:Qk Try.prog 22 Try.f22 D_3:=⟨Try.func22,by kernel_rfl,by kernel_rfl⟩
theorem H_3:Holds Try.prog 22 E_3:=
 Yi3 tabT mixT Q_3 F_3 rfl ⟨⟨H_2,_,_,Q_2⟩,trivial⟩ W_3 trivial
theorem K_4L5 (n:Nat) (x):AK (n+1) x=Yfg C_4 B_4L5 (S_4L5 Ab) x (AK n):=by
 obtain⟨_,_,_⟩:=x
 kernel_rfl
theorem F_4 (a):E_4.run a=Yir C_4 Try.f6 E_4.params E_4.results a λo r=>some (N_4 o r):=by
 kernel_rfl
theorem W_4:XU D_4= [B_4L5]:=by kernel_rfl
theorem Q_4:Qk Try.prog 6 Try.f6 D_4:=⟨Try.func6,by kernel_rfl,by kernel_rfl⟩
theorem H_4:Holds Try.prog 6 E_4:=
 Yi3 tabT mixT Q_4 F_4 rfl ⟨⟨H_3,_,_,Q_3⟩,trivial⟩ W_4 ⟨Yi8 (L:=S_4L5 Ab) K_4L5 (i:=5) (by kernel_rfl),trivial⟩
theorem K_5L3 (n:Nat) (x):Bu (n+1) x=Yfg C_5 B_5L3 (S_5L3 Ab) x (Bu n):=by
 obtain⟨_,_,_⟩:=x
 kernel_rfl
theorem F_5 (a):E_5.run a=Yir C_5 Try.f9 E_5.params E_5.results a λo r=>some (N_5 o r):=by
 kernel_rfl
theorem W_5:XU D_5= [B_5L3]:=by kernel_rfl
theorem Q_5:Qk Try.prog 9 Try.f9 D_5:=⟨Try.func9,by kernel_rfl,by kernel_rfl⟩
theorem H_5:Holds Try.prog 9 E_5:=
 Yi3 tabT mixT Q_5 F_5 rfl trivial W_5 ⟨Yi8 (L:=S_5L3 Ab) K_5L3 (i:=3) (by kernel_rfl),trivial⟩
theorem K_6L3 (n:Nat) (x):Bk (n+1) x=Yfg C_6 B_6L3 (S_6L3 Ab) x (Bk n):=by
 obtain⟨_,_,_⟩:=x
 kernel_rfl
theorem F_6 (a):E_6.run a=Yir C_6 Try.f44 E_6.params E_6.results a λo r=>some (N_6 o r):=by
 kernel_rfl
theorem W_6:XU D_6= [B_6L3]:=by kernel_rfl
theorem Q_6:Qk Try.prog 44 Try.f44 D_6:=⟨Try.func44,by kernel_rfl,by kernel_rfl⟩
theorem H_6:Holds Try.prog 44 E_6:=
 Yi3 tabT mixT Q_6 F_6 rfl ⟨⟨H_5,_,_,Q_5⟩,trivial⟩ W_6 ⟨Yi8 (L:=S_6L3 Ab) K_6L3 (i:=3) (by kernel_rfl),trivial⟩
theorem F_7 (a):E_7.run a=Yir C_7 Try.f27 E_7.params E_7.results a λo r=>some (N_7 o r):=by
 kernel_rfl
theorem W_7:XU D_7= []:=by kernel_rfl
theorem Q_7:Qk Try.prog 27 Try.f27 D_7:=⟨Try.func27,by kernel_rfl,by kernel_rfl⟩
theorem H_7:Holds Try.prog 27 E_7:=
 Yi3 tabT mixT Q_7 F_7 rfl ⟨⟨H_6,_,_,Q_6⟩,trivial⟩ W_7 trivial
theorem K_8L3 (n:Nat) (x):AL (n+1) x=Yfg C_8 B_8L3 (S_8L3 Ab) x (AL n):=by
 obtain⟨_,_,_⟩:=x
 kernel_rfl
theorem F_8 (a):E_8.run a=Yir C_8 Try.f8 E_8.params E_8.results a λo r=>some (N_8 o r):=by
 kernel_rfl
theorem W_8:XU D_8= [B_8L3]:=by kernel_rfl
theorem Q_8:Qk Try.prog 8 Try.f8 D_8:=⟨Try.func8,by kernel_rfl,by kernel_rfl⟩
theorem H_8:Holds Try.prog 8 E_8:=
 Yi3 tabT mixT Q_8 F_8 rfl ⟨⟨H_7,_,_,Q_7⟩,trivial⟩ W_8 ⟨Yi8 (L:=S_8L3 Ab) K_8L3 (i:=3) (by kernel_rfl),trivial⟩
theorem F_9 (a):E_9.run a=Yir C_9 Try.f25 E_9.params E_9.results a λo r=>some (N_9 o r):=by
 kernel_rfl
theorem W_9:XU D_9= []:=by kernel_rfl
theorem Q_9:Qk Try.prog 25 Try.f25 D_9:=⟨Try.func25,by kernel_rfl,by kernel_rfl⟩
theorem H_9:Holds Try.prog 25 E_9:=
 Yi3 tabT mixT Q_9 F_9 rfl trivial W_9 trivial
theorem F_10 (a):E_10.run a=Yir C_10 Try.f52 E_10.params E_10.results a λo r=>some (N_10 o r):=by
 kernel_rfl
theorem W_10:XU D_10= []:=by kernel_rfl
theorem Q_10:Qk Try.prog 52 Try.f52 D_10:=⟨Try.func52,by kernel_rfl,by kernel_rfl⟩
theorem H_10:Holds Try.prog 52 E_10:=
 Yi3 tabT mixT Q_10 F_10 rfl ⟨⟨H_9,_,_,Q_9⟩,trivial⟩ W_10 trivial
theorem K_11L2 (n:Nat) (x):AY (n+1) x=Yfg C_11 B_11L2 (S_11L2 Ab) x (AY n):=by
 obtain⟨_,_,_⟩:=x
 kernel_rfl
theorem F_11 (a):E_11.run a=Yir C_11 Try.f24 E_11.params E_11.results a λo r=>some (N_11 o r):=by
 kernel_rfl
theorem W_11:XU D_11= [B_11L2]:=by kernel_rfl
theorem Q_11:Qk Try.prog 24 Try.f24 D_11:=⟨Try.func24,by kernel_rfl,by kernel_rfl⟩
theorem H_11:Holds Try.prog 24 E_11:=
 Yi3 tabT mixT Q_11 F_11 rfl trivial W_11 ⟨Yi8 (L:=S_11L2 Ab) K_11L2 (i:=2) (by kernel_rfl),trivial⟩
theorem K_12L2 (n:Nat) (x):AT (n+1) x=Yfg C_12 B_12L2 (S_12L2 Ab) x (AT n):=by
 obtain⟨_,_,_⟩:=x
 kernel_rfl
theorem F_12 (a):E_12.run a=Yir C_12 Try.f72 E_12.params E_12.results a λo r=>some (N_12 o r):=by
 kernel_rfl
theorem W_12:XU D_12= [B_12L2]:=by kernel_rfl
theorem Q_12:Qk Try.prog 72 Try.f72 D_12:=⟨Try.func72,by kernel_rfl,by kernel_rfl⟩
theorem H_12:Holds Try.prog 72 E_12:=
 Yi3 tabT mixT Q_12 F_12 rfl ⟨⟨H_9,_,_,Q_9⟩,trivial⟩ W_12 ⟨Yi8 (L:=S_12L2 Ab) K_12L2 (i:=2) (by kernel_rfl),trivial⟩
theorem F_13 (a):E_13.run a=Yir C_13 Try.f69 E_13.params E_13.results a λo r=>some (N_13 o r):=by
 kernel_rfl
theorem W_13:XU D_13= []:=by kernel_rfl
theorem Q_13:Qk Try.prog 69 Try.f69 D_13:=⟨Try.func69,by kernel_rfl,by kernel_rfl⟩
theorem H_13:Holds Try.prog 69 E_13:=
 Yi3 tabT mixT Q_13 F_13 rfl ⟨⟨H_12,_,_,Q_12⟩,trivial⟩ W_13 trivial
theorem K_14L2 (n:Nat) (x):Bx (n+1) x=Yfg C_14 B_14L2 (S_14L2 Ab) x (Bx n):=by
 obtain⟨_,_,_⟩:=x
 kernel_rfl
theorem F_14 (a):E_14.run a=Yir C_14 Try.f70 E_14.params E_14.results a λo r=>some (N_14 o r):=by
 kernel_rfl
theorem W_14:XU D_14= [B_14L2]:=by kernel_rfl
theorem Q_14:Qk Try.prog 70 Try.f70 D_14:=⟨Try.func70,by kernel_rfl,by kernel_rfl⟩
theorem H_14:Holds Try.prog 70 E_14:=
 Yi3 tabT mixT Q_14 F_14 rfl trivial W_14 ⟨Yi8 (L:=S_14L2 Ab) K_14L2 (i:=2) (by kernel_rfl),trivial⟩
theorem K_15L4 (n:Nat) (x):AU (n+1) x=Yfg C_15 B_15L4 (S_15L4 Ab) x (AU n):=by
 obtain⟨_,_,_⟩:=x
 kernel_rfl
theorem F_15 (a):E_15.run a=Yir C_15 Try.f64 E_15.params E_15.results a λo r=>some (N_15 o r):=by
 kernel_rfl
theorem W_15:XU D_15= [B_15L4]:=by kernel_rfl
theorem Q_15:Qk Try.prog 64 Try.f64 D_15:=⟨Try.func64,by kernel_rfl,by kernel_rfl⟩
theorem H_15:Holds Try.prog 64 E_15:=
 Yi3 tabT mixT Q_15 F_15 rfl ⟨⟨H_11,_,_,Q_11⟩,⟨⟨H_9,_,_,Q_9⟩,⟨⟨H_13,_,_,Q_13⟩,⟨⟨H_14,_,_,Q_14⟩,trivial⟩⟩⟩⟩ W_15 ⟨Yi8 (L:=S_15L4 Ab) K_15L4 (i:=4) (by kernel_rfl),trivial⟩
theorem K_16L4 (n:Nat) (x):Bl (n+1) x=Yfg C_16 B_16L4 (S_16L4 Ab) x (Bl n):=by
 obtain⟨_,_,_⟩:=x
 kernel_rfl
theorem F_16 (a):E_16.run a=Yir C_16 Try.f53 E_16.params E_16.results a λo r=>some (N_16 o r):=by
 kernel_rfl
theorem W_16:XU D_16= [B_16L4]:=by kernel_rfl
theorem Q_16:Qk Try.prog 53 Try.f53 D_16:=⟨Try.func53,by kernel_rfl,by kernel_rfl⟩
theorem H_16:Holds Try.prog 53 E_16:=
 Yi3 tabT mixT Q_16 F_16 rfl ⟨⟨H_15,_,_,Q_15⟩,trivial⟩ W_16 ⟨Yi8 (L:=S_16L4 Ab) K_16L4 (i:=4) (by kernel_rfl),trivial⟩
theorem K_17L4 (n:Nat) (x):AQ (n+1) x=Yfg C_17 B_17L4 (S_17L4 Ab) x (AQ n):=by
 obtain⟨_,_,_⟩:=x
 kernel_rfl
theorem F_17 (a):E_17.run a=Yir C_17 Try.f36 E_17.params E_17.results a λo r=>some (N_17 o r):=by
 kernel_rfl
theorem W_17:XU D_17= [B_17L4]:=by kernel_rfl
theorem Q_17:Qk Try.prog 36 Try.f36 D_17:=⟨Try.func36,by kernel_rfl,by kernel_rfl⟩
theorem H_17:Holds Try.prog 36 E_17:=
 Yi3 tabT mixT Q_17 F_17 rfl ⟨⟨H_9,_,_,Q_9⟩,⟨⟨H_10,_,_,Q_10⟩,⟨⟨H_16,_,_,Q_16⟩,trivial⟩⟩⟩ W_17 ⟨Yi8 (L:=S_17L4 Ab) K_17L4 (i:=4) (by kernel_rfl),trivial⟩
theorem K_18L3 (n:Nat) (x):AW (n+1) x=Yfg C_18 B_18L3 (S_18L3 Ab) x (AW n):=by
 obtain⟨_,_,_⟩:=x
 kernel_rfl
theorem F_18 (a):E_18.run a=Yir C_18 Try.f37 E_18.params E_18.results a λo r=>some (N_18 o r):=by
 kernel_rfl
theorem W_18:XU D_18= [B_18L3]:=by kernel_rfl
theorem Q_18:Qk Try.prog 37 Try.f37 D_18:=⟨Try.func37,by kernel_rfl,by kernel_rfl⟩
theorem H_18:Holds Try.prog 37 E_18:=
 Yi3 tabT mixT Q_18 F_18 rfl trivial W_18 ⟨Yi8 (L:=S_18L3 Ab) K_18L3 (i:=3) (by kernel_rfl),trivial⟩
theorem K_19L3 (n:Nat) (x):Bw (n+1) x=Yfg C_19 B_19L3 (S_19L3 Ab) x (Bw n):=by
 obtain⟨_,_,_,_⟩:=x
 kernel_rfl
theorem F_19 (a):E_19.run a=Yir C_19 Try.f57 E_19.params E_19.results a λo r=>some (N_19 o r):=by
 kernel_rfl
theorem W_19:XU D_19= [B_19L3]:=by kernel_rfl
theorem Q_19:Qk Try.prog 57 Try.f57 D_19:=⟨Try.func57,by kernel_rfl,by kernel_rfl⟩
theorem H_19:Holds Try.prog 57 E_19:=
 Yi3 tabT mixT Q_19 F_19 rfl trivial W_19 ⟨Yi8 (L:=S_19L3 Ab) K_19L3 (i:=3) (by kernel_rfl),trivial⟩
theorem F_20 (a):E_20.run a=Yir C_20 Try.f58 E_20.params E_20.results a λo r=>some (N_20 o r):=by
 kernel_rfl
theorem W_20:XU D_20= []:=by kernel_rfl
theorem Q_20:Qk Try.prog 58 Try.f58 D_20:=⟨Try.func58,by kernel_rfl,by kernel_rfl⟩
theorem H_20:Holds Try.prog 58 E_20:=
 Yi3 tabT mixT Q_20 F_20 rfl trivial W_20 trivial
theorem K_21L3 (n:Nat) (x):AO (n+1) x=Yfg C_21 B_21L3 (S_21L3 Ab) x (AO n):=by
 obtain⟨_,_,_,_,_⟩:=x
 kernel_rfl
theorem K_21L21 (n:Nat) (x):AI (n+1) x=Yfg C_21 B_21L21 (S_21L21 Ab) x (AI n):=by
 obtain⟨_,_,_,_,_,_,_,_,_,_,_,_,_⟩:=x
 kernel_rfl
theorem K_21L17 (n:Nat) (x):AH (n+1) x=Yfg C_21 B_21L17 (S_21L17 Ab) x (AH n):=by
 obtain⟨_,_,_,_,_,_,_,_,_,_,_⟩:=x
 kernel_rfl
theorem K_21L11 (n:Nat) (x):AG (n+1) x=Yfg C_21 B_21L11 (S_21L11 Ab) x (AG n):=by
 obtain⟨_,_,_,_,_,_,_⟩:=x
 kernel_rfl
theorem K_21L7 (n:Nat) (x):AP (n+1) x=Yfg C_21 B_21L7 (S_21L7 Ab) x (AP n):=by
 obtain⟨_,_,_,_,_⟩:=x
 kernel_rfl
theorem F_21 (a):E_21.run a=Yir C_21 Try.f43 E_21.params E_21.results a λo r=>some (N_21 o r):=by
 kernel_rfl
theorem W_21:XU D_21= [B_21L3,B_21L7,B_21L11,B_21L17,B_21L21]:=by kernel_rfl
theorem Q_21:Qk Try.prog 43 Try.f43 D_21:=⟨Try.func43,by kernel_rfl,by kernel_rfl⟩
theorem H_21:Holds Try.prog 43 E_21:=
 Yi3 tabT mixT Q_21 F_21 rfl ⟨⟨H_11,_,_,Q_11⟩,⟨⟨H_19,_,_,Q_19⟩,⟨⟨H_20,_,_,Q_20⟩,trivial⟩⟩⟩ W_21 ⟨Yi8 (L:=S_21L3 Ab) K_21L3 (i:=3) (by kernel_rfl),⟨Yi8 (L:=S_21L7 Ab) K_21L7 (i:=7) (by kernel_rfl),⟨Yi8 (L:=S_21L11 Ab) K_21L11 (i:=11) (by kernel_rfl),⟨Yi8 (L:=S_21L17 Ab) K_21L17 (i:=17) (by kernel_rfl),⟨Yi8 (L:=S_21L21 Ab) K_21L21 (i:=21) (by kernel_rfl),trivial⟩⟩⟩⟩⟩
theorem F_22 (a):E_22.run a=Yir C_22 Try.f55 E_22.params E_22.results a λo r=>some (N_22 o r):=by
 kernel_rfl
theorem W_22:XU D_22= []:=by kernel_rfl
theorem Q_22:Qk Try.prog 55 Try.f55 D_22:=⟨Try.func55,by kernel_rfl,by kernel_rfl⟩
theorem H_22:Holds Try.prog 55 E_22:=
 Yi3 tabT mixT Q_22 F_22 rfl trivial W_22 trivial
theorem K_23L4 (n:Nat) (x):Bv (n+1) x=Yfg C_23 B_23L4 (S_23L4 Ab) x (Bv n):=by
 obtain⟨_,_,_⟩:=x
 kernel_rfl
theorem F_23 (a):E_23.run a=Yir C_23 Try.f73 E_23.params E_23.results a λo r=>some (N_23 o r):=by
 kernel_rfl
theorem W_23:XU D_23= [B_23L4]:=by kernel_rfl
theorem Q_23:Qk Try.prog 73 Try.f73 D_23:=⟨Try.func73,by kernel_rfl,by kernel_rfl⟩
theorem H_23:Holds Try.prog 73 E_23:=
 Yi3 tabT mixT Q_23 F_23 rfl trivial W_23 ⟨Yi8 (L:=S_23L4 Ab) K_23L4 (i:=4) (by kernel_rfl),trivial⟩
theorem K_24L2 (n:Nat) (x):Bf (n+1) x=Yfg C_24 B_24L2 (S_24L2 Ab) x (Bf n):=by
 obtain⟨_,_,_,_⟩:=x
 kernel_rfl
theorem F_24 (a):E_24.run a=Yir C_24 Try.f71 E_24.params E_24.results a λo r=>some (N_24 o r):=by
 kernel_rfl
theorem W_24:XU D_24= [B_24L2]:=by kernel_rfl
theorem Q_24:Qk Try.prog 71 Try.f71 D_24:=⟨Try.func71,by kernel_rfl,by kernel_rfl⟩
theorem H_24:Holds Try.prog 71 E_24:=
 Yi3 tabT mixT Q_24 F_24 rfl ⟨⟨H_14,_,_,Q_14⟩,⟨⟨H_23,_,_,Q_23⟩,trivial⟩⟩ W_24 ⟨Yi8 (L:=S_24L2 Ab) K_24L2 (i:=2) (by kernel_rfl),trivial⟩
theorem F_25 (a):E_25.run a=Yir C_25 Try.f65 E_25.params E_25.results a λo r=>some (N_25 o r):=by
 kernel_rfl
theorem W_25:XU D_25= []:=by kernel_rfl
theorem Q_25:Qk Try.prog 65 Try.f65 D_25:=⟨Try.func65,by kernel_rfl,by kernel_rfl⟩
theorem H_25:Holds Try.prog 65 E_25:=
 Yi3 tabT mixT Q_25 F_25 rfl ⟨⟨H_24,_,_,Q_24⟩,trivial⟩ W_25 trivial
theorem K_26L6 (n:Nat) (x):AN (n+1) x=Yfg C_26 B_26L6 (S_26L6 Ab) x (AN n):=by
 obtain⟨_,_,_,_,_⟩:=x
 kernel_rfl
theorem K_26L2 (n:Nat) (x):AM (n+1) x=Yfg C_26 B_26L2 (S_26L2 Ab) x (AM n):=by
 obtain⟨_,_,_⟩:=x
 kernel_rfl
theorem F_26 (a):E_26.run a=Yir C_26 Try.f56 E_26.params E_26.results a λo r=>some (N_26 o r):=by
 kernel_rfl
theorem W_26:XU D_26= [B_26L2,B_26L6]:=by kernel_rfl
theorem Q_26:Qk Try.prog 56 Try.f56 D_26:=⟨Try.func56,by kernel_rfl,by kernel_rfl⟩
theorem H_26:Holds Try.prog 56 E_26:=
 Yi3 tabT mixT Q_26 F_26 rfl ⟨⟨H_25,_,_,Q_25⟩,trivial⟩ W_26 ⟨Yi8 (L:=S_26L2 Ab) K_26L2 (i:=2) (by kernel_rfl),⟨Yi8 (L:=S_26L6 Ab) K_26L6 (i:=6) (by kernel_rfl),trivial⟩⟩
theorem K_27L8 (rec:(Int×(List (List ((List Int)×Int×(List (List Int)))))×(List Int)×(List Int)×((List (List Int))×(Int×Int)))->Option (((List (List Int))×(Int×Int)))) (n:Nat) (x):Ag rec (n+1) x=Yfg (C_27 rec) B_27L8 (S_27L8 rec Ab) x (Ag rec n):=by
 obtain⟨_,_,_,_,_,_,_,_⟩:=x
 kernel_rfl
theorem F_27 (rec:(Int×(List (List ((List Int)×Int×(List (List Int)))))×(List Int)×(List Int)×((List (List Int))×(Int×Int)))->Option (((List (List Int))×(Int×Int)))) (a:YH [.v .int,.v (.slice y3),.v y1,.v y1,.pr (.mv y1 1) (.v y6)]):BS rec a.1 a.2.1 a.2.2.1 a.2.2.2.1 a.2.2.2.2=Yir (C_27 rec) Try.f42 [.v .int,.v (.slice y3),.v y1,.v y1,.pr (.mv y1 1) (.v y6)] [.pr (.mv y1 1) (.v y6)] a (λo r=>some (N_27 o r)):=by
 kernel_rfl
theorem W_27:XU D_27= [B_27L8]:=by kernel_rfl
theorem R_27L8:YZ B_27L8=8:=by kernel_rfl
theorem Q_27:Qk Try.prog 42 Try.f42 D_27:=⟨Try.func42,by kernel_rfl,by kernel_rfl⟩
theorem H_27: ∀d,Holds Try.prog 42 (E_27 d)
 |0=>λ_ b h=>absurd (show(none:Option _)=some b from h) (by simp)
 |d+1=>YgE (en:=E_27 (d+1)) (cx:=(C_27 (AC d))) (Yhe tabT rfl).1 (Yfz ⟨⟨H_27 d,_,_,Q_27⟩,⟨⟨H_22,_,_,Q_22⟩,⟨⟨H_26,_,_,Q_26⟩,trivial⟩⟩⟩) mixT Q_27.1 Q_27.2.2 (YgL W_27 ⟨YhE (cx:=(C_27 (AC d))) (L:=S_27L8 (AC d) Ab) rfl (by rw[R_27L8];rfl) ⟨Ag (AC d),λ_=>rfl,λn x=>K_27L8 (AC d) n x,Ab,λ_=>rfl⟩,trivial⟩) (enc:=N_27) (λ_ _=>⟨rfl,rfl⟩) (F_27 (AC d)) rfl
theorem F_28 (a):E_28.run a=Yir C_28 Try.f26 E_28.params E_28.results a λo r=>some (N_28 o r):=by
 kernel_rfl
theorem W_28:XU D_28= []:=by kernel_rfl
theorem Q_28:Qk Try.prog 26 Try.f26 D_28:=⟨Try.func26,by kernel_rfl,by kernel_rfl⟩
theorem H_28:Holds Try.prog 26 E_28:=
 Yi3 tabT mixT Q_28 F_28 rfl ⟨⟨H_27 Ab,_,_,Q_27⟩,⟨⟨H_21,_,_,Q_21⟩,trivial⟩⟩ W_28 trivial
theorem F_29 (a):E_29.run a=Yir C_29 Try.f38 E_29.params E_29.results a λo r=>some (N_29 o r):=by
 kernel_rfl
theorem W_29:XU D_29= []:=by kernel_rfl
theorem Q_29:Qk Try.prog 38 Try.f38 D_29:=⟨Try.func38,by kernel_rfl,by kernel_rfl⟩
theorem H_29:Holds Try.prog 38 E_29:=
 Yi3 tabT mixT Q_29 F_29 rfl ⟨⟨H_28,_,_,Q_28⟩,trivial⟩ W_29 trivial
theorem K_30L8 (n:Nat) (x):Ak (n+1) x=Yfg C_30 B_30L8 (S_30L8 Ab) x (Ak n):=by
 obtain⟨_,_,_,_,_,_⟩:=x
 kernel_rfl
theorem K_30L5 (n:Nat) (x):Aj (n+1) x=Yfg C_30 B_30L5 (S_30L5 Ab) x (Aj n):=by
 obtain⟨_,_,_,_,_⟩:=x
 kernel_rfl
theorem F_30 (a):E_30.run a=Yir C_30 Try.f20 E_30.params E_30.results a λo r=>some (N_30 o r):=by
 kernel_rfl
theorem W_30:XU D_30= [B_30L5,B_30L8]:=by kernel_rfl
theorem Q_30:Qk Try.prog 20 Try.f20 D_30:=⟨Try.func20,by kernel_rfl,by kernel_rfl⟩
theorem H_30:Holds Try.prog 20 E_30:=
 Yi3 tabT mixT Q_30 F_30 rfl ⟨⟨H_17,_,_,Q_17⟩,⟨⟨H_18,_,_,Q_18⟩,⟨⟨H_29,_,_,Q_29⟩,trivial⟩⟩⟩ W_30 ⟨Yi8 (L:=S_30L5 Ab) K_30L5 (i:=5) (by kernel_rfl),⟨Yi8 (L:=S_30L8 Ab) K_30L8 (i:=8) (by kernel_rfl),trivial⟩⟩
theorem F_31 (a):E_31.run a=Yir C_31 Try.f45 E_31.params E_31.results a λo r=>some (N_31 o r):=by
 kernel_rfl
theorem W_31:XU D_31= []:=by kernel_rfl
theorem Q_31:Qk Try.prog 45 Try.f45 D_31:=⟨Try.func45,by kernel_rfl,by kernel_rfl⟩
theorem H_31:Holds Try.prog 45 E_31:=
 Yi3 tabT mixT Q_31 F_31 rfl trivial W_31 trivial
theorem K_32L2 (n:Nat) (x):Bs (n+1) x=Yfg C_32 B_32L2 (S_32L2 Ab) x (Bs n):=by
 obtain⟨_,_,_,_⟩:=x
 kernel_rfl
theorem F_32 (a):E_32.run a=Yir C_32 Try.f66 E_32.params E_32.results a λo r=>some (N_32 o r):=by
 kernel_rfl
theorem W_32:XU D_32= [B_32L2]:=by kernel_rfl
theorem Q_32:Qk Try.prog 66 Try.f66 D_32:=⟨Try.func66,by kernel_rfl,by kernel_rfl⟩
theorem H_32:Holds Try.prog 66 E_32:=
 Yi3 tabT mixT Q_32 F_32 rfl trivial W_32 ⟨Yi8 (L:=S_32L2 Ab) K_32L2 (i:=2) (by kernel_rfl),trivial⟩
theorem K_33L2 (n:Nat) (x):Av (n+1) x=Yfg C_33 B_33L2 (S_33L2 Ab) x (Av n):=by
 obtain⟨_,_,_⟩:=x
 kernel_rfl
theorem F_33 (a):E_33.run a=Yir C_33 Try.f67 E_33.params E_33.results a λo r=>some (N_33 o r):=by
 kernel_rfl
theorem W_33:XU D_33= [B_33L2]:=by kernel_rfl
theorem Q_33:Qk Try.prog 67 Try.f67 D_33:=⟨Try.func67,by kernel_rfl,by kernel_rfl⟩
theorem H_33:Holds Try.prog 67 E_33:=
 Yi3 tabT mixT Q_33 F_33 rfl trivial W_33 ⟨Yi8 (L:=S_33L2 Ab) K_33L2 (i:=2) (by kernel_rfl),trivial⟩
theorem K_34L4 (n:Nat) (x):AB (n+1) x=Yfg C_34 B_34L4 (S_34L4 Ab) x (AB n):=by
 obtain⟨_,_,_,_,_⟩:=x
 kernel_rfl
theorem F_34 (a):E_34.run a=Yir C_34 Try.f59 E_34.params E_34.results a λo r=>some (N_34 o r):=by
 kernel_rfl
theorem W_34:XU D_34= [B_34L4]:=by kernel_rfl
theorem Q_34:Qk Try.prog 59 Try.f59 D_34:=⟨Try.func59,by kernel_rfl,by kernel_rfl⟩
theorem H_34:Holds Try.prog 59 E_34:=
 Yi3 tabT mixT Q_34 F_34 rfl ⟨⟨H_32,_,_,Q_32⟩,⟨⟨H_33,_,_,Q_33⟩,trivial⟩⟩ W_34 ⟨Yi8 (L:=S_34L4 Ab) K_34L4 (i:=4) (by kernel_rfl),trivial⟩
theorem K_35L4 (n:Nat) (x):AS (n+1) x=Yfg C_35 B_35L4 (S_35L4 Ab) x (AS n):=by
 obtain⟨_,_,_,_⟩:=x
 kernel_rfl
theorem F_35 (a):E_35.run a=Yir C_35 Try.f46 E_35.params E_35.results a λo r=>some (N_35 o r):=by
 kernel_rfl
theorem W_35:XU D_35= [B_35L4]:=by kernel_rfl
theorem Q_35:Qk Try.prog 46 Try.f46 D_35:=⟨Try.func46,by kernel_rfl,by kernel_rfl⟩
theorem H_35:Holds Try.prog 46 E_35:=
 Yi3 tabT mixT Q_35 F_35 rfl ⟨⟨H_34,_,_,Q_34⟩,trivial⟩ W_35 ⟨Yi8 (L:=S_35L4 Ab) K_35L4 (i:=4) (by kernel_rfl),trivial⟩
theorem K_36L4 (n:Nat) (x):A8 (n+1) x=Yfg C_36 B_36L4 (S_36L4 Ab) x (A8 n):=by
 obtain⟨_,_,_,_⟩:=x
 kernel_rfl
theorem F_36 (a):E_36.run a=Yir C_36 Try.f28 E_36.params E_36.results a λo r=>some (N_36 o r):=by
 kernel_rfl
theorem W_36:XU D_36= [B_36L4]:=by kernel_rfl
theorem Q_36:Qk Try.prog 28 Try.f28 D_36:=⟨Try.func28,by kernel_rfl,by kernel_rfl⟩
theorem H_36:Holds Try.prog 28 E_36:=
 Yi3 tabT mixT Q_36 F_36 rfl ⟨⟨H_31,_,_,Q_31⟩,⟨⟨H_35,_,_,Q_35⟩,trivial⟩⟩ W_36 ⟨Yi8 (L:=S_36L4 Ab) K_36L4 (i:=4) (by kernel_rfl),trivial⟩
theorem K_37L3 (n:Nat) (x):AF (n+1) x=Yfg C_37 B_37L3 (S_37L3 Ab) x (AF n):=by
 obtain⟨_,_,_⟩:=x
 kernel_rfl
theorem F_37 (a):E_37.run a=Yir C_37 Try.f39 E_37.params E_37.results a λo r=>some (N_37 o r):=by
 kernel_rfl
theorem W_37:XU D_37= [B_37L3]:=by kernel_rfl
theorem Q_37:Qk Try.prog 39 Try.f39 D_37:=⟨Try.func39,by kernel_rfl,by kernel_rfl⟩
theorem H_37:Holds Try.prog 39 E_37:=
 Yi3 tabT mixT Q_37 F_37 rfl trivial W_37 ⟨Yi8 (L:=S_37L3 Ab) K_37L3 (i:=3) (by kernel_rfl),trivial⟩
theorem K_38L3 (n:Nat) (x):Bq (n+1) x=Yfg C_38 B_38L3 (S_38L3 Ab) x (Bq n):=by
 obtain⟨_,_,_,_⟩:=x
 kernel_rfl
theorem F_38 (a):E_38.run a=Yir C_38 Try.f40 E_38.params E_38.results a λo r=>some (N_38 o r):=by
 kernel_rfl
theorem W_38:XU D_38= [B_38L3]:=by kernel_rfl
theorem Q_38:Qk Try.prog 40 Try.f40 D_38:=⟨Try.func40,by kernel_rfl,by kernel_rfl⟩
theorem H_38:Holds Try.prog 40 E_38:=
 Yi3 tabT mixT Q_38 F_38 rfl trivial W_38 ⟨Yi8 (L:=S_38L3 Ab) K_38L3 (i:=3) (by kernel_rfl),trivial⟩
theorem K_39L2 (n:Nat) (x):BA (n+1) x=Yfg C_39 B_39L2 (S_39L2 Ab) x (BA n):=by
 obtain⟨_,_,_⟩:=x
 kernel_rfl
theorem F_39 (a):E_39.run a=Yir C_39 Try.f30 E_39.params E_39.results a λo r=>some (N_39 o r):=by
 kernel_rfl
theorem W_39:XU D_39= [B_39L2]:=by kernel_rfl
theorem Q_39:Qk Try.prog 30 Try.f30 D_39:=⟨Try.func30,by kernel_rfl,by kernel_rfl⟩
theorem H_39:Holds Try.prog 30 E_39:=
 Yi3 tabT mixT Q_39 F_39 rfl trivial W_39 ⟨Yi8 (L:=S_39L2 Ab) K_39L2 (i:=2) (by kernel_rfl),trivial⟩
theorem K_40L3 (n:Nat) (x):Bm (n+1) x=Yfg C_40 B_40L3 (S_40L3 Ab) x (Bm n):=by
 obtain⟨_,_,_,_⟩:=x
 kernel_rfl
theorem F_40 (a):E_40.run a=Yir C_40 Try.f61 E_40.params E_40.results a λo r=>some (N_40 o r):=by
 kernel_rfl
theorem W_40:XU D_40= [B_40L3]:=by kernel_rfl
theorem Q_40:Qk Try.prog 61 Try.f61 D_40:=⟨Try.func61,by kernel_rfl,by kernel_rfl⟩
theorem H_40:Holds Try.prog 61 E_40:=
 Yi3 tabT mixT Q_40 F_40 rfl trivial W_40 ⟨Yi8 (L:=S_40L3 Ab) K_40L3 (i:=3) (by kernel_rfl),trivial⟩
theorem K_41L3 (n:Nat) (x):A9 (n+1) x=Yfg C_41 B_41L3 (S_41L3 Ab) x (A9 n):=by
 obtain⟨_,_,_,_⟩:=x
 kernel_rfl
theorem F_41 (a):E_41.run a=Yir C_41 Try.f60 E_41.params E_41.results a λo r=>some (N_41 o r):=by
 kernel_rfl
theorem W_41:XU D_41= [B_41L3]:=by kernel_rfl
theorem Q_41:Qk Try.prog 60 Try.f60 D_41:=⟨Try.func60,by kernel_rfl,by kernel_rfl⟩
theorem H_41:Holds Try.prog 60 E_41:=
 Yi3 tabT mixT Q_41 F_41 rfl ⟨⟨H_40,_,_,Q_40⟩,trivial⟩ W_41 ⟨Yi8 (L:=S_41L3 Ab) K_41L3 (i:=3) (by kernel_rfl),trivial⟩
theorem K_42L17 (n:Nat) (x):As (n+1) x=Yfg C_42 B_42L17 (S_42L17 Ab) x (As n):=by
 obtain⟨_,_,_,_,_,_,_,_,_,_,_,_,_,_,_,_,_,_,_⟩:=x
 kernel_rfl
theorem K_42L14 (n:Nat) (x):Ar (n+1) x=Yfg C_42 B_42L14 (S_42L14 Ab) x (Ar n):=by
 obtain⟨_,_,_,_,_,_,_,_,_,_,_,_,_,_,_⟩:=x
 kernel_rfl
theorem K_42L8 (n:Nat) (x):Ap (n+1) x=Yfg C_42 B_42L8 (S_42L8 Ab) x (Ap n):=by
 obtain⟨_,_,_,_,_,_,_,_,_,_⟩:=x
 kernel_rfl
theorem K_42L3 (n:Nat) (x):Au (n+1) x=Yfg C_42 B_42L3 (S_42L3 Ab) x (Au n):=by
 obtain⟨_,_,_,_,_,_⟩:=x
 kernel_rfl
theorem F_42 (a):E_42.run a=Yir C_42 Try.f47 E_42.params E_42.results a λo r=>some (N_42 o r):=by
 kernel_rfl
theorem W_42:XU D_42= [B_42L3,B_42L8,B_42L14,B_42L17]:=by kernel_rfl
theorem Q_42:Qk Try.prog 47 Try.f47 D_42:=⟨Try.func47,by kernel_rfl,by kernel_rfl⟩
theorem H_42:Holds Try.prog 47 E_42:=
 Yi3 tabT mixT Q_42 F_42 rfl ⟨⟨H_39,_,_,Q_39⟩,⟨⟨H_38,_,_,Q_38⟩,⟨⟨H_41,_,_,Q_41⟩,⟨⟨H_40,_,_,Q_40⟩,trivial⟩⟩⟩⟩ W_42 ⟨Yi8 (L:=S_42L3 Ab) K_42L3 (i:=3) (by kernel_rfl),⟨Yi8 (L:=S_42L8 Ab) K_42L8 (i:=8) (by kernel_rfl),⟨Yi8 (L:=S_42L14 Ab) K_42L14 (i:=14) (by kernel_rfl),⟨Yi8 (L:=S_42L17 Ab) K_42L17 (i:=17) (by kernel_rfl),trivial⟩⟩⟩⟩
theorem F_43 (a):E_43.run a=Yir C_43 Try.f32 E_43.params E_43.results a λo r=>some (N_43 o r):=by
 kernel_rfl
theorem W_43:XU D_43= []:=by kernel_rfl
theorem Q_43:Qk Try.prog 32 Try.f32 D_43:=⟨Try.func32,by kernel_rfl,by kernel_rfl⟩
theorem H_43:Holds Try.prog 32 E_43:=
 Yi3 tabT mixT Q_43 F_43 rfl trivial W_43 trivial
theorem F_44 (a):E_44.run a=Yir C_44 Try.f50 E_44.params E_44.results a λo r=>some (N_44 o r):=by
 kernel_rfl
theorem W_44:XU D_44= []:=by kernel_rfl
theorem Q_44:Qk Try.prog 50 Try.f50 D_44:=⟨Try.func50,by kernel_rfl,by kernel_rfl⟩
theorem H_44:Holds Try.prog 50 E_44:=
 Yi3 tabT mixT Q_44 F_44 rfl trivial W_44 trivial
theorem F_45 (a):E_45.run a=Yir C_45 Try.f49 E_45.params E_45.results a λo r=>some (N_45 o r):=by
 kernel_rfl
theorem W_45:XU D_45= []:=by kernel_rfl
theorem Q_45:Qk Try.prog 49 Try.f49 D_45:=⟨Try.func49,by kernel_rfl,by kernel_rfl⟩
theorem H_45:Holds Try.prog 49 E_45:=
 Yi3 tabT mixT Q_45 F_45 rfl ⟨⟨H_43,_,_,Q_43⟩,⟨⟨H_44,_,_,Q_44⟩,trivial⟩⟩ W_45 trivial
theorem K_46L3 (n:Nat) (x):Bh (n+1) x=Yfg C_46 B_46L3 (S_46L3 Ab) x (Bh n):=by
 obtain⟨_,_,_,_,_⟩:=x
 kernel_rfl
theorem F_46 (a):E_46.run a=Yir C_46 Try.f68 E_46.params E_46.results a λo r=>some (N_46 o r):=by
 kernel_rfl
theorem W_46:XU D_46= [B_46L3]:=by kernel_rfl
theorem Q_46:Qk Try.prog 68 Try.f68 D_46:=⟨Try.func68,by kernel_rfl,by kernel_rfl⟩
theorem H_46:Holds Try.prog 68 E_46:=
 Yi3 tabT mixT Q_46 F_46 rfl trivial W_46 ⟨Yi8 (L:=S_46L3 Ab) K_46L3 (i:=3) (by kernel_rfl),trivial⟩
theorem K_47L2 (n:Nat) (x):Al (n+1) x=Yfg C_47 B_47L2 (S_47L2 Ab) x (Al n):=by
 obtain⟨_,_,_,_⟩:=x
 kernel_rfl
theorem F_47 (a):E_47.run a=Yir C_47 Try.f63 E_47.params E_47.results a λo r=>some (N_47 o r):=by
 kernel_rfl
theorem W_47:XU D_47= [B_47L2]:=by kernel_rfl
theorem Q_47:Qk Try.prog 63 Try.f63 D_47:=⟨Try.func63,by kernel_rfl,by kernel_rfl⟩
theorem H_47:Holds Try.prog 63 E_47:=
 Yi3 tabT mixT Q_47 F_47 rfl ⟨⟨H_40,_,_,Q_40⟩,⟨⟨H_46,_,_,Q_46⟩,trivial⟩⟩ W_47 ⟨Yi8 (L:=S_47L2 Ab) K_47L2 (i:=2) (by kernel_rfl),trivial⟩
theorem K_48L4 (rec:(Int×(List Int)×(Unit×(Int×((Int×(List Int))×Bool)))×(Bool×Int×Int×(List (List ((List Int)×(List ByteArray)))))×(List Int)×Unit)->Option ((List Int)×(Unit×(Int×((Int×(List Int))×Bool)))×(Bool×Int×Int×(List (List ((List Int)×(List ByteArray)))))×(List Int)×Bool)) (n:Nat) (x):Aa rec (n+1) x=Yfg (C_48 rec) B_48L4 (S_48L4 rec Ab) x (Aa rec n):=by
 obtain⟨_,_,_,_,_,_,_⟩:=x
 kernel_rfl
theorem F_48 (rec:(Int×(List Int)×(Unit×(Int×((Int×(List Int))×Bool)))×(Bool×Int×Int×(List (List ((List Int)×(List ByteArray)))))×(List Int)×Unit)->Option ((List Int)×(Unit×(Int×((Int×(List Int))×Bool)))×(Bool×Int×Int×(List (List ((List Int)×(List ByteArray)))))×(List Int)×Bool)) (a:YH [.v .int,.bx (.mv .int 0),.pr (.bx (.v (.fn 32))) (.pr (.bx (.v .int)) (.pr (.bx (.pr (.v .int) (.mv .int 0))) (.bx (.v .bool)))),.bx (.v (.ptr y2)),.bx (.v y1),.jk 1]):Ai rec a.1 a.2.1 a.2.2.1 a.2.2.2.1 a.2.2.2.2.1 a.2.2.2.2.2=Yir (C_48 rec) Try.f62 [.v .int,.bx (.mv .int 0),.pr (.bx (.v (.fn 32))) (.pr (.bx (.v .int)) (.pr (.bx (.pr (.v .int) (.mv .int 0))) (.bx (.v .bool)))),.bx (.v (.ptr y2)),.bx (.v y1),.jk 1] [.v .bool] a (λo r=>some (N_48 o r)):=by
 kernel_rfl
theorem W_48:XU D_48= [B_48L4]:=by kernel_rfl
theorem R_48L4:YZ B_48L4=4:=by kernel_rfl
theorem Q_48:Qk Try.prog 62 Try.f62 D_48:=⟨Try.func62,by kernel_rfl,by kernel_rfl⟩
theorem H_48: ∀d,Holds Try.prog 62 (E_48 d)
 |0=>λ_ b h=>absurd (show(none:Option _)=some b from h) (by simp)
 |d+1=>YgE (en:=E_48 (d+1)) (cx:=(C_48 (Ac d))) (Yhe tabT rfl).1 (Yfz ⟨⟨H_45,_,_,Q_45⟩,⟨⟨H_47,_,_,Q_47⟩,⟨⟨H_48 d,_,_,Q_48⟩,trivial⟩⟩⟩) mixT Q_48.1 Q_48.2.2 (YgL W_48 ⟨YhE (cx:=(C_48 (Ac d))) (L:=S_48L4 (Ac d) Ab) rfl (by rw[R_48L4];rfl) ⟨Aa (Ac d),λ_=>rfl,λn x=>K_48L4 (Ac d) n x,Ab,λ_=>rfl⟩,trivial⟩) (enc:=N_48) (λ_ _=>⟨rfl,rfl⟩) (F_48 (Ac d)) rfl
theorem F_49 (a):E_49.run a=Yir C_49 Try.f48 E_49.params E_49.results a λo r=>some (N_49 o r):=by
 kernel_rfl
theorem W_49:XU D_49= []:=by kernel_rfl
theorem Q_49:Qk Try.prog 48 Try.f48 D_49:=⟨Try.func48,by kernel_rfl,by kernel_rfl⟩
theorem H_49:Holds Try.prog 48 E_49:=
 Yi3 tabT mixT Q_49 F_49 rfl ⟨⟨H_48 Ab,_,_,Q_48⟩,trivial⟩ W_49 trivial
theorem F_50 (a):E_50.run a=Yir C_50 Try.f31 E_50.params E_50.results a λo r=>some (N_50 o r):=by
 kernel_rfl
theorem W_50:XU D_50= []:=by kernel_rfl
theorem Q_50:Qk Try.prog 31 Try.f31 D_50:=⟨Try.func31,by kernel_rfl,by kernel_rfl⟩
theorem H_50:Holds Try.prog 31 E_50:=
 Yi3 tabT mixT Q_50 F_50 rfl ⟨⟨H_42,_,_,Q_42⟩,⟨⟨H_49,_,_,Q_49⟩,trivial⟩⟩ W_50 trivial
theorem K_51L5 (n:Nat) (x):Af (n+1) x=Yfg C_51 B_51L5 (S_51L5 Ab) x (Af n):=by
 obtain⟨_,_,_,_,_,_⟩:=x
 kernel_rfl
theorem F_51 (a):E_51.run a=Yir C_51 Try.f21 E_51.params E_51.results a λo r=>some (N_51 o r):=by
 kernel_rfl
theorem W_51:XU D_51= [B_51L5]:=by kernel_rfl
theorem Q_51:Qk Try.prog 21 Try.f21 D_51:=⟨Try.func21,by kernel_rfl,by kernel_rfl⟩
theorem H_51:Holds Try.prog 21 E_51:=
 Yi3 tabT mixT Q_51 F_51 rfl ⟨⟨H_36,_,_,Q_36⟩,⟨⟨H_37,_,_,Q_37⟩,⟨⟨H_38,_,_,Q_38⟩,⟨⟨H_50,_,_,Q_50⟩,trivial⟩⟩⟩⟩ W_51 ⟨Yi8 (L:=S_51L5 Ab) K_51L5 (i:=5) (by kernel_rfl),trivial⟩
theorem K_52L4 (n:Nat) (x):Bt (n+1) x=Yfg C_52 B_52L4 (S_52L4 Ab) x (Bt n):=by
 obtain⟨_,_,_⟩:=x
 kernel_rfl
theorem F_52 (a):E_52.run a=Yir C_52 Try.f13 E_52.params E_52.results a λo r=>some (N_52 o r):=by
 kernel_rfl
theorem W_52:XU D_52= [B_52L4]:=by kernel_rfl
theorem Q_52:Qk Try.prog 13 Try.f13 D_52:=⟨Try.func13,by kernel_rfl,by kernel_rfl⟩
theorem H_52:Holds Try.prog 13 E_52:=
 Yi3 tabT mixT Q_52 F_52 rfl trivial W_52 ⟨Yi8 (L:=S_52L4 Ab) K_52L4 (i:=4) (by kernel_rfl),trivial⟩
theorem F_53 (a):E_53.run a=Yir C_53 Try.f11 E_53.params E_53.results a λo r=>some (N_53 o r):=by
 kernel_rfl
theorem W_53:XU D_53= []:=by kernel_rfl
theorem Q_53:Qk Try.prog 11 Try.f11 D_53:=⟨Try.func11,by kernel_rfl,by kernel_rfl⟩
theorem H_53:Holds Try.prog 11 E_53:=
 Yi3 tabT mixT Q_53 F_53 rfl ⟨⟨H_52,_,_,Q_52⟩,trivial⟩ W_53 trivial
theorem K_54L4 (n:Nat) (x):Bi (n+1) x=Yfg C_54 B_54L4 (S_54L4 Ab) x (Bi n):=by
 obtain⟨_,_,_⟩:=x
 kernel_rfl
theorem F_54 (a):E_54.run a=Yir C_54 Try.f51 E_54.params E_54.results a λo r=>some (N_54 o r):=by
 kernel_rfl
theorem W_54:XU D_54= [B_54L4]:=by kernel_rfl
theorem Q_54:Qk Try.prog 51 Try.f51 D_54:=⟨Try.func51,by kernel_rfl,by kernel_rfl⟩
theorem H_54:Holds Try.prog 51 E_54:=
 Yi3 tabT mixT Q_54 F_54 rfl ⟨⟨H_52,_,_,Q_52⟩,trivial⟩ W_54 ⟨Yi8 (L:=S_54L4 Ab) K_54L4 (i:=4) (by kernel_rfl),trivial⟩
theorem F_55 (a):E_55.run a=Yir C_55 Try.f33 E_55.params E_55.results a λo r=>some (N_55 o r):=by
 kernel_rfl
theorem W_55:XU D_55= []:=by kernel_rfl
theorem Q_55:Qk Try.prog 33 Try.f33 D_55:=⟨Try.func33,by kernel_rfl,by kernel_rfl⟩
theorem H_55:Holds Try.prog 33 E_55:=
 Yi3 tabT mixT Q_55 F_55 rfl ⟨⟨H_54,_,_,Q_54⟩,trivial⟩ W_55 trivial
theorem K_56L4 (n:Nat) (x):AJ (n+1) x=Yfg C_56 B_56L4 (S_56L4 Ab) x (AJ n):=by
 obtain⟨_,_,_⟩:=x
 kernel_rfl
theorem F_56 (a):E_56.run a=Yir C_56 Try.f12 E_56.params E_56.results a λo r=>some (N_56 o r):=by
 kernel_rfl
theorem W_56:XU D_56= [B_56L4]:=by kernel_rfl
theorem Q_56:Qk Try.prog 12 Try.f12 D_56:=⟨Try.func12,by kernel_rfl,by kernel_rfl⟩
theorem H_56:Holds Try.prog 12 E_56:=
 Yi3 tabT mixT Q_56 F_56 rfl ⟨⟨H_55,_,_,Q_55⟩,trivial⟩ W_56 ⟨Yi8 (L:=S_56L4 Ab) K_56L4 (i:=4) (by kernel_rfl),trivial⟩
theorem K_57L2 (n:Nat) (x):Bc (n+1) x=Yfg C_57 B_57L2 (S_57L2 Ab) x (Bc n):=by
 obtain⟨_,_,_⟩:=x
 kernel_rfl
theorem F_57 (a):E_57.run a=Yir C_57 Try.f15 E_57.params E_57.results a λo r=>some (N_57 o r):=by
 kernel_rfl
theorem W_57:XU D_57= [B_57L2]:=by kernel_rfl
theorem Q_57:Qk Try.prog 15 Try.f15 D_57:=⟨Try.func15,by kernel_rfl,by kernel_rfl⟩
theorem H_57:Holds Try.prog 15 E_57:=
 Yi3 tabT mixT Q_57 F_57 rfl trivial W_57 ⟨Yi8 (L:=S_57L2 Ab) K_57L2 (i:=2) (by kernel_rfl),trivial⟩
theorem K_58L2 (n:Nat) (x):AX (n+1) x=Yfg C_58 B_58L2 (S_58L2 Ab) x (AX n):=by
 obtain⟨_,_,_⟩:=x
 kernel_rfl
theorem F_58 (a):E_58.run a=Yir C_58 Try.f34 E_58.params E_58.results a λo r=>some (N_58 o r):=by
 kernel_rfl
theorem W_58:XU D_58= [B_58L2]:=by kernel_rfl
theorem Q_58:Qk Try.prog 34 Try.f34 D_58:=⟨Try.func34,by kernel_rfl,by kernel_rfl⟩
theorem H_58:Holds Try.prog 34 E_58:=
 Yi3 tabT mixT Q_58 F_58 rfl ⟨⟨H_57,_,_,Q_57⟩,trivial⟩ W_58 ⟨Yi8 (L:=S_58L2 Ab) K_58L2 (i:=2) (by kernel_rfl),trivial⟩
theorem K_59L2 (n:Nat) (x):AA (n+1) x=Yfg C_59 B_59L2 (S_59L2 Ab) x (AA n):=by
 obtain⟨_,_,_⟩:=x
 kernel_rfl
theorem F_59 (a):E_59.run a=Yir C_59 Try.f14 E_59.params E_59.results a λo r=>some (N_59 o r):=by
 kernel_rfl
theorem W_59:XU D_59= [B_59L2]:=by kernel_rfl
theorem Q_59:Qk Try.prog 14 Try.f14 D_59:=⟨Try.func14,by kernel_rfl,by kernel_rfl⟩
theorem H_59:Holds Try.prog 14 E_59:=
 Yi3 tabT mixT Q_59 F_59 rfl ⟨⟨H_58,_,_,Q_58⟩,trivial⟩ W_59 ⟨Yi8 (L:=S_59L2 Ab) K_59L2 (i:=2) (by kernel_rfl),trivial⟩
theorem F_60 (a):E_60.run a=Yir C_60 Try.f16 E_60.params E_60.results a λo r=>some (N_60 o r):=by
 kernel_rfl
theorem W_60:XU D_60= []:=by kernel_rfl
theorem Q_60:Qk Try.prog 16 Try.f16 D_60:=⟨Try.func16,by kernel_rfl,by kernel_rfl⟩
theorem H_60:Holds Try.prog 16 E_60:=
 Yi3 tabT mixT Q_60 F_60 rfl ⟨⟨H_57,_,_,Q_57⟩,trivial⟩ W_60 trivial
theorem K_61L2 (n:Nat) (x):Bb (n+1) x=Yfg C_61 B_61L2 (S_61L2 Ab) x (Bb n):=by
 obtain⟨_,_,_⟩:=x
 kernel_rfl
theorem F_61 (a):E_61.run a=Yir C_61 Try.f35 E_61.params E_61.results a λo r=>some (N_61 o r):=by
 kernel_rfl
theorem W_61:XU D_61= [B_61L2]:=by kernel_rfl
theorem Q_61:Qk Try.prog 35 Try.f35 D_61:=⟨Try.func35,by kernel_rfl,by kernel_rfl⟩
theorem H_61:Holds Try.prog 35 E_61:=
 Yi3 tabT mixT Q_61 F_61 rfl trivial W_61 ⟨Yi8 (L:=S_61L2 Ab) K_61L2 (i:=2) (by kernel_rfl),trivial⟩
theorem F_62 (a):E_62.run a=Yir C_62 Try.f17 E_62.params E_62.results a λo r=>some (N_62 o r):=by
 kernel_rfl
theorem W_62:XU D_62= []:=by kernel_rfl
theorem Q_62:Qk Try.prog 17 Try.f17 D_62:=⟨Try.func17,by kernel_rfl,by kernel_rfl⟩
theorem H_62:Holds Try.prog 17 E_62:=
 Yi3 tabT mixT Q_62 F_62 rfl ⟨⟨H_61,_,_,Q_61⟩,trivial⟩ W_62 trivial
theorem F_63 (a):E_63.run a=Yir C_63 Try.f5 E_63.params E_63.results a λo r=>some (N_63 o r):=by
 kernel_rfl
theorem W_63:XU D_63= []:=by kernel_rfl
theorem Q_63:Qk Try.prog 5 Try.f5 D_63:=⟨Try.func5,by kernel_rfl,by kernel_rfl⟩
theorem H_63:Holds Try.prog 5 E_63:=
 Yi3 tabT mixT Q_63 F_63 rfl ⟨⟨H_4,_,_,Q_4⟩,⟨⟨H_8,_,_,Q_8⟩,⟨⟨H_53,_,_,Q_53⟩,⟨⟨H_56,_,_,Q_56⟩,⟨⟨H_59,_,_,Q_59⟩,⟨⟨H_60,_,_,Q_60⟩,⟨⟨H_62,_,_,Q_62⟩,⟨⟨H_30,_,_,Q_30⟩,⟨⟨H_51,_,_,Q_51⟩,trivial⟩⟩⟩⟩⟩⟩⟩⟩⟩ W_63 trivial
end T
