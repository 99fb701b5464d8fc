/- Each typed function is what the program computes; no conditions. -/
import Derived.Test.YtgeboeaoblppcaaSFnWitnesses
import Derived.Test.YtgeboeaoblppcaaCFnWitnesses
set_option linter.all false
set_option maxRecDepth 10000
open Go Go.Va Go.Proofs
namespace T
theorem F_1 (a):E_1.run a=Yir C_1 Try.f19 E_1.params E_1.results a λo r=>some (N_1 o r):=by
 kernel_rfl
theorem W_1:XU D_1= []:=by kernel_rfl
theorem Q_1:Qk Try.prog 19 Try.f19 D_1:=⟨Try.func19,by kernel_rfl,by kernel_rfl⟩
theorem H_1:Holds Try.prog 19 E_1:=
 Yi3 tabT mixT Q_1 F_1 rfl trivial W_1 trivial
theorem F_2 (a):E_2.run a=Yir C_2 Try.f100 E_2.params E_2.results a λo r=>some (N_2 o r):=by
 kernel_rfl
theorem W_2:XU D_2= []:=by kernel_rfl
theorem Q_2:Qk Try.prog 100 Try.f100 D_2:=⟨Try.func100,by kernel_rfl,by kernel_rfl⟩
theorem H_2:Holds Try.prog 100 E_2:=
 Yi3 tabT mixT Q_2 F_2 rfl trivial W_2 trivial
theorem F_3 (a):E_3.run a=Yir C_3 Try.f86 E_3.params E_3.results a λo r=>some (N_3 o r):=by
 kernel_rfl
theorem W_3:XU D_3= []:=by kernel_rfl
theorem Q_3:Qk Try.prog 86 Try.f86 D_3:=⟨Try.func86,by kernel_rfl,by kernel_rfl⟩
theorem H_3:Holds Try.prog 86 E_3:=
 Yi3 tabT mixT Q_3 F_3 rfl ⟨⟨H_2,_,_,Q_2⟩,trivial⟩ W_3 trivial
theorem F_4 (a):E_4.run a=Yir C_4 Try.f85 E_4.params E_4.results a λo r=>some (N_4 o r):=by
 kernel_rfl
theorem W_4:XU D_4= []:=by kernel_rfl
theorem Q_4:Qk Try.prog 85 Try.f85 D_4:=⟨Try.func85,by kernel_rfl,by kernel_rfl⟩
theorem H_4:Holds Try.prog 85 E_4:=
 Yi3 tabT mixT Q_4 F_4 rfl ⟨⟨H_3,_,_,Q_3⟩,trivial⟩ W_4 trivial
theorem K_5L2 (n:Nat) (x):B4 (n+1) x=Yfg C_5 B_5L2 (S_5L2 Aa) x (B4 n):=by
 obtain⟨_,_,_⟩:=x
 kernel_rfl
theorem F_5 (a):E_5.run a=Yir C_5 Try.f62 E_5.params E_5.results a λo r=>some (N_5 o r):=by
 kernel_rfl
theorem W_5:XU D_5= [B_5L2]:=by kernel_rfl
theorem Q_5:Qk Try.prog 62 Try.f62 D_5:=⟨Try.func62,by kernel_rfl,by kernel_rfl⟩
theorem H_5:Holds Try.prog 62 E_5:=
 Yi3 tabT mixT Q_5 F_5 rfl trivial W_5 ⟨Yi8 (L:=S_5L2 Aa) K_5L2 (i:=2) (by kernel_rfl),trivial⟩
theorem K_6L4 (n:Nat) (x):B1 (n+1) x=Yfg C_6 B_6L4 (S_6L4 Aa) x (B1 n):=by
 obtain⟨_,_,_⟩:=x
 kernel_rfl
theorem F_6 (a):E_6.run a=Yir C_6 Try.f93 E_6.params E_6.results a λo r=>some (N_6 o r):=by
 kernel_rfl
theorem W_6:XU D_6= [B_6L4]:=by kernel_rfl
theorem Q_6:Qk Try.prog 93 Try.f93 D_6:=⟨Try.func93,by kernel_rfl,by kernel_rfl⟩
theorem H_6:Holds Try.prog 93 E_6:=
 Yi3 tabT mixT Q_6 F_6 rfl trivial W_6 ⟨Yi8 (L:=S_6L4 Aa) K_6L4 (i:=4) (by kernel_rfl),trivial⟩
theorem K_7L2 (n:Nat) (x):BK (n+1) x=Yfg C_7 B_7L2 (S_7L2 Aa) x (BK n):=by
 obtain⟨_,_,_,_⟩:=x
 kernel_rfl
theorem F_7 (a):E_7.run a=Yir C_7 Try.f66 E_7.params E_7.results a λo r=>some (N_7 o r):=by
 kernel_rfl
theorem W_7:XU D_7= [B_7L2]:=by kernel_rfl
theorem Q_7:Qk Try.prog 66 Try.f66 D_7:=⟨Try.func66,by kernel_rfl,by kernel_rfl⟩
theorem H_7:Holds Try.prog 66 E_7:=
 Yi3 tabT mixT Q_7 F_7 rfl ⟨⟨H_5,_,_,Q_5⟩,⟨⟨H_6,_,_,Q_6⟩,trivial⟩⟩ W_7 ⟨Yi8 (L:=S_7L2 Aa) K_7L2 (i:=2) (by kernel_rfl),trivial⟩
theorem F_8 (a):E_8.run a=Yir C_8 Try.f67 E_8.params E_8.results a λo r=>some (N_8 o r):=by
 kernel_rfl
theorem W_8:XU D_8= []:=by kernel_rfl
theorem Q_8:Qk Try.prog 67 Try.f67 D_8:=⟨Try.func67,by kernel_rfl,by kernel_rfl⟩
theorem H_8:Holds Try.prog 67 E_8:=
 Yi3 tabT mixT Q_8 F_8 rfl ⟨⟨H_7,_,_,Q_7⟩,trivial⟩ W_8 trivial
theorem F_9 (a):E_9.run a=Yir C_9 Try.f56 E_9.params E_9.results a λo r=>some (N_9 o r):=by
 kernel_rfl
theorem W_9:XU D_9= []:=by kernel_rfl
theorem Q_9:Qk Try.prog 56 Try.f56 D_9:=⟨Try.func56,by kernel_rfl,by kernel_rfl⟩
theorem H_9:Holds Try.prog 56 E_9:=
 Yi3 tabT mixT Q_9 F_9 rfl ⟨⟨H_3,_,_,Q_3⟩,trivial⟩ W_9 trivial
theorem K_10L3 (n:Nat) (x):Bp (n+1) x=Yfg C_10 B_10L3 (S_10L3 Aa) x (Bp n):=by
 obtain⟨_,_,_,_⟩:=x
 kernel_rfl
theorem F_10 (a):E_10.run a=Yir C_10 Try.f57 E_10.params E_10.results a λo r=>some (N_10 o r):=by
 kernel_rfl
theorem W_10:XU D_10= [B_10L3]:=by kernel_rfl
theorem Q_10:Qk Try.prog 57 Try.f57 D_10:=⟨Try.func57,by kernel_rfl,by kernel_rfl⟩
theorem H_10:Holds Try.prog 57 E_10:=
 Yi3 tabT mixT Q_10 F_10 rfl trivial W_10 ⟨Yi8 (L:=S_10L3 Aa) K_10L3 (i:=3) (by kernel_rfl),trivial⟩
theorem F_11 (a):E_11.run a=Yir C_11 Try.f87 E_11.params E_11.results a λo r=>some (N_11 o r):=by
 kernel_rfl
theorem W_11:XU D_11= []:=by kernel_rfl
theorem Q_11:Qk Try.prog 87 Try.f87 D_11:=⟨Try.func87,by kernel_rfl,by kernel_rfl⟩
theorem H_11:Holds Try.prog 87 E_11:=
 Yi3 tabT mixT Q_11 F_11 rfl trivial W_11 trivial
theorem F_12 (a):E_12.run a=Yir C_12 Try.f92 E_12.params E_12.results a λo r=>some (N_12 o r):=by
 kernel_rfl
theorem W_12:XU D_12= []:=by kernel_rfl
theorem Q_12:Qk Try.prog 92 Try.f92 D_12:=⟨Try.func92,by kernel_rfl,by kernel_rfl⟩
theorem H_12:Holds Try.prog 92 E_12:=
 Yi3 tabT mixT Q_12 F_12 rfl trivial W_12 trivial
theorem K_13L3 (n:Nat) (x):C3 (n+1) x=Yfg C_13 B_13L3 (S_13L3 Aa) x (C3 n):=by
 obtain⟨_,_,_⟩:=x
 kernel_rfl
theorem F_13 (a):E_13.run a=Yir C_13 Try.f63 E_13.params E_13.results a λo r=>some (N_13 o r):=by
 kernel_rfl
theorem W_13:XU D_13= [B_13L3]:=by kernel_rfl
theorem Q_13:Qk Try.prog 63 Try.f63 D_13:=⟨Try.func63,by kernel_rfl,by kernel_rfl⟩
theorem H_13:Holds Try.prog 63 E_13:=
 Yi3 tabT mixT Q_13 F_13 rfl ⟨⟨H_12,_,_,Q_12⟩,trivial⟩ W_13 ⟨Yi8 (L:=S_13L3 Aa) K_13L3 (i:=3) (by kernel_rfl),trivial⟩
theorem F_14 (a):E_14.run a=Yir C_14 Try.f64 E_14.params E_14.results a λo r=>some (N_14 o r):=by
 kernel_rfl
theorem W_14:XU D_14= []:=by kernel_rfl
theorem Q_14:Qk Try.prog 64 Try.f64 D_14:=⟨Try.func64,by kernel_rfl,by kernel_rfl⟩
theorem H_14:Holds Try.prog 64 E_14:=
 Yi3 tabT mixT Q_14 F_14 rfl trivial W_14 trivial
theorem K_15L7 (n:Nat) (x):Ck (n+1) x=Yfg C_15 B_15L7 (S_15L7 Aa) x (Ck n):=by
 obtain⟨_,_,_,_,_,_,_,_⟩:=x
 kernel_rfl
theorem K_15L3 (n:Nat) (x):Bz (n+1) x=Yfg C_15 B_15L3 (S_15L3 Aa) x (Bz n):=by
 obtain⟨_,_,_,_,_,_⟩:=x
 kernel_rfl
theorem F_15 (a):E_15.run a=Yir C_15 Try.f65 E_15.params E_15.results a λo r=>some (N_15 o r):=by
 kernel_rfl
theorem W_15:XU D_15= [B_15L3,B_15L7]:=by kernel_rfl
theorem Q_15:Qk Try.prog 65 Try.f65 D_15:=⟨Try.func65,by kernel_rfl,by kernel_rfl⟩
theorem H_15:Holds Try.prog 65 E_15:=
 Yi3 tabT mixT Q_15 F_15 rfl trivial W_15 ⟨Yi8 (L:=S_15L3 Aa) K_15L3 (i:=3) (by kernel_rfl),⟨Yi8 (L:=S_15L7 Aa) K_15L7 (i:=7) (by kernel_rfl),trivial⟩⟩
theorem K_16L2 (n:Nat) (x):Ci (n+1) x=Yfg C_16 B_16L2 (S_16L2 Aa) x (Ci n):=by
 obtain⟨_,_,_⟩:=x
 kernel_rfl
theorem F_16 (a):E_16.run a=Yir C_16 Try.f68 E_16.params E_16.results a λo r=>some (N_16 o r):=by
 kernel_rfl
theorem W_16:XU D_16= [B_16L2]:=by kernel_rfl
theorem Q_16:Qk Try.prog 68 Try.f68 D_16:=⟨Try.func68,by kernel_rfl,by kernel_rfl⟩
theorem H_16:Holds Try.prog 68 E_16:=
 Yi3 tabT mixT Q_16 F_16 rfl trivial W_16 ⟨Yi8 (L:=S_16L2 Aa) K_16L2 (i:=2) (by kernel_rfl),trivial⟩
theorem K_17L3 (n:Nat) (x):Dp (n+1) x=Yfg C_17 B_17L3 (S_17L3 Aa) x (Dp n):=by
 obtain⟨_,_,_,_⟩:=x
 kernel_rfl
theorem F_17 (a):E_17.run a=Yir C_17 Try.f69 E_17.params E_17.results a λo r=>some (N_17 o r):=by
 kernel_rfl
theorem W_17:XU D_17= [B_17L3]:=by kernel_rfl
theorem Q_17:Qk Try.prog 69 Try.f69 D_17:=⟨Try.func69,by kernel_rfl,by kernel_rfl⟩
theorem H_17:Holds Try.prog 69 E_17:=
 Yi3 tabT mixT Q_17 F_17 rfl trivial W_17 ⟨Yi8 (L:=S_17L3 Aa) K_17L3 (i:=3) (by kernel_rfl),trivial⟩
theorem K_18L3 (n:Nat) (x):B5 (n+1) x=Yfg C_18 B_18L3 (S_18L3 Aa) x (B5 n):=by
 obtain⟨_,_,_⟩:=x
 kernel_rfl
theorem F_18 (a):E_18.run a=Yir C_18 Try.f70 E_18.params E_18.results a λo r=>some (N_18 o r):=by
 kernel_rfl
theorem W_18:XU D_18= [B_18L3]:=by kernel_rfl
theorem Q_18:Qk Try.prog 70 Try.f70 D_18:=⟨Try.func70,by kernel_rfl,by kernel_rfl⟩
theorem H_18:Holds Try.prog 70 E_18:=
 Yi3 tabT mixT Q_18 F_18 rfl ⟨⟨H_14,_,_,Q_14⟩,trivial⟩ W_18 ⟨Yi8 (L:=S_18L3 Aa) K_18L3 (i:=3) (by kernel_rfl),trivial⟩
theorem F_19 (a):E_19.run a=Yir C_19 Try.f67 E_19.params E_19.results a λo r=>some (N_19 o r):=by
 kernel_rfl
theorem W_19:XU D_19= []:=by kernel_rfl
theorem Q_19:Qk Try.prog 67 Try.f67 D_19:=⟨Try.func67,by kernel_rfl,by kernel_rfl⟩
theorem H_19:Holds Try.prog 67 E_19:=
 Yi3 tabT mixT Q_19 F_19 rfl ⟨⟨H_7,_,_,Q_7⟩,trivial⟩ W_19 trivial
theorem K_20L3 (n:Nat) (x):Bv (n+1) x=Yfg C_20 B_20L3 (S_20L3 Aa) x (Bv n):=by
 obtain⟨_,_,_,_⟩:=x
 kernel_rfl
theorem F_20 (a):E_20.run a=Yir C_20 Try.f69 E_20.params E_20.results a λo r=>some (N_20 o r):=by
 kernel_rfl
theorem W_20:XU D_20= [B_20L3]:=by kernel_rfl
theorem Q_20:Qk Try.prog 69 Try.f69 D_20:=⟨Try.func69,by kernel_rfl,by kernel_rfl⟩
theorem H_20:Holds Try.prog 69 E_20:=
 Yi3 tabT mixT Q_20 F_20 rfl trivial W_20 ⟨Yi8 (L:=S_20L3 Aa) K_20L3 (i:=3) (by kernel_rfl),trivial⟩
theorem K_21L4 (n:Nat) (x):BA (n+1) x=Yfg C_21 B_21L4 (S_21L4 Aa) x (BA n):=by
 obtain⟨_,_,_,_,_,_,_,_⟩:=x
 kernel_rfl
theorem K_21L8 (n:Nat) (x):BR (n+1) x=Yfg C_21 B_21L8 (S_21L8 Aa) x (BR n):=by
 obtain⟨_,_,_,_,_,_,_⟩:=x
 kernel_rfl
theorem K_21L13 (n:Nat) (x):Bd (n+1) x=Yfg C_21 B_21L13 (S_21L13 Aa) x (Bd n):=by
 obtain⟨_,_,_,_,_,_,_⟩:=x
 kernel_rfl
theorem K_21L26 (n:Nat) (x):Aw (n+1) x=Yfg C_21 B_21L26 (S_21L26 Aa) x (Aw n):=by
 obtain⟨_,_,_,_,_,_,_,_,_⟩:=x
 kernel_rfl
theorem K_21L23 (n:Nat) (x):Bq (n+1) x=Yfg C_21 B_21L23 (S_21L23 Aa) x (Bq n):=by
 obtain⟨_,_,_,_,_,_,_⟩:=x
 kernel_rfl
theorem K_21L20 (n:Nat) (x):A7 (n+1) x=Yfg C_21 B_21L20 (S_21L20 Aa) x (A7 n):=by
 obtain⟨_,_,_,_,_,_⟩:=x
 kernel_rfl
theorem F_21 (a):E_21.run a=Yir C_21 Try.f31 E_21.params E_21.results a λo r=>some (N_21 o r):=by
 kernel_rfl
theorem W_21:XU D_21= [B_21L4,B_21L8,B_21L13,B_21L20,B_21L23,B_21L26]:=by kernel_rfl
theorem Q_21:Qk Try.prog 31 Try.f31 D_21:=⟨Try.func31,by kernel_rfl,by kernel_rfl⟩
theorem H_21:Holds Try.prog 31 E_21:=
 Yi3 tabT mixT Q_21 F_21 rfl ⟨⟨H_13,_,_,Q_13⟩,⟨⟨H_14,_,_,Q_14⟩,⟨⟨H_15,_,_,Q_15⟩,⟨⟨H_7,_,_,Q_7⟩,⟨⟨H_19,_,_,Q_19⟩,⟨⟨H_16,_,_,Q_16⟩,⟨⟨H_20,_,_,Q_20⟩,⟨⟨H_18,_,_,Q_18⟩,trivial⟩⟩⟩⟩⟩⟩⟩⟩ W_21 ⟨Yi8 (L:=S_21L4 Aa) K_21L4 (i:=4) (by kernel_rfl),⟨Yi8 (L:=S_21L8 Aa) K_21L8 (i:=8) (by kernel_rfl),⟨Yi8 (L:=S_21L13 Aa) K_21L13 (i:=13) (by kernel_rfl),⟨Yi8 (L:=S_21L20 Aa) K_21L20 (i:=20) (by kernel_rfl),⟨Yi8 (L:=S_21L23 Aa) K_21L23 (i:=23) (by kernel_rfl),⟨Yi8 (L:=S_21L26 Aa) K_21L26 (i:=26) (by kernel_rfl),trivial⟩⟩⟩⟩⟩⟩
theorem K_22L4 (n:Nat) (x):Bi (n+1) x=Yfg C_22 B_22L4 (S_22L4 Aa) x (Bi n):=by
 obtain⟨_,_,_,_,_,_,_,_⟩:=x
 kernel_rfl
theorem K_22L8 (n:Nat) (x):BB (n+1) x=Yfg C_22 B_22L8 (S_22L8 Aa) x (BB n):=by
 obtain⟨_,_,_,_,_,_,_,_⟩:=x
 kernel_rfl
theorem K_22L13 (n:Nat) (x):AU (n+1) x=Yfg C_22 B_22L13 (S_22L13 Aa) x (AU n):=by
 obtain⟨_,_,_,_,_,_,_,_⟩:=x
 kernel_rfl
theorem K_22L26 (n:Nat) (x):Ap (n+1) x=Yfg C_22 B_22L26 (S_22L26 Aa) x (Ap n):=by
 obtain⟨_,_,_,_,_,_,_,_,_,_⟩:=x
 kernel_rfl
theorem K_22L23 (n:Nat) (x):Be (n+1) x=Yfg C_22 B_22L23 (S_22L23 Aa) x (Be n):=by
 obtain⟨_,_,_,_,_,_,_,_⟩:=x
 kernel_rfl
theorem K_22L20 (n:Nat) (x):AO (n+1) x=Yfg C_22 B_22L20 (S_22L20 Aa) x (AO n):=by
 obtain⟨_,_,_,_,_,_,_⟩:=x
 kernel_rfl
theorem F_22 (a):E_22.run a=Yir C_22 Try.f31 E_22.params E_22.results a λo r=>some (N_22 o r):=by
 kernel_rfl
theorem W_22:XU D_22= [B_22L4,B_22L8,B_22L13,B_22L20,B_22L23,B_22L26]:=by kernel_rfl
theorem Q_22:Qk Try.prog 31 Try.f31 D_22:=⟨Try.func31,by kernel_rfl,by kernel_rfl⟩
theorem H_22:Holds Try.prog 31 E_22:=
 Yi3 tabT mixT Q_22 F_22 rfl ⟨⟨H_13,_,_,Q_13⟩,⟨⟨H_14,_,_,Q_14⟩,⟨⟨H_15,_,_,Q_15⟩,⟨⟨H_7,_,_,Q_7⟩,⟨⟨H_19,_,_,Q_19⟩,⟨⟨H_16,_,_,Q_16⟩,⟨⟨H_20,_,_,Q_20⟩,⟨⟨H_18,_,_,Q_18⟩,trivial⟩⟩⟩⟩⟩⟩⟩⟩ W_22 ⟨Yi8 (L:=S_22L4 Aa) K_22L4 (i:=4) (by kernel_rfl),⟨Yi8 (L:=S_22L8 Aa) K_22L8 (i:=8) (by kernel_rfl),⟨Yi8 (L:=S_22L13 Aa) K_22L13 (i:=13) (by kernel_rfl),⟨Yi8 (L:=S_22L20 Aa) K_22L20 (i:=20) (by kernel_rfl),⟨Yi8 (L:=S_22L23 Aa) K_22L23 (i:=23) (by kernel_rfl),⟨Yi8 (L:=S_22L26 Aa) K_22L26 (i:=26) (by kernel_rfl),trivial⟩⟩⟩⟩⟩⟩
theorem K_23L10 (n:Nat) (x):AY (n+1) x=Yfg C_23 B_23L10 (S_23L10 Aa) x (AY n):=by
 obtain⟨_,_,_,_,_,_,_⟩:=x
 kernel_rfl
theorem K_23L6 (n:Nat) (x):AA (n+1) x=Yfg C_23 B_23L6 (S_23L6 Aa) x (AA n):=by
 obtain⟨_,_,_,_,_⟩:=x
 kernel_rfl
theorem F_23 (a):E_23.run a=Yir C_23 Try.f53 E_23.params E_23.results a λo r=>some (N_23 o r):=by
 kernel_rfl
theorem W_23:XU D_23= [B_23L6,B_23L10]:=by kernel_rfl
theorem Q_23:Qk Try.prog 53 Try.f53 D_23:=⟨Try.func53,by kernel_rfl,by kernel_rfl⟩
theorem H_23:Holds Try.prog 53 E_23:=
 Yi3 tabT mixT Q_23 F_23 rfl ⟨⟨H_22,_,_,Q_22⟩,⟨⟨H_9,_,_,Q_9⟩,⟨⟨H_10,_,_,Q_10⟩,⟨⟨H_19,_,_,Q_19⟩,⟨⟨H_4,_,_,Q_4⟩,⟨⟨H_3,_,_,Q_3⟩,⟨⟨H_11,_,_,Q_11⟩,trivial⟩⟩⟩⟩⟩⟩⟩ W_23 ⟨Yi8 (L:=S_23L6 Aa) K_23L6 (i:=6) (by kernel_rfl),⟨Yi8 (L:=S_23L10 Aa) K_23L10 (i:=10) (by kernel_rfl),trivial⟩⟩
theorem F_24 (a):E_24.run a=Yir C_24 Try.f43 E_24.params E_24.results a λo r=>some (N_24 o r):=by
 kernel_rfl
theorem W_24:XU D_24= []:=by kernel_rfl
theorem Q_24:Qk Try.prog 43 Try.f43 D_24:=⟨Try.func43,by kernel_rfl,by kernel_rfl⟩
theorem H_24:Holds Try.prog 43 E_24:=
 Yi3 tabT mixT Q_24 F_24 rfl ⟨⟨H_23,_,_,Q_23⟩,trivial⟩ W_24 trivial
theorem F_25 (a):E_25.run a=Yir C_25 Try.f20 E_25.params E_25.results a λo r=>some (N_25 o r):=by
 kernel_rfl
theorem W_25:XU D_25= []:=by kernel_rfl
theorem Q_25:Qk Try.prog 20 Try.f20 D_25:=⟨Try.func20,by kernel_rfl,by kernel_rfl⟩
theorem H_25:Holds Try.prog 20 E_25:=
 Yi3 tabT mixT Q_25 F_25 rfl ⟨⟨H_24,_,_,Q_24⟩,trivial⟩ W_25 trivial
theorem F_26 (a):E_26.run a=Yir C_26 Try.f48 E_26.params E_26.results a λo r=>some (N_26 o r):=by
 kernel_rfl
theorem W_26:XU D_26= []:=by kernel_rfl
theorem Q_26:Qk Try.prog 48 Try.f48 D_26:=⟨Try.func48,by kernel_rfl,by kernel_rfl⟩
theorem H_26:Holds Try.prog 48 E_26:=
 Yi3 tabT mixT Q_26 F_26 rfl trivial W_26 trivial
theorem K_27L2 (n:Nat) (x):BX (n+1) x=Yfg C_27 B_27L2 (S_27L2 Aa) x (BX n):=by
 obtain⟨_,_,_,_⟩:=x
 kernel_rfl
theorem F_27 (a):E_27.run a=Yir C_27 Try.f71 E_27.params E_27.results a λo r=>some (N_27 o r):=by
 kernel_rfl
theorem W_27:XU D_27= [B_27L2]:=by kernel_rfl
theorem Q_27:Qk Try.prog 71 Try.f71 D_27:=⟨Try.func71,by kernel_rfl,by kernel_rfl⟩
theorem H_27:Holds Try.prog 71 E_27:=
 Yi3 tabT mixT Q_27 F_27 rfl trivial W_27 ⟨Yi8 (L:=S_27L2 Aa) K_27L2 (i:=2) (by kernel_rfl),trivial⟩
theorem K_28L2 (n:Nat) (x):AW (n+1) x=Yfg C_28 B_28L2 (S_28L2 Aa) x (AW n):=by
 obtain⟨_,_,_⟩:=x
 kernel_rfl
theorem F_28 (a):E_28.run a=Yir C_28 Try.f47 E_28.params E_28.results a λo r=>some (N_28 o r):=by
 kernel_rfl
theorem W_28:XU D_28= [B_28L2]:=by kernel_rfl
theorem Q_28:Qk Try.prog 47 Try.f47 D_28:=⟨Try.func47,by kernel_rfl,by kernel_rfl⟩
theorem H_28:Holds Try.prog 47 E_28:=
 Yi3 tabT mixT Q_28 F_28 rfl trivial W_28 ⟨Yi8 (L:=S_28L2 Aa) K_28L2 (i:=2) (by kernel_rfl),trivial⟩
theorem K_29L4 (n:Nat) (x):Bb (n+1) x=Yfg C_29 B_29L4 (S_29L4 Aa) x (Bb n):=by
 obtain⟨_,_,_,_,_,_⟩:=x
 kernel_rfl
theorem F_29 (a):E_29.run a=Yir C_29 Try.f33 E_29.params E_29.results a λo r=>some (N_29 o r):=by
 kernel_rfl
theorem W_29:XU D_29= [B_29L4]:=by kernel_rfl
theorem Q_29:Qk Try.prog 33 Try.f33 D_29:=⟨Try.func33,by kernel_rfl,by kernel_rfl⟩
theorem H_29:Holds Try.prog 33 E_29:=
 Yi3 tabT mixT Q_29 F_29 rfl ⟨⟨H_28,_,_,Q_28⟩,⟨⟨H_26,_,_,Q_26⟩,⟨⟨H_27,_,_,Q_27⟩,trivial⟩⟩⟩ W_29 ⟨Yi8 (L:=S_29L4 Aa) K_29L4 (i:=4) (by kernel_rfl),trivial⟩
theorem K_30L4 (n:Nat) (x):BG (n+1) x=Yfg C_30 B_30L4 (S_30L4 Aa) x (BG n):=by
 obtain⟨_,_,_,_⟩:=x
 kernel_rfl
theorem F_30 (a):E_30.run a=Yir C_30 Try.f74 E_30.params E_30.results a λo r=>some (N_30 o r):=by
 kernel_rfl
theorem W_30:XU D_30= [B_30L4]:=by kernel_rfl
theorem Q_30:Qk Try.prog 74 Try.f74 D_30:=⟨Try.func74,by kernel_rfl,by kernel_rfl⟩
theorem H_30:Holds Try.prog 74 E_30:=
 Yi3 tabT mixT Q_30 F_30 rfl trivial W_30 ⟨Yi8 (L:=S_30L4 Aa) K_30L4 (i:=4) (by kernel_rfl),trivial⟩
theorem F_31 (a):E_31.run a=Yir C_31 Try.f82 E_31.params E_31.results a λo r=>some (N_31 o r):=by
 kernel_rfl
theorem W_31:XU D_31= []:=by kernel_rfl
theorem Q_31:Qk Try.prog 82 Try.f82 D_31:=⟨Try.func82,by kernel_rfl,by kernel_rfl⟩
theorem H_31:Holds Try.prog 82 E_31:=
 Yi3 tabT mixT Q_31 F_31 rfl trivial W_31 trivial
theorem K_32L3 (n:Nat) (x):Bh (n+1) x=Yfg C_32 B_32L3 (S_32L3 Aa) x (Bh n):=by
 obtain⟨_,_,_,_⟩:=x
 kernel_rfl
theorem F_32 (a):E_32.run a=Yir C_32 Try.f75 E_32.params E_32.results a λo r=>some (N_32 o r):=by
 kernel_rfl
theorem W_32:XU D_32= [B_32L3]:=by kernel_rfl
theorem Q_32:Qk Try.prog 75 Try.f75 D_32:=⟨Try.func75,by kernel_rfl,by kernel_rfl⟩
theorem H_32:Holds Try.prog 75 E_32:=
 Yi3 tabT mixT Q_32 F_32 rfl ⟨⟨H_31,_,_,Q_31⟩,trivial⟩ W_32 ⟨Yi8 (L:=S_32L3 Aa) K_32L3 (i:=3) (by kernel_rfl),trivial⟩
theorem Q_33:Qk Try.prog 46 Try.f46 D_33:=⟨Try.func46,by kernel_rfl,by kernel_rfl⟩
theorem H_33:Holds Try.prog 46 E_33:=Go.Proofs.H_sort_cmpL 1
theorem F_34 (a):E_34.run a=Yir C_34 Try.f42 E_34.params E_34.results a λo r=>some (N_34 o r):=by
 kernel_rfl
theorem W_34:XU D_34= []:=by kernel_rfl
theorem Q_34:Qk Try.prog 42 Try.f42 D_34:=⟨Try.func42,by kernel_rfl,by kernel_rfl⟩
theorem H_34:Holds Try.prog 42 E_34:=
 Yi3 tabT mixT Q_34 F_34 rfl ⟨⟨H_32,_,_,Q_32⟩,⟨⟨H_33,_,_,Q_33⟩,trivial⟩⟩ W_34 trivial
theorem Q_35:Qk Try.prog 41 Try.f41 D_35:=⟨Try.func41,by kernel_rfl,by kernel_rfl⟩
theorem H_35:Holds Try.prog 41 E_35:=Go.Proofs.H_diff 1
theorem F_36 (a):E_36.run a=Yir C_36 Try.f40 E_36.params E_36.results a λo r=>some (N_36 o r):=by
 kernel_rfl
theorem W_36:XU D_36= []:=by kernel_rfl
theorem Q_36:Qk Try.prog 40 Try.f40 D_36:=⟨Try.func40,by kernel_rfl,by kernel_rfl⟩
theorem H_36:Holds Try.prog 40 E_36:=
 Yi3 tabT mixT Q_36 F_36 rfl trivial W_36 trivial
theorem K_37L7 (n:Nat) (x):Ac (n+1) x=Yfg C_37 B_37L7 (S_37L7 Aa) x (Ac n):=by
 obtain⟨_,_,_,_,_,_,_⟩:=x
 kernel_rfl
theorem K_37L15 (n:Nat) (x):Al (n+1) x=Yfg C_37 B_37L15 (S_37L15 Aa) x (Al n):=by
 obtain⟨_,_,_,_,_,_,_,_,_,_,_,_,_⟩:=x
 kernel_rfl
theorem K_37L12 (n:Nat) (x):Ak (n+1) x=Yfg C_37 B_37L12 (S_37L12 Aa) x (Ak n):=by
 obtain⟨_,_,_,_,_,_,_,_,_⟩:=x
 kernel_rfl
theorem K_37L4 (n:Nat) (x):Ai (n+1) x=Yfg C_37 B_37L4 (S_37L4 Aa) x (Ai n):=by
 obtain⟨_,_,_,_,_⟩:=x
 kernel_rfl
theorem K_37L1 (n:Nat) (x):Ah (n+1) x=Yfg C_37 B_37L1 (S_37L1 Aa) x (Ah n):=by
 obtain⟨_,_,_,_⟩:=x
 kernel_rfl
theorem F_37 (a):E_37.run a=Yir C_37 Try.f39 E_37.params E_37.results a λo r=>some (N_37 o r):=by
 kernel_rfl
theorem W_37:XU D_37= [B_37L1,B_37L4,B_37L7,B_37L12,B_37L15]:=by kernel_rfl
theorem Q_37:Qk Try.prog 39 Try.f39 D_37:=⟨Try.func39,by kernel_rfl,by kernel_rfl⟩
theorem H_37:Holds Try.prog 39 E_37:=
 Yi3 tabT mixT Q_37 F_37 rfl ⟨⟨H_36,_,_,Q_36⟩,⟨⟨H_30,_,_,Q_30⟩,trivial⟩⟩ W_37 ⟨Yi8 (L:=S_37L1 Aa) K_37L1 (i:=1) (by kernel_rfl),⟨Yi8 (L:=S_37L4 Aa) K_37L4 (i:=4) (by kernel_rfl),⟨Yi8 (L:=S_37L7 Aa) K_37L7 (i:=7) (by kernel_rfl),⟨Yi8 (L:=S_37L12 Aa) K_37L12 (i:=12) (by kernel_rfl),⟨Yi8 (L:=S_37L15 Aa) K_37L15 (i:=15) (by kernel_rfl),trivial⟩⟩⟩⟩⟩
theorem F_38 (a):E_38.run a=Yir C_38 Try.f18 E_38.params E_38.results a λo r=>some (N_38 o r):=by
 kernel_rfl
theorem W_38:XU D_38= []:=by kernel_rfl
theorem Q_38:Qk Try.prog 18 Try.f18 D_38:=⟨Try.func18,by kernel_rfl,by kernel_rfl⟩
theorem H_38:Holds Try.prog 18 E_38:=
 Yi3 tabT mixT Q_38 F_38 rfl ⟨⟨H_29,_,_,Q_29⟩,⟨⟨H_35,_,_,Q_35⟩,⟨⟨H_34,_,_,Q_34⟩,⟨⟨H_37,_,_,Q_37⟩,trivial⟩⟩⟩⟩ W_38 trivial
theorem F_39 (a):E_39.run a=Yir C_39 Try.f59 E_39.params E_39.results a λo r=>some (N_39 o r):=by
 kernel_rfl
theorem W_39:XU D_39= []:=by kernel_rfl
theorem Q_39:Qk Try.prog 59 Try.f59 D_39:=⟨Try.func59,by kernel_rfl,by kernel_rfl⟩
theorem H_39:Holds Try.prog 59 E_39:=
 Yi3 tabT mixT Q_39 F_39 rfl trivial W_39 trivial
theorem F_40 (a):E_40.run a=Yir C_40 Try.f55 E_40.params E_40.results a λo r=>some (N_40 o r):=by
 kernel_rfl
theorem W_40:XU D_40= []:=by kernel_rfl
theorem Q_40:Qk Try.prog 55 Try.f55 D_40:=⟨Try.func55,by kernel_rfl,by kernel_rfl⟩
theorem H_40:Holds Try.prog 55 E_40:=
 Yi3 tabT mixT Q_40 F_40 rfl ⟨⟨H_39,_,_,Q_39⟩,trivial⟩ W_40 trivial
theorem K_41L2 (n:Nat) (x):CN (n+1) x=Yfg C_41 B_41L2 (S_41L2 Aa) x (CN n):=by
 obtain⟨_,_,_⟩:=x
 kernel_rfl
theorem F_41 (a):E_41.run a=Yir C_41 Try.f60 E_41.params E_41.results a λo r=>some (N_41 o r):=by
 kernel_rfl
theorem W_41:XU D_41= [B_41L2]:=by kernel_rfl
theorem Q_41:Qk Try.prog 60 Try.f60 D_41:=⟨Try.func60,by kernel_rfl,by kernel_rfl⟩
theorem H_41:Holds Try.prog 60 E_41:=
 Yi3 tabT mixT Q_41 F_41 rfl trivial W_41 ⟨Yi8 (L:=S_41L2 Aa) K_41L2 (i:=2) (by kernel_rfl),trivial⟩
theorem K_42L2 (n:Nat) (x):Bu (n+1) x=Yfg C_42 B_42L2 (S_42L2 Aa) x (Bu n):=by
 obtain⟨_,_,_⟩:=x
 kernel_rfl
theorem F_42 (a):E_42.run a=Yir C_42 Try.f91 E_42.params E_42.results a λo r=>some (N_42 o r):=by
 kernel_rfl
theorem W_42:XU D_42= [B_42L2]:=by kernel_rfl
theorem Q_42:Qk Try.prog 91 Try.f91 D_42:=⟨Try.func91,by kernel_rfl,by kernel_rfl⟩
theorem H_42:Holds Try.prog 91 E_42:=
 Yi3 tabT mixT Q_42 F_42 rfl ⟨⟨H_39,_,_,Q_39⟩,trivial⟩ W_42 ⟨Yi8 (L:=S_42L2 Aa) K_42L2 (i:=2) (by kernel_rfl),trivial⟩
theorem F_43 (a):E_43.run a=Yir C_43 Try.f61 E_43.params E_43.results a λo r=>some (N_43 o r):=by
 kernel_rfl
theorem W_43:XU D_43= []:=by kernel_rfl
theorem Q_43:Qk Try.prog 61 Try.f61 D_43:=⟨Try.func61,by kernel_rfl,by kernel_rfl⟩
theorem H_43:Holds Try.prog 61 E_43:=
 Yi3 tabT mixT Q_43 F_43 rfl ⟨⟨H_42,_,_,Q_42⟩,trivial⟩ W_43 trivial
theorem K_44L4 (n:Nat) (x):BJ (n+1) x=Yfg C_44 B_44L4 (S_44L4 Aa) x (BJ n):=by
 obtain⟨_,_,_,_⟩:=x
 kernel_rfl
theorem F_44 (a):E_44.run a=Yir C_44 Try.f29 E_44.params E_44.results a λo r=>some (N_44 o r):=by
 kernel_rfl
theorem W_44:XU D_44= [B_44L4]:=by kernel_rfl
theorem Q_44:Qk Try.prog 29 Try.f29 D_44:=⟨Try.func29,by kernel_rfl,by kernel_rfl⟩
theorem H_44:Holds Try.prog 29 E_44:=
 Yi3 tabT mixT Q_44 F_44 rfl ⟨⟨H_40,_,_,Q_40⟩,⟨⟨H_39,_,_,Q_39⟩,⟨⟨H_41,_,_,Q_41⟩,⟨⟨H_43,_,_,Q_43⟩,⟨⟨H_5,_,_,Q_5⟩,trivial⟩⟩⟩⟩⟩ W_44 ⟨Yi8 (L:=S_44L4 Aa) K_44L4 (i:=4) (by kernel_rfl),trivial⟩
theorem K_45L5 (n:Nat) (x):AR (n+1) x=Yfg C_45 B_45L5 (S_45L5 Aa) x (AR n):=by
 obtain⟨_,_,_,_,_,_⟩:=x
 kernel_rfl
theorem K_45L2 (n:Nat) (x):By (n+1) x=Yfg C_45 B_45L2 (S_45L2 Aa) x (By n):=by
 obtain⟨_,_,_,_,_⟩:=x
 kernel_rfl
theorem F_45 (a):E_45.run a=Yir C_45 Try.f73 E_45.params E_45.results a λo r=>some (N_45 o r):=by
 kernel_rfl
theorem W_45:XU D_45= [B_45L2,B_45L5]:=by kernel_rfl
theorem Q_45:Qk Try.prog 73 Try.f73 D_45:=⟨Try.func73,by kernel_rfl,by kernel_rfl⟩
theorem H_45:Holds Try.prog 73 E_45:=
 Yi3 tabT mixT Q_45 F_45 rfl ⟨⟨H_6,_,_,Q_6⟩,trivial⟩ W_45 ⟨Yi8 (L:=S_45L2 Aa) K_45L2 (i:=2) (by kernel_rfl),⟨Yi8 (L:=S_45L5 Aa) K_45L5 (i:=5) (by kernel_rfl),trivial⟩⟩
theorem K_46L9 (n:Nat) (x):AZ (n+1) x=Yfg C_46 B_46L9 (S_46L9 Aa) x (AZ n):=by
 obtain⟨_,_,_,_,_,_,_,_⟩:=x
 kernel_rfl
theorem K_46L6 (n:Nat) (x):Bn (n+1) x=Yfg C_46 B_46L6 (S_46L6 Aa) x (Bn n):=by
 obtain⟨_,_,_,_,_,_,_⟩:=x
 kernel_rfl
theorem K_46L3 (n:Nat) (x):Bm (n+1) x=Yfg C_46 B_46L3 (S_46L3 Aa) x (Bm n):=by
 obtain⟨_,_,_,_,_,_⟩:=x
 kernel_rfl
theorem F_46 (a):E_46.run a=Yir C_46 Try.f38 E_46.params E_46.results a λo r=>some (N_46 o r):=by
 kernel_rfl
theorem W_46:XU D_46= [B_46L3,B_46L6,B_46L9]:=by kernel_rfl
theorem Q_46:Qk Try.prog 38 Try.f38 D_46:=⟨Try.func38,by kernel_rfl,by kernel_rfl⟩
theorem H_46:Holds Try.prog 38 E_46:=
 Yi3 tabT mixT Q_46 F_46 rfl ⟨⟨H_14,_,_,Q_14⟩,⟨⟨H_8,_,_,Q_8⟩,⟨⟨H_45,_,_,Q_45⟩,trivial⟩⟩⟩ W_46 ⟨Yi8 (L:=S_46L3 Aa) K_46L3 (i:=3) (by kernel_rfl),⟨Yi8 (L:=S_46L6 Aa) K_46L6 (i:=6) (by kernel_rfl),⟨Yi8 (L:=S_46L9 Aa) K_46L9 (i:=9) (by kernel_rfl),trivial⟩⟩⟩
theorem F_47 (a):E_47.run a=Yir C_47 Try.f17 E_47.params E_47.results a λo r=>some (N_47 o r):=by
 kernel_rfl
theorem W_47:XU D_47= []:=by kernel_rfl
theorem Q_47:Qk Try.prog 17 Try.f17 D_47:=⟨Try.func17,by kernel_rfl,by kernel_rfl⟩
theorem H_47:Holds Try.prog 17 E_47:=
 Yi3 tabT mixT Q_47 F_47 rfl ⟨⟨H_44,_,_,Q_44⟩,⟨⟨H_46,_,_,Q_46⟩,trivial⟩⟩ W_47 trivial
theorem K_48L4 (n:Nat) (x):Cg (n+1) x=Yfg C_48 B_48L4 (S_48L4 Aa) x (Cg n):=by
 obtain⟨_,_,_⟩:=x
 kernel_rfl
theorem F_48 (a):E_48.run a=Yir C_48 Try.f44 E_48.params E_48.results a λo r=>some (N_48 o r):=by
 kernel_rfl
theorem W_48:XU D_48= [B_48L4]:=by kernel_rfl
theorem Q_48:Qk Try.prog 44 Try.f44 D_48:=⟨Try.func44,by kernel_rfl,by kernel_rfl⟩
theorem H_48:Holds Try.prog 44 E_48:=
 Yi3 tabT mixT Q_48 F_48 rfl trivial W_48 ⟨Yi8 (L:=S_48L4 Aa) K_48L4 (i:=4) (by kernel_rfl),trivial⟩
theorem K_49L4 (n:Nat) (x):BY (n+1) x=Yfg C_49 B_49L4 (S_49L4 Aa) x (BY n):=by
 obtain⟨_,_,_⟩:=x
 kernel_rfl
theorem F_49 (a):E_49.run a=Yir C_49 Try.f21 E_49.params E_49.results a λo r=>some (N_49 o r):=by
 kernel_rfl
theorem W_49:XU D_49= [B_49L4]:=by kernel_rfl
theorem Q_49:Qk Try.prog 21 Try.f21 D_49:=⟨Try.func21,by kernel_rfl,by kernel_rfl⟩
theorem H_49:Holds Try.prog 21 E_49:=
 Yi3 tabT mixT Q_49 F_49 rfl ⟨⟨H_48,_,_,Q_48⟩,trivial⟩ W_49 ⟨Yi8 (L:=S_49L4 Aa) K_49L4 (i:=4) (by kernel_rfl),trivial⟩
theorem F_50 (a):E_50.run a=Yir C_50 Try.f45 E_50.params E_50.results a λo r=>some (N_50 o r):=by
 kernel_rfl
theorem W_50:XU D_50= []:=by kernel_rfl
theorem Q_50:Qk Try.prog 45 Try.f45 D_50:=⟨Try.func45,by kernel_rfl,by kernel_rfl⟩
theorem H_50:Holds Try.prog 45 E_50:=
 Yi3 tabT mixT Q_50 F_50 rfl trivial W_50 trivial
theorem K_51L7 (n:Nat) (x):Ae (n+1) x=Yfg C_51 B_51L7 (S_51L7 Aa) x (Ae n):=by
 obtain⟨_,_,_,_,_,_,_⟩:=x
 kernel_rfl
theorem K_51L15 (n:Nat) (x):An (n+1) x=Yfg C_51 B_51L15 (S_51L15 Aa) x (An n):=by
 obtain⟨_,_,_,_,_,_,_,_,_,_,_,_,_⟩:=x
 kernel_rfl
theorem K_51L12 (n:Nat) (x):Am (n+1) x=Yfg C_51 B_51L12 (S_51L12 Aa) x (Am n):=by
 obtain⟨_,_,_,_,_,_,_,_,_⟩:=x
 kernel_rfl
theorem K_51L4 (n:Nat) (x):As (n+1) x=Yfg C_51 B_51L4 (S_51L4 Aa) x (As n):=by
 obtain⟨_,_,_,_,_⟩:=x
 kernel_rfl
theorem K_51L1 (n:Nat) (x):Ar (n+1) x=Yfg C_51 B_51L1 (S_51L1 Aa) x (Ar n):=by
 obtain⟨_,_,_,_⟩:=x
 kernel_rfl
theorem F_51 (a):E_51.run a=Yir C_51 Try.f39 E_51.params E_51.results a λo r=>some (N_51 o r):=by
 kernel_rfl
theorem W_51:XU D_51= [B_51L1,B_51L4,B_51L7,B_51L12,B_51L15]:=by kernel_rfl
theorem Q_51:Qk Try.prog 39 Try.f39 D_51:=⟨Try.func39,by kernel_rfl,by kernel_rfl⟩
theorem H_51:Holds Try.prog 39 E_51:=
 Yi3 tabT mixT Q_51 F_51 rfl ⟨⟨H_50,_,_,Q_50⟩,⟨⟨H_30,_,_,Q_30⟩,trivial⟩⟩ W_51 ⟨Yi8 (L:=S_51L1 Aa) K_51L1 (i:=1) (by kernel_rfl),⟨Yi8 (L:=S_51L4 Aa) K_51L4 (i:=4) (by kernel_rfl),⟨Yi8 (L:=S_51L7 Aa) K_51L7 (i:=7) (by kernel_rfl),⟨Yi8 (L:=S_51L12 Aa) K_51L12 (i:=12) (by kernel_rfl),⟨Yi8 (L:=S_51L15 Aa) K_51L15 (i:=15) (by kernel_rfl),trivial⟩⟩⟩⟩⟩
theorem F_52 (a):E_52.run a=Yir C_52 Try.f22 E_52.params E_52.results a λo r=>some (N_52 o r):=by
 kernel_rfl
theorem W_52:XU D_52= []:=by kernel_rfl
theorem Q_52:Qk Try.prog 22 Try.f22 D_52:=⟨Try.func22,by kernel_rfl,by kernel_rfl⟩
theorem H_52:Holds Try.prog 22 E_52:=
 Yi3 tabT mixT Q_52 F_52 rfl ⟨⟨H_29,_,_,Q_29⟩,⟨⟨H_35,_,_,Q_35⟩,⟨⟨H_51,_,_,Q_51⟩,⟨⟨H_33,_,_,Q_33⟩,trivial⟩⟩⟩⟩ W_52 trivial
theorem F_53 (a):E_53.run a=Yir C_53 Try.f23 E_53.params E_53.results a λo r=>some (N_53 o r):=by
 kernel_rfl
theorem W_53:XU D_53= []:=by kernel_rfl
theorem Q_53:Qk Try.prog 23 Try.f23 D_53:=⟨Try.func23,by kernel_rfl,by kernel_rfl⟩
theorem H_53:Holds Try.prog 23 E_53:=
 Yi3 tabT mixT Q_53 F_53 rfl ⟨⟨H_44,_,_,Q_44⟩,⟨⟨H_46,_,_,Q_46⟩,trivial⟩⟩ W_53 trivial
theorem K_54L2 (n:Nat) (x):CQ (n+1) x=Yfg C_54 B_54L2 (S_54L2 Aa) x (CQ n):=by
 obtain⟨_,_,_⟩:=x
 kernel_rfl
theorem F_54 (a):E_54.run a=Yir C_54 Try.f24 E_54.params E_54.results a λo r=>some (N_54 o r):=by
 kernel_rfl
theorem W_54:XU D_54= [B_54L2]:=by kernel_rfl
theorem Q_54:Qk Try.prog 24 Try.f24 D_54:=⟨Try.func24,by kernel_rfl,by kernel_rfl⟩
theorem H_54:Holds Try.prog 24 E_54:=
 Yi3 tabT mixT Q_54 F_54 rfl ⟨⟨H_48,_,_,Q_48⟩,trivial⟩ W_54 ⟨Yi8 (L:=S_54L2 Aa) K_54L2 (i:=2) (by kernel_rfl),trivial⟩
theorem F_55 (a):E_55.run a=Yir C_55 Try.f50 E_55.params E_55.results a λo r=>some (N_55 o r):=by
 kernel_rfl
theorem W_55:XU D_55= []:=by kernel_rfl
theorem Q_55:Qk Try.prog 50 Try.f50 D_55:=⟨Try.func50,by kernel_rfl,by kernel_rfl⟩
theorem H_55:Holds Try.prog 50 E_55:=
 Yi3 tabT mixT Q_55 F_55 rfl trivial W_55 trivial
theorem K_56L3 (n:Nat) (x):Ao (n+1) x=Yfg C_56 B_56L3 (S_56L3 Aa) x (Ao n):=by
 obtain⟨_,_,_,_,_⟩:=x
 kernel_rfl
theorem F_56 (a):E_56.run a=Yir C_56 Try.f49 E_56.params E_56.results a λo r=>some (N_56 o r):=by
 kernel_rfl
theorem W_56:XU D_56= [B_56L3]:=by kernel_rfl
theorem Q_56:Qk Try.prog 49 Try.f49 D_56:=⟨Try.func49,by kernel_rfl,by kernel_rfl⟩
theorem H_56:Holds Try.prog 49 E_56:=
 Yi3 tabT mixT Q_56 F_56 rfl ⟨⟨H_55,_,_,Q_55⟩,trivial⟩ W_56 ⟨Yi8 (L:=S_56L3 Aa) K_56L3 (i:=3) (by kernel_rfl),trivial⟩
theorem F_57 (a):E_57.run a=Yir C_57 Try.f25 E_57.params E_57.results a λo r=>some (N_57 o r):=by
 kernel_rfl
theorem W_57:XU D_57= []:=by kernel_rfl
theorem Q_57:Qk Try.prog 25 Try.f25 D_57:=⟨Try.func25,by kernel_rfl,by kernel_rfl⟩
theorem H_57:Holds Try.prog 25 E_57:=
 Yi3 tabT mixT Q_57 F_57 rfl ⟨⟨H_26,_,_,Q_26⟩,⟨⟨H_56,_,_,Q_56⟩,trivial⟩⟩ W_57 trivial
theorem K_58L2 (n:Nat) (x):CJ (n+1) x=Yfg C_58 B_58L2 (S_58L2 Aa) x (CJ n):=by
 obtain⟨_,_,_⟩:=x
 kernel_rfl
theorem F_58 (a):E_58.run a=Yir C_58 Try.f72 E_58.params E_58.results a λo r=>some (N_58 o r):=by
 kernel_rfl
theorem W_58:XU D_58= [B_58L2]:=by kernel_rfl
theorem Q_58:Qk Try.prog 72 Try.f72 D_58:=⟨Try.func72,by kernel_rfl,by kernel_rfl⟩
theorem H_58:Holds Try.prog 72 E_58:=
 Yi3 tabT mixT Q_58 F_58 rfl trivial W_58 ⟨Yi8 (L:=S_58L2 Aa) K_58L2 (i:=2) (by kernel_rfl),trivial⟩
theorem F_59 (a):E_59.run a=Yir C_59 Try.f34 E_59.params E_59.results a λo r=>some (N_59 o r):=by
 kernel_rfl
theorem W_59:XU D_59= []:=by kernel_rfl
theorem Q_59:Qk Try.prog 34 Try.f34 D_59:=⟨Try.func34,by kernel_rfl,by kernel_rfl⟩
theorem H_59:Holds Try.prog 34 E_59:=
 Yi3 tabT mixT Q_59 F_59 rfl ⟨⟨H_27,_,_,Q_27⟩,⟨⟨H_58,_,_,Q_58⟩,trivial⟩⟩ W_59 trivial
theorem K_60L4 (n:Nat) (x):Cv (n+1) x=Yfg C_60 B_60L4 (S_60L4 Aa) x (Cv n):=by
 obtain⟨_,_,_,_⟩:=x
 kernel_rfl
theorem F_60 (a):E_60.run a=Yir C_60 Try.f78 E_60.params E_60.results a λo r=>some (N_60 o r):=by
 kernel_rfl
theorem W_60:XU D_60= [B_60L4]:=by kernel_rfl
theorem Q_60:Qk Try.prog 78 Try.f78 D_60:=⟨Try.func78,by kernel_rfl,by kernel_rfl⟩
theorem H_60:Holds Try.prog 78 E_60:=
 Yi3 tabT mixT Q_60 F_60 rfl ⟨⟨H_59,_,_,Q_59⟩,trivial⟩ W_60 ⟨Yi8 (L:=S_60L4 Aa) K_60L4 (i:=4) (by kernel_rfl),trivial⟩
theorem F_61 (a):E_61.run a=Yir C_61 Try.f79 E_61.params E_61.results a λo r=>some (N_61 o r):=by
 kernel_rfl
theorem W_61:XU D_61= []:=by kernel_rfl
theorem Q_61:Qk Try.prog 79 Try.f79 D_61:=⟨Try.func79,by kernel_rfl,by kernel_rfl⟩
theorem H_61:Holds Try.prog 79 E_61:=
 Yi3 tabT mixT Q_61 F_61 rfl trivial W_61 trivial
theorem K_62L2 (n:Nat) (x):Bg (n+1) x=Yfg C_62 B_62L2 (S_62L2 Aa) x (Bg n):=by
 obtain⟨_,_,_,_,_⟩:=x
 kernel_rfl
theorem F_62 (a):E_62.run a=Yir C_62 Try.f80 E_62.params E_62.results a λo r=>some (N_62 o r):=by
 kernel_rfl
theorem W_62:XU D_62= [B_62L2]:=by kernel_rfl
theorem Q_62:Qk Try.prog 80 Try.f80 D_62:=⟨Try.func80,by kernel_rfl,by kernel_rfl⟩
theorem H_62:Holds Try.prog 80 E_62:=
 Yi3 tabT mixT Q_62 F_62 rfl ⟨⟨H_27,_,_,Q_27⟩,trivial⟩ W_62 ⟨Yi8 (L:=S_62L2 Aa) K_62L2 (i:=2) (by kernel_rfl),trivial⟩
theorem F_63 (a):E_63.run a=Yir C_63 Try.f51 E_63.params E_63.results a λo r=>some (N_63 o r):=by
 kernel_rfl
theorem W_63:XU D_63= []:=by kernel_rfl
theorem Q_63:Qk Try.prog 51 Try.f51 D_63:=⟨Try.func51,by kernel_rfl,by kernel_rfl⟩
theorem H_63:Holds Try.prog 51 E_63:=
 Yi3 tabT mixT Q_63 F_63 rfl ⟨⟨H_60,_,_,Q_60⟩,⟨⟨H_61,_,_,Q_61⟩,⟨⟨H_62,_,_,Q_62⟩,trivial⟩⟩⟩ W_63 trivial
theorem K_64L3 (n:Nat) (x):BS (n+1) x=Yfg C_64 B_64L3 (S_64L3 Aa) x (BS n):=by
 obtain⟨_,_,_,_⟩:=x
 kernel_rfl
theorem F_64 (a):E_64.run a=Yir C_64 Try.f98 E_64.params E_64.results a λo r=>some (N_64 o r):=by
 kernel_rfl
theorem W_64:XU D_64= [B_64L3]:=by kernel_rfl
theorem Q_64:Qk Try.prog 98 Try.f98 D_64:=⟨Try.func98,by kernel_rfl,by kernel_rfl⟩
theorem H_64:Holds Try.prog 98 E_64:=
 Yi3 tabT mixT Q_64 F_64 rfl trivial W_64 ⟨Yi8 (L:=S_64L3 Aa) K_64L3 (i:=3) (by kernel_rfl),trivial⟩
theorem F_65 (a):E_65.run a=Yir C_65 Try.f81 E_65.params E_65.results a λo r=>some (N_65 o r):=by
 kernel_rfl
theorem W_65:XU D_65= []:=by kernel_rfl
theorem Q_65:Qk Try.prog 81 Try.f81 D_65:=⟨Try.func81,by kernel_rfl,by kernel_rfl⟩
theorem H_65:Holds Try.prog 81 E_65:=
 Yi3 tabT mixT Q_65 F_65 rfl ⟨⟨H_64,_,_,Q_64⟩,trivial⟩ W_65 trivial
theorem K_66L3 (n:Nat) (x):Cn (n+1) x=Yfg C_66 B_66L3 (S_66L3 Aa) x (Cn n):=by
 obtain⟨_,_,_,_⟩:=x
 kernel_rfl
theorem F_66 (a):E_66.run a=Yir C_66 Try.f83 E_66.params E_66.results a λo r=>some (N_66 o r):=by
 kernel_rfl
theorem W_66:XU D_66= [B_66L3]:=by kernel_rfl
theorem Q_66:Qk Try.prog 83 Try.f83 D_66:=⟨Try.func83,by kernel_rfl,by kernel_rfl⟩
theorem H_66:Holds Try.prog 83 E_66:=
 Yi3 tabT mixT Q_66 F_66 rfl trivial W_66 ⟨Yi8 (L:=S_66L3 Aa) K_66L3 (i:=3) (by kernel_rfl),trivial⟩
theorem K_67L7 (n:Nat) (x):BE (n+1) x=Yfg C_67 B_67L7 (S_67L7 Aa) x (BE n):=by
 obtain⟨_,_,_,_,_,_,_,_,_,_,_⟩:=x
 kernel_rfl
theorem K_67L3 (n:Nat) (x):Ba (n+1) x=Yfg C_67 B_67L3 (S_67L3 Aa) x (Ba n):=by
 obtain⟨_,_,_,_,_,_⟩:=x
 kernel_rfl
theorem F_67 (a):E_67.run a=Yir C_67 Try.f99 E_67.params E_67.results a λo r=>some (N_67 o r):=by
 kernel_rfl
theorem W_67:XU D_67= [B_67L3,B_67L7]:=by kernel_rfl
theorem Q_67:Qk Try.prog 99 Try.f99 D_67:=⟨Try.func99,by kernel_rfl,by kernel_rfl⟩
theorem H_67:Holds Try.prog 99 E_67:=
 Yi3 tabT mixT Q_67 F_67 rfl trivial W_67 ⟨Yi8 (L:=S_67L3 Aa) K_67L3 (i:=3) (by kernel_rfl),⟨Yi8 (L:=S_67L7 Aa) K_67L7 (i:=7) (by kernel_rfl),trivial⟩⟩
theorem K_68L6 (rec:(((Int×(List (Int×(List Int))))×(Int×((List (List Int))×(List ByteArray))))×(Int×(List Int))×((List (List Int))×Int)×Int×Int×Bool)->Option (((Int×(List (Int×(List Int))))×(Int×((List (List Int))×(List ByteArray))))×(List (List Int))×Bool)) (n:Nat) (x):Ay rec (n+1) x=Yfg (C_68 rec) B_68L6 (S_68L6 rec Aa) x (Ay rec n):=by
 obtain⟨_,_,_,_,_,_,_⟩:=x
 kernel_rfl
theorem F_68 (rec:(((Int×(List (Int×(List Int))))×(Int×((List (List Int))×(List ByteArray))))×(Int×(List Int))×((List (List Int))×Int)×Int×Int×Bool)->Option (((Int×(List (Int×(List Int))))×(Int×((List (List Int))×(List ByteArray))))×(List (List Int))×Bool)) (a:YH [.bx (.pr (.v y1) (.pr (.v .int) (.pr (.mv y0 0) ((.mp .si))))),.v y4,.bf y0,.v .int,.v .int,.v .bool]):BH rec a.1 a.2.1 a.2.2.1 a.2.2.2.1 a.2.2.2.2.1 a.2.2.2.2.2=Yir (C_68 rec) Try.f84 [.bx (.pr (.v y1) (.pr (.v .int) (.pr (.mv y0 0) ((.mp .si))))),.v y4,.bf y0,.v .int,.v .int,.v .bool] [.v .bool] a (λo r=>some (N_68 o r)):=by
 kernel_rfl
theorem W_68:XU D_68= [B_68L6]:=by kernel_rfl
theorem R_68L6:YZ B_68L6=6:=by kernel_rfl
theorem Q_68:Qk Try.prog 84 Try.f84 D_68:=⟨Try.func84,by kernel_rfl,by kernel_rfl⟩
theorem H_68: ∀d,Holds Try.prog 84 (E_68 d)
 |0=>λ_ b h=>absurd (show(none:Option _)=some b from h) (by simp)
 |d+1=>YgE (en:=E_68 (d+1)) (cx:=(C_68 (AE d))) (Yhe tabT rfl).1 (Yfz ⟨⟨H_65,_,_,Q_65⟩,⟨⟨H_66,_,_,Q_66⟩,⟨⟨H_68 d,_,_,Q_68⟩,⟨⟨H_67,_,_,Q_67⟩,trivial⟩⟩⟩⟩) mixT Q_68.1 Q_68.2.2 (YgL W_68 ⟨YhE (cx:=(C_68 (AE d))) (L:=S_68L6 (AE d) Aa) rfl (by rw[R_68L6];rfl) ⟨Ay (AE d),λ_=>rfl,λn x=>K_68L6 (AE d) n x,Aa,λ_=>rfl⟩,trivial⟩) (enc:=N_68) (λ_ _=>⟨rfl,rfl⟩) (F_68 (AE d)) rfl
theorem K_69L3 (n:Nat) (x):Bs (n+1) x=Yfg C_69 B_69L3 (S_69L3 Aa) x (Bs n):=by
 obtain⟨_,_,_,_,_⟩:=x
 kernel_rfl
theorem K_69L14 (n:Nat) (x):AG (n+1) x=Yfg C_69 B_69L14 (S_69L14 Aa) x (AG n):=by
 obtain⟨_,_,_,_,_,_,_⟩:=x
 kernel_rfl
theorem K_69L10 (n:Nat) (x):AB (n+1) x=Yfg C_69 B_69L10 (S_69L10 Aa) x (AB n):=by
 obtain⟨_,_,_,_⟩:=x
 kernel_rfl
theorem F_69 (a):E_69.run a=Yir C_69 Try.f52 E_69.params E_69.results a λo r=>some (N_69 o r):=by
 kernel_rfl
theorem W_69:XU D_69= [B_69L3,B_69L10,B_69L14]:=by kernel_rfl
theorem Q_69:Qk Try.prog 52 Try.f52 D_69:=⟨Try.func52,by kernel_rfl,by kernel_rfl⟩
theorem H_69:Holds Try.prog 52 E_69:=
 Yi3 tabT mixT Q_69 F_69 rfl ⟨⟨H_65,_,_,Q_65⟩,⟨⟨H_31,_,_,Q_31⟩,⟨⟨H_66,_,_,Q_66⟩,⟨⟨H_68 Aa,_,_,Q_68⟩,trivial⟩⟩⟩⟩ W_69 ⟨Yi8 (L:=S_69L3 Aa) K_69L3 (i:=3) (by kernel_rfl),⟨Yi8 (L:=S_69L10 Aa) K_69L10 (i:=10) (by kernel_rfl),⟨Yi8 (L:=S_69L14 Aa) K_69L14 (i:=14) (by kernel_rfl),trivial⟩⟩⟩
theorem F_70 (a):E_70.run a=Yir C_70 Try.f26 E_70.params E_70.results a λo r=>some (N_70 o r):=by
 kernel_rfl
theorem W_70:XU D_70= []:=by kernel_rfl
theorem Q_70:Qk Try.prog 26 Try.f26 D_70:=⟨Try.func26,by kernel_rfl,by kernel_rfl⟩
theorem H_70:Holds Try.prog 26 E_70:=
 Yi3 tabT mixT Q_70 F_70 rfl ⟨⟨H_34,_,_,Q_34⟩,⟨⟨H_63,_,_,Q_63⟩,⟨⟨H_69,_,_,Q_69⟩,trivial⟩⟩⟩ W_70 trivial
theorem F_71 (a):E_71.run a=Yir C_71 Try.f11 E_71.params E_71.results a λo r=>some (N_71 o r):=by
 kernel_rfl
theorem W_71:XU D_71= []:=by kernel_rfl
theorem Q_71:Qk Try.prog 11 Try.f11 D_71:=⟨Try.func11,by kernel_rfl,by kernel_rfl⟩
theorem H_71:Holds Try.prog 11 E_71:=
 Yi3 tabT mixT Q_71 F_71 rfl ⟨⟨H_70,_,_,Q_70⟩,⟨⟨H_29,_,_,Q_29⟩,⟨⟨H_59,_,_,Q_59⟩,trivial⟩⟩⟩ W_71 trivial
theorem K_72L4 (n:Nat) (x):Cz (n+1) x=Yfg C_72 B_72L4 (S_72L4 Aa) x (Cz n):=by
 obtain⟨_,_,_⟩:=x
 kernel_rfl
theorem F_72 (a):E_72.run a=Yir C_72 Try.f30 E_72.params E_72.results a λo r=>some (N_72 o r):=by
 kernel_rfl
theorem W_72:XU D_72= [B_72L4]:=by kernel_rfl
theorem Q_72:Qk Try.prog 30 Try.f30 D_72:=⟨Try.func30,by kernel_rfl,by kernel_rfl⟩
theorem H_72:Holds Try.prog 30 E_72:=
 Yi3 tabT mixT Q_72 F_72 rfl ⟨⟨H_39,_,_,Q_39⟩,⟨⟨H_41,_,_,Q_41⟩,trivial⟩⟩ W_72 ⟨Yi8 (L:=S_72L4 Aa) K_72L4 (i:=4) (by kernel_rfl),trivial⟩
theorem F_73 (a):E_73.run a=Yir C_73 Try.f8 E_73.params E_73.results a λo r=>some (N_73 o r):=by
 kernel_rfl
theorem W_73:XU D_73= []:=by kernel_rfl
theorem Q_73:Qk Try.prog 8 Try.f8 D_73:=⟨Try.func8,by kernel_rfl,by kernel_rfl⟩
theorem H_73:Holds Try.prog 8 E_73:=
 Yi3 tabT mixT Q_73 F_73 rfl ⟨⟨H_44,_,_,Q_44⟩,⟨⟨H_72,_,_,Q_72⟩,⟨⟨H_21,_,_,Q_21⟩,trivial⟩⟩⟩ W_73 trivial
theorem K_74L3 (n:Nat) (x):Do (n+1) x=Yfg C_74 B_74L3 (S_74L3 Aa) x (Do n):=by
 obtain⟨_,_,_,_⟩:=x
 kernel_rfl
theorem F_74 (a):E_74.run a=Yir C_74 Try.f101 E_74.params E_74.results a λo r=>some (N_74 o r):=by
 kernel_rfl
theorem W_74:XU D_74= [B_74L3]:=by kernel_rfl
theorem Q_74:Qk Try.prog 101 Try.f101 D_74:=⟨Try.func101,by kernel_rfl,by kernel_rfl⟩
theorem H_74:Holds Try.prog 101 E_74:=
 Yi3 tabT mixT Q_74 F_74 rfl trivial W_74 ⟨Yi8 (L:=S_74L3 Aa) K_74L3 (i:=3) (by kernel_rfl),trivial⟩
theorem F_75 (a):E_75.run a=Yir C_75 Try.f88 E_75.params E_75.results a λo r=>some (N_75 o r):=by
 kernel_rfl
theorem W_75:XU D_75= []:=by kernel_rfl
theorem Q_75:Qk Try.prog 88 Try.f88 D_75:=⟨Try.func88,by kernel_rfl,by kernel_rfl⟩
theorem H_75:Holds Try.prog 88 E_75:=
 Yi3 tabT mixT Q_75 F_75 rfl ⟨⟨H_10,_,_,Q_10⟩,⟨⟨H_74,_,_,Q_74⟩,trivial⟩⟩ W_75 trivial
theorem F_76 (a):E_76.run a=Yir C_76 Try.f89 E_76.params E_76.results a λo r=>some (N_76 o r):=by
 kernel_rfl
theorem W_76:XU D_76= []:=by kernel_rfl
theorem Q_76:Qk Try.prog 89 Try.f89 D_76:=⟨Try.func89,by kernel_rfl,by kernel_rfl⟩
theorem H_76:Holds Try.prog 89 E_76:=
 Yi3 tabT mixT Q_76 F_76 rfl ⟨⟨H_14,_,_,Q_14⟩,trivial⟩ W_76 trivial
theorem K_77L3 (n:Nat) (x):B3 (n+1) x=Yfg C_77 B_77L3 (S_77L3 Aa) x (B3 n):=by
 obtain⟨_,_,_,_⟩:=x
 kernel_rfl
theorem F_77 (a):E_77.run a=Yir C_77 Try.f90 E_77.params E_77.results a λo r=>some (N_77 o r):=by
 kernel_rfl
theorem W_77:XU D_77= [B_77L3]:=by kernel_rfl
theorem Q_77:Qk Try.prog 90 Try.f90 D_77:=⟨Try.func90,by kernel_rfl,by kernel_rfl⟩
theorem H_77:Holds Try.prog 90 E_77:=
 Yi3 tabT mixT Q_77 F_77 rfl trivial W_77 ⟨Yi8 (L:=S_77L3 Aa) K_77L3 (i:=3) (by kernel_rfl),trivial⟩
theorem K_78L5 (n:Nat) (x):AT (n+1) x=Yfg C_78 B_78L5 (S_78L5 Aa) x (AT n):=by
 obtain⟨_,_,_,_,_,_⟩:=x
 kernel_rfl
theorem K_78L11 (n:Nat) (x):AJ (n+1) x=Yfg C_78 B_78L11 (S_78L11 Aa) x (AJ n):=by
 obtain⟨_,_,_,_,_,_⟩:=x
 kernel_rfl
theorem F_78 (a):E_78.run a=Yir C_78 Try.f54 E_78.params E_78.results a λo r=>some (N_78 o r):=by
 kernel_rfl
theorem W_78:XU D_78= [B_78L5,B_78L11]:=by kernel_rfl
theorem Q_78:Qk Try.prog 54 Try.f54 D_78:=⟨Try.func54,by kernel_rfl,by kernel_rfl⟩
theorem H_78:Holds Try.prog 54 E_78:=
 Yi3 tabT mixT Q_78 F_78 rfl ⟨⟨H_40,_,_,Q_40⟩,⟨⟨H_9,_,_,Q_9⟩,⟨⟨H_39,_,_,Q_39⟩,⟨⟨H_41,_,_,Q_41⟩,⟨⟨H_4,_,_,Q_4⟩,⟨⟨H_3,_,_,Q_3⟩,⟨⟨H_75,_,_,Q_75⟩,⟨⟨H_76,_,_,Q_76⟩,⟨⟨H_77,_,_,Q_77⟩,trivial⟩⟩⟩⟩⟩⟩⟩⟩⟩ W_78 ⟨Yi8 (L:=S_78L5 Aa) K_78L5 (i:=5) (by kernel_rfl),⟨Yi8 (L:=S_78L11 Aa) K_78L11 (i:=11) (by kernel_rfl),trivial⟩⟩
theorem K_79L3 (n:Nat) (x):BD (n+1) x=Yfg C_79 B_79L3 (S_79L3 Aa) x (BD n):=by
 obtain⟨_,_,_,_,_⟩:=x
 kernel_rfl
theorem F_79 (a):E_79.run a=Yir C_79 Try.f58 E_79.params E_79.results a λo r=>some (N_79 o r):=by
 kernel_rfl
theorem W_79:XU D_79= [B_79L3]:=by kernel_rfl
theorem Q_79:Qk Try.prog 58 Try.f58 D_79:=⟨Try.func58,by kernel_rfl,by kernel_rfl⟩
theorem H_79:Holds Try.prog 58 E_79:=
 Yi3 tabT mixT Q_79 F_79 rfl ⟨⟨H_77,_,_,Q_77⟩,trivial⟩ W_79 ⟨Yi8 (L:=S_79L3 Aa) K_79L3 (i:=3) (by kernel_rfl),trivial⟩
theorem F_80 (a):E_80.run a=Yir C_80 Try.f27 E_80.params E_80.results a λo r=>some (N_80 o r):=by
 kernel_rfl
theorem W_80:XU D_80= []:=by kernel_rfl
theorem Q_80:Qk Try.prog 27 Try.f27 D_80:=⟨Try.func27,by kernel_rfl,by kernel_rfl⟩
theorem H_80:Holds Try.prog 27 E_80:=
 Yi3 tabT mixT Q_80 F_80 rfl ⟨⟨H_44,_,_,Q_44⟩,⟨⟨H_46,_,_,Q_46⟩,⟨⟨H_23,_,_,Q_23⟩,⟨⟨H_78,_,_,Q_78⟩,⟨⟨H_40,_,_,Q_40⟩,⟨⟨H_9,_,_,Q_9⟩,⟨⟨H_10,_,_,Q_10⟩,⟨⟨H_79,_,_,Q_79⟩,trivial⟩⟩⟩⟩⟩⟩⟩⟩ W_80 trivial
theorem K_81L14 (n:Nat) (x):AX (n+1) x=Yfg C_81 B_81L14 (S_81L14 Aa) x (AX n):=by
 obtain⟨_,_,_,_,_,_,_⟩:=x
 kernel_rfl
theorem F_81 (a):E_81.run a=Yir C_81 Try.f5 E_81.params E_81.results a λo r=>some (N_81 o r):=by
 kernel_rfl
theorem W_81:XU D_81= [B_81L14]:=by kernel_rfl
theorem Q_81:Qk Try.prog 5 Try.f5 D_81:=⟨Try.func5,by kernel_rfl,by kernel_rfl⟩
theorem H_81:Holds Try.prog 5 E_81:=
 Yi3 tabT mixT Q_81 F_81 rfl ⟨⟨H_73,_,_,Q_73⟩,⟨⟨H_71,_,_,Q_71⟩,⟨⟨H_47,_,_,Q_47⟩,⟨⟨H_38,_,_,Q_38⟩,⟨⟨H_1,_,_,Q_1⟩,⟨⟨H_25,_,_,Q_25⟩,⟨⟨H_49,_,_,Q_49⟩,⟨⟨H_52,_,_,Q_52⟩,⟨⟨H_53,_,_,Q_53⟩,⟨⟨H_54,_,_,Q_54⟩,⟨⟨H_57,_,_,Q_57⟩,⟨⟨H_70,_,_,Q_70⟩,⟨⟨H_80,_,_,Q_80⟩,trivial⟩⟩⟩⟩⟩⟩⟩⟩⟩⟩⟩⟩⟩ W_81 ⟨Yi8 (L:=S_81L14 Aa) K_81L14 (i:=14) (by kernel_rfl),trivial⟩
end T
