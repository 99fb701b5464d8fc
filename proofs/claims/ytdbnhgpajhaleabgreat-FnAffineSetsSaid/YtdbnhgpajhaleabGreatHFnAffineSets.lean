/- Each typed function is what the program computes; no conditions. -/
import Derived.Test.YtdbnhgpajhaleabGreatSFnAffineSets
import Derived.Test.YtdbnhgpajhaleabGreatCFnAffineSets
set_option linter.all false
set_option maxRecDepth 10000
open Go Go.Va Go.Proofs
namespace T
theorem F_1 (a):E_1.run a=Yil C_1 Tryz.f22 E_1.params E_1.results a λo r=>some (N_1 o r):=by
 kernel_rfl
theorem W_1:XU D_1= []:=by kernel_rfl
theorem Q_1:Qk Tryz.prog 22 Tryz.f22 D_1:=⟨Tryz.func22,by kernel_rfl,by kernel_rfl⟩
theorem H_1:Holds Tryz.prog 22 E_1:=
 YiW tabT mixT Q_1 F_1 rfl trivial W_1 trivial
theorem F_2 (a):E_2.run a=Yil C_2 Tryz.f107 E_2.params E_2.results a λo r=>some (N_2 o r):=by
 kernel_rfl
theorem W_2:XU D_2= []:=by kernel_rfl
theorem Q_2:Qk Tryz.prog 107 Tryz.f107 D_2:=⟨Tryz.func107,by kernel_rfl,by kernel_rfl⟩
theorem H_2:Holds Tryz.prog 107 E_2:=
 YiW tabT mixT Q_2 F_2 rfl trivial W_2 trivial
theorem F_3 (a):E_3.run a=Yil C_3 Tryz.f52 E_3.params E_3.results a λo r=>some (N_3 o r):=by
 kernel_rfl
theorem W_3:XU D_3= []:=by kernel_rfl
theorem Q_3:Qk Tryz.prog 52 Tryz.f52 D_3:=⟨Tryz.func52,by kernel_rfl,by kernel_rfl⟩
theorem H_3:Holds Tryz.prog 52 E_3:=
 YiW tabT mixT Q_3 F_3 rfl ⟨⟨H_2,_,_,Q_2⟩,trivial⟩ W_3 trivial
theorem F_4 (a):E_4.run a=Yil C_4 Tryz.f51 E_4.params E_4.results a λo r=>some (N_4 o r):=by
 kernel_rfl
theorem W_4:XU D_4= []:=by kernel_rfl
theorem Q_4:Qk Tryz.prog 51 Tryz.f51 D_4:=⟨Tryz.func51,by kernel_rfl,by kernel_rfl⟩
theorem H_4:Holds Tryz.prog 51 E_4:=
 YiW tabT mixT Q_4 F_4 rfl ⟨⟨H_3,_,_,Q_3⟩,trivial⟩ W_4 trivial
theorem K_5L2 (n:Nat) (x):Dh (n+1) x=Yff C_5 B_5L2 (S_5L2 Aa) x (Dh n):=by
 obtain⟨_,_,_⟩:=x
 kernel_rfl
theorem F_5 (a):E_5.run a=Yil C_5 Tryz.f122 E_5.params E_5.results a λo r=>some (N_5 o r):=by
 kernel_rfl
theorem W_5:XU D_5= [B_5L2]:=by kernel_rfl
theorem Q_5:Qk Tryz.prog 122 Tryz.f122 D_5:=⟨Tryz.func122,by kernel_rfl,by kernel_rfl⟩
theorem H_5:Holds Tryz.prog 122 E_5:=
 YiW tabT mixT Q_5 F_5 rfl trivial W_5 ⟨Yi1 (L:=S_5L2 Aa) K_5L2 (i:=2) (by kernel_rfl),trivial⟩
theorem K_6L4 (n:Nat) (x):Df (n+1) x=Yff C_6 B_6L4 (S_6L4 Aa) x (Df n):=by
 obtain⟨_,_,_⟩:=x
 kernel_rfl
theorem F_6 (a):E_6.run a=Yil C_6 Tryz.f138 E_6.params E_6.results a λo r=>some (N_6 o r):=by
 kernel_rfl
theorem W_6:XU D_6= [B_6L4]:=by kernel_rfl
theorem Q_6:Qk Tryz.prog 138 Tryz.f138 D_6:=⟨Tryz.func138,by kernel_rfl,by kernel_rfl⟩
theorem H_6:Holds Tryz.prog 138 E_6:=
 YiW tabT mixT Q_6 F_6 rfl trivial W_6 ⟨Yi1 (L:=S_6L4 Aa) K_6L4 (i:=4) (by kernel_rfl),trivial⟩
theorem K_7L2 (n:Nat) (x):CQ (n+1) x=Yff C_7 B_7L2 (S_7L2 Aa) x (CQ n):=by
 obtain⟨_,_,_,_⟩:=x
 kernel_rfl
theorem F_7 (a):E_7.run a=Yil C_7 Tryz.f117 E_7.params E_7.results a λo r=>some (N_7 o r):=by
 kernel_rfl
theorem W_7:XU D_7= [B_7L2]:=by kernel_rfl
theorem Q_7:Qk Tryz.prog 117 Tryz.f117 D_7:=⟨Tryz.func117,by kernel_rfl,by kernel_rfl⟩
theorem H_7:Holds Tryz.prog 117 E_7:=
 YiW tabT mixT Q_7 F_7 rfl ⟨⟨H_5,_,_,Q_5⟩,⟨⟨H_6,_,_,Q_6⟩,trivial⟩⟩ W_7 ⟨Yi1 (L:=S_7L2 Aa) K_7L2 (i:=2) (by kernel_rfl),trivial⟩
theorem F_8 (a):E_8.run a=Yil C_8 Tryz.f112 E_8.params E_8.results a λo r=>some (N_8 o r):=by
 kernel_rfl
theorem W_8:XU D_8= []:=by kernel_rfl
theorem Q_8:Qk Tryz.prog 112 Tryz.f112 D_8:=⟨Tryz.func112,by kernel_rfl,by kernel_rfl⟩
theorem H_8:Holds Tryz.prog 112 E_8:=
 YiW tabT mixT Q_8 F_8 rfl ⟨⟨H_7,_,_,Q_7⟩,trivial⟩ W_8 trivial
theorem F_9 (a):E_9.run a=Yil C_9 Tryz.f54 E_9.params E_9.results a λo r=>some (N_9 o r):=by
 kernel_rfl
theorem W_9:XU D_9= []:=by kernel_rfl
theorem Q_9:Qk Tryz.prog 54 Tryz.f54 D_9:=⟨Tryz.func54,by kernel_rfl,by kernel_rfl⟩
theorem H_9:Holds Tryz.prog 54 E_9:=
 YiW tabT mixT Q_9 F_9 rfl ⟨⟨H_3,_,_,Q_3⟩,trivial⟩ W_9 trivial
theorem K_10L3 (n:Nat) (x):Ci (n+1) x=Yff C_10 B_10L3 (S_10L3 Aa) x (Ci n):=by
 obtain⟨_,_,_,_⟩:=x
 kernel_rfl
theorem F_10 (a):E_10.run a=Yil C_10 Tryz.f86 E_10.params E_10.results a λo r=>some (N_10 o r):=by
 kernel_rfl
theorem W_10:XU D_10= [B_10L3]:=by kernel_rfl
theorem Q_10:Qk Tryz.prog 86 Tryz.f86 D_10:=⟨Tryz.func86,by kernel_rfl,by kernel_rfl⟩
theorem H_10:Holds Tryz.prog 86 E_10:=
 YiW tabT mixT Q_10 F_10 rfl trivial W_10 ⟨Yi1 (L:=S_10L3 Aa) K_10L3 (i:=3) (by kernel_rfl),trivial⟩
theorem F_11 (a):E_11.run a=Yil C_11 Tryz.f140 E_11.params E_11.results a λo r=>some (N_11 o r):=by
 kernel_rfl
theorem W_11:XU D_11= []:=by kernel_rfl
theorem Q_11:Qk Tryz.prog 140 Tryz.f140 D_11:=⟨Tryz.func140,by kernel_rfl,by kernel_rfl⟩
theorem H_11:Holds Tryz.prog 140 E_11:=
 YiW tabT mixT Q_11 F_11 rfl trivial W_11 trivial
theorem F_12 (a):E_12.run a=Yil C_12 Tryz.f53 E_12.params E_12.results a λo r=>some (N_12 o r):=by
 kernel_rfl
theorem W_12:XU D_12= []:=by kernel_rfl
theorem Q_12:Qk Tryz.prog 53 Tryz.f53 D_12:=⟨Tryz.func53,by kernel_rfl,by kernel_rfl⟩
theorem H_12:Holds Tryz.prog 53 E_12:=
 YiW tabT mixT Q_12 F_12 rfl trivial W_12 trivial
theorem K_13L3 (n:Nat) (x):EU (n+1) x=Yff C_13 B_13L3 (S_13L3 Aa) x (EU n):=by
 obtain⟨_,_,_⟩:=x
 kernel_rfl
theorem F_13 (a):E_13.run a=Yil C_13 Tryz.f147 E_13.params E_13.results a λo r=>some (N_13 o r):=by
 kernel_rfl
theorem W_13:XU D_13= [B_13L3]:=by kernel_rfl
theorem Q_13:Qk Tryz.prog 147 Tryz.f147 D_13:=⟨Tryz.func147,by kernel_rfl,by kernel_rfl⟩
theorem H_13:Holds Tryz.prog 147 E_13:=
 YiW tabT mixT Q_13 F_13 rfl ⟨⟨H_12,_,_,Q_12⟩,trivial⟩ W_13 ⟨Yi1 (L:=S_13L3 Aa) K_13L3 (i:=3) (by kernel_rfl),trivial⟩
theorem F_14 (a):E_14.run a=Yil C_14 Tryz.f78 E_14.params E_14.results a λo r=>some (N_14 o r):=by
 kernel_rfl
theorem W_14:XU D_14= []:=by kernel_rfl
theorem Q_14:Qk Tryz.prog 78 Tryz.f78 D_14:=⟨Tryz.func78,by kernel_rfl,by kernel_rfl⟩
theorem H_14:Holds Tryz.prog 78 E_14:=
 YiW tabT mixT Q_14 F_14 rfl trivial W_14 trivial
theorem K_15L7 (n:Nat) (x):DB (n+1) x=Yff C_15 B_15L7 (S_15L7 Aa) x (DB n):=by
 obtain⟨_,_,_,_,_,_,_,_⟩:=x
 kernel_rfl
theorem K_15L3 (n:Nat) (x):Cs (n+1) x=Yff C_15 B_15L3 (S_15L3 Aa) x (Cs n):=by
 obtain⟨_,_,_,_,_,_⟩:=x
 kernel_rfl
theorem F_15 (a):E_15.run a=Yil C_15 Tryz.f148 E_15.params E_15.results a λo r=>some (N_15 o r):=by
 kernel_rfl
theorem W_15:XU D_15= [B_15L3,B_15L7]:=by kernel_rfl
theorem Q_15:Qk Tryz.prog 148 Tryz.f148 D_15:=⟨Tryz.func148,by kernel_rfl,by kernel_rfl⟩
theorem H_15:Holds Tryz.prog 148 E_15:=
 YiW tabT mixT Q_15 F_15 rfl trivial W_15 ⟨Yi1 (L:=S_15L3 Aa) K_15L3 (i:=3) (by kernel_rfl),⟨Yi1 (L:=S_15L7 Aa) K_15L7 (i:=7) (by kernel_rfl),trivial⟩⟩
theorem K_16L2 (n:Nat) (x):Du (n+1) x=Yff C_16 B_16L2 (S_16L2 Aa) x (Du n):=by
 obtain⟨_,_,_⟩:=x
 kernel_rfl
theorem F_16 (a):E_16.run a=Yil C_16 Tryz.f142 E_16.params E_16.results a λo r=>some (N_16 o r):=by
 kernel_rfl
theorem W_16:XU D_16= [B_16L2]:=by kernel_rfl
theorem Q_16:Qk Tryz.prog 142 Tryz.f142 D_16:=⟨Tryz.func142,by kernel_rfl,by kernel_rfl⟩
theorem H_16:Holds Tryz.prog 142 E_16:=
 YiW tabT mixT Q_16 F_16 rfl trivial W_16 ⟨Yi1 (L:=S_16L2 Aa) K_16L2 (i:=2) (by kernel_rfl),trivial⟩
theorem K_17L3 (n:Nat) (x):Fk (n+1) x=Yff C_17 B_17L3 (S_17L3 Aa) x (Fk n):=by
 obtain⟨_,_,_,_⟩:=x
 kernel_rfl
theorem F_17 (a):E_17.run a=Yil C_17 Tryz.f149 E_17.params E_17.results a λo r=>some (N_17 o r):=by
 kernel_rfl
theorem W_17:XU D_17= [B_17L3]:=by kernel_rfl
theorem Q_17:Qk Tryz.prog 149 Tryz.f149 D_17:=⟨Tryz.func149,by kernel_rfl,by kernel_rfl⟩
theorem H_17:Holds Tryz.prog 149 E_17:=
 YiW tabT mixT Q_17 F_17 rfl trivial W_17 ⟨Yi1 (L:=S_17L3 Aa) K_17L3 (i:=3) (by kernel_rfl),trivial⟩
theorem K_18L3 (n:Nat) (x):Di (n+1) x=Yff C_18 B_18L3 (S_18L3 Aa) x (Di n):=by
 obtain⟨_,_,_⟩:=x
 kernel_rfl
theorem F_18 (a):E_18.run a=Yil C_18 Tryz.f150 E_18.params E_18.results a λo r=>some (N_18 o r):=by
 kernel_rfl
theorem W_18:XU D_18= [B_18L3]:=by kernel_rfl
theorem Q_18:Qk Tryz.prog 150 Tryz.f150 D_18:=⟨Tryz.func150,by kernel_rfl,by kernel_rfl⟩
theorem H_18:Holds Tryz.prog 150 E_18:=
 YiW tabT mixT Q_18 F_18 rfl ⟨⟨H_14,_,_,Q_14⟩,trivial⟩ W_18 ⟨Yi1 (L:=S_18L3 Aa) K_18L3 (i:=3) (by kernel_rfl),trivial⟩
theorem F_19 (a):E_19.run a=Yil C_19 Tryz.f112 E_19.params E_19.results a λo r=>some (N_19 o r):=by
 kernel_rfl
theorem W_19:XU D_19= []:=by kernel_rfl
theorem Q_19:Qk Tryz.prog 112 Tryz.f112 D_19:=⟨Tryz.func112,by kernel_rfl,by kernel_rfl⟩
theorem H_19:Holds Tryz.prog 112 E_19:=
 YiW tabT mixT Q_19 F_19 rfl ⟨⟨H_7,_,_,Q_7⟩,trivial⟩ W_19 trivial
theorem K_20L3 (n:Nat) (x):Cm (n+1) x=Yff C_20 B_20L3 (S_20L3 Aa) x (Cm n):=by
 obtain⟨_,_,_,_⟩:=x
 kernel_rfl
theorem F_20 (a):E_20.run a=Yil C_20 Tryz.f149 E_20.params E_20.results a λo r=>some (N_20 o r):=by
 kernel_rfl
theorem W_20:XU D_20= [B_20L3]:=by kernel_rfl
theorem Q_20:Qk Tryz.prog 149 Tryz.f149 D_20:=⟨Tryz.func149,by kernel_rfl,by kernel_rfl⟩
theorem H_20:Holds Tryz.prog 149 E_20:=
 YiW tabT mixT Q_20 F_20 rfl trivial W_20 ⟨Yi1 (L:=S_20L3 Aa) K_20L3 (i:=3) (by kernel_rfl),trivial⟩
theorem K_21L4 (n:Nat) (x):FC (n+1) x=Yff C_21 B_21L4 (S_21L4 Aa) x (FC n):=by
 obtain⟨_,_,_,_,_,_,_,_⟩:=x
 kernel_rfl
theorem K_21L8 (n:Nat) (x):Ev (n+1) x=Yff C_21 B_21L8 (S_21L8 Aa) x (Ev n):=by
 obtain⟨_,_,_,_,_,_,_⟩:=x
 kernel_rfl
theorem K_21L13 (n:Nat) (x):D4 (n+1) x=Yff C_21 B_21L13 (S_21L13 Aa) x (D4 n):=by
 obtain⟨_,_,_,_,_,_,_⟩:=x
 kernel_rfl
theorem K_21L26 (n:Nat) (x):Dp (n+1) x=Yff C_21 B_21L26 (S_21L26 Aa) x (Dp n):=by
 obtain⟨_,_,_,_,_,_,_,_,_⟩:=x
 kernel_rfl
theorem K_21L23 (n:Nat) (x):Fm (n+1) x=Yff C_21 B_21L23 (S_21L23 Aa) x (Fm n):=by
 obtain⟨_,_,_,_,_,_,_⟩:=x
 kernel_rfl
theorem K_21L20 (n:Nat) (x):Fl (n+1) x=Yff C_21 B_21L20 (S_21L20 Aa) x (Fl n):=by
 obtain⟨_,_,_,_,_,_⟩:=x
 kernel_rfl
theorem F_21 (a):E_21.run a=Yil C_21 Tryz.f139 E_21.params E_21.results a λo r=>some (N_21 o r):=by
 kernel_rfl
theorem W_21:XU D_21= [B_21L4,B_21L8,B_21L13,B_21L20,B_21L23,B_21L26]:=by kernel_rfl
theorem Q_21:Qk Tryz.prog 139 Tryz.f139 D_21:=⟨Tryz.func139,by kernel_rfl,by kernel_rfl⟩
theorem H_21:Holds Tryz.prog 139 E_21:=
 YiW tabT mixT Q_21 F_21 rfl ⟨⟨H_14,_,_,Q_14⟩,⟨⟨H_19,_,_,Q_19⟩,⟨⟨H_7,_,_,Q_7⟩,⟨⟨H_16,_,_,Q_16⟩,⟨⟨H_13,_,_,Q_13⟩,⟨⟨H_15,_,_,Q_15⟩,⟨⟨H_20,_,_,Q_20⟩,⟨⟨H_18,_,_,Q_18⟩,trivial⟩⟩⟩⟩⟩⟩⟩⟩ W_21 ⟨Yi1 (L:=S_21L4 Aa) K_21L4 (i:=4) (by kernel_rfl),⟨Yi1 (L:=S_21L8 Aa) K_21L8 (i:=8) (by kernel_rfl),⟨Yi1 (L:=S_21L13 Aa) K_21L13 (i:=13) (by kernel_rfl),⟨Yi1 (L:=S_21L20 Aa) K_21L20 (i:=20) (by kernel_rfl),⟨Yi1 (L:=S_21L23 Aa) K_21L23 (i:=23) (by kernel_rfl),⟨Yi1 (L:=S_21L26 Aa) K_21L26 (i:=26) (by kernel_rfl),trivial⟩⟩⟩⟩⟩⟩
theorem K_22L4 (n:Nat) (x):B4 (n+1) x=Yff C_22 B_22L4 (S_22L4 Aa) x (B4 n):=by
 obtain⟨_,_,_,_,_,_,_,_⟩:=x
 kernel_rfl
theorem K_22L8 (n:Nat) (x):CA (n+1) x=Yff C_22 B_22L8 (S_22L8 Aa) x (CA n):=by
 obtain⟨_,_,_,_,_,_,_,_⟩:=x
 kernel_rfl
theorem K_22L13 (n:Nat) (x):Bn (n+1) x=Yff C_22 B_22L13 (S_22L13 Aa) x (Bn n):=by
 obtain⟨_,_,_,_,_,_,_,_⟩:=x
 kernel_rfl
theorem K_22L26 (n:Nat) (x):Aw (n+1) x=Yff C_22 B_22L26 (S_22L26 Aa) x (Aw n):=by
 obtain⟨_,_,_,_,_,_,_,_,_,_⟩:=x
 kernel_rfl
theorem K_22L23 (n:Nat) (x):BR (n+1) x=Yff C_22 B_22L23 (S_22L23 Aa) x (BR n):=by
 obtain⟨_,_,_,_,_,_,_,_⟩:=x
 kernel_rfl
theorem K_22L20 (n:Nat) (x):Bg (n+1) x=Yff C_22 B_22L20 (S_22L20 Aa) x (Bg n):=by
 obtain⟨_,_,_,_,_,_,_⟩:=x
 kernel_rfl
theorem F_22 (a):E_22.run a=Yil C_22 Tryz.f139 E_22.params E_22.results a λo r=>some (N_22 o r):=by
 kernel_rfl
theorem W_22:XU D_22= [B_22L4,B_22L8,B_22L13,B_22L20,B_22L23,B_22L26]:=by kernel_rfl
theorem Q_22:Qk Tryz.prog 139 Tryz.f139 D_22:=⟨Tryz.func139,by kernel_rfl,by kernel_rfl⟩
theorem H_22:Holds Tryz.prog 139 E_22:=
 YiW tabT mixT Q_22 F_22 rfl ⟨⟨H_14,_,_,Q_14⟩,⟨⟨H_19,_,_,Q_19⟩,⟨⟨H_7,_,_,Q_7⟩,⟨⟨H_16,_,_,Q_16⟩,⟨⟨H_13,_,_,Q_13⟩,⟨⟨H_15,_,_,Q_15⟩,⟨⟨H_20,_,_,Q_20⟩,⟨⟨H_18,_,_,Q_18⟩,trivial⟩⟩⟩⟩⟩⟩⟩⟩ W_22 ⟨Yi1 (L:=S_22L4 Aa) K_22L4 (i:=4) (by kernel_rfl),⟨Yi1 (L:=S_22L8 Aa) K_22L8 (i:=8) (by kernel_rfl),⟨Yi1 (L:=S_22L13 Aa) K_22L13 (i:=13) (by kernel_rfl),⟨Yi1 (L:=S_22L20 Aa) K_22L20 (i:=20) (by kernel_rfl),⟨Yi1 (L:=S_22L23 Aa) K_22L23 (i:=23) (by kernel_rfl),⟨Yi1 (L:=S_22L26 Aa) K_22L26 (i:=26) (by kernel_rfl),trivial⟩⟩⟩⟩⟩⟩
theorem K_23L10 (n:Nat) (x):By (n+1) x=Yff C_23 B_23L10 (S_23L10 Aa) x (By n):=by
 obtain⟨_,_,_,_,_,_,_⟩:=x
 kernel_rfl
theorem K_23L6 (n:Nat) (x):AS (n+1) x=Yff C_23 B_23L6 (S_23L6 Aa) x (AS n):=by
 obtain⟨_,_,_,_,_⟩:=x
 kernel_rfl
theorem F_23 (a):E_23.run a=Yil C_23 Tryz.f118 E_23.params E_23.results a λo r=>some (N_23 o r):=by
 kernel_rfl
theorem W_23:XU D_23= [B_23L6,B_23L10]:=by kernel_rfl
theorem Q_23:Qk Tryz.prog 118 Tryz.f118 D_23:=⟨Tryz.func118,by kernel_rfl,by kernel_rfl⟩
theorem H_23:Holds Tryz.prog 118 E_23:=
 YiW tabT mixT Q_23 F_23 rfl ⟨⟨H_4,_,_,Q_4⟩,⟨⟨H_3,_,_,Q_3⟩,⟨⟨H_9,_,_,Q_9⟩,⟨⟨H_10,_,_,Q_10⟩,⟨⟨H_19,_,_,Q_19⟩,⟨⟨H_22,_,_,Q_22⟩,⟨⟨H_11,_,_,Q_11⟩,trivial⟩⟩⟩⟩⟩⟩⟩ W_23 ⟨Yi1 (L:=S_23L6 Aa) K_23L6 (i:=6) (by kernel_rfl),⟨Yi1 (L:=S_23L10 Aa) K_23L10 (i:=10) (by kernel_rfl),trivial⟩⟩
theorem F_24 (a):E_24.run a=Yil C_24 Tryz.f70 E_24.params E_24.results a λo r=>some (N_24 o r):=by
 kernel_rfl
theorem W_24:XU D_24= []:=by kernel_rfl
theorem Q_24:Qk Tryz.prog 70 Tryz.f70 D_24:=⟨Tryz.func70,by kernel_rfl,by kernel_rfl⟩
theorem H_24:Holds Tryz.prog 70 E_24:=
 YiW tabT mixT Q_24 F_24 rfl ⟨⟨H_23,_,_,Q_23⟩,trivial⟩ W_24 trivial
theorem F_25 (a):E_25.run a=Yil C_25 Tryz.f23 E_25.params E_25.results a λo r=>some (N_25 o r):=by
 kernel_rfl
theorem W_25:XU D_25= []:=by kernel_rfl
theorem Q_25:Qk Tryz.prog 23 Tryz.f23 D_25:=⟨Tryz.func23,by kernel_rfl,by kernel_rfl⟩
theorem H_25:Holds Tryz.prog 23 E_25:=
 YiW tabT mixT Q_25 F_25 rfl ⟨⟨H_24,_,_,Q_24⟩,trivial⟩ W_25 trivial
theorem F_26 (a):E_26.run a=Yil C_26 Tryz.f79 E_26.params E_26.results a λo r=>some (N_26 o r):=by
 kernel_rfl
theorem W_26:XU D_26= []:=by kernel_rfl
theorem Q_26:Qk Tryz.prog 79 Tryz.f79 D_26:=⟨Tryz.func79,by kernel_rfl,by kernel_rfl⟩
theorem H_26:Holds Tryz.prog 79 E_26:=
 YiW tabT mixT Q_26 F_26 rfl trivial W_26 trivial
theorem F_27 (a):E_27.run a=Yil C_27 Tryz.f82 E_27.params E_27.results a λo r=>some (N_27 o r):=by
 kernel_rfl
theorem W_27:XU D_27= []:=by kernel_rfl
theorem Q_27:Qk Tryz.prog 82 Tryz.f82 D_27:=⟨Tryz.func82,by kernel_rfl,by kernel_rfl⟩
theorem H_27:Holds Tryz.prog 82 E_27:=
 YiW tabT mixT Q_27 F_27 rfl trivial W_27 trivial
theorem K_28L2 (n:Nat) (x):C8 (n+1) x=Yff C_28 B_28L2 (S_28L2 Aa) x (C8 n):=by
 obtain⟨_,_,_,_⟩:=x
 kernel_rfl
theorem F_28 (a):E_28.run a=Yil C_28 Tryz.f55 E_28.params E_28.results a λo r=>some (N_28 o r):=by
 kernel_rfl
theorem W_28:XU D_28= [B_28L2]:=by kernel_rfl
theorem Q_28:Qk Tryz.prog 55 Tryz.f55 D_28:=⟨Tryz.func55,by kernel_rfl,by kernel_rfl⟩
theorem H_28:Holds Tryz.prog 55 E_28:=
 YiW tabT mixT Q_28 F_28 rfl trivial W_28 ⟨Yi1 (L:=S_28L2 Aa) K_28L2 (i:=2) (by kernel_rfl),trivial⟩
theorem K_29L2 (n:Nat) (x):Bp (n+1) x=Yff C_29 B_29L2 (S_29L2 Aa) x (Bp n):=by
 obtain⟨_,_,_⟩:=x
 kernel_rfl
theorem F_29 (a):E_29.run a=Yil C_29 Tryz.f96 E_29.params E_29.results a λo r=>some (N_29 o r):=by
 kernel_rfl
theorem W_29:XU D_29= [B_29L2]:=by kernel_rfl
theorem Q_29:Qk Tryz.prog 96 Tryz.f96 D_29:=⟨Tryz.func96,by kernel_rfl,by kernel_rfl⟩
theorem H_29:Holds Tryz.prog 96 E_29:=
 YiW tabT mixT Q_29 F_29 rfl trivial W_29 ⟨Yi1 (L:=S_29L2 Aa) K_29L2 (i:=2) (by kernel_rfl),trivial⟩
theorem K_30L4 (n:Nat) (x):BQ (n+1) x=Yff C_30 B_30L4 (S_30L4 Aa) x (BQ n):=by
 obtain⟨_,_,_,_,_,_⟩:=x
 kernel_rfl
theorem F_30 (a):E_30.run a=Yil C_30 Tryz.f80 E_30.params E_30.results a λo r=>some (N_30 o r):=by
 kernel_rfl
theorem W_30:XU D_30= [B_30L4]:=by kernel_rfl
theorem Q_30:Qk Tryz.prog 80 Tryz.f80 D_30:=⟨Tryz.func80,by kernel_rfl,by kernel_rfl⟩
theorem H_30:Holds Tryz.prog 80 E_30:=
 YiW tabT mixT Q_30 F_30 rfl ⟨⟨H_28,_,_,Q_28⟩,⟨⟨H_27,_,_,Q_27⟩,⟨⟨H_29,_,_,Q_29⟩,trivial⟩⟩⟩ W_30 ⟨Yi1 (L:=S_30L4 Aa) K_30L4 (i:=4) (by kernel_rfl),trivial⟩
theorem K_31L2 (n:Nat) (x):Cc (n+1) x=Yff C_31 B_31L2 (S_31L2 Aa) x (Cc n):=by
 obtain⟨_,_,_⟩:=x
 kernel_rfl
theorem F_31 (a):E_31.run a=Yil C_31 Tryz.f126 E_31.params E_31.results a λo r=>some (N_31 o r):=by
 kernel_rfl
theorem W_31:XU D_31= [B_31L2]:=by kernel_rfl
theorem Q_31:Qk Tryz.prog 126 Tryz.f126 D_31:=⟨Tryz.func126,by kernel_rfl,by kernel_rfl⟩
theorem H_31:Holds Tryz.prog 126 E_31:=
 YiW tabT mixT Q_31 F_31 rfl trivial W_31 ⟨Yi1 (L:=S_31L2 Aa) K_31L2 (i:=2) (by kernel_rfl),trivial⟩
theorem K_32L3 (n:Nat) (x):CX (n+1) x=Yff C_32 B_32L3 (S_32L3 Aa) x (CX n):=by
 obtain⟨_,_,_,_,_⟩:=x
 kernel_rfl
theorem F_32 (a):E_32.run a=Yil C_32 Tryz.f127 E_32.params E_32.results a λo r=>some (N_32 o r):=by
 kernel_rfl
theorem W_32:XU D_32= [B_32L3]:=by kernel_rfl
theorem Q_32:Qk Tryz.prog 127 Tryz.f127 D_32:=⟨Tryz.func127,by kernel_rfl,by kernel_rfl⟩
theorem H_32:Holds Tryz.prog 127 E_32:=
 YiW tabT mixT Q_32 F_32 rfl trivial W_32 ⟨Yi1 (L:=S_32L3 Aa) K_32L3 (i:=3) (by kernel_rfl),trivial⟩
theorem K_33L6 (n:Nat) (x):Cf (n+1) x=Yff C_33 B_33L6 (S_33L6 Aa) x (Cf n):=by
 obtain⟨_,_,_,_,_,_,_⟩:=x
 kernel_rfl
theorem K_33L18 (n:Nat) (x):BZ (n+1) x=Yff C_33 B_33L18 (S_33L18 Aa) x (BZ n):=by
 obtain⟨_,_,_,_,_,_,_,_,_,_,_,_,_,_,_,_⟩:=x
 kernel_rfl
theorem K_33L14 (n:Nat) (x):BY (n+1) x=Yff C_33 B_33L14 (S_33L14 Aa) x (BY n):=by
 obtain⟨_,_,_,_,_,_,_,_,_,_,_⟩:=x
 kernel_rfl
theorem K_33L11 (n:Nat) (x):Cy (n+1) x=Yff C_33 B_33L11 (S_33L11 Aa) x (Cy n):=by
 obtain⟨_,_,_,_,_,_,_⟩:=x
 kernel_rfl
theorem F_33 (a):E_33.run a=Yil C_33 Tryz.f81 E_33.params E_33.results a λo r=>some (N_33 o r):=by
 kernel_rfl
theorem W_33:XU D_33= [B_33L6,B_33L11,B_33L14,B_33L18]:=by kernel_rfl
theorem Q_33:Qk Tryz.prog 81 Tryz.f81 D_33:=⟨Tryz.func81,by kernel_rfl,by kernel_rfl⟩
theorem H_33:Holds Tryz.prog 81 E_33:=
 YiW tabT mixT Q_33 F_33 rfl ⟨⟨H_31,_,_,Q_31⟩,⟨⟨H_32,_,_,Q_32⟩,trivial⟩⟩ W_33 ⟨Yi1 (L:=S_33L6 Aa) K_33L6 (i:=6) (by kernel_rfl),⟨Yi1 (L:=S_33L11 Aa) K_33L11 (i:=11) (by kernel_rfl),⟨Yi1 (L:=S_33L14 Aa) K_33L14 (i:=14) (by kernel_rfl),⟨Yi1 (L:=S_33L18 Aa) K_33L18 (i:=18) (by kernel_rfl),trivial⟩⟩⟩⟩
theorem F_34 (a):E_34.run a=Yil C_34 Tryz.f27 E_34.params E_34.results a λo r=>some (N_34 o r):=by
 kernel_rfl
theorem W_34:XU D_34= []:=by kernel_rfl
theorem Q_34:Qk Tryz.prog 27 Tryz.f27 D_34:=⟨Tryz.func27,by kernel_rfl,by kernel_rfl⟩
theorem H_34:Holds Tryz.prog 27 E_34:=
 YiW tabT mixT Q_34 F_34 rfl ⟨⟨H_26,_,_,Q_26⟩,⟨⟨H_30,_,_,Q_30⟩,⟨⟨H_33,_,_,Q_33⟩,trivial⟩⟩⟩ W_34 trivial
theorem F_35 (a):E_35.run a=Yil C_35 Tryz.f48 E_35.params E_35.results a λo r=>some (N_35 o r):=by
 kernel_rfl
theorem W_35:XU D_35= []:=by kernel_rfl
theorem Q_35:Qk Tryz.prog 48 Tryz.f48 D_35:=⟨Tryz.func48,by kernel_rfl,by kernel_rfl⟩
theorem H_35:Holds Tryz.prog 48 E_35:=
 YiW tabT mixT Q_35 F_35 rfl trivial W_35 trivial
theorem K_36L3 (n:Nat) (x):BW (n+1) x=Yff C_36 B_36L3 (S_36L3 Aa) x (BW n):=by
 obtain⟨_,_,_,_⟩:=x
 kernel_rfl
theorem F_36 (a):E_36.run a=Yil C_36 Tryz.f134 E_36.params E_36.results a λo r=>some (N_36 o r):=by
 kernel_rfl
theorem W_36:XU D_36= [B_36L3]:=by kernel_rfl
theorem Q_36:Qk Tryz.prog 134 Tryz.f134 D_36:=⟨Tryz.func134,by kernel_rfl,by kernel_rfl⟩
theorem H_36:Holds Tryz.prog 134 E_36:=
 YiW tabT mixT Q_36 F_36 rfl ⟨⟨H_35,_,_,Q_35⟩,trivial⟩ W_36 ⟨Yi1 (L:=S_36L3 Aa) K_36L3 (i:=3) (by kernel_rfl),trivial⟩
theorem K_37L3 (n:Nat) (x):BX (n+1) x=Yff C_37 B_37L3 (S_37L3 Aa) x (BX n):=by
 obtain⟨_,_,_⟩:=x
 kernel_rfl
theorem F_37 (a):E_37.run a=Yil C_37 Tryz.f106 E_37.params E_37.results a λo r=>some (N_37 o r):=by
 kernel_rfl
theorem W_37:XU D_37= [B_37L3]:=by kernel_rfl
theorem Q_37:Qk Tryz.prog 106 Tryz.f106 D_37:=⟨Tryz.func106,by kernel_rfl,by kernel_rfl⟩
theorem H_37:Holds Tryz.prog 106 E_37:=
 YiW tabT mixT Q_37 F_37 rfl trivial W_37 ⟨Yi1 (L:=S_37L3 Aa) K_37L3 (i:=3) (by kernel_rfl),trivial⟩
theorem K_38L2 (n:Nat) (x):EW (n+1) x=Yff C_38 B_38L2 (S_38L2 Aa) x (EW n):=by
 obtain⟨_,_,_⟩:=x
 kernel_rfl
theorem F_38 (a):E_38.run a=Yil C_38 Tryz.f141 E_38.params E_38.results a λo r=>some (N_38 o r):=by
 kernel_rfl
theorem W_38:XU D_38= [B_38L2]:=by kernel_rfl
theorem Q_38:Qk Tryz.prog 141 Tryz.f141 D_38:=⟨Tryz.func141,by kernel_rfl,by kernel_rfl⟩
theorem H_38:Holds Tryz.prog 141 E_38:=
 YiW tabT mixT Q_38 F_38 rfl trivial W_38 ⟨Yi1 (L:=S_38L2 Aa) K_38L2 (i:=2) (by kernel_rfl),trivial⟩
theorem K_39L6 (n:Nat) (x):Bh (n+1) x=Yff C_39 B_39L6 (S_39L6 Aa) x (Bh n):=by
 obtain⟨_,_,_,_,_⟩:=x
 kernel_rfl
theorem K_39L14 (n:Nat) (x):Bc (n+1) x=Yff C_39 B_39L14 (S_39L14 Aa) x (Bc n):=by
 obtain⟨_,_,_,_,_,_,_,_⟩:=x
 kernel_rfl
theorem K_39L24 (n:Nat) (x):Bd (n+1) x=Yff C_39 B_39L24 (S_39L24 Aa) x (Bd n):=by
 obtain⟨_,_,_,_,_,_,_,_,_,_,_,_⟩:=x
 kernel_rfl
theorem K_39L19 (n:Nat) (x):AN (n+1) x=Yff C_39 B_39L19 (S_39L19 Aa) x (AN n):=by
 obtain⟨_,_,_,_,_,_,_,_⟩:=x
 kernel_rfl
theorem K_39L3 (n:Nat) (x):AW (n+1) x=Yff C_39 B_39L3 (S_39L3 Aa) x (AW n):=by
 obtain⟨_,_,_,_⟩:=x
 kernel_rfl
theorem F_39 (a):E_39.run a=Yil C_39 Tryz.f119 E_39.params E_39.results a λo r=>some (N_39 o r):=by
 kernel_rfl
theorem W_39:XU D_39= [B_39L3,B_39L6,B_39L14,B_39L19,B_39L24]:=by kernel_rfl
theorem Q_39:Qk Tryz.prog 119 Tryz.f119 D_39:=⟨Tryz.func119,by kernel_rfl,by kernel_rfl⟩
theorem H_39:Holds Tryz.prog 119 E_39:=
 YiW tabT mixT Q_39 F_39 rfl ⟨⟨H_37,_,_,Q_37⟩,⟨⟨H_36,_,_,Q_36⟩,⟨⟨H_38,_,_,Q_38⟩,trivial⟩⟩⟩ W_39 ⟨Yi1 (L:=S_39L3 Aa) K_39L3 (i:=3) (by kernel_rfl),⟨Yi1 (L:=S_39L6 Aa) K_39L6 (i:=6) (by kernel_rfl),⟨Yi1 (L:=S_39L14 Aa) K_39L14 (i:=14) (by kernel_rfl),⟨Yi1 (L:=S_39L19 Aa) K_39L19 (i:=19) (by kernel_rfl),⟨Yi1 (L:=S_39L24 Aa) K_39L24 (i:=24) (by kernel_rfl),trivial⟩⟩⟩⟩⟩
theorem K_40L3 (n:Nat) (x):Az (n+1) x=Yff C_40 B_40L3 (S_40L3 Aa) x (Az n):=by
 obtain⟨_,_,_,_,_⟩:=x
 kernel_rfl
theorem F_40 (a):E_40.run a=Yil C_40 Tryz.f92 E_40.params E_40.results a λo r=>some (N_40 o r):=by
 kernel_rfl
theorem W_40:XU D_40= [B_40L3]:=by kernel_rfl
theorem Q_40:Qk Tryz.prog 92 Tryz.f92 D_40:=⟨Tryz.func92,by kernel_rfl,by kernel_rfl⟩
theorem H_40:Holds Tryz.prog 92 E_40:=
 YiW tabT mixT Q_40 F_40 rfl trivial W_40 ⟨Yi1 (L:=S_40L3 Aa) K_40L3 (i:=3) (by kernel_rfl),trivial⟩
theorem K_41L4 (n:Nat) (x):AP (n+1) x=Yff C_41 B_41L4 (S_41L4 Aa) x (AP n):=by
 obtain⟨_,_,_,_,_,_,_⟩:=x
 kernel_rfl
theorem K_41L14 (n:Nat) (x):AM (n+1) x=Yff C_41 B_41L14 (S_41L14 Aa) x (AM n):=by
 obtain⟨_,_,_,_,_,_,_,_,_,_,_,_,_⟩:=x
 kernel_rfl
theorem K_41L9 (n:Nat) (x):AA (n+1) x=Yff C_41 B_41L9 (S_41L9 Aa) x (AA n):=by
 obtain⟨_,_,_,_,_,_,_⟩:=x
 kernel_rfl
theorem F_41 (a):E_41.run a=Yil C_41 Tryz.f93 E_41.params E_41.results a λo r=>some (N_41 o r):=by
 kernel_rfl
theorem W_41:XU D_41= [B_41L4,B_41L9,B_41L14]:=by kernel_rfl
theorem Q_41:Qk Tryz.prog 93 Tryz.f93 D_41:=⟨Tryz.func93,by kernel_rfl,by kernel_rfl⟩
theorem H_41:Holds Tryz.prog 93 E_41:=
 YiW tabT mixT Q_41 F_41 rfl ⟨⟨H_40,_,_,Q_40⟩,trivial⟩ W_41 ⟨Yi1 (L:=S_41L4 Aa) K_41L4 (i:=4) (by kernel_rfl),⟨Yi1 (L:=S_41L9 Aa) K_41L9 (i:=9) (by kernel_rfl),⟨Yi1 (L:=S_41L14 Aa) K_41L14 (i:=14) (by kernel_rfl),trivial⟩⟩⟩
theorem K_42L2 (n:Nat) (x):AL (n+1) x=Yff C_42 B_42L2 (S_42L2 Aa) x (AL n):=by
 obtain⟨_,_,_,_⟩:=x
 kernel_rfl
theorem K_42L9 (n:Nat) (x):AX (n+1) x=Yff C_42 B_42L9 (S_42L9 Aa) x (AX n):=by
 obtain⟨_,_,_,_,_⟩:=x
 kernel_rfl
theorem F_42 (a):E_42.run a=Yil C_42 Tryz.f120 E_42.params E_42.results a λo r=>some (N_42 o r):=by
 kernel_rfl
theorem W_42:XU D_42= [B_42L2,B_42L9]:=by kernel_rfl
theorem Q_42:Qk Tryz.prog 120 Tryz.f120 D_42:=⟨Tryz.func120,by kernel_rfl,by kernel_rfl⟩
theorem H_42:Holds Tryz.prog 120 E_42:=
 YiW tabT mixT Q_42 F_42 rfl ⟨⟨H_40,_,_,Q_40⟩,⟨⟨H_41,_,_,Q_41⟩,trivial⟩⟩ W_42 ⟨Yi1 (L:=S_42L2 Aa) K_42L2 (i:=2) (by kernel_rfl),⟨Yi1 (L:=S_42L9 Aa) K_42L9 (i:=9) (by kernel_rfl),trivial⟩⟩
theorem K_43L6 (n:Nat) (x):CF (n+1) x=Yff C_43 B_43L6 (S_43L6 Aa) x (CF n):=by
 obtain⟨_,_,_,_,_⟩:=x
 kernel_rfl
theorem K_43L14 (n:Nat) (x):Cv (n+1) x=Yff C_43 B_43L14 (S_43L14 Aa) x (Cv n):=by
 obtain⟨_,_,_,_,_,_,_,_⟩:=x
 kernel_rfl
theorem K_43L24 (n:Nat) (x):Cw (n+1) x=Yff C_43 B_43L24 (S_43L24 Aa) x (Cw n):=by
 obtain⟨_,_,_,_,_,_,_,_,_,_,_,_⟩:=x
 kernel_rfl
theorem K_43L19 (n:Nat) (x):Bq (n+1) x=Yff C_43 B_43L19 (S_43L19 Aa) x (Bq n):=by
 obtain⟨_,_,_,_,_,_,_,_⟩:=x
 kernel_rfl
theorem K_43L3 (n:Nat) (x):B8 (n+1) x=Yff C_43 B_43L3 (S_43L3 Aa) x (B8 n):=by
 obtain⟨_,_,_,_⟩:=x
 kernel_rfl
theorem F_43 (a):E_43.run a=Yil C_43 Tryz.f119 E_43.params E_43.results a λo r=>some (N_43 o r):=by
 kernel_rfl
theorem W_43:XU D_43= [B_43L3,B_43L6,B_43L14,B_43L19,B_43L24]:=by kernel_rfl
theorem Q_43:Qk Tryz.prog 119 Tryz.f119 D_43:=⟨Tryz.func119,by kernel_rfl,by kernel_rfl⟩
theorem H_43:Holds Tryz.prog 119 E_43:=
 YiW tabT mixT Q_43 F_43 rfl ⟨⟨H_37,_,_,Q_37⟩,⟨⟨H_36,_,_,Q_36⟩,⟨⟨H_38,_,_,Q_38⟩,trivial⟩⟩⟩ W_43 ⟨Yi1 (L:=S_43L3 Aa) K_43L3 (i:=3) (by kernel_rfl),⟨Yi1 (L:=S_43L6 Aa) K_43L6 (i:=6) (by kernel_rfl),⟨Yi1 (L:=S_43L14 Aa) K_43L14 (i:=14) (by kernel_rfl),⟨Yi1 (L:=S_43L19 Aa) K_43L19 (i:=19) (by kernel_rfl),⟨Yi1 (L:=S_43L24 Aa) K_43L24 (i:=24) (by kernel_rfl),trivial⟩⟩⟩⟩⟩
theorem K_44L3 (n:Nat) (x):Bl (n+1) x=Yff C_44 B_44L3 (S_44L3 Aa) x (Bl n):=by
 obtain⟨_,_,_,_,_,_⟩:=x
 kernel_rfl
theorem F_44 (a):E_44.run a=Yil C_44 Tryz.f98 E_44.params E_44.results a λo r=>some (N_44 o r):=by
 kernel_rfl
theorem W_44:XU D_44= [B_44L3]:=by kernel_rfl
theorem Q_44:Qk Tryz.prog 98 Tryz.f98 D_44:=⟨Tryz.func98,by kernel_rfl,by kernel_rfl⟩
theorem H_44:Holds Tryz.prog 98 E_44:=
 YiW tabT mixT Q_44 F_44 rfl ⟨⟨H_35,_,_,Q_35⟩,⟨⟨H_36,_,_,Q_36⟩,trivial⟩⟩ W_44 ⟨Yi1 (L:=S_44L3 Aa) K_44L3 (i:=3) (by kernel_rfl),trivial⟩
theorem K_45L8 (n:Nat) (x):BG (n+1) x=Yff C_45 B_45L8 (S_45L8 Aa) x (BG n):=by
 obtain⟨_,_,_,_,_,_,_,_,_,_,_,_⟩:=x
 kernel_rfl
theorem K_45L4 (n:Nat) (x):BF (n+1) x=Yff C_45 B_45L4 (S_45L4 Aa) x (BF n):=by
 obtain⟨_,_,_,_,_,_,_,_⟩:=x
 kernel_rfl
theorem K_45L20 (n:Nat) (x):Bt (n+1) x=Yff C_45 B_45L20 (S_45L20 Aa) x (Bt n):=by
 obtain⟨_,_,_,_,_,_,_,_,_,_,_,_,_⟩:=x
 kernel_rfl
theorem K_45L16 (n:Nat) (x):Bs (n+1) x=Yff C_45 B_45L16 (S_45L16 Aa) x (Bs n):=by
 obtain⟨_,_,_,_,_,_,_,_⟩:=x
 kernel_rfl
theorem F_45 (a):E_45.run a=Yil C_45 Tryz.f71 E_45.params E_45.results a λo r=>some (N_45 o r):=by
 kernel_rfl
theorem W_45:XU D_45= [B_45L4,B_45L8,B_45L16,B_45L20]:=by kernel_rfl
theorem Q_45:Qk Tryz.prog 71 Tryz.f71 D_45:=⟨Tryz.func71,by kernel_rfl,by kernel_rfl⟩
theorem H_45:Holds Tryz.prog 71 E_45:=
 YiW tabT mixT Q_45 F_45 rfl ⟨⟨H_44,_,_,Q_44⟩,⟨⟨H_43,_,_,Q_43⟩,⟨⟨H_42,_,_,Q_42⟩,trivial⟩⟩⟩ W_45 ⟨Yi1 (L:=S_45L4 Aa) K_45L4 (i:=4) (by kernel_rfl),⟨Yi1 (L:=S_45L8 Aa) K_45L8 (i:=8) (by kernel_rfl),⟨Yi1 (L:=S_45L16 Aa) K_45L16 (i:=16) (by kernel_rfl),⟨Yi1 (L:=S_45L20 Aa) K_45L20 (i:=20) (by kernel_rfl),trivial⟩⟩⟩⟩
theorem F_46 (a):E_46.run a=Yil C_46 Tryz.f24 E_46.params E_46.results a λo r=>some (N_46 o r):=by
 kernel_rfl
theorem W_46:XU D_46= []:=by kernel_rfl
theorem Q_46:Qk Tryz.prog 24 Tryz.f24 D_46:=⟨Tryz.func24,by kernel_rfl,by kernel_rfl⟩
theorem H_46:Holds Tryz.prog 24 E_46:=
 YiW tabT mixT Q_46 F_46 rfl ⟨⟨H_34,_,_,Q_34⟩,⟨⟨H_45,_,_,Q_45⟩,trivial⟩⟩ W_46 trivial
theorem F_47 (a):E_47.run a=Yil C_47 Tryz.f72 E_47.params E_47.results a λo r=>some (N_47 o r):=by
 kernel_rfl
theorem W_47:XU D_47= []:=by kernel_rfl
theorem Q_47:Qk Tryz.prog 72 Tryz.f72 D_47:=⟨Tryz.func72,by kernel_rfl,by kernel_rfl⟩
theorem H_47:Holds Tryz.prog 72 E_47:=
 YiW tabT mixT Q_47 F_47 rfl trivial W_47 trivial
theorem F_48 (a):E_48.run a=Yil C_48 Tryz.f60 E_48.params E_48.results a λo r=>some (N_48 o r):=by
 kernel_rfl
theorem W_48:XU D_48= []:=by kernel_rfl
theorem Q_48:Qk Tryz.prog 60 Tryz.f60 D_48:=⟨Tryz.func60,by kernel_rfl,by kernel_rfl⟩
theorem H_48:Holds Tryz.prog 60 E_48:=
 YiW tabT mixT Q_48 F_48 rfl trivial W_48 trivial
theorem F_49 (a):E_49.run a=Yil C_49 Tryz.f85 E_49.params E_49.results a λo r=>some (N_49 o r):=by
 kernel_rfl
theorem W_49:XU D_49= []:=by kernel_rfl
theorem Q_49:Qk Tryz.prog 85 Tryz.f85 D_49:=⟨Tryz.func85,by kernel_rfl,by kernel_rfl⟩
theorem H_49:Holds Tryz.prog 85 E_49:=
 YiW tabT mixT Q_49 F_49 rfl ⟨⟨H_48,_,_,Q_48⟩,trivial⟩ W_49 trivial
theorem K_50L2 (n:Nat) (x):Eb (n+1) x=Yff C_50 B_50L2 (S_50L2 Aa) x (Eb n):=by
 obtain⟨_,_,_⟩:=x
 kernel_rfl
theorem F_50 (a):E_50.run a=Yil C_50 Tryz.f62 E_50.params E_50.results a λo r=>some (N_50 o r):=by
 kernel_rfl
theorem W_50:XU D_50= [B_50L2]:=by kernel_rfl
theorem Q_50:Qk Tryz.prog 62 Tryz.f62 D_50:=⟨Tryz.func62,by kernel_rfl,by kernel_rfl⟩
theorem H_50:Holds Tryz.prog 62 E_50:=
 YiW tabT mixT Q_50 F_50 rfl trivial W_50 ⟨Yi1 (L:=S_50L2 Aa) K_50L2 (i:=2) (by kernel_rfl),trivial⟩
theorem K_51L2 (n:Nat) (x):Cl (n+1) x=Yff C_51 B_51L2 (S_51L2 Aa) x (Cl n):=by
 obtain⟨_,_,_⟩:=x
 kernel_rfl
theorem F_51 (a):E_51.run a=Yil C_51 Tryz.f61 E_51.params E_51.results a λo r=>some (N_51 o r):=by
 kernel_rfl
theorem W_51:XU D_51= [B_51L2]:=by kernel_rfl
theorem Q_51:Qk Tryz.prog 61 Tryz.f61 D_51:=⟨Tryz.func61,by kernel_rfl,by kernel_rfl⟩
theorem H_51:Holds Tryz.prog 61 E_51:=
 YiW tabT mixT Q_51 F_51 rfl ⟨⟨H_48,_,_,Q_48⟩,trivial⟩ W_51 ⟨Yi1 (L:=S_51L2 Aa) K_51L2 (i:=2) (by kernel_rfl),trivial⟩
theorem F_52 (a):E_52.run a=Yil C_52 Tryz.f121 E_52.params E_52.results a λo r=>some (N_52 o r):=by
 kernel_rfl
theorem W_52:XU D_52= []:=by kernel_rfl
theorem Q_52:Qk Tryz.prog 121 Tryz.f121 D_52:=⟨Tryz.func121,by kernel_rfl,by kernel_rfl⟩
theorem H_52:Holds Tryz.prog 121 E_52:=
 YiW tabT mixT Q_52 F_52 rfl ⟨⟨H_51,_,_,Q_51⟩,trivial⟩ W_52 trivial
theorem K_53L4 (n:Nat) (x):CP (n+1) x=Yff C_53 B_53L4 (S_53L4 Aa) x (CP n):=by
 obtain⟨_,_,_,_⟩:=x
 kernel_rfl
theorem F_53 (a):E_53.run a=Yil C_53 Tryz.f73 E_53.params E_53.results a λo r=>some (N_53 o r):=by
 kernel_rfl
theorem W_53:XU D_53= [B_53L4]:=by kernel_rfl
theorem Q_53:Qk Tryz.prog 73 Tryz.f73 D_53:=⟨Tryz.func73,by kernel_rfl,by kernel_rfl⟩
theorem H_53:Holds Tryz.prog 73 E_53:=
 YiW tabT mixT Q_53 F_53 rfl ⟨⟨H_48,_,_,Q_48⟩,⟨⟨H_50,_,_,Q_50⟩,⟨⟨H_49,_,_,Q_49⟩,⟨⟨H_52,_,_,Q_52⟩,⟨⟨H_5,_,_,Q_5⟩,trivial⟩⟩⟩⟩⟩ W_53 ⟨Yi1 (L:=S_53L4 Aa) K_53L4 (i:=4) (by kernel_rfl),trivial⟩
theorem K_54L3 (n:Nat) (x):AE (n+1) x=Yff C_54 B_54L3 (S_54L3 Aa) x (AE n):=by
 obtain⟨_,_,_,_,_,_⟩:=x
 kernel_rfl
theorem F_54 (a):E_54.run a=Yil C_54 Tryz.f76 E_54.params E_54.results a λo r=>some (N_54 o r):=by
 kernel_rfl
theorem W_54:XU D_54= [B_54L3]:=by kernel_rfl
theorem Q_54:Qk Tryz.prog 76 Tryz.f76 D_54:=⟨Tryz.func76,by kernel_rfl,by kernel_rfl⟩
theorem H_54:Holds Tryz.prog 76 E_54:=
 YiW tabT mixT Q_54 F_54 rfl trivial W_54 ⟨Yi1 (L:=S_54L3 Aa) K_54L3 (i:=3) (by kernel_rfl),trivial⟩
theorem K_55L9 (n:Nat) (x):B1 (n+1) x=Yff C_55 B_55L9 (S_55L9 Aa) x (B1 n):=by
 obtain⟨_,_,_,_,_,_⟩:=x
 kernel_rfl
theorem K_55L5 (n:Nat) (x):B0 (n+1) x=Yff C_55 B_55L5 (S_55L5 Aa) x (B0 n):=by
 obtain⟨_,_,_,_⟩:=x
 kernel_rfl
theorem K_55L2 (n:Nat) (x):Bi (n+1) x=Yff C_55 B_55L2 (S_55L2 Aa) x (Bi n):=by
 obtain⟨_,_,_⟩:=x
 kernel_rfl
theorem F_55 (a):E_55.run a=Yil C_55 Tryz.f74 E_55.params E_55.results a λo r=>some (N_55 o r):=by
 kernel_rfl
theorem W_55:XU D_55= [B_55L2,B_55L5,B_55L9]:=by kernel_rfl
theorem Q_55:Qk Tryz.prog 74 Tryz.f74 D_55:=⟨Tryz.func74,by kernel_rfl,by kernel_rfl⟩
theorem H_55:Holds Tryz.prog 74 E_55:=
 YiW tabT mixT Q_55 F_55 rfl ⟨⟨H_54,_,_,Q_54⟩,⟨⟨H_7,_,_,Q_7⟩,trivial⟩⟩ W_55 ⟨Yi1 (L:=S_55L2 Aa) K_55L2 (i:=2) (by kernel_rfl),⟨Yi1 (L:=S_55L5 Aa) K_55L5 (i:=5) (by kernel_rfl),⟨Yi1 (L:=S_55L9 Aa) K_55L9 (i:=9) (by kernel_rfl),trivial⟩⟩⟩
theorem K_56L2 (n:Nat) (x):EQ (n+1) x=Yff C_56 B_56L2 (S_56L2 Aa) x (EQ n):=by
 obtain⟨_,_,_⟩:=x
 kernel_rfl
theorem F_56 (a):E_56.run a=Yil C_56 Tryz.f124 E_56.params E_56.results a λo r=>some (N_56 o r):=by
 kernel_rfl
theorem W_56:XU D_56= [B_56L2]:=by kernel_rfl
theorem Q_56:Qk Tryz.prog 124 Tryz.f124 D_56:=⟨Tryz.func124,by kernel_rfl,by kernel_rfl⟩
theorem H_56:Holds Tryz.prog 124 E_56:=
 YiW tabT mixT Q_56 F_56 rfl trivial W_56 ⟨Yi1 (L:=S_56L2 Aa) K_56L2 (i:=2) (by kernel_rfl),trivial⟩
theorem K_57L3 (n:Nat) (x):Cg (n+1) x=Yff C_57 B_57L3 (S_57L3 Aa) x (Cg n):=by
 obtain⟨_,_,_,_,_⟩:=x
 kernel_rfl
theorem F_57 (a):E_57.run a=Yil C_57 Tryz.f123 E_57.params E_57.results a λo r=>some (N_57 o r):=by
 kernel_rfl
theorem W_57:XU D_57= [B_57L3]:=by kernel_rfl
theorem Q_57:Qk Tryz.prog 123 Tryz.f123 D_57:=⟨Tryz.func123,by kernel_rfl,by kernel_rfl⟩
theorem H_57:Holds Tryz.prog 123 E_57:=
 YiW tabT mixT Q_57 F_57 rfl trivial W_57 ⟨Yi1 (L:=S_57L3 Aa) K_57L3 (i:=3) (by kernel_rfl),trivial⟩
theorem K_58L3 (n:Nat) (x):Bz (n+1) x=Yff C_58 B_58L3 (S_58L3 Aa) x (Bz n):=by
 obtain⟨_,_,_,_,_,_⟩:=x
 kernel_rfl
theorem K_58L10 (n:Nat) (x):A8 (n+1) x=Yff C_58 B_58L10 (S_58L10 Aa) x (A8 n):=by
 obtain⟨_,_,_,_,_,_⟩:=x
 kernel_rfl
theorem K_58L16 (n:Nat) (x):A9 (n+1) x=Yff C_58 B_58L16 (S_58L16 Aa) x (A9 n):=by
 obtain⟨_,_,_,_,_,_,_,_⟩:=x
 kernel_rfl
theorem K_58L20 (n:Nat) (x):Ba (n+1) x=Yff C_58 B_58L20 (S_58L20 Aa) x (Ba n):=by
 obtain⟨_,_,_,_,_,_,_,_⟩:=x
 kernel_rfl
theorem K_58L7 (n:Nat) (x):Bf (n+1) x=Yff C_58 B_58L7 (S_58L7 Aa) x (Bf n):=by
 obtain⟨_,_,_,_,_⟩:=x
 kernel_rfl
theorem F_58 (a):E_58.run a=Yil C_58 Tryz.f75 E_58.params E_58.results a λo r=>some (N_58 o r):=by
 kernel_rfl
theorem W_58:XU D_58= [B_58L3,B_58L7,B_58L10,B_58L16,B_58L20]:=by kernel_rfl
theorem Q_58:Qk Tryz.prog 75 Tryz.f75 D_58:=⟨Tryz.func75,by kernel_rfl,by kernel_rfl⟩
theorem H_58:Holds Tryz.prog 75 E_58:=
 YiW tabT mixT Q_58 F_58 rfl ⟨⟨H_54,_,_,Q_54⟩,⟨⟨H_14,_,_,Q_14⟩,⟨⟨H_57,_,_,Q_57⟩,⟨⟨H_56,_,_,Q_56⟩,trivial⟩⟩⟩⟩ W_58 ⟨Yi1 (L:=S_58L3 Aa) K_58L3 (i:=3) (by kernel_rfl),⟨Yi1 (L:=S_58L7 Aa) K_58L7 (i:=7) (by kernel_rfl),⟨Yi1 (L:=S_58L10 Aa) K_58L10 (i:=10) (by kernel_rfl),⟨Yi1 (L:=S_58L16 Aa) K_58L16 (i:=16) (by kernel_rfl),⟨Yi1 (L:=S_58L20 Aa) K_58L20 (i:=20) (by kernel_rfl),trivial⟩⟩⟩⟩⟩
theorem K_59L3 (n:Nat) (x):B7 (n+1) x=Yff C_59 B_59L3 (S_59L3 Aa) x (B7 n):=by
 obtain⟨_,_,_,_⟩:=x
 kernel_rfl
theorem F_59 (a):E_59.run a=Yil C_59 Tryz.f125 E_59.params E_59.results a λo r=>some (N_59 o r):=by
 kernel_rfl
theorem W_59:XU D_59= [B_59L3]:=by kernel_rfl
theorem Q_59:Qk Tryz.prog 125 Tryz.f125 D_59:=⟨Tryz.func125,by kernel_rfl,by kernel_rfl⟩
theorem H_59:Holds Tryz.prog 125 E_59:=
 YiW tabT mixT Q_59 F_59 rfl ⟨⟨H_16,_,_,Q_16⟩,trivial⟩ W_59 ⟨Yi1 (L:=S_59L3 Aa) K_59L3 (i:=3) (by kernel_rfl),trivial⟩
theorem K_60L8 (n:Nat) (x):B3 (n+1) x=Yff C_60 B_60L8 (S_60L8 Aa) x (B3 n):=by
 obtain⟨_,_,_,_,_,_,_,_⟩:=x
 kernel_rfl
theorem K_60L3 (n:Nat) (x):B2 (n+1) x=Yff C_60 B_60L3 (S_60L3 Aa) x (B2 n):=by
 obtain⟨_,_,_,_,_,_⟩:=x
 kernel_rfl
theorem F_60 (a):E_60.run a=Yil C_60 Tryz.f77 E_60.params E_60.results a λo r=>some (N_60 o r):=by
 kernel_rfl
theorem W_60:XU D_60= [B_60L3,B_60L8]:=by kernel_rfl
theorem Q_60:Qk Tryz.prog 77 Tryz.f77 D_60:=⟨Tryz.func77,by kernel_rfl,by kernel_rfl⟩
theorem H_60:Holds Tryz.prog 77 E_60:=
 YiW tabT mixT Q_60 F_60 rfl ⟨⟨H_59,_,_,Q_59⟩,trivial⟩ W_60 ⟨Yi1 (L:=S_60L3 Aa) K_60L3 (i:=3) (by kernel_rfl),⟨Yi1 (L:=S_60L8 Aa) K_60L8 (i:=8) (by kernel_rfl),trivial⟩⟩
theorem K_61L5 (n:Nat) (x):BJ (n+1) x=Yff C_61 B_61L5 (S_61L5 Aa) x (BJ n):=by
 obtain⟨_,_,_,_,_,_⟩:=x
 kernel_rfl
theorem K_61L15 (n:Nat) (x):Bw (n+1) x=Yff C_61 B_61L15 (S_61L15 Aa) x (Bw n):=by
 obtain⟨_,_,_,_,_,_,_,_,_⟩:=x
 kernel_rfl
theorem K_61L11 (n:Nat) (x):Bv (n+1) x=Yff C_61 B_61L11 (S_61L11 Aa) x (Bv n):=by
 obtain⟨_,_,_,_,_,_,_⟩:=x
 kernel_rfl
theorem F_61 (a):E_61.run a=Yil C_61 Tryz.f25 E_61.params E_61.results a λo r=>some (N_61 o r):=by
 kernel_rfl
theorem W_61:XU D_61= [B_61L5,B_61L11,B_61L15]:=by kernel_rfl
theorem Q_61:Qk Tryz.prog 25 Tryz.f25 D_61:=⟨Tryz.func25,by kernel_rfl,by kernel_rfl⟩
theorem H_61:Holds Tryz.prog 25 E_61:=
 YiW tabT mixT Q_61 F_61 rfl ⟨⟨H_47,_,_,Q_47⟩,⟨⟨H_53,_,_,Q_53⟩,⟨⟨H_55,_,_,Q_55⟩,⟨⟨H_58,_,_,Q_58⟩,⟨⟨H_54,_,_,Q_54⟩,⟨⟨H_60,_,_,Q_60⟩,⟨⟨H_14,_,_,Q_14⟩,trivial⟩⟩⟩⟩⟩⟩⟩ W_61 ⟨Yi1 (L:=S_61L5 Aa) K_61L5 (i:=5) (by kernel_rfl),⟨Yi1 (L:=S_61L11 Aa) K_61L11 (i:=11) (by kernel_rfl),⟨Yi1 (L:=S_61L15 Aa) K_61L15 (i:=15) (by kernel_rfl),trivial⟩⟩⟩
theorem K_62L4 (n:Nat) (x):Dt (n+1) x=Yff C_62 B_62L4 (S_62L4 Aa) x (Dt n):=by
 obtain⟨_,_,_⟩:=x
 kernel_rfl
theorem F_62 (a):E_62.run a=Yil C_62 Tryz.f87 E_62.params E_62.results a λo r=>some (N_62 o r):=by
 kernel_rfl
theorem W_62:XU D_62= [B_62L4]:=by kernel_rfl
theorem Q_62:Qk Tryz.prog 87 Tryz.f87 D_62:=⟨Tryz.func87,by kernel_rfl,by kernel_rfl⟩
theorem H_62:Holds Tryz.prog 87 E_62:=
 YiW tabT mixT Q_62 F_62 rfl trivial W_62 ⟨Yi1 (L:=S_62L4 Aa) K_62L4 (i:=4) (by kernel_rfl),trivial⟩
theorem K_63L4 (n:Nat) (x):Dc (n+1) x=Yff C_63 B_63L4 (S_63L4 Aa) x (Dc n):=by
 obtain⟨_,_,_⟩:=x
 kernel_rfl
theorem F_63 (a):E_63.run a=Yil C_63 Tryz.f35 E_63.params E_63.results a λo r=>some (N_63 o r):=by
 kernel_rfl
theorem W_63:XU D_63= [B_63L4]:=by kernel_rfl
theorem Q_63:Qk Tryz.prog 35 Tryz.f35 D_63:=⟨Tryz.func35,by kernel_rfl,by kernel_rfl⟩
theorem H_63:Holds Tryz.prog 35 E_63:=
 YiW tabT mixT Q_63 F_63 rfl ⟨⟨H_62,_,_,Q_62⟩,trivial⟩ W_63 ⟨Yi1 (L:=S_63L4 Aa) K_63L4 (i:=4) (by kernel_rfl),trivial⟩
theorem F_64 (a):E_64.run a=Yil C_64 Tryz.f26 E_64.params E_64.results a λo r=>some (N_64 o r):=by
 kernel_rfl
theorem W_64:XU D_64= []:=by kernel_rfl
theorem Q_64:Qk Tryz.prog 26 Tryz.f26 D_64:=⟨Tryz.func26,by kernel_rfl,by kernel_rfl⟩
theorem H_64:Holds Tryz.prog 26 E_64:=
 YiW tabT mixT Q_64 F_64 rfl ⟨⟨H_63,_,_,Q_63⟩,trivial⟩ W_64 trivial
theorem F_65 (a):E_65.run a=Yil C_65 Tryz.f28 E_65.params E_65.results a λo r=>some (N_65 o r):=by
 kernel_rfl
theorem W_65:XU D_65= []:=by kernel_rfl
theorem Q_65:Qk Tryz.prog 28 Tryz.f28 D_65:=⟨Tryz.func28,by kernel_rfl,by kernel_rfl⟩
theorem H_65:Holds Tryz.prog 28 E_65:=
 YiW tabT mixT Q_65 F_65 rfl ⟨⟨H_47,_,_,Q_47⟩,⟨⟨H_53,_,_,Q_53⟩,⟨⟨H_55,_,_,Q_55⟩,trivial⟩⟩⟩ W_65 trivial
theorem F_66 (a):E_66.run a=Yil C_66 Tryz.f84 E_66.params E_66.results a λo r=>some (N_66 o r):=by
 kernel_rfl
theorem W_66:XU D_66= []:=by kernel_rfl
theorem Q_66:Qk Tryz.prog 84 Tryz.f84 D_66:=⟨Tryz.func84,by kernel_rfl,by kernel_rfl⟩
theorem H_66:Holds Tryz.prog 84 E_66:=
 YiW tabT mixT Q_66 F_66 rfl trivial W_66 trivial
theorem K_67L3 (n:Nat) (x):As (n+1) x=Yff C_67 B_67L3 (S_67L3 Aa) x (As n):=by
 obtain⟨_,_,_,_,_⟩:=x
 kernel_rfl
theorem F_67 (a):E_67.run a=Yil C_67 Tryz.f83 E_67.params E_67.results a λo r=>some (N_67 o r):=by
 kernel_rfl
theorem W_67:XU D_67= [B_67L3]:=by kernel_rfl
theorem Q_67:Qk Tryz.prog 83 Tryz.f83 D_67:=⟨Tryz.func83,by kernel_rfl,by kernel_rfl⟩
theorem H_67:Holds Tryz.prog 83 E_67:=
 YiW tabT mixT Q_67 F_67 rfl ⟨⟨H_66,_,_,Q_66⟩,trivial⟩ W_67 ⟨Yi1 (L:=S_67L3 Aa) K_67L3 (i:=3) (by kernel_rfl),trivial⟩
theorem F_68 (a):E_68.run a=Yil C_68 Tryz.f29 E_68.params E_68.results a λo r=>some (N_68 o r):=by
 kernel_rfl
theorem W_68:XU D_68= []:=by kernel_rfl
theorem Q_68:Qk Tryz.prog 29 Tryz.f29 D_68:=⟨Tryz.func29,by kernel_rfl,by kernel_rfl⟩
theorem H_68:Holds Tryz.prog 29 E_68:=
 YiW tabT mixT Q_68 F_68 rfl ⟨⟨H_27,_,_,Q_27⟩,⟨⟨H_67,_,_,Q_67⟩,trivial⟩⟩ W_68 trivial
theorem F_69 (a):E_69.run a=Yil C_69 Tryz.f30 E_69.params E_69.results a λo r=>some (N_69 o r):=by
 kernel_rfl
theorem W_69:XU D_69= []:=by kernel_rfl
theorem Q_69:Qk Tryz.prog 30 Tryz.f30 D_69:=⟨Tryz.func30,by kernel_rfl,by kernel_rfl⟩
theorem H_69:Holds Tryz.prog 30 E_69:=
 YiW tabT mixT Q_69 F_69 rfl ⟨⟨H_49,_,_,Q_49⟩,⟨⟨H_10,_,_,Q_10⟩,trivial⟩⟩ W_69 trivial
theorem F_70 (a):E_70.run a=Yil C_70 Tryz.f31 E_70.params E_70.results a λo r=>some (N_70 o r):=by
 kernel_rfl
theorem W_70:XU D_70= []:=by kernel_rfl
theorem Q_70:Qk Tryz.prog 31 Tryz.f31 D_70:=⟨Tryz.func31,by kernel_rfl,by kernel_rfl⟩
theorem H_70:Holds Tryz.prog 31 E_70:=
 YiW tabT mixT Q_70 F_70 rfl ⟨⟨H_62,_,_,Q_62⟩,trivial⟩ W_70 trivial
theorem Q_71:Qk Tryz.prog 95 Tryz.f95 D_71:=⟨Tryz.func95,by kernel_rfl,by kernel_rfl⟩
theorem H_71:Holds Tryz.prog 95 E_71:=Go.Proofs.H_sort_cmpL 1
theorem F_72 (a):E_72.run a=Yil C_72 Tryz.f109 E_72.params E_72.results a λo r=>some (N_72 o r):=by
 kernel_rfl
theorem W_72:XU D_72= []:=by kernel_rfl
theorem Q_72:Qk Tryz.prog 109 Tryz.f109 D_72:=⟨Tryz.func109,by kernel_rfl,by kernel_rfl⟩
theorem H_72:Holds Tryz.prog 109 E_72:=
 YiW tabT mixT Q_72 F_72 rfl ⟨⟨H_36,_,_,Q_36⟩,⟨⟨H_71,_,_,Q_71⟩,trivial⟩⟩ W_72 trivial
theorem K_73L4 (n:Nat) (x):Fd (n+1) x=Yff C_73 B_73L4 (S_73L4 Aa) x (Fd n):=by
 obtain⟨_,_,_,_⟩:=x
 kernel_rfl
theorem F_73 (a):E_73.run a=Yil C_73 Tryz.f111 E_73.params E_73.results a λo r=>some (N_73 o r):=by
 kernel_rfl
theorem W_73:XU D_73= [B_73L4]:=by kernel_rfl
theorem Q_73:Qk Tryz.prog 111 Tryz.f111 D_73:=⟨Tryz.func111,by kernel_rfl,by kernel_rfl⟩
theorem H_73:Holds Tryz.prog 111 E_73:=
 YiW tabT mixT Q_73 F_73 rfl trivial W_73 ⟨Yi1 (L:=S_73L4 Aa) K_73L4 (i:=4) (by kernel_rfl),trivial⟩
theorem Q_74:Qk Tryz.prog 108 Tryz.f108 D_74:=⟨Tryz.func108,by kernel_rfl,by kernel_rfl⟩
theorem H_74:Holds Tryz.prog 108 E_74:=Go.Proofs.H_diff 1
theorem F_75 (a):E_75.run a=Yil C_75 Tryz.f59 E_75.params E_75.results a λo r=>some (N_75 o r):=by
 kernel_rfl
theorem W_75:XU D_75= []:=by kernel_rfl
theorem Q_75:Qk Tryz.prog 59 Tryz.f59 D_75:=⟨Tryz.func59,by kernel_rfl,by kernel_rfl⟩
theorem H_75:Holds Tryz.prog 59 E_75:=
 YiW tabT mixT Q_75 F_75 rfl ⟨⟨H_74,_,_,Q_74⟩,⟨⟨H_72,_,_,Q_72⟩,trivial⟩⟩ W_75 trivial
theorem K_76L4 (n:Nat) (x):BN (n+1) x=Yff C_76 B_76L4 (S_76L4 Aa) x (BN n):=by
 obtain⟨_,_,_,_,_,_,_⟩:=x
 kernel_rfl
theorem F_76 (a):E_76.run a=Yil C_76 Tryz.f32 E_76.params E_76.results a λo r=>some (N_76 o r):=by
 kernel_rfl
theorem W_76:XU D_76= [B_76L4]:=by kernel_rfl
theorem Q_76:Qk Tryz.prog 32 Tryz.f32 D_76:=⟨Tryz.func32,by kernel_rfl,by kernel_rfl⟩
theorem H_76:Holds Tryz.prog 32 E_76:=
 YiW tabT mixT Q_76 F_76 rfl ⟨⟨H_28,_,_,Q_28⟩,⟨⟨H_75,_,_,Q_75⟩,⟨⟨H_27,_,_,Q_27⟩,trivial⟩⟩⟩ W_76 ⟨Yi1 (L:=S_76L4 Aa) K_76L4 (i:=4) (by kernel_rfl),trivial⟩
theorem K_77L4 (n:Nat) (x):BP (n+1) x=Yff C_77 B_77L4 (S_77L4 Aa) x (BP n):=by
 obtain⟨_,_,_,_,_⟩:=x
 kernel_rfl
theorem F_77 (a):E_77.run a=Yil C_77 Tryz.f110 E_77.params E_77.results a λo r=>some (N_77 o r):=by
 kernel_rfl
theorem W_77:XU D_77= [B_77L4]:=by kernel_rfl
theorem Q_77:Qk Tryz.prog 110 Tryz.f110 D_77:=⟨Tryz.func110,by kernel_rfl,by kernel_rfl⟩
theorem H_77:Holds Tryz.prog 110 E_77:=
 YiW tabT mixT Q_77 F_77 rfl ⟨⟨H_28,_,_,Q_28⟩,⟨⟨H_29,_,_,Q_29⟩,trivial⟩⟩ W_77 ⟨Yi1 (L:=S_77L4 Aa) K_77L4 (i:=4) (by kernel_rfl),trivial⟩
theorem F_78 (a):E_78.run a=Yil C_78 Tryz.f128 E_78.params E_78.results a λo r=>some (N_78 o r):=by
 kernel_rfl
theorem W_78:XU D_78= []:=by kernel_rfl
theorem Q_78:Qk Tryz.prog 128 Tryz.f128 D_78:=⟨Tryz.func128,by kernel_rfl,by kernel_rfl⟩
theorem H_78:Holds Tryz.prog 128 E_78:=
 YiW tabT mixT Q_78 F_78 rfl ⟨⟨H_27,_,_,Q_27⟩,⟨⟨H_77,_,_,Q_77⟩,trivial⟩⟩ W_78 trivial
theorem F_79 (a):E_79.run a=Yil C_79 Tryz.f129 E_79.params E_79.results a λo r=>some (N_79 o r):=by
 kernel_rfl
theorem W_79:XU D_79= []:=by kernel_rfl
theorem Q_79:Qk Tryz.prog 129 Tryz.f129 D_79:=⟨Tryz.func129,by kernel_rfl,by kernel_rfl⟩
theorem H_79:Holds Tryz.prog 129 E_79:=
 YiW tabT mixT Q_79 F_79 rfl ⟨⟨H_28,_,_,Q_28⟩,⟨⟨H_31,_,_,Q_31⟩,trivial⟩⟩ W_79 trivial
theorem F_80 (a):E_80.run a=Yil C_80 Tryz.f88 E_80.params E_80.results a λo r=>some (N_80 o r):=by
 kernel_rfl
theorem W_80:XU D_80= []:=by kernel_rfl
theorem Q_80:Qk Tryz.prog 88 Tryz.f88 D_80:=⟨Tryz.func88,by kernel_rfl,by kernel_rfl⟩
theorem H_80:Holds Tryz.prog 88 E_80:=
 YiW tabT mixT Q_80 F_80 rfl ⟨⟨H_31,_,_,Q_31⟩,⟨⟨H_78,_,_,Q_78⟩,⟨⟨H_79,_,_,Q_79⟩,trivial⟩⟩⟩ W_80 trivial
theorem K_81L3 (n:Nat) (x):C0 (n+1) x=Yff C_81 B_81L3 (S_81L3 Aa) x (C0 n):=by
 obtain⟨_,_,_,_⟩:=x
 kernel_rfl
theorem F_81 (a):E_81.run a=Yil C_81 Tryz.f58 E_81.params E_81.results a λo r=>some (N_81 o r):=by
 kernel_rfl
theorem W_81:XU D_81= [B_81L3]:=by kernel_rfl
theorem Q_81:Qk Tryz.prog 58 Tryz.f58 D_81:=⟨Tryz.func58,by kernel_rfl,by kernel_rfl⟩
theorem H_81:Holds Tryz.prog 58 E_81:=
 YiW tabT mixT Q_81 F_81 rfl trivial W_81 ⟨Yi1 (L:=S_81L3 Aa) K_81L3 (i:=3) (by kernel_rfl),trivial⟩
theorem K_82L3 (n:Nat) (x):CK (n+1) x=Yff C_82 B_82L3 (S_82L3 Aa) x (CK n):=by
 obtain⟨_,_,_,_⟩:=x
 kernel_rfl
theorem F_82 (a):E_82.run a=Yil C_82 Tryz.f130 E_82.params E_82.results a λo r=>some (N_82 o r):=by
 kernel_rfl
theorem W_82:XU D_82= [B_82L3]:=by kernel_rfl
theorem Q_82:Qk Tryz.prog 130 Tryz.f130 D_82:=⟨Tryz.func130,by kernel_rfl,by kernel_rfl⟩
theorem H_82:Holds Tryz.prog 130 E_82:=
 YiW tabT mixT Q_82 F_82 rfl ⟨⟨H_81,_,_,Q_81⟩,trivial⟩ W_82 ⟨Yi1 (L:=S_82L3 Aa) K_82L3 (i:=3) (by kernel_rfl),trivial⟩
theorem K_83L10 (n:Nat) (x):B9 (n+1) x=Yff C_83 B_83L10 (S_83L10 Aa) x (B9 n):=by
 obtain⟨_,_,_,_,_,_,_,_,_,_⟩:=x
 kernel_rfl
theorem K_83L19 (n:Nat) (x):BI (n+1) x=Yff C_83 B_83L19 (S_83L19 Aa) x (BI n):=by
 obtain⟨_,_,_,_,_,_,_,_,_,_,_,_,_,_,_⟩:=x
 kernel_rfl
theorem K_83L15 (n:Nat) (x):BH (n+1) x=Yff C_83 B_83L15 (S_83L15 Aa) x (BH n):=by
 obtain⟨_,_,_,_,_,_,_,_,_,_⟩:=x
 kernel_rfl
theorem K_83L6 (n:Nat) (x):BO (n+1) x=Yff C_83 B_83L6 (S_83L6 Aa) x (BO n):=by
 obtain⟨_,_,_,_,_,_,_,_⟩:=x
 kernel_rfl
theorem F_83 (a):E_83.run a=Yil C_83 Tryz.f89 E_83.params E_83.results a λo r=>some (N_83 o r):=by
 kernel_rfl
theorem W_83:XU D_83= [B_83L6,B_83L10,B_83L15,B_83L19]:=by kernel_rfl
theorem Q_83:Qk Tryz.prog 89 Tryz.f89 D_83:=⟨Tryz.func89,by kernel_rfl,by kernel_rfl⟩
theorem H_83:Holds Tryz.prog 89 E_83:=
 YiW tabT mixT Q_83 F_83 rfl ⟨⟨H_81,_,_,Q_81⟩,⟨⟨H_31,_,_,Q_31⟩,⟨⟨H_82,_,_,Q_82⟩,trivial⟩⟩⟩ W_83 ⟨Yi1 (L:=S_83L6 Aa) K_83L6 (i:=6) (by kernel_rfl),⟨Yi1 (L:=S_83L10 Aa) K_83L10 (i:=10) (by kernel_rfl),⟨Yi1 (L:=S_83L15 Aa) K_83L15 (i:=15) (by kernel_rfl),⟨Yi1 (L:=S_83L19 Aa) K_83L19 (i:=19) (by kernel_rfl),trivial⟩⟩⟩⟩
theorem F_84 (a):E_84.run a=Yil C_84 Tryz.f33 E_84.params E_84.results a λo r=>some (N_84 o r):=by
 kernel_rfl
theorem W_84:XU D_84= []:=by kernel_rfl
theorem Q_84:Qk Tryz.prog 33 Tryz.f33 D_84:=⟨Tryz.func33,by kernel_rfl,by kernel_rfl⟩
theorem H_84:Holds Tryz.prog 33 E_84:=
 YiW tabT mixT Q_84 F_84 rfl ⟨⟨H_80,_,_,Q_80⟩,⟨⟨H_83,_,_,Q_83⟩,trivial⟩⟩ W_84 trivial
theorem K_85L4 (n:Nat) (x):CH (n+1) x=Yff C_85 B_85L4 (S_85L4 Aa) x (CH n):=by
 obtain⟨_,_,_,_⟩:=x
 kernel_rfl
theorem F_85 (a):E_85.run a=Yil C_85 Tryz.f97 E_85.params E_85.results a λo r=>some (N_85 o r):=by
 kernel_rfl
theorem W_85:XU D_85= [B_85L4]:=by kernel_rfl
theorem Q_85:Qk Tryz.prog 97 Tryz.f97 D_85:=⟨Tryz.func97,by kernel_rfl,by kernel_rfl⟩
theorem H_85:Holds Tryz.prog 97 E_85:=
 YiW tabT mixT Q_85 F_85 rfl ⟨⟨H_28,_,_,Q_28⟩,⟨⟨H_26,_,_,Q_26⟩,trivial⟩⟩ W_85 ⟨Yi1 (L:=S_85L4 Aa) K_85L4 (i:=4) (by kernel_rfl),trivial⟩
theorem F_86 (a):E_86.run a=Yil C_86 Tryz.f91 E_86.params E_86.results a λo r=>some (N_86 o r):=by
 kernel_rfl
theorem W_86:XU D_86= []:=by kernel_rfl
theorem Q_86:Qk Tryz.prog 91 Tryz.f91 D_86:=⟨Tryz.func91,by kernel_rfl,by kernel_rfl⟩
theorem H_86:Holds Tryz.prog 91 E_86:=
 YiW tabT mixT Q_86 F_86 rfl ⟨⟨H_39,_,_,Q_39⟩,trivial⟩ W_86 trivial
theorem K_87L2 (n:Nat) (x):Be (n+1) x=Yff C_87 B_87L2 (S_87L2 Aa) x (Be n):=by
 obtain⟨_,_,_,_⟩:=x
 kernel_rfl
theorem F_87 (a):E_87.run a=Yil C_87 Tryz.f131 E_87.params E_87.results a λo r=>some (N_87 o r):=by
 kernel_rfl
theorem W_87:XU D_87= [B_87L2]:=by kernel_rfl
theorem Q_87:Qk Tryz.prog 131 Tryz.f131 D_87:=⟨Tryz.func131,by kernel_rfl,by kernel_rfl⟩
theorem H_87:Holds Tryz.prog 131 E_87:=
 YiW tabT mixT Q_87 F_87 rfl trivial W_87 ⟨Yi1 (L:=S_87L2 Aa) K_87L2 (i:=2) (by kernel_rfl),trivial⟩
theorem K_88L3 (n:Nat) (x):Aq (n+1) x=Yff C_88 B_88L3 (S_88L3 Aa) x (Aq n):=by
 obtain⟨_,_,_,_⟩:=x
 kernel_rfl
theorem F_88 (a):E_88.run a=Yil C_88 Tryz.f92 E_88.params E_88.results a λo r=>some (N_88 o r):=by
 kernel_rfl
theorem W_88:XU D_88= [B_88L3]:=by kernel_rfl
theorem Q_88:Qk Tryz.prog 92 Tryz.f92 D_88:=⟨Tryz.func92,by kernel_rfl,by kernel_rfl⟩
theorem H_88:Holds Tryz.prog 92 E_88:=
 YiW tabT mixT Q_88 F_88 rfl trivial W_88 ⟨Yi1 (L:=S_88L3 Aa) K_88L3 (i:=3) (by kernel_rfl),trivial⟩
theorem F_89 (a):E_89.run a=Yil C_89 Tryz.f90 E_89.params E_89.results a λo r=>some (N_89 o r):=by
 kernel_rfl
theorem W_89:XU D_89= []:=by kernel_rfl
theorem Q_89:Qk Tryz.prog 90 Tryz.f90 D_89:=⟨Tryz.func90,by kernel_rfl,by kernel_rfl⟩
theorem H_89:Holds Tryz.prog 90 E_89:=
 YiW tabT mixT Q_89 F_89 rfl ⟨⟨H_86,_,_,Q_86⟩,⟨⟨H_88,_,_,Q_88⟩,⟨⟨H_85,_,_,Q_85⟩,⟨⟨H_31,_,_,Q_31⟩,⟨⟨H_87,_,_,Q_87⟩,trivial⟩⟩⟩⟩⟩ W_89 trivial
theorem K_90L3 (n:Nat) (x):C5 (n+1) x=Yff C_90 B_90L3 (S_90L3 Aa) x (C5 n):=by
 obtain⟨_,_,_,_⟩:=x
 kernel_rfl
theorem F_90 (a):E_90.run a=Yil C_90 Tryz.f94 E_90.params E_90.results a λo r=>some (N_90 o r):=by
 kernel_rfl
theorem W_90:XU D_90= [B_90L3]:=by kernel_rfl
theorem Q_90:Qk Tryz.prog 94 Tryz.f94 D_90:=⟨Tryz.func94,by kernel_rfl,by kernel_rfl⟩
theorem H_90:Holds Tryz.prog 94 E_90:=
 YiW tabT mixT Q_90 F_90 rfl trivial W_90 ⟨Yi1 (L:=S_90L3 Aa) K_90L3 (i:=3) (by kernel_rfl),trivial⟩
theorem K_91L4 (n:Nat) (x):AI (n+1) x=Yff C_91 B_91L4 (S_91L4 Aa) x (AI n):=by
 obtain⟨_,_,_,_,_,_,_⟩:=x
 kernel_rfl
theorem K_91L14 (n:Nat) (x):AB (n+1) x=Yff C_91 B_91L14 (S_91L14 Aa) x (AB n):=by
 obtain⟨_,_,_,_,_,_,_,_,_,_,_,_,_⟩:=x
 kernel_rfl
theorem K_91L9 (n:Nat) (x):Ar (n+1) x=Yff C_91 B_91L9 (S_91L9 Aa) x (Ar n):=by
 obtain⟨_,_,_,_,_,_,_⟩:=x
 kernel_rfl
theorem F_91 (a):E_91.run a=Yil C_91 Tryz.f93 E_91.params E_91.results a λo r=>some (N_91 o r):=by
 kernel_rfl
theorem W_91:XU D_91= [B_91L4,B_91L9,B_91L14]:=by kernel_rfl
theorem Q_91:Qk Tryz.prog 93 Tryz.f93 D_91:=⟨Tryz.func93,by kernel_rfl,by kernel_rfl⟩
theorem H_91:Holds Tryz.prog 93 E_91:=
 YiW tabT mixT Q_91 F_91 rfl ⟨⟨H_88,_,_,Q_88⟩,trivial⟩ W_91 ⟨Yi1 (L:=S_91L4 Aa) K_91L4 (i:=4) (by kernel_rfl),⟨Yi1 (L:=S_91L9 Aa) K_91L9 (i:=9) (by kernel_rfl),⟨Yi1 (L:=S_91L14 Aa) K_91L14 (i:=14) (by kernel_rfl),trivial⟩⟩⟩
theorem K_92L8 (n:Nat) (x):AT (n+1) x=Yff C_92 B_92L8 (S_92L8 Aa) x (AT n):=by
 obtain⟨_,_,_,_,_,_⟩:=x
 kernel_rfl
theorem F_92 (a):E_92.run a=Yil C_92 Tryz.f34 E_92.params E_92.results a λo r=>some (N_92 o r):=by
 kernel_rfl
theorem W_92:XU D_92= [B_92L8]:=by kernel_rfl
theorem Q_92:Qk Tryz.prog 34 Tryz.f34 D_92:=⟨Tryz.func34,by kernel_rfl,by kernel_rfl⟩
theorem H_92:Holds Tryz.prog 34 E_92:=
 YiW tabT mixT Q_92 F_92 rfl ⟨⟨H_89,_,_,Q_89⟩,⟨⟨H_86,_,_,Q_86⟩,⟨⟨H_88,_,_,Q_88⟩,⟨⟨H_91,_,_,Q_91⟩,⟨⟨H_90,_,_,Q_90⟩,⟨⟨H_71,_,_,Q_71⟩,trivial⟩⟩⟩⟩⟩⟩ W_92 ⟨Yi1 (L:=S_92L8 Aa) K_92L8 (i:=8) (by kernel_rfl),trivial⟩
theorem K_93L3 (n:Nat) (x):Bm (n+1) x=Yff C_93 B_93L3 (S_93L3 Aa) x (Bm n):=by
 obtain⟨_,_,_,_,_,_⟩:=x
 kernel_rfl
theorem F_93 (a):E_93.run a=Yil C_93 Tryz.f98 E_93.params E_93.results a λo r=>some (N_93 o r):=by
 kernel_rfl
theorem W_93:XU D_93= [B_93L3]:=by kernel_rfl
theorem Q_93:Qk Tryz.prog 98 Tryz.f98 D_93:=⟨Tryz.func98,by kernel_rfl,by kernel_rfl⟩
theorem H_93:Holds Tryz.prog 98 E_93:=
 YiW tabT mixT Q_93 F_93 rfl ⟨⟨H_35,_,_,Q_35⟩,⟨⟨H_36,_,_,Q_36⟩,trivial⟩⟩ W_93 ⟨Yi1 (L:=S_93L3 Aa) K_93L3 (i:=3) (by kernel_rfl),trivial⟩
theorem F_94 (a):E_94.run a=Yil C_94 Tryz.f36 E_94.params E_94.results a λo r=>some (N_94 o r):=by
 kernel_rfl
theorem W_94:XU D_94= []:=by kernel_rfl
theorem Q_94:Qk Tryz.prog 36 Tryz.f36 D_94:=⟨Tryz.func36,by kernel_rfl,by kernel_rfl⟩
theorem H_94:Holds Tryz.prog 36 E_94:=
 YiW tabT mixT Q_94 F_94 rfl ⟨⟨H_86,_,_,Q_86⟩,⟨⟨H_85,_,_,Q_85⟩,⟨⟨H_93,_,_,Q_93⟩,trivial⟩⟩⟩ W_94 trivial
theorem F_95 (a):E_95.run a=Yil C_95 Tryz.f4 E_95.params E_95.results a λo r=>some (N_95 o r):=by
 kernel_rfl
theorem W_95:XU D_95= []:=by kernel_rfl
theorem Q_95:Qk Tryz.prog 4 Tryz.f4 D_95:=⟨Tryz.func4,by kernel_rfl,by kernel_rfl⟩
theorem H_95:Holds Tryz.prog 4 E_95:=
 YiW tabT mixT Q_95 F_95 rfl ⟨⟨H_1,_,_,Q_1⟩,⟨⟨H_25,_,_,Q_25⟩,⟨⟨H_46,_,_,Q_46⟩,⟨⟨H_61,_,_,Q_61⟩,⟨⟨H_64,_,_,Q_64⟩,⟨⟨H_34,_,_,Q_34⟩,⟨⟨H_65,_,_,Q_65⟩,⟨⟨H_68,_,_,Q_68⟩,⟨⟨H_69,_,_,Q_69⟩,⟨⟨H_70,_,_,Q_70⟩,⟨⟨H_76,_,_,Q_76⟩,⟨⟨H_84,_,_,Q_84⟩,⟨⟨H_92,_,_,Q_92⟩,⟨⟨H_63,_,_,Q_63⟩,⟨⟨H_94,_,_,Q_94⟩,trivial⟩⟩⟩⟩⟩⟩⟩⟩⟩⟩⟩⟩⟩⟩⟩ W_95 trivial
end T
