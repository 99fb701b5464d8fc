/- Each typed function is what the program computes; no conditions. -/
import Derived.Test.YtjggcabkdajfeaaCFnExactAffineOp
set_option linter.all false
set_option maxRecDepth 10000
open Go Go.Va Go.Proofs
namespace T

theorem F_spec_l1In (a : dens [.v .int, .v .int, .v .int]) : E_spec_l1In.run a = funK C_spec_l1In Try.f56 [.v .int, .v .int, .v .int] [.v .bool] a (fun o r => some (N_spec_l1In o r)) := by
  kernel_rfl
theorem W_spec_l1In : loopsOf D_spec_l1In = [] := by kernel_rfl
theorem Q_spec_l1In : Try.prog.funcs[56]? = some Try.f56 ∧ (Try.f56.name == "runtime.NumGoroutine") = false ∧ Try.f56.body = some D_spec_l1In := ⟨Try.func56, by kernel_rfl, by kernel_rfl⟩
theorem H_spec_l1In : Holds Try.prog 56 E_spec_l1In :=
  holds_of (cx := C_spec_l1In) (tabOk_ok tabT rfl).1 (allT_ok trivial) mixT Q_spec_l1In.1 Q_spec_l1In.2.2 (loops_of W_spec_l1In trivial) (enc := N_spec_l1In) (fun _ _ => ⟨rfl, rfl⟩) F_spec_l1In

theorem F_spec_l6Size (a : dens [.v .int]) : E_spec_l6Size.run a = funK C_spec_l6Size Try.f47 [.v .int] [.v .bool] a (fun o r => some (N_spec_l6Size o r)) := by
  kernel_rfl
theorem W_spec_l6Size : loopsOf D_spec_l6Size = [] := by kernel_rfl
theorem Q_spec_l6Size : Try.prog.funcs[47]? = some Try.f47 ∧ (Try.f47.name == "runtime.NumGoroutine") = false ∧ Try.f47.body = some D_spec_l6Size := ⟨Try.func47, by kernel_rfl, by kernel_rfl⟩
theorem H_spec_l6Size : Holds Try.prog 47 E_spec_l6Size :=
  holds_of (cx := C_spec_l6Size) (tabOk_ok tabT rfl).1 (allT_ok ⟨⟨H_spec_l1In, _, _, Q_spec_l1In⟩, trivial⟩) mixT Q_spec_l6Size.1 Q_spec_l6Size.2.2 (loops_of W_spec_l6Size trivial) (enc := N_spec_l6Size) (fun _ _ => ⟨rfl, rfl⟩) F_spec_l6Size

theorem K_spec_l2Affine_L3 (n : Nat) (x : Int × (Int × (List Int)) × (Int × (List Int)) × Int) : spec_l2Affine_L3 (n + 1) x = roundK C_spec_l2Affine B_spec_l2Affine_L3 (S_spec_l2Affine_L3 fuel) x (spec_l2Affine_L3 n) := by
  obtain ⟨n_, t2, op, at_⟩ := x
  kernel_rfl
theorem F_spec_l2Affine (a : dens [.v .int]) : E_spec_l2Affine.run a = funK C_spec_l2Affine Try.f48 [.v .int] [.pr (.v .int) (.mv .int 0)] a (fun o r => some (N_spec_l2Affine o r)) := by
  kernel_rfl
theorem W_spec_l2Affine : loopsOf D_spec_l2Affine = [B_spec_l2Affine_L3] := by kernel_rfl
theorem R_spec_l2Affine_L3 : firstReg B_spec_l2Affine_L3 = 3 := by kernel_rfl
theorem Q_spec_l2Affine : Try.prog.funcs[48]? = some Try.f48 ∧ (Try.f48.name == "runtime.NumGoroutine") = false ∧ Try.f48.body = some D_spec_l2Affine := ⟨Try.func48, by kernel_rfl, by kernel_rfl⟩
theorem H_spec_l2Affine : Holds Try.prog 48 E_spec_l2Affine :=
  holds_of (cx := C_spec_l2Affine) (tabOk_ok tabT rfl).1 (allT_ok trivial) mixT Q_spec_l2Affine.1 Q_spec_l2Affine.2.2 (loops_of W_spec_l2Affine ⟨loop_of (cx := C_spec_l2Affine) (L := S_spec_l2Affine_L3 fuel) rfl (by rw [R_spec_l2Affine_L3]; rfl) ⟨spec_l2Affine_L3, fun _ => rfl, fun n x => K_spec_l2Affine_L3 n x, fuel, fun _ => rfl⟩, trivial⟩) (enc := N_spec_l2Affine) (fun _ _ => ⟨rfl, rfl⟩) F_spec_l2Affine

theorem F_spec_AffineOp (a : dens [.v .int]) : E_spec_AffineOp.run a = funK C_spec_AffineOp Try.f13 [.v .int] [.pr (.v .int) (.mv .int 0), .v .bool] a (fun o r => some (N_spec_AffineOp o r)) := by
  kernel_rfl
theorem W_spec_AffineOp : loopsOf D_spec_AffineOp = [] := by kernel_rfl
theorem Q_spec_AffineOp : Try.prog.funcs[13]? = some Try.f13 ∧ (Try.f13.name == "runtime.NumGoroutine") = false ∧ Try.f13.body = some D_spec_AffineOp := ⟨Try.func13, by kernel_rfl, by kernel_rfl⟩
theorem H_spec_AffineOp : Holds Try.prog 13 E_spec_AffineOp :=
  holds_of (cx := C_spec_AffineOp) (tabOk_ok tabT rfl).1 (allT_ok ⟨⟨H_spec_l6Size, _, _, Q_spec_l6Size⟩, ⟨⟨H_spec_l2Affine, _, _, Q_spec_l2Affine⟩, trivial⟩⟩) mixT Q_spec_AffineOp.1 Q_spec_AffineOp.2.2 (loops_of W_spec_AffineOp trivial) (enc := N_spec_AffineOp) (fun _ _ => ⟨rfl, rfl⟩) F_spec_AffineOp

theorem F_impl_isSize (a : dens [.v .int]) : E_impl_isSize.run a = funK C_impl_isSize Try.f49 [.v .int] [.v .bool] a (fun o r => some (N_impl_isSize o r)) := by
  kernel_rfl
theorem W_impl_isSize : loopsOf D_impl_isSize = [] := by kernel_rfl
theorem Q_impl_isSize : Try.prog.funcs[49]? = some Try.f49 ∧ (Try.f49.name == "runtime.NumGoroutine") = false ∧ Try.f49.body = some D_impl_isSize := ⟨Try.func49, by kernel_rfl, by kernel_rfl⟩
theorem H_impl_isSize : Holds Try.prog 49 E_impl_isSize :=
  holds_of (cx := C_impl_isSize) (tabOk_ok tabT rfl).1 (allT_ok trivial) mixT Q_impl_isSize.1 Q_impl_isSize.2.2 (loops_of W_impl_isSize trivial) (enc := N_impl_isSize) (fun _ _ => ⟨rfl, rfl⟩) F_impl_isSize

theorem F_impl_AffineOp_c1 (a : dens [.v .int, .v .int, .v .int, .bx (.v .int)]) : E_impl_AffineOp_c1.run a = funK C_impl_AffineOp_c1 Try.f51 [.v .int, .v .int, .v .int, .bx (.v .int)] [.v .int] a (fun o r => some (N_impl_AffineOp_c1 o r)) := by
  kernel_rfl
theorem W_impl_AffineOp_c1 : loopsOf D_impl_AffineOp_c1 = [] := by kernel_rfl
theorem Q_impl_AffineOp_c1 : Try.prog.funcs[51]? = some Try.f51 ∧ (Try.f51.name == "runtime.NumGoroutine") = false ∧ Try.f51.body = some D_impl_AffineOp_c1 := ⟨Try.func51, by kernel_rfl, by kernel_rfl⟩
theorem H_impl_AffineOp_c1 : Holds Try.prog 51 E_impl_AffineOp_c1 :=
  holds_of (cx := C_impl_AffineOp_c1) (tabOk_ok tabT rfl).1 (allT_ok trivial) mixT Q_impl_AffineOp_c1.1 Q_impl_AffineOp_c1.2.2 (loops_of W_impl_AffineOp_c1 trivial) (enc := N_impl_AffineOp_c1) (fun _ _ => ⟨rfl, rfl⟩) F_impl_AffineOp_c1

theorem K_impl_ternary_impl_AffineOp_c1_L3 (n : Nat) (x : Int × Int × (Int × (List Int)) × (Int × (List Int)) × Int) : impl_ternary_impl_AffineOp_c1_L3 (n + 1) x = roundK C_impl_ternary_impl_AffineOp_c1 B_impl_ternary_impl_AffineOp_c1_L3 (S_impl_ternary_impl_AffineOp_c1_L3 fuel) x (impl_ternary_impl_AffineOp_c1_L3 n) := by
  obtain ⟨n_, value, t4, f, i⟩ := x
  kernel_rfl
theorem F_impl_ternary_impl_AffineOp_c1 (a : dens [.v .int, .bx (.v .int)]) : E_impl_ternary_impl_AffineOp_c1.run a = funK C_impl_ternary_impl_AffineOp_c1 Try.f50 [.v .int, .bx (.v .int)] [.pr (.v .int) (.mv .int 0)] a (fun o r => some (N_impl_ternary_impl_AffineOp_c1 o r)) := by
  kernel_rfl
theorem W_impl_ternary_impl_AffineOp_c1 : loopsOf D_impl_ternary_impl_AffineOp_c1 = [B_impl_ternary_impl_AffineOp_c1_L3] := by kernel_rfl
theorem R_impl_ternary_impl_AffineOp_c1_L3 : firstReg B_impl_ternary_impl_AffineOp_c1_L3 = 3 := by kernel_rfl
theorem Q_impl_ternary_impl_AffineOp_c1 : Try.prog.funcs[50]? = some Try.f50 ∧ (Try.f50.name == "runtime.NumGoroutine") = false ∧ Try.f50.body = some D_impl_ternary_impl_AffineOp_c1 := ⟨Try.func50, by kernel_rfl, by kernel_rfl⟩
theorem H_impl_ternary_impl_AffineOp_c1 : Holds Try.prog 50 E_impl_ternary_impl_AffineOp_c1 :=
  holds_of (cx := C_impl_ternary_impl_AffineOp_c1) (tabOk_ok tabT rfl).1 (allT_ok ⟨⟨H_impl_AffineOp_c1, _, _, Q_impl_AffineOp_c1⟩, trivial⟩) mixT Q_impl_ternary_impl_AffineOp_c1.1 Q_impl_ternary_impl_AffineOp_c1.2.2 (loops_of W_impl_ternary_impl_AffineOp_c1 ⟨loop_of (cx := C_impl_ternary_impl_AffineOp_c1) (L := S_impl_ternary_impl_AffineOp_c1_L3 fuel) rfl (by rw [R_impl_ternary_impl_AffineOp_c1_L3]; rfl) ⟨impl_ternary_impl_AffineOp_c1_L3, fun _ => rfl, fun n x => K_impl_ternary_impl_AffineOp_c1_L3 n x, fuel, fun _ => rfl⟩, trivial⟩) (enc := N_impl_ternary_impl_AffineOp_c1) (fun _ _ => ⟨rfl, rfl⟩) F_impl_ternary_impl_AffineOp_c1

theorem F_impl_AffineOp (a : dens [.v .int]) : E_impl_AffineOp.run a = funK C_impl_AffineOp Try.f14 [.v .int] [.pr (.v .int) (.mv .int 0), .v .bool] a (fun o r => some (N_impl_AffineOp o r)) := by
  kernel_rfl
theorem W_impl_AffineOp : loopsOf D_impl_AffineOp = [] := by kernel_rfl
theorem Q_impl_AffineOp : Try.prog.funcs[14]? = some Try.f14 ∧ (Try.f14.name == "runtime.NumGoroutine") = false ∧ Try.f14.body = some D_impl_AffineOp := ⟨Try.func14, by kernel_rfl, by kernel_rfl⟩
theorem H_impl_AffineOp : Holds Try.prog 14 E_impl_AffineOp :=
  holds_of (cx := C_impl_AffineOp) (tabOk_ok tabT rfl).1 (allT_ok ⟨⟨H_impl_isSize, _, _, Q_impl_isSize⟩, ⟨⟨H_impl_ternary_impl_AffineOp_c1, _, _, Q_impl_ternary_impl_AffineOp_c1⟩, trivial⟩⟩) mixT Q_impl_AffineOp.1 Q_impl_AffineOp.2.2 (loops_of W_impl_AffineOp trivial) (enc := N_impl_AffineOp) (fun _ _ => ⟨rfl, rfl⟩) F_impl_AffineOp

theorem K_laws_eqIntS_L4 (n : Nat) (x : (List Int) × (List Int) × Int) : laws_eqIntS_L4 (n + 1) x = roundK C_laws_eqIntS B_laws_eqIntS_L4 (S_laws_eqIntS_L4 fuel) x (laws_eqIntS_L4 n) := by
  obtain ⟨a, b, i⟩ := x
  kernel_rfl
theorem F_laws_eqIntS (a : dens [.v (.slice .int), .v (.slice .int)]) : E_laws_eqIntS.run a = funK C_laws_eqIntS Try.f24 [.v (.slice .int), .v (.slice .int)] [.v .bool] a (fun o r => some (N_laws_eqIntS o r)) := by
  kernel_rfl
theorem W_laws_eqIntS : loopsOf D_laws_eqIntS = [B_laws_eqIntS_L4] := by kernel_rfl
theorem R_laws_eqIntS_L4 : firstReg B_laws_eqIntS_L4 = 4 := by kernel_rfl
theorem Q_laws_eqIntS : Try.prog.funcs[24]? = some Try.f24 ∧ (Try.f24.name == "runtime.NumGoroutine") = false ∧ Try.f24.body = some D_laws_eqIntS := ⟨Try.func24, by kernel_rfl, by kernel_rfl⟩
theorem H_laws_eqIntS : Holds Try.prog 24 E_laws_eqIntS :=
  holds_of (cx := C_laws_eqIntS) (tabOk_ok tabT rfl).1 (allT_ok trivial) mixT Q_laws_eqIntS.1 Q_laws_eqIntS.2.2 (loops_of W_laws_eqIntS ⟨loop_of (cx := C_laws_eqIntS) (L := S_laws_eqIntS_L4 fuel) rfl (by rw [R_laws_eqIntS_L4]; rfl) ⟨laws_eqIntS_L4, fun _ => rfl, fun n x => K_laws_eqIntS_L4 n x, fuel, fun _ => rfl⟩, trivial⟩) (enc := N_laws_eqIntS) (fun _ _ => ⟨rfl, rfl⟩) F_laws_eqIntS

theorem F_laws_eqOp (a : dens [.v (.pair .int (.slice .int)), .v (.pair .int (.slice .int))]) : E_laws_eqOp.run a = funK C_laws_eqOp Try.f15 [.v (.pair .int (.slice .int)), .v (.pair .int (.slice .int))] [.v .bool] a (fun o r => some (N_laws_eqOp o r)) := by
  kernel_rfl
theorem W_laws_eqOp : loopsOf D_laws_eqOp = [] := by kernel_rfl
theorem Q_laws_eqOp : Try.prog.funcs[15]? = some Try.f15 ∧ (Try.f15.name == "runtime.NumGoroutine") = false ∧ Try.f15.body = some D_laws_eqOp := ⟨Try.func15, by kernel_rfl, by kernel_rfl⟩
theorem H_laws_eqOp : Holds Try.prog 15 E_laws_eqOp :=
  holds_of (cx := C_laws_eqOp) (tabOk_ok tabT rfl).1 (allT_ok ⟨⟨H_laws_eqIntS, _, _, Q_laws_eqIntS⟩, trivial⟩) mixT Q_laws_eqOp.1 Q_laws_eqOp.2.2 (loops_of W_laws_eqOp trivial) (enc := N_laws_eqOp) (fun _ _ => ⟨rfl, rfl⟩) F_laws_eqOp

theorem K_laws_markIntS_L2 (n : Nat) (x : (List Int) × Int × Int) : laws_markIntS_L2 (n + 1) x = roundK C_laws_markIntS B_laws_markIntS_L2 (S_laws_markIntS_L2 fuel) x (laws_markIntS_L2 n) := by
  obtain ⟨a, k, i⟩ := x
  kernel_rfl
theorem F_laws_markIntS (a : dens [.io .int 0, .v .int]) : E_laws_markIntS.run a = funK C_laws_markIntS Try.f26 [.io .int 0, .v .int] [.v .int] a (fun o r => some (N_laws_markIntS o r)) := by
  kernel_rfl
theorem W_laws_markIntS : loopsOf D_laws_markIntS = [B_laws_markIntS_L2] := by kernel_rfl
theorem R_laws_markIntS_L2 : firstReg B_laws_markIntS_L2 = 2 := by kernel_rfl
theorem Q_laws_markIntS : Try.prog.funcs[26]? = some Try.f26 ∧ (Try.f26.name == "runtime.NumGoroutine") = false ∧ Try.f26.body = some D_laws_markIntS := ⟨Try.func26, by kernel_rfl, by kernel_rfl⟩
theorem H_laws_markIntS : Holds Try.prog 26 E_laws_markIntS :=
  holds_of (cx := C_laws_markIntS) (tabOk_ok tabT rfl).1 (allT_ok trivial) mixT Q_laws_markIntS.1 Q_laws_markIntS.2.2 (loops_of W_laws_markIntS ⟨loop_of (cx := C_laws_markIntS) (L := S_laws_markIntS_L2 fuel) rfl (by rw [R_laws_markIntS_L2]; rfl) ⟨laws_markIntS_L2, fun _ => rfl, fun n x => K_laws_markIntS_L2 n x, fuel, fun _ => rfl⟩, trivial⟩) (enc := N_laws_markIntS) (fun _ _ => ⟨rfl, rfl⟩) F_laws_markIntS

theorem F_laws_markOp (a : dens [.pr (.v .int) (.io .int 0), .v .int]) : E_laws_markOp.run a = funK C_laws_markOp Try.f16 [.pr (.v .int) (.io .int 0), .v .int] [.v .int] a (fun o r => some (N_laws_markOp o r)) := by
  kernel_rfl
theorem W_laws_markOp : loopsOf D_laws_markOp = [] := by kernel_rfl
theorem Q_laws_markOp : Try.prog.funcs[16]? = some Try.f16 ∧ (Try.f16.name == "runtime.NumGoroutine") = false ∧ Try.f16.body = some D_laws_markOp := ⟨Try.func16, by kernel_rfl, by kernel_rfl⟩
theorem H_laws_markOp : Holds Try.prog 16 E_laws_markOp :=
  holds_of (cx := C_laws_markOp) (tabOk_ok tabT rfl).1 (allT_ok ⟨⟨H_laws_markIntS, _, _, Q_laws_markIntS⟩, trivial⟩) mixT Q_laws_markOp.1 Q_laws_markOp.2.2 (loops_of W_laws_markOp trivial) (enc := N_laws_markOp) (fun _ _ => ⟨rfl, rfl⟩) F_laws_markOp

theorem K_laws_heldIntS_L2 (n : Nat) (x : (List Int) × Int × Int) : laws_heldIntS_L2 (n + 1) x = roundK C_laws_heldIntS B_laws_heldIntS_L2 (S_laws_heldIntS_L2 fuel) x (laws_heldIntS_L2 n) := by
  obtain ⟨a, k, i⟩ := x
  kernel_rfl
theorem F_laws_heldIntS (a : dens [.v (.slice .int), .v .int]) : E_laws_heldIntS.run a = funK C_laws_heldIntS Try.f52 [.v (.slice .int), .v .int] [.v .int] a (fun o r => some (N_laws_heldIntS o r)) := by
  kernel_rfl
theorem W_laws_heldIntS : loopsOf D_laws_heldIntS = [B_laws_heldIntS_L2] := by kernel_rfl
theorem R_laws_heldIntS_L2 : firstReg B_laws_heldIntS_L2 = 2 := by kernel_rfl
theorem Q_laws_heldIntS : Try.prog.funcs[52]? = some Try.f52 ∧ (Try.f52.name == "runtime.NumGoroutine") = false ∧ Try.f52.body = some D_laws_heldIntS := ⟨Try.func52, by kernel_rfl, by kernel_rfl⟩
theorem H_laws_heldIntS : Holds Try.prog 52 E_laws_heldIntS :=
  holds_of (cx := C_laws_heldIntS) (tabOk_ok tabT rfl).1 (allT_ok trivial) mixT Q_laws_heldIntS.1 Q_laws_heldIntS.2.2 (loops_of W_laws_heldIntS ⟨loop_of (cx := C_laws_heldIntS) (L := S_laws_heldIntS_L2 fuel) rfl (by rw [R_laws_heldIntS_L2]; rfl) ⟨laws_heldIntS_L2, fun _ => rfl, fun n x => K_laws_heldIntS_L2 n x, fuel, fun _ => rfl⟩, trivial⟩) (enc := N_laws_heldIntS) (fun _ _ => ⟨rfl, rfl⟩) F_laws_heldIntS

theorem F_laws_heldOp (a : dens [.v (.pair .int (.slice .int)), .v .int]) : E_laws_heldOp.run a = funK C_laws_heldOp Try.f17 [.v (.pair .int (.slice .int)), .v .int] [.v .int] a (fun o r => some (N_laws_heldOp o r)) := by
  kernel_rfl
theorem W_laws_heldOp : loopsOf D_laws_heldOp = [] := by kernel_rfl
theorem Q_laws_heldOp : Try.prog.funcs[17]? = some Try.f17 ∧ (Try.f17.name == "runtime.NumGoroutine") = false ∧ Try.f17.body = some D_laws_heldOp := ⟨Try.func17, by kernel_rfl, by kernel_rfl⟩
theorem H_laws_heldOp : Holds Try.prog 17 E_laws_heldOp :=
  holds_of (cx := C_laws_heldOp) (tabOk_ok tabT rfl).1 (allT_ok ⟨⟨H_laws_heldIntS, _, _, Q_laws_heldIntS⟩, trivial⟩) mixT Q_laws_heldOp.1 Q_laws_heldOp.2.2 (loops_of W_laws_heldOp trivial) (enc := N_laws_heldOp) (fun _ _ => ⟨rfl, rfl⟩) F_laws_heldOp

theorem F_laws_FnExactAffineOp (a : dens [.v .int]) : E_laws_FnExactAffineOp.run a = funK C_laws_FnExactAffineOp Try.f3 [.v .int] [.v .bool] a (fun o r => some (N_laws_FnExactAffineOp o r)) := by
  kernel_rfl
theorem W_laws_FnExactAffineOp : loopsOf D_laws_FnExactAffineOp = [] := by kernel_rfl
theorem Q_laws_FnExactAffineOp : Try.prog.funcs[3]? = some Try.f3 ∧ (Try.f3.name == "runtime.NumGoroutine") = false ∧ Try.f3.body = some D_laws_FnExactAffineOp := ⟨Try.func3, by kernel_rfl, by kernel_rfl⟩
theorem H_laws_FnExactAffineOp : Holds Try.prog 3 E_laws_FnExactAffineOp :=
  holds_of (cx := C_laws_FnExactAffineOp) (tabOk_ok tabT rfl).1 (allT_ok ⟨⟨H_spec_AffineOp, _, _, Q_spec_AffineOp⟩, ⟨⟨H_impl_AffineOp, _, _, Q_impl_AffineOp⟩, ⟨⟨H_laws_eqOp, _, _, Q_laws_eqOp⟩, ⟨⟨H_laws_markOp, _, _, Q_laws_markOp⟩, ⟨⟨H_laws_heldOp, _, _, Q_laws_heldOp⟩, trivial⟩⟩⟩⟩⟩) mixT Q_laws_FnExactAffineOp.1 Q_laws_FnExactAffineOp.2.2 (loops_of W_laws_FnExactAffineOp trivial) (enc := N_laws_FnExactAffineOp) (fun _ _ => ⟨rfl, rfl⟩) F_laws_FnExactAffineOp
end T
