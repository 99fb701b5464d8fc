/- Each typed function is what the program computes; no conditions. -/
import Derived.Test.YtjkhaeffmeiipaaCFnExactLinearKernel
set_option linter.all false
set_option maxRecDepth 10000
open Go Go.Va Go.Proofs
namespace T

theorem F_laws_szIntS (a : dens [.v (.slice .int), .v .int]) : E_laws_szIntS.run a = funK C_laws_szIntS Try.f50 [.v (.slice .int), .v .int] [.v .int] a (fun o r => some (N_laws_szIntS o r)) := by
  kernel_rfl
theorem W_laws_szIntS : loopsOf D_laws_szIntS = [] := by kernel_rfl
theorem Q_laws_szIntS : Try.prog.funcs[50]? = some Try.f50 ∧ (Try.f50.name == "runtime.NumGoroutine") = false ∧ Try.f50.body = some D_laws_szIntS := ⟨Try.func50, by kernel_rfl, by kernel_rfl⟩
theorem H_laws_szIntS : Holds Try.prog 50 E_laws_szIntS :=
  holds_of (cx := C_laws_szIntS) (tabOk_ok tabT rfl).1 (allT_ok trivial) mixT Q_laws_szIntS.1 Q_laws_szIntS.2.2 (loops_of W_laws_szIntS trivial) (enc := N_laws_szIntS) (fun _ _ => ⟨rfl, rfl⟩) F_laws_szIntS

theorem K_laws_szIntSS_L5 (n : Nat) (x : (List (List Int)) × Int × Int) : laws_szIntSS_L5 (n + 1) x = roundK C_laws_szIntSS B_laws_szIntSS_L5 (S_laws_szIntSS_L5 fuel) x (laws_szIntSS_L5 n) := by
  obtain ⟨a, left, i⟩ := x
  kernel_rfl
theorem F_laws_szIntSS (a : dens [.v (.slice (.slice .int)), .v .int]) : E_laws_szIntSS.run a = funK C_laws_szIntSS Try.f32 [.v (.slice (.slice .int)), .v .int] [.v .int] a (fun o r => some (N_laws_szIntSS o r)) := by
  kernel_rfl
theorem W_laws_szIntSS : loopsOf D_laws_szIntSS = [B_laws_szIntSS_L5] := by kernel_rfl
theorem R_laws_szIntSS_L5 : firstReg B_laws_szIntSS_L5 = 5 := by kernel_rfl
theorem Q_laws_szIntSS : Try.prog.funcs[32]? = some Try.f32 ∧ (Try.f32.name == "runtime.NumGoroutine") = false ∧ Try.f32.body = some D_laws_szIntSS := ⟨Try.func32, by kernel_rfl, by kernel_rfl⟩
theorem H_laws_szIntSS : Holds Try.prog 32 E_laws_szIntSS :=
  holds_of (cx := C_laws_szIntSS) (tabOk_ok tabT rfl).1 (allT_ok ⟨⟨H_laws_szIntS, _, _, Q_laws_szIntS⟩, trivial⟩) mixT Q_laws_szIntSS.1 Q_laws_szIntSS.2.2 (loops_of W_laws_szIntSS ⟨loop_of (cx := C_laws_szIntSS) (L := S_laws_szIntSS_L5 fuel) rfl (by rw [R_laws_szIntSS_L5]; rfl) ⟨laws_szIntSS_L5, fun _ => rfl, fun n x => K_laws_szIntSS_L5 n x, fuel, fun _ => rfl⟩, trivial⟩) (enc := N_laws_szIntSS) (fun _ _ => ⟨rfl, rfl⟩) F_laws_szIntSS

theorem F_laws_szLinear (a : dens [.v (.pair .int (.pair .int (.slice (.slice .int)))), .v .int]) : E_laws_szLinear.run a = funK C_laws_szLinear Try.f9 [.v (.pair .int (.pair .int (.slice (.slice .int)))), .v .int] [.v .int] a (fun o r => some (N_laws_szLinear o r)) := by
  kernel_rfl
theorem W_laws_szLinear : loopsOf D_laws_szLinear = [] := by kernel_rfl
theorem Q_laws_szLinear : Try.prog.funcs[9]? = some Try.f9 ∧ (Try.f9.name == "runtime.NumGoroutine") = false ∧ Try.f9.body = some D_laws_szLinear := ⟨Try.func9, by kernel_rfl, by kernel_rfl⟩
theorem H_laws_szLinear : Holds Try.prog 9 E_laws_szLinear :=
  holds_of (cx := C_laws_szLinear) (tabOk_ok tabT rfl).1 (allT_ok ⟨⟨H_laws_szIntSS, _, _, Q_laws_szIntSS⟩, trivial⟩) mixT Q_laws_szLinear.1 Q_laws_szLinear.2.2 (loops_of W_laws_szLinear trivial) (enc := N_laws_szLinear) (fun _ _ => ⟨rfl, rfl⟩) F_laws_szLinear

theorem K_laws_toIntS_L3 (n : Nat) (x : (List Int) × (List Int) × Int) : laws_toIntS_L3 (n + 1) x = roundK C_laws_toIntS B_laws_toIntS_L3 (S_laws_toIntS_L3 fuel) x (laws_toIntS_L3 n) := by
  obtain ⟨a, out, i⟩ := x
  kernel_rfl
theorem F_laws_toIntS (a : dens [.v (.slice .int)]) : E_laws_toIntS.run a = funK C_laws_toIntS Try.f55 [.v (.slice .int)] [.mv .int 0] a (fun o r => some (N_laws_toIntS o r)) := by
  kernel_rfl
theorem W_laws_toIntS : loopsOf D_laws_toIntS = [B_laws_toIntS_L3] := by kernel_rfl
theorem R_laws_toIntS_L3 : firstReg B_laws_toIntS_L3 = 3 := by kernel_rfl
theorem Q_laws_toIntS : Try.prog.funcs[55]? = some Try.f55 ∧ (Try.f55.name == "runtime.NumGoroutine") = false ∧ Try.f55.body = some D_laws_toIntS := ⟨Try.func55, by kernel_rfl, by kernel_rfl⟩
theorem H_laws_toIntS : Holds Try.prog 55 E_laws_toIntS :=
  holds_of (cx := C_laws_toIntS) (tabOk_ok tabT rfl).1 (allT_ok trivial) mixT Q_laws_toIntS.1 Q_laws_toIntS.2.2 (loops_of W_laws_toIntS ⟨loop_of (cx := C_laws_toIntS) (L := S_laws_toIntS_L3 fuel) rfl (by rw [R_laws_toIntS_L3]; rfl) ⟨laws_toIntS_L3, fun _ => rfl, fun n x => K_laws_toIntS_L3 n x, fuel, fun _ => rfl⟩, trivial⟩) (enc := N_laws_toIntS) (fun _ _ => ⟨rfl, rfl⟩) F_laws_toIntS

theorem K_laws_toIntSS_L3 (n : Nat) (x : (List (List Int)) × (List (List Int)) × Int) : laws_toIntSS_L3 (n + 1) x = roundK C_laws_toIntSS B_laws_toIntSS_L3 (S_laws_toIntSS_L3 fuel) x (laws_toIntSS_L3 n) := by
  obtain ⟨a, out, i⟩ := x
  kernel_rfl
theorem F_laws_toIntSS (a : dens [.v (.slice (.slice .int))]) : E_laws_toIntSS.run a = funK C_laws_toIntSS Try.f37 [.v (.slice (.slice .int))] [.mv (.slice .int) 1] a (fun o r => some (N_laws_toIntSS o r)) := by
  kernel_rfl
theorem W_laws_toIntSS : loopsOf D_laws_toIntSS = [B_laws_toIntSS_L3] := by kernel_rfl
theorem R_laws_toIntSS_L3 : firstReg B_laws_toIntSS_L3 = 3 := by kernel_rfl
theorem Q_laws_toIntSS : Try.prog.funcs[37]? = some Try.f37 ∧ (Try.f37.name == "runtime.NumGoroutine") = false ∧ Try.f37.body = some D_laws_toIntSS := ⟨Try.func37, by kernel_rfl, by kernel_rfl⟩
theorem H_laws_toIntSS : Holds Try.prog 37 E_laws_toIntSS :=
  holds_of (cx := C_laws_toIntSS) (tabOk_ok tabT rfl).1 (allT_ok ⟨⟨H_laws_toIntS, _, _, Q_laws_toIntS⟩, trivial⟩) mixT Q_laws_toIntSS.1 Q_laws_toIntSS.2.2 (loops_of W_laws_toIntSS ⟨loop_of (cx := C_laws_toIntSS) (L := S_laws_toIntSS_L3 fuel) rfl (by rw [R_laws_toIntSS_L3]; rfl) ⟨laws_toIntSS_L3, fun _ => rfl, fun n x => K_laws_toIntSS_L3 n x, fuel, fun _ => rfl⟩, trivial⟩) (enc := N_laws_toIntSS) (fun _ _ => ⟨rfl, rfl⟩) F_laws_toIntSS

theorem F_laws_toLinear (a : dens [.v (.pair .int (.pair .int (.slice (.slice .int))))]) : E_laws_toLinear.run a = funK C_laws_toLinear Try.f11 [.v (.pair .int (.pair .int (.slice (.slice .int))))] [.pr (.v .int) (.pr (.v .int) (.mv (.slice .int) 1))] a (fun o r => some (N_laws_toLinear o r)) := by
  kernel_rfl
theorem W_laws_toLinear : loopsOf D_laws_toLinear = [] := by kernel_rfl
theorem Q_laws_toLinear : Try.prog.funcs[11]? = some Try.f11 ∧ (Try.f11.name == "runtime.NumGoroutine") = false ∧ Try.f11.body = some D_laws_toLinear := ⟨Try.func11, by kernel_rfl, by kernel_rfl⟩
theorem H_laws_toLinear : Holds Try.prog 11 E_laws_toLinear :=
  holds_of (cx := C_laws_toLinear) (tabOk_ok tabT rfl).1 (allT_ok ⟨⟨H_laws_toIntSS, _, _, Q_laws_toIntSS⟩, trivial⟩) mixT Q_laws_toLinear.1 Q_laws_toLinear.2.2 (loops_of W_laws_toLinear trivial) (enc := N_laws_toLinear) (fun _ _ => ⟨rfl, rfl⟩) F_laws_toLinear

theorem F_spec_l21Prime (a : dens [.v .int]) : E_spec_l21Prime.run a = funK C_spec_l21Prime Try.f51 [.v .int] [.v .bool] a (fun o r => some (N_spec_l21Prime o r)) := by
  kernel_rfl
theorem W_spec_l21Prime : loopsOf D_spec_l21Prime = [] := by kernel_rfl
theorem Q_spec_l21Prime : Try.prog.funcs[51]? = some Try.f51 ∧ (Try.f51.name == "runtime.NumGoroutine") = false ∧ Try.f51.body = some D_spec_l21Prime := ⟨Try.func51, by kernel_rfl, by kernel_rfl⟩
theorem H_spec_l21Prime : Holds Try.prog 51 E_spec_l21Prime :=
  holds_of (cx := C_spec_l21Prime) (tabOk_ok tabT rfl).1 (allT_ok trivial) mixT Q_spec_l21Prime.1 Q_spec_l21Prime.2.2 (loops_of W_spec_l21Prime trivial) (enc := N_spec_l21Prime) (fun _ _ => ⟨rfl, rfl⟩) F_spec_l21Prime

theorem F_spec_l1In (a : dens [.v .int, .v .int, .v .int]) : E_spec_l1In.run a = funK C_spec_l1In Try.f52 [.v .int, .v .int, .v .int] [.v .bool] a (fun o r => some (N_spec_l1In o r)) := by
  kernel_rfl
theorem W_spec_l1In : loopsOf D_spec_l1In = [] := by kernel_rfl
theorem Q_spec_l1In : Try.prog.funcs[52]? = some Try.f52 ∧ (Try.f52.name == "runtime.NumGoroutine") = false ∧ Try.f52.body = some D_spec_l1In := ⟨Try.func52, by kernel_rfl, by kernel_rfl⟩
theorem H_spec_l1In : Holds Try.prog 52 E_spec_l1In :=
  holds_of (cx := C_spec_l1In) (tabOk_ok tabT rfl).1 (allT_ok trivial) mixT Q_spec_l1In.1 Q_spec_l1In.2.2 (loops_of W_spec_l1In trivial) (enc := N_spec_l1In) (fun _ _ => ⟨rfl, rfl⟩) F_spec_l1In

theorem K_spec_l2Elements_L2 (n : Nat) (x : Int × (List Int) × Int) : spec_l2Elements_L2 (n + 1) x = roundK C_spec_l2Elements B_spec_l2Elements_L2 (S_spec_l2Elements_L2 fuel) x (spec_l2Elements_L2 n) := by
  obtain ⟨n_, list, i⟩ := x
  kernel_rfl
theorem F_spec_l2Elements (a : dens [.v .int, .v (.slice .int)]) : E_spec_l2Elements.run a = funK C_spec_l2Elements Try.f69 [.v .int, .v (.slice .int)] [.v .bool] a (fun o r => some (N_spec_l2Elements o r)) := by
  kernel_rfl
theorem W_spec_l2Elements : loopsOf D_spec_l2Elements = [B_spec_l2Elements_L2] := by kernel_rfl
theorem R_spec_l2Elements_L2 : firstReg B_spec_l2Elements_L2 = 2 := by kernel_rfl
theorem Q_spec_l2Elements : Try.prog.funcs[69]? = some Try.f69 ∧ (Try.f69.name == "runtime.NumGoroutine") = false ∧ Try.f69.body = some D_spec_l2Elements := ⟨Try.func69, by kernel_rfl, by kernel_rfl⟩
theorem H_spec_l2Elements : Holds Try.prog 69 E_spec_l2Elements :=
  holds_of (cx := C_spec_l2Elements) (tabOk_ok tabT rfl).1 (allT_ok ⟨⟨H_spec_l1In, _, _, Q_spec_l1In⟩, trivial⟩) mixT Q_spec_l2Elements.1 Q_spec_l2Elements.2.2 (loops_of W_spec_l2Elements ⟨loop_of (cx := C_spec_l2Elements) (L := S_spec_l2Elements_L2 fuel) rfl (by rw [R_spec_l2Elements_L2]; rfl) ⟨spec_l2Elements_L2, fun _ => rfl, fun n x => K_spec_l2Elements_L2 n x, fuel, fun _ => rfl⟩, trivial⟩) (enc := N_spec_l2Elements) (fun _ _ => ⟨rfl, rfl⟩) F_spec_l2Elements

theorem F_spec_l8Tuple (a : dens [.v .int, .v .int, .v (.slice .int)]) : E_spec_l8Tuple.run a = funK C_spec_l8Tuple Try.f64 [.v .int, .v .int, .v (.slice .int)] [.v .bool] a (fun o r => some (N_spec_l8Tuple o r)) := by
  kernel_rfl
theorem W_spec_l8Tuple : loopsOf D_spec_l8Tuple = [] := by kernel_rfl
theorem Q_spec_l8Tuple : Try.prog.funcs[64]? = some Try.f64 ∧ (Try.f64.name == "runtime.NumGoroutine") = false ∧ Try.f64.body = some D_spec_l8Tuple := ⟨Try.func64, by kernel_rfl, by kernel_rfl⟩
theorem H_spec_l8Tuple : Holds Try.prog 64 E_spec_l8Tuple :=
  holds_of (cx := C_spec_l8Tuple) (tabOk_ok tabT rfl).1 (allT_ok ⟨⟨H_spec_l2Elements, _, _, Q_spec_l2Elements⟩, trivial⟩) mixT Q_spec_l8Tuple.1 Q_spec_l8Tuple.2.2 (loops_of W_spec_l8Tuple trivial) (enc := N_spec_l8Tuple) (fun _ _ => ⟨rfl, rfl⟩) F_spec_l8Tuple

theorem K_spec_l21Rows_L2 (n : Nat) (x : Int × Int × (List (List Int)) × Int) : spec_l21Rows_L2 (n + 1) x = roundK C_spec_l21Rows B_spec_l21Rows_L2 (S_spec_l21Rows_L2 fuel) x (spec_l21Rows_L2 n) := by
  obtain ⟨p, vars, rows, i⟩ := x
  kernel_rfl
theorem F_spec_l21Rows (a : dens [.v .int, .v .int, .v (.slice (.slice .int))]) : E_spec_l21Rows.run a = funK C_spec_l21Rows Try.f53 [.v .int, .v .int, .v (.slice (.slice .int))] [.v .bool] a (fun o r => some (N_spec_l21Rows o r)) := by
  kernel_rfl
theorem W_spec_l21Rows : loopsOf D_spec_l21Rows = [B_spec_l21Rows_L2] := by kernel_rfl
theorem R_spec_l21Rows_L2 : firstReg B_spec_l21Rows_L2 = 2 := by kernel_rfl
theorem Q_spec_l21Rows : Try.prog.funcs[53]? = some Try.f53 ∧ (Try.f53.name == "runtime.NumGoroutine") = false ∧ Try.f53.body = some D_spec_l21Rows := ⟨Try.func53, by kernel_rfl, by kernel_rfl⟩
theorem H_spec_l21Rows : Holds Try.prog 53 E_spec_l21Rows :=
  holds_of (cx := C_spec_l21Rows) (tabOk_ok tabT rfl).1 (allT_ok ⟨⟨H_spec_l8Tuple, _, _, Q_spec_l8Tuple⟩, trivial⟩) mixT Q_spec_l21Rows.1 Q_spec_l21Rows.2.2 (loops_of W_spec_l21Rows ⟨loop_of (cx := C_spec_l21Rows) (L := S_spec_l21Rows_L2 fuel) rfl (by rw [R_spec_l21Rows_L2]; rfl) ⟨spec_l21Rows_L2, fun _ => rfl, fun n x => K_spec_l21Rows_L2 n x, fuel, fun _ => rfl⟩, trivial⟩) (enc := N_spec_l21Rows) (fun _ _ => ⟨rfl, rfl⟩) F_spec_l21Rows

theorem F_spec_l21Good (a : dens [.v (.pair .int (.pair .int (.slice (.slice .int))))]) : E_spec_l21Good.run a = funK C_spec_l21Good Try.f33 [.v (.pair .int (.pair .int (.slice (.slice .int))))] [.v .bool] a (fun o r => some (N_spec_l21Good o r)) := by
  kernel_rfl
theorem W_spec_l21Good : loopsOf D_spec_l21Good = [] := by kernel_rfl
theorem Q_spec_l21Good : Try.prog.funcs[33]? = some Try.f33 ∧ (Try.f33.name == "runtime.NumGoroutine") = false ∧ Try.f33.body = some D_spec_l21Good := ⟨Try.func33, by kernel_rfl, by kernel_rfl⟩
theorem H_spec_l21Good : Holds Try.prog 33 E_spec_l21Good :=
  holds_of (cx := C_spec_l21Good) (tabOk_ok tabT rfl).1 (allT_ok ⟨⟨H_spec_l21Prime, _, _, Q_spec_l21Prime⟩, ⟨⟨H_spec_l1In, _, _, Q_spec_l1In⟩, ⟨⟨H_spec_l21Rows, _, _, Q_spec_l21Rows⟩, trivial⟩⟩⟩) mixT Q_spec_l21Good.1 Q_spec_l21Good.2.2 (loops_of W_spec_l21Good trivial) (enc := N_spec_l21Good) (fun _ _ => ⟨rfl, rfl⟩) F_spec_l21Good

theorem F_spec_l1Own (a : dens [.v (.slice .int)]) : E_spec_l1Own.run a = funK C_spec_l1Own Try.f65 [.v (.slice .int)] [.mv .int 0] a (fun o r => some (N_spec_l1Own o r)) := by
  kernel_rfl
theorem W_spec_l1Own : loopsOf D_spec_l1Own = [] := by kernel_rfl
theorem Q_spec_l1Own : Try.prog.funcs[65]? = some Try.f65 ∧ (Try.f65.name == "runtime.NumGoroutine") = false ∧ Try.f65.body = some D_spec_l1Own := ⟨Try.func65, by kernel_rfl, by kernel_rfl⟩
theorem H_spec_l1Own : Holds Try.prog 65 E_spec_l1Own :=
  holds_of (cx := C_spec_l1Own) (tabOk_ok tabT rfl).1 (allT_ok trivial) mixT Q_spec_l1Own.1 Q_spec_l1Own.2.2 (loops_of W_spec_l1Own trivial) (enc := N_spec_l1Own) (fun _ _ => ⟨rfl, rfl⟩) F_spec_l1Own

theorem K_spec_l21Inverse_L2 (n : Nat) (x : Int × Int × Int) : spec_l21Inverse_L2 (n + 1) x = roundK C_spec_l21Inverse B_spec_l21Inverse_L2 (S_spec_l21Inverse_L2 fuel) x (spec_l21Inverse_L2 n) := by
  obtain ⟨p, x, y⟩ := x
  kernel_rfl
theorem F_spec_l21Inverse (a : dens [.v .int, .v .int]) : E_spec_l21Inverse.run a = funK C_spec_l21Inverse Try.f67 [.v .int, .v .int] [.v .int] a (fun o r => some (N_spec_l21Inverse o r)) := by
  kernel_rfl
theorem W_spec_l21Inverse : loopsOf D_spec_l21Inverse = [B_spec_l21Inverse_L2] := by kernel_rfl
theorem R_spec_l21Inverse_L2 : firstReg B_spec_l21Inverse_L2 = 2 := by kernel_rfl
theorem Q_spec_l21Inverse : Try.prog.funcs[67]? = some Try.f67 ∧ (Try.f67.name == "runtime.NumGoroutine") = false ∧ Try.f67.body = some D_spec_l21Inverse := ⟨Try.func67, by kernel_rfl, by kernel_rfl⟩
theorem H_spec_l21Inverse : Holds Try.prog 67 E_spec_l21Inverse :=
  holds_of (cx := C_spec_l21Inverse) (tabOk_ok tabT rfl).1 (allT_ok trivial) mixT Q_spec_l21Inverse.1 Q_spec_l21Inverse.2.2 (loops_of W_spec_l21Inverse ⟨loop_of (cx := C_spec_l21Inverse) (L := S_spec_l21Inverse_L2 fuel) rfl (by rw [R_spec_l21Inverse_L2]; rfl) ⟨spec_l21Inverse_L2, fun _ => rfl, fun n x => K_spec_l21Inverse_L2 n x, fuel, fun _ => rfl⟩, trivial⟩) (enc := N_spec_l21Inverse) (fun _ _ => ⟨rfl, rfl⟩) F_spec_l21Inverse

theorem K_spec_l21Scale_L3 (n : Nat) (x : Int × (List Int) × Int × (List Int) × Int) : spec_l21Scale_L3 (n + 1) x = roundK C_spec_l21Scale B_spec_l21Scale_L3 (S_spec_l21Scale_L3 fuel) x (spec_l21Scale_L3 n) := by
  obtain ⟨p, row, by_, out, i⟩ := x
  kernel_rfl
theorem F_spec_l21Scale (a : dens [.v .int, .v (.slice .int), .v .int]) : E_spec_l21Scale.run a = funK C_spec_l21Scale Try.f66 [.v .int, .v (.slice .int), .v .int] [.mv .int 0] a (fun o r => some (N_spec_l21Scale o r)) := by
  kernel_rfl
theorem W_spec_l21Scale : loopsOf D_spec_l21Scale = [B_spec_l21Scale_L3] := by kernel_rfl
theorem R_spec_l21Scale_L3 : firstReg B_spec_l21Scale_L3 = 3 := by kernel_rfl
theorem Q_spec_l21Scale : Try.prog.funcs[66]? = some Try.f66 ∧ (Try.f66.name == "runtime.NumGoroutine") = false ∧ Try.f66.body = some D_spec_l21Scale := ⟨Try.func66, by kernel_rfl, by kernel_rfl⟩
theorem H_spec_l21Scale : Holds Try.prog 66 E_spec_l21Scale :=
  holds_of (cx := C_spec_l21Scale) (tabOk_ok tabT rfl).1 (allT_ok trivial) mixT Q_spec_l21Scale.1 Q_spec_l21Scale.2.2 (loops_of W_spec_l21Scale ⟨loop_of (cx := C_spec_l21Scale) (L := S_spec_l21Scale_L3 fuel) rfl (by rw [R_spec_l21Scale_L3]; rfl) ⟨spec_l21Scale_L3, fun _ => rfl, fun n x => K_spec_l21Scale_L3 n x, fuel, fun _ => rfl⟩, trivial⟩) (enc := N_spec_l21Scale) (fun _ _ => ⟨rfl, rfl⟩) F_spec_l21Scale

theorem K_spec_l21Less_L3 (n : Nat) (x : Int × (List Int) × (List Int) × Int × (List Int) × Int) : spec_l21Less_L3 (n + 1) x = roundK C_spec_l21Less B_spec_l21Less_L3 (S_spec_l21Less_L3 fuel) x (spec_l21Less_L3 n) := by
  obtain ⟨p, row, other, by_, out, i⟩ := x
  kernel_rfl
theorem F_spec_l21Less (a : dens [.v .int, .v (.slice .int), .v (.slice .int), .v .int]) : E_spec_l21Less.run a = funK C_spec_l21Less Try.f68 [.v .int, .v (.slice .int), .v (.slice .int), .v .int] [.mv .int 0] a (fun o r => some (N_spec_l21Less o r)) := by
  kernel_rfl
theorem W_spec_l21Less : loopsOf D_spec_l21Less = [B_spec_l21Less_L3] := by kernel_rfl
theorem R_spec_l21Less_L3 : firstReg B_spec_l21Less_L3 = 3 := by kernel_rfl
theorem Q_spec_l21Less : Try.prog.funcs[68]? = some Try.f68 ∧ (Try.f68.name == "runtime.NumGoroutine") = false ∧ Try.f68.body = some D_spec_l21Less := ⟨Try.func68, by kernel_rfl, by kernel_rfl⟩
theorem H_spec_l21Less : Holds Try.prog 68 E_spec_l21Less :=
  holds_of (cx := C_spec_l21Less) (tabOk_ok tabT rfl).1 (allT_ok trivial) mixT Q_spec_l21Less.1 Q_spec_l21Less.2.2 (loops_of W_spec_l21Less ⟨loop_of (cx := C_spec_l21Less) (L := S_spec_l21Less_L3 fuel) rfl (by rw [R_spec_l21Less_L3]; rfl) ⟨spec_l21Less_L3, fun _ => rfl, fun n x => K_spec_l21Less_L3 n x, fuel, fun _ => rfl⟩, trivial⟩) (enc := N_spec_l21Less) (fun _ _ => ⟨rfl, rfl⟩) F_spec_l21Less

theorem K_spec_l21Eliminate_L3 (n : Nat) (x : Int × Int × (List (List Int)) × ((List (List Int)) × ((List Int) × (List (List Int)))) × ((List (List Int)) × ((List Int) × (List (List Int)))) × Int) : spec_l21Eliminate_L3 (n + 1) x = roundK C_spec_l21Eliminate B_spec_l21Eliminate_L3 (S_spec_l21Eliminate_L3 fuel) x (spec_l21Eliminate_L3 n) := by
  obtain ⟨t0, t1, t2, t6, t7, t8⟩ := x
  kernel_rfl
theorem K_spec_l21Eliminate_L10 (n : Nat) (x : Int × Int × ((List (List Int)) × ((List Int) × (List (List Int)))) × ((List (List Int)) × ((List Int) × (List (List Int)))) × Int × Int) : spec_l21Eliminate_L10 (n + 1) x = roundK C_spec_l21Eliminate B_spec_l21Eliminate_L10 (S_spec_l21Eliminate_L10 fuel) x (spec_l21Eliminate_L10 n) := by
  obtain ⟨t0, t1, t6, t7, t9, t10⟩ := x
  kernel_rfl
theorem K_spec_l21Eliminate_L16 (n : Nat) (x : Int × Int × ((List (List Int)) × ((List Int) × (List (List Int)))) × ((List (List Int)) × ((List Int) × (List (List Int)))) × Int × (List Int) × (List (List Int)) × Int) : spec_l21Eliminate_L16 (n + 1) x = roundK C_spec_l21Eliminate B_spec_l21Eliminate_L16 (S_spec_l21Eliminate_L16 fuel) x (spec_l21Eliminate_L16 n) := by
  obtain ⟨t0, t1, t6, t7, t9, t11, t12, t13⟩ := x
  kernel_rfl
theorem K_spec_l21Eliminate_L20 (n : Nat) (x : Int × Int × ((List (List Int)) × ((List Int) × (List (List Int)))) × ((List (List Int)) × ((List Int) × (List (List Int)))) × Int × (List Int) × (List (List Int)) × Int) : spec_l21Eliminate_L20 (n + 1) x = roundK C_spec_l21Eliminate B_spec_l21Eliminate_L20 (S_spec_l21Eliminate_L20 fuel) x (spec_l21Eliminate_L20 n) := by
  obtain ⟨t0, t1, t6, t7, t9, t11, t12, t14⟩ := x
  kernel_rfl
theorem K_spec_l21Eliminate_L7 (n : Nat) (x : Int × Int × ((List (List Int)) × ((List Int) × (List (List Int)))) × ((List (List Int)) × ((List Int) × (List (List Int)))) × Int) : spec_l21Eliminate_L7 (n + 1) x = roundK C_spec_l21Eliminate B_spec_l21Eliminate_L7 (S_spec_l21Eliminate_L7 fuel) x (spec_l21Eliminate_L7 n) := by
  obtain ⟨t0, t1, t6, t7, t9⟩ := x
  kernel_rfl
theorem F_spec_l21Eliminate (a : dens [.v .int, .v .int, .v (.slice (.slice .int))]) : E_spec_l21Eliminate.run a = funK C_spec_l21Eliminate Try.f54 [.v .int, .v .int, .v (.slice (.slice .int))] [.pr (.mv (.slice .int) 0) (.pr (.mv .int 0) (.v (.slice (.slice .int))))] a (fun o r => some (N_spec_l21Eliminate o r)) := by
  kernel_rfl
theorem W_spec_l21Eliminate : loopsOf D_spec_l21Eliminate = [B_spec_l21Eliminate_L3, B_spec_l21Eliminate_L7, B_spec_l21Eliminate_L10, B_spec_l21Eliminate_L16, B_spec_l21Eliminate_L20] := by kernel_rfl
theorem R_spec_l21Eliminate_L3 : firstReg B_spec_l21Eliminate_L3 = 3 := by kernel_rfl
theorem R_spec_l21Eliminate_L10 : firstReg B_spec_l21Eliminate_L10 = 10 := by kernel_rfl
theorem R_spec_l21Eliminate_L16 : firstReg B_spec_l21Eliminate_L16 = 16 := by kernel_rfl
theorem R_spec_l21Eliminate_L20 : firstReg B_spec_l21Eliminate_L20 = 20 := by kernel_rfl
theorem R_spec_l21Eliminate_L7 : firstReg B_spec_l21Eliminate_L7 = 7 := by kernel_rfl
theorem Q_spec_l21Eliminate : Try.prog.funcs[54]? = some Try.f54 ∧ (Try.f54.name == "runtime.NumGoroutine") = false ∧ Try.f54.body = some D_spec_l21Eliminate := ⟨Try.func54, by kernel_rfl, by kernel_rfl⟩
theorem H_spec_l21Eliminate : Holds Try.prog 54 E_spec_l21Eliminate :=
  holds_of (cx := C_spec_l21Eliminate) (tabOk_ok tabT rfl).1 (allT_ok ⟨⟨H_spec_l1Own, _, _, Q_spec_l1Own⟩, ⟨⟨H_spec_l21Scale, _, _, Q_spec_l21Scale⟩, ⟨⟨H_spec_l21Inverse, _, _, Q_spec_l21Inverse⟩, ⟨⟨H_spec_l21Less, _, _, Q_spec_l21Less⟩, trivial⟩⟩⟩⟩) mixT Q_spec_l21Eliminate.1 Q_spec_l21Eliminate.2.2 (loops_of W_spec_l21Eliminate ⟨loop_of (cx := C_spec_l21Eliminate) (L := S_spec_l21Eliminate_L3 fuel) rfl (by rw [R_spec_l21Eliminate_L3]; rfl) ⟨spec_l21Eliminate_L3, fun _ => rfl, fun n x => K_spec_l21Eliminate_L3 n x, fuel, fun _ => rfl⟩, ⟨loop_of (cx := C_spec_l21Eliminate) (L := S_spec_l21Eliminate_L7 fuel) rfl (by rw [R_spec_l21Eliminate_L7]; rfl) ⟨spec_l21Eliminate_L7, fun _ => rfl, fun n x => K_spec_l21Eliminate_L7 n x, fuel, fun _ => rfl⟩, ⟨loop_of (cx := C_spec_l21Eliminate) (L := S_spec_l21Eliminate_L10 fuel) rfl (by rw [R_spec_l21Eliminate_L10]; rfl) ⟨spec_l21Eliminate_L10, fun _ => rfl, fun n x => K_spec_l21Eliminate_L10 n x, fuel, fun _ => rfl⟩, ⟨loop_of (cx := C_spec_l21Eliminate) (L := S_spec_l21Eliminate_L16 fuel) rfl (by rw [R_spec_l21Eliminate_L16]; rfl) ⟨spec_l21Eliminate_L16, fun _ => rfl, fun n x => K_spec_l21Eliminate_L16 n x, fuel, fun _ => rfl⟩, ⟨loop_of (cx := C_spec_l21Eliminate) (L := S_spec_l21Eliminate_L20 fuel) rfl (by rw [R_spec_l21Eliminate_L20]; rfl) ⟨spec_l21Eliminate_L20, fun _ => rfl, fun n x => K_spec_l21Eliminate_L20 n x, fuel, fun _ => rfl⟩, trivial⟩⟩⟩⟩⟩) (enc := N_spec_l21Eliminate) (fun _ _ => ⟨rfl, rfl⟩) F_spec_l21Eliminate

theorem F_spec_l21Of (a : dens [.v (.pair .int (.pair .int (.slice (.slice .int))))]) : E_spec_l21Of.run a = funK C_spec_l21Of Try.f34 [.v (.pair .int (.pair .int (.slice (.slice .int))))] [.pr (.mv (.slice .int) 0) (.pr (.mv .int 0) (.v (.slice (.slice .int))))] a (fun o r => some (N_spec_l21Of o r)) := by
  kernel_rfl
theorem W_spec_l21Of : loopsOf D_spec_l21Of = [] := by kernel_rfl
theorem Q_spec_l21Of : Try.prog.funcs[34]? = some Try.f34 ∧ (Try.f34.name == "runtime.NumGoroutine") = false ∧ Try.f34.body = some D_spec_l21Of := ⟨Try.func34, by kernel_rfl, by kernel_rfl⟩
theorem H_spec_l21Of : Holds Try.prog 34 E_spec_l21Of :=
  holds_of (cx := C_spec_l21Of) (tabOk_ok tabT rfl).1 (allT_ok ⟨⟨H_spec_l21Eliminate, _, _, Q_spec_l21Eliminate⟩, trivial⟩) mixT Q_spec_l21Of.1 Q_spec_l21Of.2.2 (loops_of W_spec_l21Of trivial) (enc := N_spec_l21Of) (fun _ _ => ⟨rfl, rfl⟩) F_spec_l21Of

theorem K_spec_l1Has_L2 (n : Nat) (x : (List Int) × Int × Int) : spec_l1Has_L2 (n + 1) x = roundK C_spec_l1Has B_spec_l1Has_L2 (S_spec_l1Has_L2 fuel) x (spec_l1Has_L2 n) := by
  obtain ⟨l, n_, i⟩ := x
  kernel_rfl
theorem F_spec_l1Has (a : dens [.v (.slice .int), .v .int]) : E_spec_l1Has.run a = funK C_spec_l1Has Try.f58 [.v (.slice .int), .v .int] [.v .bool] a (fun o r => some (N_spec_l1Has o r)) := by
  kernel_rfl
theorem W_spec_l1Has : loopsOf D_spec_l1Has = [B_spec_l1Has_L2] := by kernel_rfl
theorem R_spec_l1Has_L2 : firstReg B_spec_l1Has_L2 = 2 := by kernel_rfl
theorem Q_spec_l1Has : Try.prog.funcs[58]? = some Try.f58 ∧ (Try.f58.name == "runtime.NumGoroutine") = false ∧ Try.f58.body = some D_spec_l1Has := ⟨Try.func58, by kernel_rfl, by kernel_rfl⟩
theorem H_spec_l1Has : Holds Try.prog 58 E_spec_l1Has :=
  holds_of (cx := C_spec_l1Has) (tabOk_ok tabT rfl).1 (allT_ok trivial) mixT Q_spec_l1Has.1 Q_spec_l1Has.2.2 (loops_of W_spec_l1Has ⟨loop_of (cx := C_spec_l1Has) (L := S_spec_l1Has_L2 fuel) rfl (by rw [R_spec_l1Has_L2]; rfl) ⟨spec_l1Has_L2, fun _ => rfl, fun n x => K_spec_l1Has_L2 n x, fuel, fun _ => rfl⟩, trivial⟩) (enc := N_spec_l1Has) (fun _ _ => ⟨rfl, rfl⟩) F_spec_l1Has

theorem K_spec_l21Free_L3 (n : Nat) (x : Int × ((List (List Int)) × (List Int) × (List (List Int))) × (List Int) × Int) : spec_l21Free_L3 (n + 1) x = roundK C_spec_l21Free B_spec_l21Free_L3 (S_spec_l21Free_L3 fuel) x (spec_l21Free_L3 n) := by
  obtain ⟨vars, w, out, v⟩ := x
  kernel_rfl
theorem F_spec_l21Free (a : dens [.v (.pair (.slice (.slice .int)) (.pair (.slice .int) (.slice (.slice .int)))), .v .int]) : E_spec_l21Free.run a = funK C_spec_l21Free Try.f43 [.v (.pair (.slice (.slice .int)) (.pair (.slice .int) (.slice (.slice .int)))), .v .int] [.mv .int 0] a (fun o r => some (N_spec_l21Free o r)) := by
  kernel_rfl
theorem W_spec_l21Free : loopsOf D_spec_l21Free = [B_spec_l21Free_L3] := by kernel_rfl
theorem R_spec_l21Free_L3 : firstReg B_spec_l21Free_L3 = 3 := by kernel_rfl
theorem Q_spec_l21Free : Try.prog.funcs[43]? = some Try.f43 ∧ (Try.f43.name == "runtime.NumGoroutine") = false ∧ Try.f43.body = some D_spec_l21Free := ⟨Try.func43, by kernel_rfl, by kernel_rfl⟩
theorem H_spec_l21Free : Holds Try.prog 43 E_spec_l21Free :=
  holds_of (cx := C_spec_l21Free) (tabOk_ok tabT rfl).1 (allT_ok ⟨⟨H_spec_l1Has, _, _, Q_spec_l1Has⟩, trivial⟩) mixT Q_spec_l21Free.1 Q_spec_l21Free.2.2 (loops_of W_spec_l21Free ⟨loop_of (cx := C_spec_l21Free) (L := S_spec_l21Free_L3 fuel) rfl (by rw [R_spec_l21Free_L3]; rfl) ⟨spec_l21Free_L3, fun _ => rfl, fun n x => K_spec_l21Free_L3 n x, fuel, fun _ => rfl⟩, trivial⟩) (enc := N_spec_l21Free) (fun _ _ => ⟨rfl, rfl⟩) F_spec_l21Free

theorem K_spec_l21Kernel_L8 (n : Nat) (x : Int × Int × ((List (List Int)) × (List Int) × (List (List Int))) × (List (List Int)) × (List Int) × Int × (List Int) × Int) : spec_l21Kernel_L8 (n + 1) x = roundK C_spec_l21Kernel B_spec_l21Kernel_L8 (S_spec_l21Kernel_L8 fuel) x (spec_l21Kernel_L8 n) := by
  obtain ⟨p, vars, w, out, free, i, values, k⟩ := x
  kernel_rfl
theorem K_spec_l21Kernel_L3 (n : Nat) (x : Int × Int × ((List (List Int)) × (List Int) × (List (List Int))) × (List (List Int)) × (List Int) × Int) : spec_l21Kernel_L3 (n + 1) x = roundK C_spec_l21Kernel B_spec_l21Kernel_L3 (S_spec_l21Kernel_L3 fuel) x (spec_l21Kernel_L3 n) := by
  obtain ⟨p, vars, w, out, free, i⟩ := x
  kernel_rfl
theorem F_spec_l21Kernel (a : dens [.v (.pair (.slice (.slice .int)) (.pair (.slice .int) (.slice (.slice .int)))), .v .int, .v .int]) : E_spec_l21Kernel.run a = funK C_spec_l21Kernel Try.f47 [.v (.pair (.slice (.slice .int)) (.pair (.slice .int) (.slice (.slice .int)))), .v .int, .v .int] [.mv (.slice .int) 0] a (fun o r => some (N_spec_l21Kernel o r)) := by
  kernel_rfl
theorem W_spec_l21Kernel : loopsOf D_spec_l21Kernel = [B_spec_l21Kernel_L3, B_spec_l21Kernel_L8] := by kernel_rfl
theorem R_spec_l21Kernel_L8 : firstReg B_spec_l21Kernel_L8 = 8 := by kernel_rfl
theorem R_spec_l21Kernel_L3 : firstReg B_spec_l21Kernel_L3 = 3 := by kernel_rfl
theorem Q_spec_l21Kernel : Try.prog.funcs[47]? = some Try.f47 ∧ (Try.f47.name == "runtime.NumGoroutine") = false ∧ Try.f47.body = some D_spec_l21Kernel := ⟨Try.func47, by kernel_rfl, by kernel_rfl⟩
theorem H_spec_l21Kernel : Holds Try.prog 47 E_spec_l21Kernel :=
  holds_of (cx := C_spec_l21Kernel) (tabOk_ok tabT rfl).1 (allT_ok ⟨⟨H_spec_l21Free, _, _, Q_spec_l21Free⟩, trivial⟩) mixT Q_spec_l21Kernel.1 Q_spec_l21Kernel.2.2 (loops_of W_spec_l21Kernel ⟨loop_of (cx := C_spec_l21Kernel) (L := S_spec_l21Kernel_L3 fuel) rfl (by rw [R_spec_l21Kernel_L3]; rfl) ⟨spec_l21Kernel_L3, fun _ => rfl, fun n x => K_spec_l21Kernel_L3 n x, fuel, fun _ => rfl⟩, ⟨loop_of (cx := C_spec_l21Kernel) (L := S_spec_l21Kernel_L8 fuel) rfl (by rw [R_spec_l21Kernel_L8]; rfl) ⟨spec_l21Kernel_L8, fun _ => rfl, fun n x => K_spec_l21Kernel_L8 n x, fuel, fun _ => rfl⟩, trivial⟩⟩) (enc := N_spec_l21Kernel) (fun _ _ => ⟨rfl, rfl⟩) F_spec_l21Kernel

theorem F_spec_LinearKernel (a : dens [.v (.pair .int (.pair .int (.slice (.slice .int))))]) : E_spec_LinearKernel.run a = funK C_spec_LinearKernel Try.f25 [.v (.pair .int (.pair .int (.slice (.slice .int))))] [.mv (.slice .int) 0, .v .bool] a (fun o r => some (N_spec_LinearKernel o r)) := by
  kernel_rfl
theorem W_spec_LinearKernel : loopsOf D_spec_LinearKernel = [] := by kernel_rfl
theorem Q_spec_LinearKernel : Try.prog.funcs[25]? = some Try.f25 ∧ (Try.f25.name == "runtime.NumGoroutine") = false ∧ Try.f25.body = some D_spec_LinearKernel := ⟨Try.func25, by kernel_rfl, by kernel_rfl⟩
theorem H_spec_LinearKernel : Holds Try.prog 25 E_spec_LinearKernel :=
  holds_of (cx := C_spec_LinearKernel) (tabOk_ok tabT rfl).1 (allT_ok ⟨⟨H_spec_l21Good, _, _, Q_spec_l21Good⟩, ⟨⟨H_spec_l21Of, _, _, Q_spec_l21Of⟩, ⟨⟨H_spec_l21Kernel, _, _, Q_spec_l21Kernel⟩, trivial⟩⟩⟩) mixT Q_spec_LinearKernel.1 Q_spec_LinearKernel.2.2 (loops_of W_spec_LinearKernel trivial) (enc := N_spec_LinearKernel) (fun _ _ => ⟨rfl, rfl⟩) F_spec_LinearKernel

theorem F_impl_isPrime (a : dens [.v .int]) : E_impl_isPrime.run a = funK C_impl_isPrime Try.f56 [.v .int] [.v .bool] a (fun o r => some (N_impl_isPrime o r)) := by
  kernel_rfl
theorem W_impl_isPrime : loopsOf D_impl_isPrime = [] := by kernel_rfl
theorem Q_impl_isPrime : Try.prog.funcs[56]? = some Try.f56 ∧ (Try.f56.name == "runtime.NumGoroutine") = false ∧ Try.f56.body = some D_impl_isPrime := ⟨Try.func56, by kernel_rfl, by kernel_rfl⟩
theorem H_impl_isPrime : Holds Try.prog 56 E_impl_isPrime :=
  holds_of (cx := C_impl_isPrime) (tabOk_ok tabT rfl).1 (allT_ok trivial) mixT Q_impl_isPrime.1 Q_impl_isPrime.2.2 (loops_of W_impl_isPrime trivial) (enc := N_impl_isPrime) (fun _ _ => ⟨rfl, rfl⟩) F_impl_isPrime

theorem K_impl_inSize_L2 (n : Nat) (x : Int × (List Int) × Int × Int) : impl_inSize_L2 (n + 1) x = roundK C_impl_inSize B_impl_inSize_L2 (S_impl_inSize_L2 fuel) x (impl_inSize_L2 n) := by
  obtain ⟨n_, t7, t8, t9⟩ := x
  kernel_rfl
theorem F_impl_inSize (a : dens [.v (.slice .int), .v .int]) : E_impl_inSize.run a = funK C_impl_inSize Try.f57 [.v (.slice .int), .v .int] [.v .bool] a (fun o r => some (N_impl_inSize o r)) := by
  kernel_rfl
theorem W_impl_inSize : loopsOf D_impl_inSize = [B_impl_inSize_L2] := by kernel_rfl
theorem R_impl_inSize_L2 : firstReg B_impl_inSize_L2 = 2 := by kernel_rfl
theorem Q_impl_inSize : Try.prog.funcs[57]? = some Try.f57 ∧ (Try.f57.name == "runtime.NumGoroutine") = false ∧ Try.f57.body = some D_impl_inSize := ⟨Try.func57, by kernel_rfl, by kernel_rfl⟩
theorem H_impl_inSize : Holds Try.prog 57 E_impl_inSize :=
  holds_of (cx := C_impl_inSize) (tabOk_ok tabT rfl).1 (allT_ok trivial) mixT Q_impl_inSize.1 Q_impl_inSize.2.2 (loops_of W_impl_inSize ⟨loop_of (cx := C_impl_inSize) (L := S_impl_inSize_L2 fuel) rfl (by rw [R_impl_inSize_L2]; rfl) ⟨impl_inSize_L2, fun _ => rfl, fun n x => K_impl_inSize_L2 n x, fuel, fun _ => rfl⟩, trivial⟩) (enc := N_impl_inSize) (fun _ _ => ⟨rfl, rfl⟩) F_impl_inSize

theorem K_impl_IsLinear_L4 (n : Nat) (x : (Int × Int × (List (List Int))) × (List (List Int)) × Int × Int) : impl_IsLinear_L4 (n + 1) x = roundK C_impl_IsLinear B_impl_IsLinear_L4 (S_impl_IsLinear_L4 fuel) x (impl_IsLinear_L4 n) := by
  obtain ⟨l, t26, t27, t28⟩ := x
  kernel_rfl
theorem F_impl_IsLinear (a : dens [.v (.pair .int (.pair .int (.slice (.slice .int))))]) : E_impl_IsLinear.run a = funK C_impl_IsLinear Try.f38 [.v (.pair .int (.pair .int (.slice (.slice .int))))] [.v .bool] a (fun o r => some (N_impl_IsLinear o r)) := by
  kernel_rfl
theorem W_impl_IsLinear : loopsOf D_impl_IsLinear = [B_impl_IsLinear_L4] := by kernel_rfl
theorem R_impl_IsLinear_L4 : firstReg B_impl_IsLinear_L4 = 4 := by kernel_rfl
theorem Q_impl_IsLinear : Try.prog.funcs[38]? = some Try.f38 ∧ (Try.f38.name == "runtime.NumGoroutine") = false ∧ Try.f38.body = some D_impl_IsLinear := ⟨Try.func38, by kernel_rfl, by kernel_rfl⟩
theorem H_impl_IsLinear : Holds Try.prog 38 E_impl_IsLinear :=
  holds_of (cx := C_impl_IsLinear) (tabOk_ok tabT rfl).1 (allT_ok ⟨⟨H_impl_isPrime, _, _, Q_impl_isPrime⟩, ⟨⟨H_impl_inSize, _, _, Q_impl_inSize⟩, trivial⟩⟩) mixT Q_impl_IsLinear.1 Q_impl_IsLinear.2.2 (loops_of W_impl_IsLinear ⟨loop_of (cx := C_impl_IsLinear) (L := S_impl_IsLinear_L4 fuel) rfl (by rw [R_impl_IsLinear_L4]; rfl) ⟨impl_IsLinear_L4, fun _ => rfl, fun n x => K_impl_IsLinear_L4 n x, fuel, fun _ => rfl⟩, trivial⟩) (enc := N_impl_IsLinear) (fun _ _ => ⟨rfl, rfl⟩) F_impl_IsLinear

theorem F_impl_clone (a : dens [.v (.slice .int)]) : E_impl_clone.run a = funK C_impl_clone Try.f60 [.v (.slice .int)] [.mv .int 0] a (fun o r => some (N_impl_clone o r)) := by
  kernel_rfl
theorem W_impl_clone : loopsOf D_impl_clone = [] := by kernel_rfl
theorem Q_impl_clone : Try.prog.funcs[60]? = some Try.f60 ∧ (Try.f60.name == "runtime.NumGoroutine") = false ∧ Try.f60.body = some D_impl_clone := ⟨Try.func60, by kernel_rfl, by kernel_rfl⟩
theorem H_impl_clone : Holds Try.prog 60 E_impl_clone :=
  holds_of (cx := C_impl_clone) (tabOk_ok tabT rfl).1 (allT_ok trivial) mixT Q_impl_clone.1 Q_impl_clone.2.2 (loops_of W_impl_clone trivial) (enc := N_impl_clone) (fun _ _ => ⟨rfl, rfl⟩) F_impl_clone

theorem K_impl_cloneRows_L3 (n : Nat) (x : (List (List Int)) × (List (List Int)) × Int × Int) : impl_cloneRows_L3 (n + 1) x = roundK C_impl_cloneRows B_impl_cloneRows_L3 (S_impl_cloneRows_L3 fuel) x (impl_cloneRows_L3 n) := by
  obtain ⟨list, t7, t8, t9⟩ := x
  kernel_rfl
theorem F_impl_cloneRows (a : dens [.v (.slice (.slice .int))]) : E_impl_cloneRows.run a = funK C_impl_cloneRows Try.f59 [.v (.slice (.slice .int))] [.mv (.slice .int) 1] a (fun o r => some (N_impl_cloneRows o r)) := by
  kernel_rfl
theorem W_impl_cloneRows : loopsOf D_impl_cloneRows = [B_impl_cloneRows_L3] := by kernel_rfl
theorem R_impl_cloneRows_L3 : firstReg B_impl_cloneRows_L3 = 3 := by kernel_rfl
theorem Q_impl_cloneRows : Try.prog.funcs[59]? = some Try.f59 ∧ (Try.f59.name == "runtime.NumGoroutine") = false ∧ Try.f59.body = some D_impl_cloneRows := ⟨Try.func59, by kernel_rfl, by kernel_rfl⟩
theorem H_impl_cloneRows : Holds Try.prog 59 E_impl_cloneRows :=
  holds_of (cx := C_impl_cloneRows) (tabOk_ok tabT rfl).1 (allT_ok ⟨⟨H_impl_clone, _, _, Q_impl_clone⟩, trivial⟩) mixT Q_impl_cloneRows.1 Q_impl_cloneRows.2.2 (loops_of W_impl_cloneRows ⟨loop_of (cx := C_impl_cloneRows) (L := S_impl_cloneRows_L3 fuel) rfl (by rw [R_impl_cloneRows_L3]; rfl) ⟨impl_cloneRows_L3, fun _ => rfl, fun n x => K_impl_cloneRows_L3 n x, fuel, fun _ => rfl⟩, trivial⟩) (enc := N_impl_cloneRows) (fun _ _ => ⟨rfl, rfl⟩) F_impl_cloneRows

theorem K_impl_freeTable_L3 (n : Nat) (x : (List Int) × Int × Int) : impl_freeTable_L3 (n + 1) x = roundK C_impl_freeTable B_impl_freeTable_L3 (S_impl_freeTable_L3 fuel) x (impl_freeTable_L3 n) := by
  obtain ⟨list, t8, t9⟩ := x
  kernel_rfl
theorem F_impl_freeTable (a : dens [.v .int]) : E_impl_freeTable.run a = funK C_impl_freeTable Try.f62 [.v .int] [.mv .int 0] a (fun o r => some (N_impl_freeTable o r)) := by
  kernel_rfl
theorem W_impl_freeTable : loopsOf D_impl_freeTable = [B_impl_freeTable_L3] := by kernel_rfl
theorem R_impl_freeTable_L3 : firstReg B_impl_freeTable_L3 = 3 := by kernel_rfl
theorem Q_impl_freeTable : Try.prog.funcs[62]? = some Try.f62 ∧ (Try.f62.name == "runtime.NumGoroutine") = false ∧ Try.f62.body = some D_impl_freeTable := ⟨Try.func62, by kernel_rfl, by kernel_rfl⟩
theorem H_impl_freeTable : Holds Try.prog 62 E_impl_freeTable :=
  holds_of (cx := C_impl_freeTable) (tabOk_ok tabT rfl).1 (allT_ok trivial) mixT Q_impl_freeTable.1 Q_impl_freeTable.2.2 (loops_of W_impl_freeTable ⟨loop_of (cx := C_impl_freeTable) (L := S_impl_freeTable_L3 fuel) rfl (by rw [R_impl_freeTable_L3]; rfl) ⟨impl_freeTable_L3, fun _ => rfl, fun n x => K_impl_freeTable_L3 n x, fuel, fun _ => rfl⟩, trivial⟩) (enc := N_impl_freeTable) (fun _ _ => ⟨rfl, rfl⟩) F_impl_freeTable

theorem K_impl_inverseOf_L2 (n : Nat) (x : Int × Int × Int) : impl_inverseOf_L2 (n + 1) x = roundK C_impl_inverseOf B_impl_inverseOf_L2 (S_impl_inverseOf_L2 fuel) x (impl_inverseOf_L2 n) := by
  obtain ⟨x, p, y⟩ := x
  kernel_rfl
theorem F_impl_inverseOf (a : dens [.v .int, .v .int]) : E_impl_inverseOf.run a = funK C_impl_inverseOf Try.f63 [.v .int, .v .int] [.v .int] a (fun o r => some (N_impl_inverseOf o r)) := by
  kernel_rfl
theorem W_impl_inverseOf : loopsOf D_impl_inverseOf = [B_impl_inverseOf_L2] := by kernel_rfl
theorem R_impl_inverseOf_L2 : firstReg B_impl_inverseOf_L2 = 2 := by kernel_rfl
theorem Q_impl_inverseOf : Try.prog.funcs[63]? = some Try.f63 ∧ (Try.f63.name == "runtime.NumGoroutine") = false ∧ Try.f63.body = some D_impl_inverseOf := ⟨Try.func63, by kernel_rfl, by kernel_rfl⟩
theorem H_impl_inverseOf : Holds Try.prog 63 E_impl_inverseOf :=
  holds_of (cx := C_impl_inverseOf) (tabOk_ok tabT rfl).1 (allT_ok trivial) mixT Q_impl_inverseOf.1 Q_impl_inverseOf.2.2 (loops_of W_impl_inverseOf ⟨loop_of (cx := C_impl_inverseOf) (L := S_impl_inverseOf_L2 fuel) rfl (by rw [R_impl_inverseOf_L2]; rfl) ⟨impl_inverseOf_L2, fun _ => rfl, fun n x => K_impl_inverseOf_L2 n x, fuel, fun _ => rfl⟩, trivial⟩) (enc := N_impl_inverseOf) (fun _ _ => ⟨rfl, rfl⟩) F_impl_inverseOf

theorem K_impl_eliminate_b_L6 (n : Nat) (x : Int × Int × (Int × (Int × ((List (List Int)) × (Int × (List Int))))) × Int × Int) : impl_eliminate_b_L6 (n + 1) x = roundK C_impl_eliminate_b B_impl_eliminate_b_L6 (S_impl_eliminate_b_L6 fuel) x (impl_eliminate_b_L6 n) := by
  obtain ⟨t0, t1, t7, t8, t9⟩ := x
  kernel_rfl
theorem K_impl_eliminate_b_L14 (n : Nat) (x : Int × Int × Int × (Int × (Int × ((List (List Int)) × (Int × (List Int))))) × Int × Int × Int × Int) : impl_eliminate_b_L14 (n + 1) x = roundK C_impl_eliminate_b B_impl_eliminate_b_L14 (S_impl_eliminate_b_L14 fuel) x (impl_eliminate_b_L14 n) := by
  obtain ⟨row10, t0, t1, t7, t8, t11, t110, t111⟩ := x
  kernel_rfl
theorem K_impl_eliminate_b_L24 (n : Nat) (x : Int × Int × Unit × Int × Int × (Int × (Int × ((List (List Int)) × (Int × (List Int))))) × Int × Int × Int × Int × Int × Int) : impl_eliminate_b_L24 (n + 1) x = roundK C_impl_eliminate_b B_impl_eliminate_b_L24 (S_impl_eliminate_b_L24 fuel) x (impl_eliminate_b_L24 n) := by
  obtain ⟨row10, row14, al129, t0, t1, t7, t8, t15, t130, t131, t151, t152⟩ := x
  kernel_rfl
theorem K_impl_eliminate_b_L19 (n : Nat) (x : Int × Unit × Int × Int × (Int × (Int × ((List (List Int)) × (Int × (List Int))))) × Int × Int × Int) : impl_eliminate_b_L19 (n + 1) x = roundK C_impl_eliminate_b B_impl_eliminate_b_L19 (S_impl_eliminate_b_L19 fuel) x (impl_eliminate_b_L19 n) := by
  obtain ⟨row10, al129, t0, t1, t7, t8, t130, t131⟩ := x
  kernel_rfl
theorem K_impl_eliminate_b_L3 (n : Nat) (x : Int × Int × (Int × (Int × ((List (List Int)) × (Int × (List Int))))) × Int) : impl_eliminate_b_L3 (n + 1) x = roundK C_impl_eliminate_b B_impl_eliminate_b_L3 (S_impl_eliminate_b_L3 fuel) x (impl_eliminate_b_L3 n) := by
  obtain ⟨t0, t1, t7, t8⟩ := x
  kernel_rfl
theorem F_impl_eliminate_b (a : dens [.v .int, .v .int, .v (.slice (.slice .int))]) : E_impl_eliminate_b.run a = funK C_impl_eliminate_b Try.f49 [.v .int, .v .int, .v (.slice (.slice .int))] [.bx (.pr (.v .int) (.pr (.v .int) (.pr (.mv (.slice .int) 1) (.pr (.v .int) (.mv .int 0)))))] a (fun o r => some (N_impl_eliminate_b o r)) := by
  kernel_rfl
theorem W_impl_eliminate_b : loopsOf D_impl_eliminate_b = [B_impl_eliminate_b_L3, B_impl_eliminate_b_L6, B_impl_eliminate_b_L14, B_impl_eliminate_b_L19, B_impl_eliminate_b_L24] := by kernel_rfl
theorem R_impl_eliminate_b_L6 : firstReg B_impl_eliminate_b_L6 = 6 := by kernel_rfl
theorem R_impl_eliminate_b_L14 : firstReg B_impl_eliminate_b_L14 = 14 := by kernel_rfl
theorem R_impl_eliminate_b_L24 : firstReg B_impl_eliminate_b_L24 = 24 := by kernel_rfl
theorem R_impl_eliminate_b_L19 : firstReg B_impl_eliminate_b_L19 = 19 := by kernel_rfl
theorem R_impl_eliminate_b_L3 : firstReg B_impl_eliminate_b_L3 = 3 := by kernel_rfl
theorem Q_impl_eliminate_b : Try.prog.funcs[49]? = some Try.f49 ∧ (Try.f49.name == "runtime.NumGoroutine") = false ∧ Try.f49.body = some D_impl_eliminate_b := ⟨Try.func49, by kernel_rfl, by kernel_rfl⟩
theorem H_impl_eliminate_b : Holds Try.prog 49 E_impl_eliminate_b :=
  holds_of (cx := C_impl_eliminate_b) (tabOk_ok tabT rfl).1 (allT_ok ⟨⟨H_impl_cloneRows, _, _, Q_impl_cloneRows⟩, ⟨⟨H_impl_freeTable, _, _, Q_impl_freeTable⟩, ⟨⟨H_impl_inverseOf, _, _, Q_impl_inverseOf⟩, trivial⟩⟩⟩) mixT Q_impl_eliminate_b.1 Q_impl_eliminate_b.2.2 (loops_of W_impl_eliminate_b ⟨loop_of (cx := C_impl_eliminate_b) (L := S_impl_eliminate_b_L3 fuel) rfl (by rw [R_impl_eliminate_b_L3]; rfl) ⟨impl_eliminate_b_L3, fun _ => rfl, fun n x => K_impl_eliminate_b_L3 n x, fuel, fun _ => rfl⟩, ⟨loop_of (cx := C_impl_eliminate_b) (L := S_impl_eliminate_b_L6 fuel) rfl (by rw [R_impl_eliminate_b_L6]; rfl) ⟨impl_eliminate_b_L6, fun _ => rfl, fun n x => K_impl_eliminate_b_L6 n x, fuel, fun _ => rfl⟩, ⟨loop_of (cx := C_impl_eliminate_b) (L := S_impl_eliminate_b_L14 fuel) rfl (by rw [R_impl_eliminate_b_L14]; rfl) ⟨impl_eliminate_b_L14, fun _ => rfl, fun n x => K_impl_eliminate_b_L14 n x, fuel, fun _ => rfl⟩, ⟨loop_of (cx := C_impl_eliminate_b) (L := S_impl_eliminate_b_L19 fuel) rfl (by rw [R_impl_eliminate_b_L19]; rfl) ⟨impl_eliminate_b_L19, fun _ => rfl, fun n x => K_impl_eliminate_b_L19 n x, fuel, fun _ => rfl⟩, ⟨loop_of (cx := C_impl_eliminate_b) (L := S_impl_eliminate_b_L24 fuel) rfl (by rw [R_impl_eliminate_b_L24]; rfl) ⟨impl_eliminate_b_L24, fun _ => rfl, fun n x => K_impl_eliminate_b_L24 n x, fuel, fun _ => rfl⟩, trivial⟩⟩⟩⟩⟩) (enc := N_impl_eliminate_b) (fun _ _ => ⟨rfl, rfl⟩) F_impl_eliminate_b

theorem F_impl_eliminateLinear_b (a : dens [.v (.pair .int (.pair .int (.slice (.slice .int))))]) : E_impl_eliminateLinear_b.run a = funK C_impl_eliminateLinear_b Try.f39 [.v (.pair .int (.pair .int (.slice (.slice .int))))] [.bx (.pr (.v .int) (.pr (.v .int) (.pr (.mv (.slice .int) 1) (.pr (.v .int) (.mv .int 0)))))] a (fun o r => some (N_impl_eliminateLinear_b o r)) := by
  kernel_rfl
theorem W_impl_eliminateLinear_b : loopsOf D_impl_eliminateLinear_b = [] := by kernel_rfl
theorem Q_impl_eliminateLinear_b : Try.prog.funcs[39]? = some Try.f39 ∧ (Try.f39.name == "runtime.NumGoroutine") = false ∧ Try.f39.body = some D_impl_eliminateLinear_b := ⟨Try.func39, by kernel_rfl, by kernel_rfl⟩
theorem H_impl_eliminateLinear_b : Holds Try.prog 39 E_impl_eliminateLinear_b :=
  holds_of (cx := C_impl_eliminateLinear_b) (tabOk_ok tabT rfl).1 (allT_ok ⟨⟨H_impl_eliminate_b, _, _, Q_impl_eliminate_b⟩, trivial⟩) mixT Q_impl_eliminateLinear_b.1 Q_impl_eliminateLinear_b.2.2 (loops_of W_impl_eliminateLinear_b trivial) (enc := N_impl_eliminateLinear_b) (fun _ _ => ⟨rfl, rfl⟩) F_impl_eliminateLinear_b

theorem K_impl_eliminated_freeVars_L3 (n : Nat) (x : Unit × (Int × (Int × ((List (List Int)) × (Int × (List Int))))) × (List Int) × Int × Int) : impl_eliminated_freeVars_L3 (n + 1) x = roundK C_impl_eliminated_freeVars B_impl_eliminated_freeVars_L3 (S_impl_eliminated_freeVars_L3 fuel) x (impl_eliminated_freeVars_L3 n) := by
  obtain ⟨al10, e, list, t11, t12⟩ := x
  kernel_rfl
theorem F_impl_eliminated_freeVars (a : dens [.bx (.pr (.v .int) (.pr (.v .int) (.pr (.mv (.slice .int) 1) (.pr (.v .int) (.mv .int 0)))))]) : E_impl_eliminated_freeVars.run a = funK C_impl_eliminated_freeVars Try.f42 [.bx (.pr (.v .int) (.pr (.v .int) (.pr (.mv (.slice .int) 1) (.pr (.v .int) (.mv .int 0)))))] [.mv .int 0] a (fun o r => some (N_impl_eliminated_freeVars o r)) := by
  kernel_rfl
theorem W_impl_eliminated_freeVars : loopsOf D_impl_eliminated_freeVars = [B_impl_eliminated_freeVars_L3] := by kernel_rfl
theorem R_impl_eliminated_freeVars_L3 : firstReg B_impl_eliminated_freeVars_L3 = 3 := by kernel_rfl
theorem Q_impl_eliminated_freeVars : Try.prog.funcs[42]? = some Try.f42 ∧ (Try.f42.name == "runtime.NumGoroutine") = false ∧ Try.f42.body = some D_impl_eliminated_freeVars := ⟨Try.func42, by kernel_rfl, by kernel_rfl⟩
theorem H_impl_eliminated_freeVars : Holds Try.prog 42 E_impl_eliminated_freeVars :=
  holds_of (cx := C_impl_eliminated_freeVars) (tabOk_ok tabT rfl).1 (allT_ok trivial) mixT Q_impl_eliminated_freeVars.1 Q_impl_eliminated_freeVars.2.2 (loops_of W_impl_eliminated_freeVars ⟨loop_of (cx := C_impl_eliminated_freeVars) (L := S_impl_eliminated_freeVars_L3 fuel) rfl (by rw [R_impl_eliminated_freeVars_L3]; rfl) ⟨impl_eliminated_freeVars_L3, fun _ => rfl, fun n x => K_impl_eliminated_freeVars_L3 n x, fuel, fun _ => rfl⟩, trivial⟩) (enc := N_impl_eliminated_freeVars) (fun _ _ => ⟨rfl, rfl⟩) F_impl_eliminated_freeVars

theorem K_impl_eliminated_solution_L4 (n : Nat) (x : Unit × (Int × (Int × ((List (List Int)) × (Int × (List Int))))) × (List Int) × (List Int) × (List Int) × Int × Int) : impl_eliminated_solution_L4 (n + 1) x = roundK C_impl_eliminated_solution B_impl_eliminated_solution_L4 (S_impl_eliminated_solution_L4 fuel) x (impl_eliminated_solution_L4 n) := by
  obtain ⟨al21, t0, t1, t5, t6, t22, t23⟩ := x
  kernel_rfl
theorem K_impl_eliminated_solution_L14 (n : Nat) (x : Unit × Unit × (Int × (Int × ((List (List Int)) × (Int × (List Int))))) × (List Int) × (List Int) × (List Int) × Int × Int × Int × Int × Int × Int × Int) : impl_eliminated_solution_L14 (n + 1) x = roundK C_impl_eliminated_solution B_impl_eliminated_solution_L14 (S_impl_eliminated_solution_L14 fuel) x (impl_eliminated_solution_L14 n) := by
  obtain ⟨al39, al61, t0, t1, t5, t6, t9, t10, t11, t40, t41, t62, t63⟩ := x
  kernel_rfl
theorem K_impl_eliminated_solution_L9 (n : Nat) (x : Unit × (Int × (Int × ((List (List Int)) × (Int × (List Int))))) × (List Int) × (List Int) × (List Int) × Int × Int) : impl_eliminated_solution_L9 (n + 1) x = roundK C_impl_eliminated_solution B_impl_eliminated_solution_L9 (S_impl_eliminated_solution_L9 fuel) x (impl_eliminated_solution_L9 n) := by
  obtain ⟨al39, t0, t1, t5, t6, t40, t41⟩ := x
  kernel_rfl
theorem F_impl_eliminated_solution (a : dens [.bx (.pr (.v .int) (.pr (.v .int) (.pr (.mv (.slice .int) 1) (.pr (.v .int) (.mv .int 0))))), .v (.slice .int)]) : E_impl_eliminated_solution.run a = funK C_impl_eliminated_solution Try.f61 [.bx (.pr (.v .int) (.pr (.v .int) (.pr (.mv (.slice .int) 1) (.pr (.v .int) (.mv .int 0))))), .v (.slice .int)] [.mv .int 0] a (fun o r => some (N_impl_eliminated_solution o r)) := by
  kernel_rfl
theorem W_impl_eliminated_solution : loopsOf D_impl_eliminated_solution = [B_impl_eliminated_solution_L4, B_impl_eliminated_solution_L9, B_impl_eliminated_solution_L14] := by kernel_rfl
theorem R_impl_eliminated_solution_L4 : firstReg B_impl_eliminated_solution_L4 = 4 := by kernel_rfl
theorem R_impl_eliminated_solution_L14 : firstReg B_impl_eliminated_solution_L14 = 14 := by kernel_rfl
theorem R_impl_eliminated_solution_L9 : firstReg B_impl_eliminated_solution_L9 = 9 := by kernel_rfl
theorem Q_impl_eliminated_solution : Try.prog.funcs[61]? = some Try.f61 ∧ (Try.f61.name == "runtime.NumGoroutine") = false ∧ Try.f61.body = some D_impl_eliminated_solution := ⟨Try.func61, by kernel_rfl, by kernel_rfl⟩
theorem H_impl_eliminated_solution : Holds Try.prog 61 E_impl_eliminated_solution :=
  holds_of (cx := C_impl_eliminated_solution) (tabOk_ok tabT rfl).1 (allT_ok ⟨⟨H_impl_eliminated_freeVars, _, _, Q_impl_eliminated_freeVars⟩, trivial⟩) mixT Q_impl_eliminated_solution.1 Q_impl_eliminated_solution.2.2 (loops_of W_impl_eliminated_solution ⟨loop_of (cx := C_impl_eliminated_solution) (L := S_impl_eliminated_solution_L4 fuel) rfl (by rw [R_impl_eliminated_solution_L4]; rfl) ⟨impl_eliminated_solution_L4, fun _ => rfl, fun n x => K_impl_eliminated_solution_L4 n x, fuel, fun _ => rfl⟩, ⟨loop_of (cx := C_impl_eliminated_solution) (L := S_impl_eliminated_solution_L9 fuel) rfl (by rw [R_impl_eliminated_solution_L9]; rfl) ⟨impl_eliminated_solution_L9, fun _ => rfl, fun n x => K_impl_eliminated_solution_L9 n x, fuel, fun _ => rfl⟩, ⟨loop_of (cx := C_impl_eliminated_solution) (L := S_impl_eliminated_solution_L14 fuel) rfl (by rw [R_impl_eliminated_solution_L14]; rfl) ⟨impl_eliminated_solution_L14, fun _ => rfl, fun n x => K_impl_eliminated_solution_L14 n x, fuel, fun _ => rfl⟩, trivial⟩⟩⟩) (enc := N_impl_eliminated_solution) (fun _ _ => ⟨rfl, rfl⟩) F_impl_eliminated_solution

theorem K_impl_eliminated_kernel_L2 (n : Nat) (x : Unit × (Int × (Int × ((List (List Int)) × (Int × (List Int))))) × Int × Int) : impl_eliminated_kernel_L2 (n + 1) x = roundK C_impl_eliminated_kernel B_impl_eliminated_kernel_L2 (S_impl_eliminated_kernel_L2 fuel) x (impl_eliminated_kernel_L2 n) := by
  obtain ⟨al12, e, t13, t14⟩ := x
  kernel_rfl
theorem K_impl_eliminated_kernel_L9 (n : Nat) (x : (Int × (Int × ((List (List Int)) × (Int × (List Int))))) × (List (List Int)) × (List Int) × Int × Int) : impl_eliminated_kernel_L9 (n + 1) x = roundK C_impl_eliminated_kernel B_impl_eliminated_kernel_L9 (S_impl_eliminated_kernel_L9 fuel) x (impl_eliminated_kernel_L9 n) := by
  obtain ⟨e, list, free, t29, t30⟩ := x
  kernel_rfl
theorem F_impl_eliminated_kernel (a : dens [.bx (.pr (.v .int) (.pr (.v .int) (.pr (.mv (.slice .int) 1) (.pr (.v .int) (.mv .int 0)))))]) : E_impl_eliminated_kernel.run a = funK C_impl_eliminated_kernel Try.f48 [.bx (.pr (.v .int) (.pr (.v .int) (.pr (.mv (.slice .int) 1) (.pr (.v .int) (.mv .int 0)))))] [.mv (.slice .int) 1] a (fun o r => some (N_impl_eliminated_kernel o r)) := by
  kernel_rfl
theorem W_impl_eliminated_kernel : loopsOf D_impl_eliminated_kernel = [B_impl_eliminated_kernel_L2, B_impl_eliminated_kernel_L9] := by kernel_rfl
theorem R_impl_eliminated_kernel_L2 : firstReg B_impl_eliminated_kernel_L2 = 2 := by kernel_rfl
theorem R_impl_eliminated_kernel_L9 : firstReg B_impl_eliminated_kernel_L9 = 9 := by kernel_rfl
theorem Q_impl_eliminated_kernel : Try.prog.funcs[48]? = some Try.f48 ∧ (Try.f48.name == "runtime.NumGoroutine") = false ∧ Try.f48.body = some D_impl_eliminated_kernel := ⟨Try.func48, by kernel_rfl, by kernel_rfl⟩
theorem H_impl_eliminated_kernel : Holds Try.prog 48 E_impl_eliminated_kernel :=
  holds_of (cx := C_impl_eliminated_kernel) (tabOk_ok tabT rfl).1 (allT_ok ⟨⟨H_impl_eliminated_freeVars, _, _, Q_impl_eliminated_freeVars⟩, ⟨⟨H_impl_eliminated_solution, _, _, Q_impl_eliminated_solution⟩, trivial⟩⟩) mixT Q_impl_eliminated_kernel.1 Q_impl_eliminated_kernel.2.2 (loops_of W_impl_eliminated_kernel ⟨loop_of (cx := C_impl_eliminated_kernel) (L := S_impl_eliminated_kernel_L2 fuel) rfl (by rw [R_impl_eliminated_kernel_L2]; rfl) ⟨impl_eliminated_kernel_L2, fun _ => rfl, fun n x => K_impl_eliminated_kernel_L2 n x, fuel, fun _ => rfl⟩, ⟨loop_of (cx := C_impl_eliminated_kernel) (L := S_impl_eliminated_kernel_L9 fuel) rfl (by rw [R_impl_eliminated_kernel_L9]; rfl) ⟨impl_eliminated_kernel_L9, fun _ => rfl, fun n x => K_impl_eliminated_kernel_L9 n x, fuel, fun _ => rfl⟩, trivial⟩⟩) (enc := N_impl_eliminated_kernel) (fun _ _ => ⟨rfl, rfl⟩) F_impl_eliminated_kernel

theorem F_impl_LinearKernel (a : dens [.v (.pair .int (.pair .int (.slice (.slice .int))))]) : E_impl_LinearKernel.run a = funK C_impl_LinearKernel Try.f26 [.v (.pair .int (.pair .int (.slice (.slice .int))))] [.mv (.slice .int) 1, .v .bool] a (fun o r => some (N_impl_LinearKernel o r)) := by
  kernel_rfl
theorem W_impl_LinearKernel : loopsOf D_impl_LinearKernel = [] := by kernel_rfl
theorem Q_impl_LinearKernel : Try.prog.funcs[26]? = some Try.f26 ∧ (Try.f26.name == "runtime.NumGoroutine") = false ∧ Try.f26.body = some D_impl_LinearKernel := ⟨Try.func26, by kernel_rfl, by kernel_rfl⟩
theorem H_impl_LinearKernel : Holds Try.prog 26 E_impl_LinearKernel :=
  holds_of (cx := C_impl_LinearKernel) (tabOk_ok tabT rfl).1 (allT_ok ⟨⟨H_impl_IsLinear, _, _, Q_impl_IsLinear⟩, ⟨⟨H_impl_eliminateLinear_b, _, _, Q_impl_eliminateLinear_b⟩, ⟨⟨H_impl_eliminated_kernel, _, _, Q_impl_eliminated_kernel⟩, trivial⟩⟩⟩) mixT Q_impl_LinearKernel.1 Q_impl_LinearKernel.2.2 (loops_of W_impl_LinearKernel trivial) (enc := N_impl_LinearKernel) (fun _ _ => ⟨rfl, rfl⟩) F_impl_LinearKernel

theorem K_laws_eqIntS_L4 (n : Nat) (x : (List Int) × (List Int) × Int) : laws_eqIntS_L4 (n + 1) x = roundK C_laws_eqIntS B_laws_eqIntS_L4 (S_laws_eqIntS_L4 fuel) x (laws_eqIntS_L4 n) := by
  obtain ⟨a, b, i⟩ := x
  kernel_rfl
theorem F_laws_eqIntS (a : dens [.v (.slice .int), .v (.slice .int)]) : E_laws_eqIntS.run a = funK C_laws_eqIntS Try.f16 [.v (.slice .int), .v (.slice .int)] [.v .bool] a (fun o r => some (N_laws_eqIntS o r)) := by
  kernel_rfl
theorem W_laws_eqIntS : loopsOf D_laws_eqIntS = [B_laws_eqIntS_L4] := by kernel_rfl
theorem R_laws_eqIntS_L4 : firstReg B_laws_eqIntS_L4 = 4 := by kernel_rfl
theorem Q_laws_eqIntS : Try.prog.funcs[16]? = some Try.f16 ∧ (Try.f16.name == "runtime.NumGoroutine") = false ∧ Try.f16.body = some D_laws_eqIntS := ⟨Try.func16, by kernel_rfl, by kernel_rfl⟩
theorem H_laws_eqIntS : Holds Try.prog 16 E_laws_eqIntS :=
  holds_of (cx := C_laws_eqIntS) (tabOk_ok tabT rfl).1 (allT_ok trivial) mixT Q_laws_eqIntS.1 Q_laws_eqIntS.2.2 (loops_of W_laws_eqIntS ⟨loop_of (cx := C_laws_eqIntS) (L := S_laws_eqIntS_L4 fuel) rfl (by rw [R_laws_eqIntS_L4]; rfl) ⟨laws_eqIntS_L4, fun _ => rfl, fun n x => K_laws_eqIntS_L4 n x, fuel, fun _ => rfl⟩, trivial⟩) (enc := N_laws_eqIntS) (fun _ _ => ⟨rfl, rfl⟩) F_laws_eqIntS

theorem K_laws_eqIntSS_L4 (n : Nat) (x : (List (List Int)) × (List (List Int)) × Int) : laws_eqIntSS_L4 (n + 1) x = roundK C_laws_eqIntSS B_laws_eqIntSS_L4 (S_laws_eqIntSS_L4 fuel) x (laws_eqIntSS_L4 n) := by
  obtain ⟨a, b, i⟩ := x
  kernel_rfl
theorem F_laws_eqIntSS (a : dens [.v (.slice (.slice .int)), .v (.slice (.slice .int))]) : E_laws_eqIntSS.run a = funK C_laws_eqIntSS Try.f27 [.v (.slice (.slice .int)), .v (.slice (.slice .int))] [.v .bool] a (fun o r => some (N_laws_eqIntSS o r)) := by
  kernel_rfl
theorem W_laws_eqIntSS : loopsOf D_laws_eqIntSS = [B_laws_eqIntSS_L4] := by kernel_rfl
theorem R_laws_eqIntSS_L4 : firstReg B_laws_eqIntSS_L4 = 4 := by kernel_rfl
theorem Q_laws_eqIntSS : Try.prog.funcs[27]? = some Try.f27 ∧ (Try.f27.name == "runtime.NumGoroutine") = false ∧ Try.f27.body = some D_laws_eqIntSS := ⟨Try.func27, by kernel_rfl, by kernel_rfl⟩
theorem H_laws_eqIntSS : Holds Try.prog 27 E_laws_eqIntSS :=
  holds_of (cx := C_laws_eqIntSS) (tabOk_ok tabT rfl).1 (allT_ok ⟨⟨H_laws_eqIntS, _, _, Q_laws_eqIntS⟩, trivial⟩) mixT Q_laws_eqIntSS.1 Q_laws_eqIntSS.2.2 (loops_of W_laws_eqIntSS ⟨loop_of (cx := C_laws_eqIntSS) (L := S_laws_eqIntSS_L4 fuel) rfl (by rw [R_laws_eqIntSS_L4]; rfl) ⟨laws_eqIntSS_L4, fun _ => rfl, fun n x => K_laws_eqIntSS_L4 n x, fuel, fun _ => rfl⟩, trivial⟩) (enc := N_laws_eqIntSS) (fun _ _ => ⟨rfl, rfl⟩) F_laws_eqIntSS

theorem F_laws_eqLinear (a : dens [.v (.pair .int (.pair .int (.slice (.slice .int)))), .v (.pair .int (.pair .int (.slice (.slice .int))))]) : E_laws_eqLinear.run a = funK C_laws_eqLinear Try.f13 [.v (.pair .int (.pair .int (.slice (.slice .int)))), .v (.pair .int (.pair .int (.slice (.slice .int))))] [.v .bool] a (fun o r => some (N_laws_eqLinear o r)) := by
  kernel_rfl
theorem W_laws_eqLinear : loopsOf D_laws_eqLinear = [] := by kernel_rfl
theorem Q_laws_eqLinear : Try.prog.funcs[13]? = some Try.f13 ∧ (Try.f13.name == "runtime.NumGoroutine") = false ∧ Try.f13.body = some D_laws_eqLinear := ⟨Try.func13, by kernel_rfl, by kernel_rfl⟩
theorem H_laws_eqLinear : Holds Try.prog 13 E_laws_eqLinear :=
  holds_of (cx := C_laws_eqLinear) (tabOk_ok tabT rfl).1 (allT_ok ⟨⟨H_laws_eqIntSS, _, _, Q_laws_eqIntSS⟩, trivial⟩) mixT Q_laws_eqLinear.1 Q_laws_eqLinear.2.2 (loops_of W_laws_eqLinear trivial) (enc := N_laws_eqLinear) (fun _ _ => ⟨rfl, rfl⟩) F_laws_eqLinear

theorem K_laws_markIntS_L2 (n : Nat) (x : (List Int) × Int × Int) : laws_markIntS_L2 (n + 1) x = roundK C_laws_markIntS B_laws_markIntS_L2 (S_laws_markIntS_L2 fuel) x (laws_markIntS_L2 n) := by
  obtain ⟨a, k, i⟩ := x
  kernel_rfl
theorem F_laws_markIntS (a : dens [.io .int 0, .v .int]) : E_laws_markIntS.run a = funK C_laws_markIntS Try.f18 [.io .int 0, .v .int] [.v .int] a (fun o r => some (N_laws_markIntS o r)) := by
  kernel_rfl
theorem W_laws_markIntS : loopsOf D_laws_markIntS = [B_laws_markIntS_L2] := by kernel_rfl
theorem R_laws_markIntS_L2 : firstReg B_laws_markIntS_L2 = 2 := by kernel_rfl
theorem Q_laws_markIntS : Try.prog.funcs[18]? = some Try.f18 ∧ (Try.f18.name == "runtime.NumGoroutine") = false ∧ Try.f18.body = some D_laws_markIntS := ⟨Try.func18, by kernel_rfl, by kernel_rfl⟩
theorem H_laws_markIntS : Holds Try.prog 18 E_laws_markIntS :=
  holds_of (cx := C_laws_markIntS) (tabOk_ok tabT rfl).1 (allT_ok trivial) mixT Q_laws_markIntS.1 Q_laws_markIntS.2.2 (loops_of W_laws_markIntS ⟨loop_of (cx := C_laws_markIntS) (L := S_laws_markIntS_L2 fuel) rfl (by rw [R_laws_markIntS_L2]; rfl) ⟨laws_markIntS_L2, fun _ => rfl, fun n x => K_laws_markIntS_L2 n x, fuel, fun _ => rfl⟩, trivial⟩) (enc := N_laws_markIntS) (fun _ _ => ⟨rfl, rfl⟩) F_laws_markIntS

theorem K_laws_markIntSS_L2 (n : Nat) (x : (List (List Int)) × Int × Int) : laws_markIntSS_L2 (n + 1) x = roundK C_laws_markIntSS B_laws_markIntSS_L2 (S_laws_markIntSS_L2 fuel) x (laws_markIntSS_L2 n) := by
  obtain ⟨a, k, i⟩ := x
  kernel_rfl
theorem F_laws_markIntSS (a : dens [.io (.slice .int) 1, .v .int]) : E_laws_markIntSS.run a = funK C_laws_markIntSS Try.f28 [.io (.slice .int) 1, .v .int] [.v .int] a (fun o r => some (N_laws_markIntSS o r)) := by
  kernel_rfl
theorem W_laws_markIntSS : loopsOf D_laws_markIntSS = [B_laws_markIntSS_L2] := by kernel_rfl
theorem R_laws_markIntSS_L2 : firstReg B_laws_markIntSS_L2 = 2 := by kernel_rfl
theorem Q_laws_markIntSS : Try.prog.funcs[28]? = some Try.f28 ∧ (Try.f28.name == "runtime.NumGoroutine") = false ∧ Try.f28.body = some D_laws_markIntSS := ⟨Try.func28, by kernel_rfl, by kernel_rfl⟩
theorem H_laws_markIntSS : Holds Try.prog 28 E_laws_markIntSS :=
  holds_of (cx := C_laws_markIntSS) (tabOk_ok tabT rfl).1 (allT_ok ⟨⟨H_laws_markIntS, _, _, Q_laws_markIntS⟩, trivial⟩) mixT Q_laws_markIntSS.1 Q_laws_markIntSS.2.2 (loops_of W_laws_markIntSS ⟨loop_of (cx := C_laws_markIntSS) (L := S_laws_markIntSS_L2 fuel) rfl (by rw [R_laws_markIntSS_L2]; rfl) ⟨laws_markIntSS_L2, fun _ => rfl, fun n x => K_laws_markIntSS_L2 n x, fuel, fun _ => rfl⟩, trivial⟩) (enc := N_laws_markIntSS) (fun _ _ => ⟨rfl, rfl⟩) F_laws_markIntSS

theorem F_laws_markLinear (a : dens [.pr (.v .int) (.pr (.v .int) (.io (.slice .int) 1)), .v .int]) : E_laws_markLinear.run a = funK C_laws_markLinear Try.f17 [.pr (.v .int) (.pr (.v .int) (.io (.slice .int) 1)), .v .int] [.v .int] a (fun o r => some (N_laws_markLinear o r)) := by
  kernel_rfl
theorem W_laws_markLinear : loopsOf D_laws_markLinear = [] := by kernel_rfl
theorem Q_laws_markLinear : Try.prog.funcs[17]? = some Try.f17 ∧ (Try.f17.name == "runtime.NumGoroutine") = false ∧ Try.f17.body = some D_laws_markLinear := ⟨Try.func17, by kernel_rfl, by kernel_rfl⟩
theorem H_laws_markLinear : Holds Try.prog 17 E_laws_markLinear :=
  holds_of (cx := C_laws_markLinear) (tabOk_ok tabT rfl).1 (allT_ok ⟨⟨H_laws_markIntSS, _, _, Q_laws_markIntSS⟩, trivial⟩) mixT Q_laws_markLinear.1 Q_laws_markLinear.2.2 (loops_of W_laws_markLinear trivial) (enc := N_laws_markLinear) (fun _ _ => ⟨rfl, rfl⟩) F_laws_markLinear

theorem K_laws_heldIntS_L2 (n : Nat) (x : (List Int) × Int × Int) : laws_heldIntS_L2 (n + 1) x = roundK C_laws_heldIntS B_laws_heldIntS_L2 (S_laws_heldIntS_L2 fuel) x (laws_heldIntS_L2 n) := by
  obtain ⟨a, k, i⟩ := x
  kernel_rfl
theorem F_laws_heldIntS (a : dens [.v (.slice .int), .v .int]) : E_laws_heldIntS.run a = funK C_laws_heldIntS Try.f19 [.v (.slice .int), .v .int] [.v .int] a (fun o r => some (N_laws_heldIntS o r)) := by
  kernel_rfl
theorem W_laws_heldIntS : loopsOf D_laws_heldIntS = [B_laws_heldIntS_L2] := by kernel_rfl
theorem R_laws_heldIntS_L2 : firstReg B_laws_heldIntS_L2 = 2 := by kernel_rfl
theorem Q_laws_heldIntS : Try.prog.funcs[19]? = some Try.f19 ∧ (Try.f19.name == "runtime.NumGoroutine") = false ∧ Try.f19.body = some D_laws_heldIntS := ⟨Try.func19, by kernel_rfl, by kernel_rfl⟩
theorem H_laws_heldIntS : Holds Try.prog 19 E_laws_heldIntS :=
  holds_of (cx := C_laws_heldIntS) (tabOk_ok tabT rfl).1 (allT_ok trivial) mixT Q_laws_heldIntS.1 Q_laws_heldIntS.2.2 (loops_of W_laws_heldIntS ⟨loop_of (cx := C_laws_heldIntS) (L := S_laws_heldIntS_L2 fuel) rfl (by rw [R_laws_heldIntS_L2]; rfl) ⟨laws_heldIntS_L2, fun _ => rfl, fun n x => K_laws_heldIntS_L2 n x, fuel, fun _ => rfl⟩, trivial⟩) (enc := N_laws_heldIntS) (fun _ _ => ⟨rfl, rfl⟩) F_laws_heldIntS

theorem K_laws_heldIntSS_L2 (n : Nat) (x : (List (List Int)) × Int × Int) : laws_heldIntSS_L2 (n + 1) x = roundK C_laws_heldIntSS B_laws_heldIntSS_L2 (S_laws_heldIntSS_L2 fuel) x (laws_heldIntSS_L2 n) := by
  obtain ⟨a, k, i⟩ := x
  kernel_rfl
theorem F_laws_heldIntSS (a : dens [.v (.slice (.slice .int)), .v .int]) : E_laws_heldIntSS.run a = funK C_laws_heldIntSS Try.f29 [.v (.slice (.slice .int)), .v .int] [.v .int] a (fun o r => some (N_laws_heldIntSS o r)) := by
  kernel_rfl
theorem W_laws_heldIntSS : loopsOf D_laws_heldIntSS = [B_laws_heldIntSS_L2] := by kernel_rfl
theorem R_laws_heldIntSS_L2 : firstReg B_laws_heldIntSS_L2 = 2 := by kernel_rfl
theorem Q_laws_heldIntSS : Try.prog.funcs[29]? = some Try.f29 ∧ (Try.f29.name == "runtime.NumGoroutine") = false ∧ Try.f29.body = some D_laws_heldIntSS := ⟨Try.func29, by kernel_rfl, by kernel_rfl⟩
theorem H_laws_heldIntSS : Holds Try.prog 29 E_laws_heldIntSS :=
  holds_of (cx := C_laws_heldIntSS) (tabOk_ok tabT rfl).1 (allT_ok ⟨⟨H_laws_heldIntS, _, _, Q_laws_heldIntS⟩, trivial⟩) mixT Q_laws_heldIntSS.1 Q_laws_heldIntSS.2.2 (loops_of W_laws_heldIntSS ⟨loop_of (cx := C_laws_heldIntSS) (L := S_laws_heldIntSS_L2 fuel) rfl (by rw [R_laws_heldIntSS_L2]; rfl) ⟨laws_heldIntSS_L2, fun _ => rfl, fun n x => K_laws_heldIntSS_L2 n x, fuel, fun _ => rfl⟩, trivial⟩) (enc := N_laws_heldIntSS) (fun _ _ => ⟨rfl, rfl⟩) F_laws_heldIntSS

theorem F_laws_FnExactLinearKernel (a : dens [.v (.pair .int (.pair .int (.slice (.slice .int))))]) : E_laws_FnExactLinearKernel.run a = funK C_laws_FnExactLinearKernel Try.f7 [.v (.pair .int (.pair .int (.slice (.slice .int))))] [.v .bool] a (fun o r => some (N_laws_FnExactLinearKernel o r)) := by
  kernel_rfl
theorem W_laws_FnExactLinearKernel : loopsOf D_laws_FnExactLinearKernel = [] := by kernel_rfl
theorem Q_laws_FnExactLinearKernel : Try.prog.funcs[7]? = some Try.f7 ∧ (Try.f7.name == "runtime.NumGoroutine") = false ∧ Try.f7.body = some D_laws_FnExactLinearKernel := ⟨Try.func7, by kernel_rfl, by kernel_rfl⟩
theorem H_laws_FnExactLinearKernel : Holds Try.prog 7 E_laws_FnExactLinearKernel :=
  holds_of (cx := C_laws_FnExactLinearKernel) (tabOk_ok tabT rfl).1 (allT_ok ⟨⟨H_laws_szLinear, _, _, Q_laws_szLinear⟩, ⟨⟨H_laws_toLinear, _, _, Q_laws_toLinear⟩, ⟨⟨H_laws_eqLinear, _, _, Q_laws_eqLinear⟩, ⟨⟨H_laws_markLinear, _, _, Q_laws_markLinear⟩, ⟨⟨H_spec_LinearKernel, _, _, Q_spec_LinearKernel⟩, ⟨⟨H_impl_LinearKernel, _, _, Q_impl_LinearKernel⟩, ⟨⟨H_laws_eqIntSS, _, _, Q_laws_eqIntSS⟩, ⟨⟨H_laws_markIntSS, _, _, Q_laws_markIntSS⟩, ⟨⟨H_laws_heldIntSS, _, _, Q_laws_heldIntSS⟩, trivial⟩⟩⟩⟩⟩⟩⟩⟩⟩) mixT Q_laws_FnExactLinearKernel.1 Q_laws_FnExactLinearKernel.2.2 (loops_of W_laws_FnExactLinearKernel trivial) (enc := N_laws_FnExactLinearKernel) (fun _ _ => ⟨rfl, rfl⟩) F_laws_FnExactLinearKernel
end T
