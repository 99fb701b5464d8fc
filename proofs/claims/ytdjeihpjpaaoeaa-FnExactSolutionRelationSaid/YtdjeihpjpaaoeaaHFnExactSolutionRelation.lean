/- Each typed function is what the program computes; no conditions. -/
import Derived.Test.YtdjeihpjpaaoeaaSFnExactSolutionRelation
import Derived.Test.YtdjeihpjpaaoeaaCFnExactSolutionRelation
set_option linter.all false
set_option maxRecDepth 10000
open Go Go.Va Go.Proofs
namespace T
theorem F_1 (a : dens [.v (.slice .int), .v .int]) : E_1.run a = funK C_1 Try.f136 [.v (.slice .int), .v .int] [.v .int] a (fun o r => some (N_1 o r)) := by
 kernel_rfl
theorem W_1 : loopsOf D_1 = [] := by kernel_rfl
theorem Q_1 : Try.prog.funcs[136]? = some Try.f136 ∧ (Try.f136.name == "runtime.NumGoroutine") = false ∧ Try.f136.body = some D_1 := ⟨Try.func136, by kernel_rfl, by kernel_rfl⟩
theorem H_1 : Holds Try.prog 136 E_1 :=
 holds_of (cx := C_1) (tabOk_ok tabT rfl).1 (allT_ok trivial) mixT Q_1.1 Q_1.2.2 (loops_of W_1 trivial) (enc := N_1) (fun _ _ => ⟨rfl, rfl⟩) F_1
theorem K_2L5 (n : Nat) (x) : laws_szIntSS_L5 (n + 1) x = roundK C_2 B_2L5 (S_2L5 fuel) x (laws_szIntSS_L5 n) := by
 obtain ⟨_, _, _⟩ := x
 kernel_rfl
theorem F_2 (a : dens [.v (.slice (.slice .int)), .v .int]) : E_2.run a = funK C_2 Try.f154 [.v (.slice (.slice .int)), .v .int] [.v .int] a (fun o r => some (N_2 o r)) := by
 kernel_rfl
theorem W_2 : loopsOf D_2 = [B_2L5] := by kernel_rfl
theorem R_2L5 : firstReg B_2L5 = 5 := by kernel_rfl
theorem Q_2 : Try.prog.funcs[154]? = some Try.f154 ∧ (Try.f154.name == "runtime.NumGoroutine") = false ∧ Try.f154.body = some D_2 := ⟨Try.func154, by kernel_rfl, by kernel_rfl⟩
theorem H_2 : Holds Try.prog 154 E_2 :=
 holds_of (cx := C_2) (tabOk_ok tabT rfl).1 (allT_ok ⟨⟨H_1, _, _, Q_1⟩, trivial⟩) mixT Q_2.1 Q_2.2.2 (loops_of W_2 ⟨loop_of (cx := C_2) (L := S_2L5 fuel) rfl (by rw [R_2L5]; rfl) ⟨laws_szIntSS_L5, fun _ => rfl, fun n x => K_2L5 n x, fuel, fun _ => rfl⟩, trivial⟩) (enc := N_2) (fun _ _ => ⟨rfl, rfl⟩) F_2
theorem F_3 (a : dens [.v (.pair .int (.slice (.slice .int))), .v .int]) : E_3.run a = funK C_3 Try.f137 [.v (.pair .int (.slice (.slice .int))), .v .int] [.v .int] a (fun o r => some (N_3 o r)) := by
 kernel_rfl
theorem W_3 : loopsOf D_3 = [] := by kernel_rfl
theorem Q_3 : Try.prog.funcs[137]? = some Try.f137 ∧ (Try.f137.name == "runtime.NumGoroutine") = false ∧ Try.f137.body = some D_3 := ⟨Try.func137, by kernel_rfl, by kernel_rfl⟩
theorem H_3 : Holds Try.prog 137 E_3 :=
 holds_of (cx := C_3) (tabOk_ok tabT rfl).1 (allT_ok ⟨⟨H_2, _, _, Q_2⟩, trivial⟩) mixT Q_3.1 Q_3.2.2 (loops_of W_3 trivial) (enc := N_3) (fun _ _ => ⟨rfl, rfl⟩) F_3
theorem F_4 (a : dens [.v (.pair (.slice .int) (.pair .int (.slice (.slice .int)))), .v .int]) : E_4.run a = funK C_4 Try.f103 [.v (.pair (.slice .int) (.pair .int (.slice (.slice .int)))), .v .int] [.v .int] a (fun o r => some (N_4 o r)) := by
 kernel_rfl
theorem W_4 : loopsOf D_4 = [] := by kernel_rfl
theorem Q_4 : Try.prog.funcs[103]? = some Try.f103 ∧ (Try.f103.name == "runtime.NumGoroutine") = false ∧ Try.f103.body = some D_4 := ⟨Try.func103, by kernel_rfl, by kernel_rfl⟩
theorem H_4 : Holds Try.prog 103 E_4 :=
 holds_of (cx := C_4) (tabOk_ok tabT rfl).1 (allT_ok ⟨⟨H_1, _, _, Q_1⟩, ⟨⟨H_3, _, _, Q_3⟩, trivial⟩⟩) mixT Q_4.1 Q_4.2.2 (loops_of W_4 trivial) (enc := N_4) (fun _ _ => ⟨rfl, rfl⟩) F_4
theorem K_5L5 (n : Nat) (x) : laws_szConstraintS_L5 (n + 1) x = roundK C_5 B_5L5 (S_5L5 fuel) x (laws_szConstraintS_L5 n) := by
 obtain ⟨_, _, _⟩ := x
 kernel_rfl
theorem F_5 (a : dens [.v (.slice (.pair (.slice .int) (.pair .int (.slice (.slice .int))))), .v .int]) : E_5.run a = funK C_5 Try.f48 [.v (.slice (.pair (.slice .int) (.pair .int (.slice (.slice .int))))), .v .int] [.v .int] a (fun o r => some (N_5 o r)) := by
 kernel_rfl
theorem W_5 : loopsOf D_5 = [B_5L5] := by kernel_rfl
theorem R_5L5 : firstReg B_5L5 = 5 := by kernel_rfl
theorem Q_5 : Try.prog.funcs[48]? = some Try.f48 ∧ (Try.f48.name == "runtime.NumGoroutine") = false ∧ Try.f48.body = some D_5 := ⟨Try.func48, by kernel_rfl, by kernel_rfl⟩
theorem H_5 : Holds Try.prog 48 E_5 :=
 holds_of (cx := C_5) (tabOk_ok tabT rfl).1 (allT_ok ⟨⟨H_4, _, _, Q_4⟩, trivial⟩) mixT Q_5.1 Q_5.2.2 (loops_of W_5 ⟨loop_of (cx := C_5) (L := S_5L5 fuel) rfl (by rw [R_5L5]; rfl) ⟨laws_szConstraintS_L5, fun _ => rfl, fun n x => K_5L5 n x, fuel, fun _ => rfl⟩, trivial⟩) (enc := N_5) (fun _ _ => ⟨rfl, rfl⟩) F_5
theorem F_6 (a : dens [.v (.pair .int (.pair .int (.slice (.pair (.slice .int) (.pair .int (.slice (.slice .int))))))), .v .int]) : E_6.run a = funK C_6 Try.f6 [.v (.pair .int (.pair .int (.slice (.pair (.slice .int) (.pair .int (.slice (.slice .int))))))), .v .int] [.v .int] a (fun o r => some (N_6 o r)) := by
 kernel_rfl
theorem W_6 : loopsOf D_6 = [] := by kernel_rfl
theorem Q_6 : Try.prog.funcs[6]? = some Try.f6 ∧ (Try.f6.name == "runtime.NumGoroutine") = false ∧ Try.f6.body = some D_6 := ⟨Try.func6, by kernel_rfl, by kernel_rfl⟩
theorem H_6 : Holds Try.prog 6 E_6 :=
 holds_of (cx := C_6) (tabOk_ok tabT rfl).1 (allT_ok ⟨⟨H_5, _, _, Q_5⟩, trivial⟩) mixT Q_6.1 Q_6.2.2 (loops_of W_6 trivial) (enc := N_6) (fun _ _ => ⟨rfl, rfl⟩) F_6
theorem K_7L3 (n : Nat) (x) : laws_toIntS_L3 (n + 1) x = roundK C_7 B_7L3 (S_7L3 fuel) x (laws_toIntS_L3 n) := by
 obtain ⟨_, _, _⟩ := x
 kernel_rfl
theorem F_7 (a : dens [.v (.slice .int)]) : E_7.run a = funK C_7 Try.f9 [.v (.slice .int)] [.mv .int 0] a (fun o r => some (N_7 o r)) := by
 kernel_rfl
theorem W_7 : loopsOf D_7 = [B_7L3] := by kernel_rfl
theorem R_7L3 : firstReg B_7L3 = 3 := by kernel_rfl
theorem Q_7 : Try.prog.funcs[9]? = some Try.f9 ∧ (Try.f9.name == "runtime.NumGoroutine") = false ∧ Try.f9.body = some D_7 := ⟨Try.func9, by kernel_rfl, by kernel_rfl⟩
theorem H_7 : Holds Try.prog 9 E_7 :=
 holds_of (cx := C_7) (tabOk_ok tabT rfl).1 (allT_ok trivial) mixT Q_7.1 Q_7.2.2 (loops_of W_7 ⟨loop_of (cx := C_7) (L := S_7L3 fuel) rfl (by rw [R_7L3]; rfl) ⟨laws_toIntS_L3, fun _ => rfl, fun n x => K_7L3 n x, fuel, fun _ => rfl⟩, trivial⟩) (enc := N_7) (fun _ _ => ⟨rfl, rfl⟩) F_7
theorem K_8L3 (n : Nat) (x) : laws_toIntSS_L3 (n + 1) x = roundK C_8 B_8L3 (S_8L3 fuel) x (laws_toIntSS_L3 n) := by
 obtain ⟨_, _, _⟩ := x
 kernel_rfl
theorem F_8 (a : dens [.v (.slice (.slice .int))]) : E_8.run a = funK C_8 Try.f157 [.v (.slice (.slice .int))] [.mv (.slice .int) 1] a (fun o r => some (N_8 o r)) := by
 kernel_rfl
theorem W_8 : loopsOf D_8 = [B_8L3] := by kernel_rfl
theorem R_8L3 : firstReg B_8L3 = 3 := by kernel_rfl
theorem Q_8 : Try.prog.funcs[157]? = some Try.f157 ∧ (Try.f157.name == "runtime.NumGoroutine") = false ∧ Try.f157.body = some D_8 := ⟨Try.func157, by kernel_rfl, by kernel_rfl⟩
theorem H_8 : Holds Try.prog 157 E_8 :=
 holds_of (cx := C_8) (tabOk_ok tabT rfl).1 (allT_ok ⟨⟨H_7, _, _, Q_7⟩, trivial⟩) mixT Q_8.1 Q_8.2.2 (loops_of W_8 ⟨loop_of (cx := C_8) (L := S_8L3 fuel) rfl (by rw [R_8L3]; rfl) ⟨laws_toIntSS_L3, fun _ => rfl, fun n x => K_8L3 n x, fuel, fun _ => rfl⟩, trivial⟩) (enc := N_8) (fun _ _ => ⟨rfl, rfl⟩) F_8
theorem F_9 (a : dens [.v (.pair .int (.slice (.slice .int)))]) : E_9.run a = funK C_9 Try.f139 [.v (.pair .int (.slice (.slice .int)))] [.pr (.v .int) (.mv (.slice .int) 1)] a (fun o r => some (N_9 o r)) := by
 kernel_rfl
theorem W_9 : loopsOf D_9 = [] := by kernel_rfl
theorem Q_9 : Try.prog.funcs[139]? = some Try.f139 ∧ (Try.f139.name == "runtime.NumGoroutine") = false ∧ Try.f139.body = some D_9 := ⟨Try.func139, by kernel_rfl, by kernel_rfl⟩
theorem H_9 : Holds Try.prog 139 E_9 :=
 holds_of (cx := C_9) (tabOk_ok tabT rfl).1 (allT_ok ⟨⟨H_8, _, _, Q_8⟩, trivial⟩) mixT Q_9.1 Q_9.2.2 (loops_of W_9 trivial) (enc := N_9) (fun _ _ => ⟨rfl, rfl⟩) F_9
theorem F_10 (a : dens [.v (.pair (.slice .int) (.pair .int (.slice (.slice .int))))]) : E_10.run a = funK C_10 Try.f107 [.v (.pair (.slice .int) (.pair .int (.slice (.slice .int))))] [.pr (.mv .int 0) (.pr (.v .int) (.mv (.slice .int) 1))] a (fun o r => some (N_10 o r)) := by
 kernel_rfl
theorem W_10 : loopsOf D_10 = [] := by kernel_rfl
theorem Q_10 : Try.prog.funcs[107]? = some Try.f107 ∧ (Try.f107.name == "runtime.NumGoroutine") = false ∧ Try.f107.body = some D_10 := ⟨Try.func107, by kernel_rfl, by kernel_rfl⟩
theorem H_10 : Holds Try.prog 107 E_10 :=
 holds_of (cx := C_10) (tabOk_ok tabT rfl).1 (allT_ok ⟨⟨H_7, _, _, Q_7⟩, ⟨⟨H_9, _, _, Q_9⟩, trivial⟩⟩) mixT Q_10.1 Q_10.2.2 (loops_of W_10 trivial) (enc := N_10) (fun _ _ => ⟨rfl, rfl⟩) F_10
theorem K_11L3 (n : Nat) (x) : laws_toConstraintS_L3 (n + 1) x = roundK C_11 B_11L3 (S_11L3 fuel) x (laws_toConstraintS_L3 n) := by
 obtain ⟨_, _, _⟩ := x
 kernel_rfl
theorem F_11 (a : dens [.v (.slice (.pair (.slice .int) (.pair .int (.slice (.slice .int)))))]) : E_11.run a = funK C_11 Try.f56 [.v (.slice (.pair (.slice .int) (.pair .int (.slice (.slice .int)))))] [.mv (.pair (.slice .int) (.pair .int (.slice (.slice .int)))) 2] a (fun o r => some (N_11 o r)) := by
 kernel_rfl
theorem W_11 : loopsOf D_11 = [B_11L3] := by kernel_rfl
theorem R_11L3 : firstReg B_11L3 = 3 := by kernel_rfl
theorem Q_11 : Try.prog.funcs[56]? = some Try.f56 ∧ (Try.f56.name == "runtime.NumGoroutine") = false ∧ Try.f56.body = some D_11 := ⟨Try.func56, by kernel_rfl, by kernel_rfl⟩
theorem H_11 : Holds Try.prog 56 E_11 :=
 holds_of (cx := C_11) (tabOk_ok tabT rfl).1 (allT_ok ⟨⟨H_10, _, _, Q_10⟩, trivial⟩) mixT Q_11.1 Q_11.2.2 (loops_of W_11 ⟨loop_of (cx := C_11) (L := S_11L3 fuel) rfl (by rw [R_11L3]; rfl) ⟨laws_toConstraintS_L3, fun _ => rfl, fun n x => K_11L3 n x, fuel, fun _ => rfl⟩, trivial⟩) (enc := N_11) (fun _ _ => ⟨rfl, rfl⟩) F_11
theorem F_12 (a : dens [.v (.pair .int (.pair .int (.slice (.pair (.slice .int) (.pair .int (.slice (.slice .int)))))))]) : E_12.run a = funK C_12 Try.f8 [.v (.pair .int (.pair .int (.slice (.pair (.slice .int) (.pair .int (.slice (.slice .int)))))))] [.pr (.v .int) (.pr (.v .int) (.mv (.pair (.slice .int) (.pair .int (.slice (.slice .int)))) 2))] a (fun o r => some (N_12 o r)) := by
 kernel_rfl
theorem W_12 : loopsOf D_12 = [] := by kernel_rfl
theorem Q_12 : Try.prog.funcs[8]? = some Try.f8 ∧ (Try.f8.name == "runtime.NumGoroutine") = false ∧ Try.f8.body = some D_12 := ⟨Try.func8, by kernel_rfl, by kernel_rfl⟩
theorem H_12 : Holds Try.prog 8 E_12 :=
 holds_of (cx := C_12) (tabOk_ok tabT rfl).1 (allT_ok ⟨⟨H_11, _, _, Q_11⟩, trivial⟩) mixT Q_12.1 Q_12.2.2 (loops_of W_12 trivial) (enc := N_12) (fun _ _ => ⟨rfl, rfl⟩) F_12
theorem F_13 (a : dens [.v .int, .v .int, .v .int]) : E_13.run a = funK C_13 Try.f50 [.v .int, .v .int, .v .int] [.v .bool] a (fun o r => some (N_13 o r)) := by
 kernel_rfl
theorem W_13 : loopsOf D_13 = [] := by kernel_rfl
theorem Q_13 : Try.prog.funcs[50]? = some Try.f50 ∧ (Try.f50.name == "runtime.NumGoroutine") = false ∧ Try.f50.body = some D_13 := ⟨Try.func50, by kernel_rfl, by kernel_rfl⟩
theorem H_13 : Holds Try.prog 50 E_13 :=
 holds_of (cx := C_13) (tabOk_ok tabT rfl).1 (allT_ok trivial) mixT Q_13.1 Q_13.2.2 (loops_of W_13 trivial) (enc := N_13) (fun _ _ => ⟨rfl, rfl⟩) F_13
theorem K_14L2 (n : Nat) (x) : spec_l2Pow_L2 (n + 1) x = roundK C_14 B_14L2 (S_14L2 fuel) x (spec_l2Pow_L2 n) := by
 obtain ⟨_, _, _⟩ := x
 kernel_rfl
theorem F_14 (a : dens [.v .int, .v .int]) : E_14.run a = funK C_14 Try.f52 [.v .int, .v .int] [.v .int] a (fun o r => some (N_14 o r)) := by
 kernel_rfl
theorem W_14 : loopsOf D_14 = [B_14L2] := by kernel_rfl
theorem R_14L2 : firstReg B_14L2 = 2 := by kernel_rfl
theorem Q_14 : Try.prog.funcs[52]? = some Try.f52 ∧ (Try.f52.name == "runtime.NumGoroutine") = false ∧ Try.f52.body = some D_14 := ⟨Try.func52, by kernel_rfl, by kernel_rfl⟩
theorem H_14 : Holds Try.prog 52 E_14 :=
 holds_of (cx := C_14) (tabOk_ok tabT rfl).1 (allT_ok trivial) mixT Q_14.1 Q_14.2.2 (loops_of W_14 ⟨loop_of (cx := C_14) (L := S_14L2 fuel) rfl (by rw [R_14L2]; rfl) ⟨spec_l2Pow_L2, fun _ => rfl, fun n x => K_14L2 n x, fuel, fun _ => rfl⟩, trivial⟩) (enc := N_14) (fun _ _ => ⟨rfl, rfl⟩) F_14
theorem K_15L2 (n : Nat) (x) : spec_l2Elements_L2 (n + 1) x = roundK C_15 B_15L2 (S_15L2 fuel) x (spec_l2Elements_L2 n) := by
 obtain ⟨_, _, _⟩ := x
 kernel_rfl
theorem F_15 (a : dens [.v .int, .v (.slice .int)]) : E_15.run a = funK C_15 Try.f51 [.v .int, .v (.slice .int)] [.v .bool] a (fun o r => some (N_15 o r)) := by
 kernel_rfl
theorem W_15 : loopsOf D_15 = [B_15L2] := by kernel_rfl
theorem R_15L2 : firstReg B_15L2 = 2 := by kernel_rfl
theorem Q_15 : Try.prog.funcs[51]? = some Try.f51 ∧ (Try.f51.name == "runtime.NumGoroutine") = false ∧ Try.f51.body = some D_15 := ⟨Try.func51, by kernel_rfl, by kernel_rfl⟩
theorem H_15 : Holds Try.prog 51 E_15 :=
 holds_of (cx := C_15) (tabOk_ok tabT rfl).1 (allT_ok ⟨⟨H_13, _, _, Q_13⟩, trivial⟩) mixT Q_15.1 Q_15.2.2 (loops_of W_15 ⟨loop_of (cx := C_15) (L := S_15L2 fuel) rfl (by rw [R_15L2]; rfl) ⟨spec_l2Elements_L2, fun _ => rfl, fun n x => K_15L2 n x, fuel, fun _ => rfl⟩, trivial⟩) (enc := N_15) (fun _ _ => ⟨rfl, rfl⟩) F_15
theorem F_16 (a : dens [.v .int, .v .int, .v (.slice .int)]) : E_16.run a = funK C_16 Try.f155 [.v .int, .v .int, .v (.slice .int)] [.v .bool] a (fun o r => some (N_16 o r)) := by
 kernel_rfl
theorem W_16 : loopsOf D_16 = [] := by kernel_rfl
theorem Q_16 : Try.prog.funcs[155]? = some Try.f155 ∧ (Try.f155.name == "runtime.NumGoroutine") = false ∧ Try.f155.body = some D_16 := ⟨Try.func155, by kernel_rfl, by kernel_rfl⟩
theorem H_16 : Holds Try.prog 155 E_16 :=
 holds_of (cx := C_16) (tabOk_ok tabT rfl).1 (allT_ok ⟨⟨H_15, _, _, Q_15⟩, trivial⟩) mixT Q_16.1 Q_16.2.2 (loops_of W_16 trivial) (enc := N_16) (fun _ _ => ⟨rfl, rfl⟩) F_16
theorem K_17L2 (n : Nat) (x) : spec_l3Less_L2 (n + 1) x = roundK C_17 B_17L2 (S_17L2 fuel) x (spec_l3Less_L2 n) := by
 obtain ⟨_, _, _⟩ := x
 kernel_rfl
theorem F_17 (a : dens [.v (.slice .int), .v (.slice .int)]) : E_17.run a = funK C_17 Try.f156 [.v (.slice .int), .v (.slice .int)] [.v .bool] a (fun o r => some (N_17 o r)) := by
 kernel_rfl
theorem W_17 : loopsOf D_17 = [B_17L2] := by kernel_rfl
theorem R_17L2 : firstReg B_17L2 = 2 := by kernel_rfl
theorem Q_17 : Try.prog.funcs[156]? = some Try.f156 ∧ (Try.f156.name == "runtime.NumGoroutine") = false ∧ Try.f156.body = some D_17 := ⟨Try.func156, by kernel_rfl, by kernel_rfl⟩
theorem H_17 : Holds Try.prog 156 E_17 :=
 holds_of (cx := C_17) (tabOk_ok tabT rfl).1 (allT_ok trivial) mixT Q_17.1 Q_17.2.2 (loops_of W_17 ⟨loop_of (cx := C_17) (L := S_17L2 fuel) rfl (by rw [R_17L2]; rfl) ⟨spec_l3Less_L2, fun _ => rfl, fun n x => K_17L2 n x, fuel, fun _ => rfl⟩, trivial⟩) (enc := N_17) (fun _ _ => ⟨rfl, rfl⟩) F_17
theorem K_18L4 (n : Nat) (x) : spec_l13Good_L4 (n + 1) x = roundK C_18 B_18L4 (S_18L4 fuel) x (spec_l13Good_L4 n) := by
 obtain ⟨_, _, _⟩ := x
 kernel_rfl
theorem F_18 (a : dens [.v .int, .v (.pair .int (.slice (.slice .int)))]) : E_18.run a = funK C_18 Try.f138 [.v .int, .v (.pair .int (.slice (.slice .int)))] [.v .bool] a (fun o r => some (N_18 o r)) := by
 kernel_rfl
theorem W_18 : loopsOf D_18 = [B_18L4] := by kernel_rfl
theorem R_18L4 : firstReg B_18L4 = 4 := by kernel_rfl
theorem Q_18 : Try.prog.funcs[138]? = some Try.f138 ∧ (Try.f138.name == "runtime.NumGoroutine") = false ∧ Try.f138.body = some D_18 := ⟨Try.func138, by kernel_rfl, by kernel_rfl⟩
theorem H_18 : Holds Try.prog 138 E_18 :=
 holds_of (cx := C_18) (tabOk_ok tabT rfl).1 (allT_ok ⟨⟨H_13, _, _, Q_13⟩, ⟨⟨H_14, _, _, Q_14⟩, ⟨⟨H_16, _, _, Q_16⟩, ⟨⟨H_17, _, _, Q_17⟩, trivial⟩⟩⟩⟩) mixT Q_18.1 Q_18.2.2 (loops_of W_18 ⟨loop_of (cx := C_18) (L := S_18L4 fuel) rfl (by rw [R_18L4]; rfl) ⟨spec_l13Good_L4, fun _ => rfl, fun n x => K_18L4 n x, fuel, fun _ => rfl⟩, trivial⟩) (enc := N_18) (fun _ _ => ⟨rfl, rfl⟩) F_18
theorem F_19 (a : dens [.v .int, .v .int, .v (.pair (.slice .int) (.pair .int (.slice (.slice .int))))]) : E_19.run a = funK C_19 Try.f104 [.v .int, .v .int, .v (.pair (.slice .int) (.pair .int (.slice (.slice .int))))] [.v .bool] a (fun o r => some (N_19 o r)) := by
 kernel_rfl
theorem W_19 : loopsOf D_19 = [] := by kernel_rfl
theorem Q_19 : Try.prog.funcs[104]? = some Try.f104 ∧ (Try.f104.name == "runtime.NumGoroutine") = false ∧ Try.f104.body = some D_19 := ⟨Try.func104, by kernel_rfl, by kernel_rfl⟩
theorem H_19 : Holds Try.prog 104 E_19 :=
 holds_of (cx := C_19) (tabOk_ok tabT rfl).1 (allT_ok ⟨⟨H_15, _, _, Q_15⟩, ⟨⟨H_18, _, _, Q_18⟩, trivial⟩⟩) mixT Q_19.1 Q_19.2.2 (loops_of W_19 trivial) (enc := N_19) (fun _ _ => ⟨rfl, rfl⟩) F_19
theorem K_20L4 (n : Nat) (x) : spec_l19Good_L4 (n + 1) x = roundK C_20 B_20L4 (S_20L4 fuel) x (spec_l19Good_L4 n) := by
 obtain ⟨_, _⟩ := x
 kernel_rfl
theorem F_20 (a : dens [.v (.pair .int (.pair .int (.slice (.pair (.slice .int) (.pair .int (.slice (.slice .int)))))))]) : E_20.run a = funK C_20 Try.f49 [.v (.pair .int (.pair .int (.slice (.pair (.slice .int) (.pair .int (.slice (.slice .int)))))))] [.v .bool] a (fun o r => some (N_20 o r)) := by
 kernel_rfl
theorem W_20 : loopsOf D_20 = [B_20L4] := by kernel_rfl
theorem R_20L4 : firstReg B_20L4 = 4 := by kernel_rfl
theorem Q_20 : Try.prog.funcs[49]? = some Try.f49 ∧ (Try.f49.name == "runtime.NumGoroutine") = false ∧ Try.f49.body = some D_20 := ⟨Try.func49, by kernel_rfl, by kernel_rfl⟩
theorem H_20 : Holds Try.prog 49 E_20 :=
 holds_of (cx := C_20) (tabOk_ok tabT rfl).1 (allT_ok ⟨⟨H_13, _, _, Q_13⟩, ⟨⟨H_19, _, _, Q_19⟩, trivial⟩⟩) mixT Q_20.1 Q_20.2.2 (loops_of W_20 ⟨loop_of (cx := C_20) (L := S_20L4 fuel) rfl (by rw [R_20L4]; rfl) ⟨spec_l19Good_L4, fun _ => rfl, fun n x => K_20L4 n x, fuel, fun _ => rfl⟩, trivial⟩) (enc := N_20) (fun _ _ => ⟨rfl, rfl⟩) F_20
theorem K_21L3 (n : Nat) (x) : spec_l2Args_L3 (n + 1) x = roundK C_21 B_21L3 (S_21L3 fuel) x (spec_l2Args_L3 n) := by
 obtain ⟨_, _, _, _⟩ := x
 kernel_rfl
theorem F_21 (a : dens [.v .int, .v .int, .v .int]) : E_21.run a = funK C_21 Try.f53 [.v .int, .v .int, .v .int] [.mv .int 0] a (fun o r => some (N_21 o r)) := by
 kernel_rfl
theorem W_21 : loopsOf D_21 = [B_21L3] := by kernel_rfl
theorem R_21L3 : firstReg B_21L3 = 3 := by kernel_rfl
theorem Q_21 : Try.prog.funcs[53]? = some Try.f53 ∧ (Try.f53.name == "runtime.NumGoroutine") = false ∧ Try.f53.body = some D_21 := ⟨Try.func53, by kernel_rfl, by kernel_rfl⟩
theorem H_21 : Holds Try.prog 53 E_21 :=
 holds_of (cx := C_21) (tabOk_ok tabT rfl).1 (allT_ok trivial) mixT Q_21.1 Q_21.2.2 (loops_of W_21 ⟨loop_of (cx := C_21) (L := S_21L3 fuel) rfl (by rw [R_21L3]; rfl) ⟨spec_l2Args_L3, fun _ => rfl, fun n x => K_21L3 n x, fuel, fun _ => rfl⟩, trivial⟩) (enc := N_21) (fun _ _ => ⟨rfl, rfl⟩) F_21
theorem K_22L3 (n : Nat) (x) : spec_l14Free_L3 (n + 1) x = roundK C_22 B_22L3 (S_22L3 fuel) x (spec_l14Free_L3 n) := by
 obtain ⟨_, _, _⟩ := x
 kernel_rfl
theorem F_22 (a : dens [.v .int]) : E_22.run a = funK C_22 Try.f54 [.v .int] [.mv .int 0] a (fun o r => some (N_22 o r)) := by
 kernel_rfl
theorem W_22 : loopsOf D_22 = [B_22L3] := by kernel_rfl
theorem R_22L3 : firstReg B_22L3 = 3 := by kernel_rfl
theorem Q_22 : Try.prog.funcs[54]? = some Try.f54 ∧ (Try.f54.name == "runtime.NumGoroutine") = false ∧ Try.f54.body = some D_22 := ⟨Try.func54, by kernel_rfl, by kernel_rfl⟩
theorem H_22 : Holds Try.prog 54 E_22 :=
 holds_of (cx := C_22) (tabOk_ok tabT rfl).1 (allT_ok trivial) mixT Q_22.1 Q_22.2.2 (loops_of W_22 ⟨loop_of (cx := C_22) (L := S_22L3 fuel) rfl (by rw [R_22L3]; rfl) ⟨spec_l14Free_L3, fun _ => rfl, fun n x => K_22L3 n x, fuel, fun _ => rfl⟩, trivial⟩) (enc := N_22) (fun _ _ => ⟨rfl, rfl⟩) F_22
theorem F_23 (a : dens [.v .int, .v .int]) : E_23.run a = funK C_23 Try.f119 [.v .int, .v .int] [.v .int] a (fun o r => some (N_23 o r)) := by
 kernel_rfl
theorem W_23 : loopsOf D_23 = [] := by kernel_rfl
theorem Q_23 : Try.prog.funcs[119]? = some Try.f119 ∧ (Try.f119.name == "runtime.NumGoroutine") = false ∧ Try.f119.body = some D_23 := ⟨Try.func119, by kernel_rfl, by kernel_rfl⟩
theorem H_23 : Holds Try.prog 119 E_23 :=
 holds_of (cx := C_23) (tabOk_ok tabT rfl).1 (allT_ok trivial) mixT Q_23.1 Q_23.2.2 (loops_of W_23 trivial) (enc := N_23) (fun _ _ => ⟨rfl, rfl⟩) F_23
theorem K_24L7 (n : Nat) (x) : spec_l19Most_L7 (n + 1) x = roundK C_24 B_24L7 (S_24L7 fuel) x (spec_l19Most_L7 n) := by
 obtain ⟨_, _, _, _, _⟩ := x
 kernel_rfl
theorem K_24L3 (n : Nat) (x) : spec_l19Most_L3 (n + 1) x = roundK C_24 B_24L3 (S_24L3 fuel) x (spec_l19Most_L3 n) := by
 obtain ⟨_, _, _⟩ := x
 kernel_rfl
theorem F_24 (a : dens [.v .int, .v (.slice (.pair (.slice .int) (.pair .int (.slice (.slice .int)))))]) : E_24.run a = funK C_24 Try.f106 [.v .int, .v (.slice (.pair (.slice .int) (.pair .int (.slice (.slice .int)))))] [.mv (.slice (.pair (.slice .int) (.pair .int (.slice (.slice .int))))) 1] a (fun o r => some (N_24 o r)) := by
 kernel_rfl
theorem W_24 : loopsOf D_24 = [B_24L3, B_24L7] := by kernel_rfl
theorem R_24L7 : firstReg B_24L7 = 7 := by kernel_rfl
theorem R_24L3 : firstReg B_24L3 = 3 := by kernel_rfl
theorem Q_24 : Try.prog.funcs[106]? = some Try.f106 ∧ (Try.f106.name == "runtime.NumGoroutine") = false ∧ Try.f106.body = some D_24 := ⟨Try.func106, by kernel_rfl, by kernel_rfl⟩
theorem H_24 : Holds Try.prog 106 E_24 :=
 holds_of (cx := C_24) (tabOk_ok tabT rfl).1 (allT_ok ⟨⟨H_23, _, _, Q_23⟩, trivial⟩) mixT Q_24.1 Q_24.2.2 (loops_of W_24 ⟨loop_of (cx := C_24) (L := S_24L3 fuel) rfl (by rw [R_24L3]; rfl) ⟨spec_l19Most_L3, fun _ => rfl, fun n x => K_24L3 n x, fuel, fun _ => rfl⟩, ⟨loop_of (cx := C_24) (L := S_24L7 fuel) rfl (by rw [R_24L7]; rfl) ⟨spec_l19Most_L7, fun _ => rfl, fun n x => K_24L7 n x, fuel, fun _ => rfl⟩, trivial⟩⟩) (enc := N_24) (fun _ _ => ⟨rfl, rfl⟩) F_24
theorem F_25 (a : dens [.v (.slice .int)]) : E_25.run a = funK C_25 Try.f129 [.v (.slice .int)] [.mv .int 0] a (fun o r => some (N_25 o r)) := by
 kernel_rfl
theorem W_25 : loopsOf D_25 = [] := by kernel_rfl
theorem Q_25 : Try.prog.funcs[129]? = some Try.f129 ∧ (Try.f129.name == "runtime.NumGoroutine") = false ∧ Try.f129.body = some D_25 := ⟨Try.func129, by kernel_rfl, by kernel_rfl⟩
theorem H_25 : Holds Try.prog 129 E_25 :=
 holds_of (cx := C_25) (tabOk_ok tabT rfl).1 (allT_ok trivial) mixT Q_25.1 Q_25.2.2 (loops_of W_25 trivial) (enc := N_25) (fun _ _ => ⟨rfl, rfl⟩) F_25
theorem K_26L4 (n : Nat) (x) : spec_l1Same_L4 (n + 1) x = roundK C_26 B_26L4 (S_26L4 fuel) x (spec_l1Same_L4 n) := by
 obtain ⟨_, _, _⟩ := x
 kernel_rfl
theorem F_26 (a : dens [.v (.slice .int), .v (.slice .int)]) : E_26.run a = funK C_26 Try.f166 [.v (.slice .int), .v (.slice .int)] [.v .bool] a (fun o r => some (N_26 o r)) := by
 kernel_rfl
theorem W_26 : loopsOf D_26 = [B_26L4] := by kernel_rfl
theorem R_26L4 : firstReg B_26L4 = 4 := by kernel_rfl
theorem Q_26 : Try.prog.funcs[166]? = some Try.f166 ∧ (Try.f166.name == "runtime.NumGoroutine") = false ∧ Try.f166.body = some D_26 := ⟨Try.func166, by kernel_rfl, by kernel_rfl⟩
theorem H_26 : Holds Try.prog 166 E_26 :=
 holds_of (cx := C_26) (tabOk_ok tabT rfl).1 (allT_ok trivial) mixT Q_26.1 Q_26.2.2 (loops_of W_26 ⟨loop_of (cx := C_26) (L := S_26L4 fuel) rfl (by rw [R_26L4]; rfl) ⟨spec_l1Same_L4, fun _ => rfl, fun n x => K_26L4 n x, fuel, fun _ => rfl⟩, trivial⟩) (enc := N_26) (fun _ _ => ⟨rfl, rfl⟩) F_26
theorem K_27L2 (n : Nat) (x) : spec_l8Find_L2 (n + 1) x = roundK C_27 B_27L2 (S_27L2 fuel) x (spec_l8Find_L2 n) := by
 obtain ⟨_, _, _, _⟩ := x
 kernel_rfl
theorem F_27 (a : dens [.v (.slice (.slice .int)), .v (.slice .int)]) : E_27.run a = funK C_27 Try.f160 [.v (.slice (.slice .int)), .v (.slice .int)] [.v .int, .v .bool] a (fun o r => some (N_27 o r)) := by
 kernel_rfl
theorem W_27 : loopsOf D_27 = [B_27L2] := by kernel_rfl
theorem R_27L2 : firstReg B_27L2 = 2 := by kernel_rfl
theorem Q_27 : Try.prog.funcs[160]? = some Try.f160 ∧ (Try.f160.name == "runtime.NumGoroutine") = false ∧ Try.f160.body = some D_27 := ⟨Try.func160, by kernel_rfl, by kernel_rfl⟩
theorem H_27 : Holds Try.prog 160 E_27 :=
 holds_of (cx := C_27) (tabOk_ok tabT rfl).1 (allT_ok ⟨⟨H_17, _, _, Q_17⟩, ⟨⟨H_26, _, _, Q_26⟩, trivial⟩⟩) mixT Q_27.1 Q_27.2.2 (loops_of W_27 ⟨loop_of (cx := C_27) (L := S_27L2 fuel) rfl (by rw [R_27L2]; rfl) ⟨spec_l8Find_L2, fun _ => rfl, fun n x => K_27L2 n x, fuel, fun _ => rfl⟩, trivial⟩) (enc := N_27) (fun _ _ => ⟨rfl, rfl⟩) F_27
theorem F_28 (a : dens [.v (.pair .int (.slice (.slice .int))), .v (.slice .int)]) : E_28.run a = funK C_28 Try.f152 [.v (.pair .int (.slice (.slice .int))), .v (.slice .int)] [.v .bool] a (fun o r => some (N_28 o r)) := by
 kernel_rfl
theorem W_28 : loopsOf D_28 = [] := by kernel_rfl
theorem Q_28 : Try.prog.funcs[152]? = some Try.f152 ∧ (Try.f152.name == "runtime.NumGoroutine") = false ∧ Try.f152.body = some D_28 := ⟨Try.func152, by kernel_rfl, by kernel_rfl⟩
theorem H_28 : Holds Try.prog 152 E_28 :=
 holds_of (cx := C_28) (tabOk_ok tabT rfl).1 (allT_ok ⟨⟨H_27, _, _, Q_27⟩, trivial⟩) mixT Q_28.1 Q_28.2.2 (loops_of W_28 trivial) (enc := N_28) (fun _ _ => ⟨rfl, rfl⟩) F_28
theorem K_29L3 (n : Nat) (x) : spec_l19Satisfies_L3 (n + 1) x = roundK C_29 B_29L3 (S_29L3 fuel) x (spec_l19Satisfies_L3 n) := by
 obtain ⟨_, _, _, _⟩ := x
 kernel_rfl
theorem F_29 (a : dens [.v (.pair (.slice .int) (.pair .int (.slice (.slice .int)))), .v (.slice .int)]) : E_29.run a = funK C_29 Try.f123 [.v (.pair (.slice .int) (.pair .int (.slice (.slice .int)))), .v (.slice .int)] [.v .bool] a (fun o r => some (N_29 o r)) := by
 kernel_rfl
theorem W_29 : loopsOf D_29 = [B_29L3] := by kernel_rfl
theorem R_29L3 : firstReg B_29L3 = 3 := by kernel_rfl
theorem Q_29 : Try.prog.funcs[123]? = some Try.f123 ∧ (Try.f123.name == "runtime.NumGoroutine") = false ∧ Try.f123.body = some D_29 := ⟨Try.func123, by kernel_rfl, by kernel_rfl⟩
theorem H_29 : Holds Try.prog 123 E_29 :=
 holds_of (cx := C_29) (tabOk_ok tabT rfl).1 (allT_ok ⟨⟨H_28, _, _, Q_28⟩, trivial⟩) mixT Q_29.1 Q_29.2.2 (loops_of W_29 ⟨loop_of (cx := C_29) (L := S_29L3 fuel) rfl (by rw [R_29L3]; rfl) ⟨spec_l19Satisfies_L3, fun _ => rfl, fun n x => K_29L3 n x, fuel, fun _ => rfl⟩, trivial⟩) (enc := N_29) (fun _ _ => ⟨rfl, rfl⟩) F_29
theorem K_30L14 (rec : (Int × (List (List ((List Int) × Int × (List (List Int))))) × (List Int) × (List Int) × ((List (List Int)) × (Int × Int × Bool))) → Option (((List (List Int)) × (Int × Int × Bool)))) (n : Nat) (x) : spec_l19Go_L14 rec (n + 1) x = roundK (C_30 rec) B_30L14 (S_30L14 rec fuel) x (spec_l19Go_L14 rec n) := by
 obtain ⟨_, _, _, _, _, _, _, _, _, _, _⟩ := x
 kernel_rfl
theorem K_30L8 (rec : (Int × (List (List ((List Int) × Int × (List (List Int))))) × (List Int) × (List Int) × ((List (List Int)) × (Int × Int × Bool))) → Option (((List (List Int)) × (Int × Int × Bool)))) (n : Nat) (x) : spec_l19Go_L8 rec (n + 1) x = roundK (C_30 rec) B_30L8 (S_30L8 rec fuel) x (spec_l19Go_L8 rec n) := by
 obtain ⟨_, _, _, _, _, _, _, _⟩ := x
 kernel_rfl
theorem F_30 (rec : (Int × (List (List ((List Int) × Int × (List (List Int))))) × (List Int) × (List Int) × ((List (List Int)) × (Int × Int × Bool))) → Option (((List (List Int)) × (Int × Int × Bool)))) (a : dens [.v .int, .v (.slice (.slice (.pair (.slice .int) (.pair .int (.slice (.slice .int)))))), .v (.slice .int), .v (.slice .int), .pr (.mv (.slice .int) 1) (.v (.pair .int (.pair .int .bool)))]) : spec_l19Go_body rec a.1 a.2.1 a.2.2.1 a.2.2.2.1 a.2.2.2.2 = funK (C_30 rec) Try.f105 [.v .int, .v (.slice (.slice (.pair (.slice .int) (.pair .int (.slice (.slice .int)))))), .v (.slice .int), .v (.slice .int), .pr (.mv (.slice .int) 1) (.v (.pair .int (.pair .int .bool)))] [.pr (.mv (.slice .int) 1) (.v (.pair .int (.pair .int .bool)))] a (fun o r => some (N_30 o r)) := by
 kernel_rfl
theorem W_30 : loopsOf D_30 = [B_30L8, B_30L14] := by kernel_rfl
theorem R_30L14 : firstReg B_30L14 = 14 := by kernel_rfl
theorem R_30L8 : firstReg B_30L8 = 8 := by kernel_rfl
theorem Q_30 : Try.prog.funcs[105]? = some Try.f105 ∧ (Try.f105.name == "runtime.NumGoroutine") = false ∧ Try.f105.body = some D_30 := ⟨Try.func105, by kernel_rfl, by kernel_rfl⟩
theorem H_30 : ∀ d, Holds Try.prog 105 (E_30 d)
 | 0 => fun _ b h => absurd (show (none : Option _) = some b from h) (by simp)
 | d + 1 => holds_of (en := E_30 (d + 1)) (cx := (C_30 (spec_l19Go d))) (tabOk_ok tabT rfl).1 (allT_ok ⟨⟨H_30 d, _, _, Q_30⟩, ⟨⟨H_29, _, _, Q_29⟩, ⟨⟨H_25, _, _, Q_25⟩, trivial⟩⟩⟩) mixT Q_30.1 Q_30.2.2 (loops_of W_30 ⟨loop_of (cx := (C_30 (spec_l19Go d))) (L := S_30L8 (spec_l19Go d) fuel) rfl (by rw [R_30L8]; rfl) ⟨spec_l19Go_L8 (spec_l19Go d), fun _ => rfl, fun n x => K_30L8 (spec_l19Go d) n x, fuel, fun _ => rfl⟩, ⟨loop_of (cx := (C_30 (spec_l19Go d))) (L := S_30L14 (spec_l19Go d) fuel) rfl (by rw [R_30L14]; rfl) ⟨spec_l19Go_L14 (spec_l19Go d), fun _ => rfl, fun n x => K_30L14 (spec_l19Go d) n x, fuel, fun _ => rfl⟩, trivial⟩⟩) (enc := N_30) (fun _ _ => ⟨rfl, rfl⟩) (F_30 (spec_l19Go d)) rfl
theorem F_31 (a : dens [.v (.pair .int (.pair .int (.slice (.pair (.slice .int) (.pair .int (.slice (.slice .int))))))), .v (.slice (.pair (.slice .int) (.pair .int (.slice (.slice .int))))), .v (.slice .int), .v .int, .v .bool]) : E_31.run a = funK C_31 Try.f55 [.v (.pair .int (.pair .int (.slice (.pair (.slice .int) (.pair .int (.slice (.slice .int))))))), .v (.slice (.pair (.slice .int) (.pair .int (.slice (.slice .int))))), .v (.slice .int), .v .int, .v .bool] [.pr (.mv (.slice .int) 1) (.v (.pair .int (.pair .int .bool)))] a (fun o r => some (N_31 o r)) := by
 kernel_rfl
theorem W_31 : loopsOf D_31 = [] := by kernel_rfl
theorem Q_31 : Try.prog.funcs[55]? = some Try.f55 ∧ (Try.f55.name == "runtime.NumGoroutine") = false ∧ Try.f55.body = some D_31 := ⟨Try.func55, by kernel_rfl, by kernel_rfl⟩
theorem H_31 : Holds Try.prog 55 E_31 :=
 holds_of (cx := C_31) (tabOk_ok tabT rfl).1 (allT_ok ⟨⟨H_30 fuel, _, _, Q_30⟩, ⟨⟨H_24, _, _, Q_24⟩, trivial⟩⟩) mixT Q_31.1 Q_31.2.2 (loops_of W_31 trivial) (enc := N_31) (fun _ _ => ⟨rfl, rfl⟩) F_31
theorem K_32L10 (n : Nat) (x) : spec_SolutionRelation_L10 (n + 1) x = roundK C_32 B_32L10 (S_32L10 fuel) x (spec_SolutionRelation_L10 n) := by
 obtain ⟨_, _, _, _, _, _, _, _, _⟩ := x
 kernel_rfl
theorem K_32L5 (n : Nat) (x) : spec_SolutionRelation_L5 (n + 1) x = roundK C_32 B_32L5 (S_32L5 fuel) x (spec_SolutionRelation_L5 n) := by
 obtain ⟨_, _, _, _, _⟩ := x
 kernel_rfl
theorem F_32 (a : dens [.v (.pair .int (.pair .int (.slice (.pair (.slice .int) (.pair .int (.slice (.slice .int))))))), .v (.slice .int)]) : E_32.run a = funK C_32 Try.f7 [.v (.pair .int (.pair .int (.slice (.pair (.slice .int) (.pair .int (.slice (.slice .int))))))), .v (.slice .int)] [.pr (.v .int) (.mv (.slice .int) 0), .v .bool] a (fun o r => some (N_32 o r)) := by
 kernel_rfl
theorem W_32 : loopsOf D_32 = [B_32L5, B_32L10] := by kernel_rfl
theorem R_32L10 : firstReg B_32L10 = 10 := by kernel_rfl
theorem R_32L5 : firstReg B_32L5 = 5 := by kernel_rfl
theorem Q_32 : Try.prog.funcs[7]? = some Try.f7 ∧ (Try.f7.name == "runtime.NumGoroutine") = false ∧ Try.f7.body = some D_32 := ⟨Try.func7, by kernel_rfl, by kernel_rfl⟩
theorem H_32 : Holds Try.prog 7 E_32 :=
 holds_of (cx := C_32) (tabOk_ok tabT rfl).1 (allT_ok ⟨⟨H_20, _, _, Q_20⟩, ⟨⟨H_13, _, _, Q_13⟩, ⟨⟨H_15, _, _, Q_15⟩, ⟨⟨H_14, _, _, Q_14⟩, ⟨⟨H_21, _, _, Q_21⟩, ⟨⟨H_22, _, _, Q_22⟩, ⟨⟨H_31, _, _, Q_31⟩, trivial⟩⟩⟩⟩⟩⟩⟩) mixT Q_32.1 Q_32.2.2 (loops_of W_32 ⟨loop_of (cx := C_32) (L := S_32L5 fuel) rfl (by rw [R_32L5]; rfl) ⟨spec_SolutionRelation_L5, fun _ => rfl, fun n x => K_32L5 n x, fuel, fun _ => rfl⟩, ⟨loop_of (cx := C_32) (L := S_32L10 fuel) rfl (by rw [R_32L10]; rfl) ⟨spec_SolutionRelation_L10, fun _ => rfl, fun n x => K_32L10 n x, fuel, fun _ => rfl⟩, trivial⟩⟩) (enc := N_32) (fun _ _ => ⟨rfl, rfl⟩) F_32
theorem F_33 (a : dens [.v .int]) : E_33.run a = funK C_33 Try.f108 [.v .int] [.v .bool] a (fun o r => some (N_33 o r)) := by
 kernel_rfl
theorem W_33 : loopsOf D_33 = [] := by kernel_rfl
theorem Q_33 : Try.prog.funcs[108]? = some Try.f108 ∧ (Try.f108.name == "runtime.NumGoroutine") = false ∧ Try.f108.body = some D_33 := ⟨Try.func108, by kernel_rfl, by kernel_rfl⟩
theorem H_33 : Holds Try.prog 108 E_33 :=
 holds_of (cx := C_33) (tabOk_ok tabT rfl).1 (allT_ok trivial) mixT Q_33.1 Q_33.2.2 (loops_of W_33 trivial) (enc := N_33) (fun _ _ => ⟨rfl, rfl⟩) F_33
theorem K_34L2 (n : Nat) (x) : impl_inSize_L2 (n + 1) x = roundK C_34 B_34L2 (S_34L2 fuel) x (impl_inSize_L2 n) := by
 obtain ⟨_, _, _, _⟩ := x
 kernel_rfl
theorem F_34 (a : dens [.v (.slice .int), .v .int]) : E_34.run a = funK C_34 Try.f58 [.v (.slice .int), .v .int] [.v .bool] a (fun o r => some (N_34 o r)) := by
 kernel_rfl
theorem W_34 : loopsOf D_34 = [B_34L2] := by kernel_rfl
theorem R_34L2 : firstReg B_34L2 = 2 := by kernel_rfl
theorem Q_34 : Try.prog.funcs[58]? = some Try.f58 ∧ (Try.f58.name == "runtime.NumGoroutine") = false ∧ Try.f58.body = some D_34 := ⟨Try.func58, by kernel_rfl, by kernel_rfl⟩
theorem H_34 : Holds Try.prog 58 E_34 :=
 holds_of (cx := C_34) (tabOk_ok tabT rfl).1 (allT_ok trivial) mixT Q_34.1 Q_34.2.2 (loops_of W_34 ⟨loop_of (cx := C_34) (L := S_34L2 fuel) rfl (by rw [R_34L2]; rfl) ⟨impl_inSize_L2, fun _ => rfl, fun n x => K_34L2 n x, fuel, fun _ => rfl⟩, trivial⟩) (enc := N_34) (fun _ _ => ⟨rfl, rfl⟩) F_34
theorem K_35L2 (n : Nat) (x) : impl_compareLists_L2 (n + 1) x = roundK C_35 B_35L2 (S_35L2 fuel) x (impl_compareLists_L2 n) := by
 obtain ⟨_, _, _⟩ := x
 kernel_rfl
theorem F_35 (a : dens [.v (.slice .int), .v (.slice .int)]) : E_35.run a = funK C_35 Try.f144 [.v (.slice .int), .v (.slice .int)] [.v .int] a (fun o r => some (N_35 o r)) := by
 kernel_rfl
theorem W_35 : loopsOf D_35 = [B_35L2] := by kernel_rfl
theorem R_35L2 : firstReg B_35L2 = 2 := by kernel_rfl
theorem Q_35 : Try.prog.funcs[144]? = some Try.f144 ∧ (Try.f144.name == "runtime.NumGoroutine") = false ∧ Try.f144.body = some D_35 := ⟨Try.func144, by kernel_rfl, by kernel_rfl⟩
theorem H_35 : Holds Try.prog 144 E_35 :=
 holds_of (cx := C_35) (tabOk_ok tabT rfl).1 (allT_ok trivial) mixT Q_35.1 Q_35.2.2 (loops_of W_35 ⟨loop_of (cx := C_35) (L := S_35L2 fuel) rfl (by rw [R_35L2]; rfl) ⟨impl_compareLists_L2, fun _ => rfl, fun n x => K_35L2 n x, fuel, fun _ => rfl⟩, trivial⟩) (enc := N_35) (fun _ _ => ⟨rfl, rfl⟩) F_35
theorem K_36L4 (n : Nat) (x) : impl_isRelation_L4 (n + 1) x = roundK C_36 B_36L4 (S_36L4 fuel) x (impl_isRelation_L4 n) := by
 obtain ⟨_, _, _, _, _⟩ := x
 kernel_rfl
theorem F_36 (a : dens [.v .int, .v (.pair .int (.slice (.slice .int)))]) : E_36.run a = funK C_36 Try.f125 [.v .int, .v (.pair .int (.slice (.slice .int)))] [.v .bool] a (fun o r => some (N_36 o r)) := by
 kernel_rfl
theorem W_36 : loopsOf D_36 = [B_36L4] := by kernel_rfl
theorem R_36L4 : firstReg B_36L4 = 4 := by kernel_rfl
theorem Q_36 : Try.prog.funcs[125]? = some Try.f125 ∧ (Try.f125.name == "runtime.NumGoroutine") = false ∧ Try.f125.body = some D_36 := ⟨Try.func125, by kernel_rfl, by kernel_rfl⟩
theorem H_36 : Holds Try.prog 125 E_36 :=
 holds_of (cx := C_36) (tabOk_ok tabT rfl).1 (allT_ok ⟨⟨H_34, _, _, Q_34⟩, ⟨⟨H_35, _, _, Q_35⟩, trivial⟩⟩) mixT Q_36.1 Q_36.2.2 (loops_of W_36 ⟨loop_of (cx := C_36) (L := S_36L4 fuel) rfl (by rw [R_36L4]; rfl) ⟨impl_isRelation_L4, fun _ => rfl, fun n x => K_36L4 n x, fuel, fun _ => rfl⟩, trivial⟩) (enc := N_36) (fun _ _ => ⟨rfl, rfl⟩) F_36
theorem F_37 (a : dens [.v .int, .v .int, .v (.pair (.slice .int) (.pair .int (.slice (.slice .int))))]) : E_37.run a = funK C_37 Try.f109 [.v .int, .v .int, .v (.pair (.slice .int) (.pair .int (.slice (.slice .int))))] [.v .bool] a (fun o r => some (N_37 o r)) := by
 kernel_rfl
theorem W_37 : loopsOf D_37 = [] := by kernel_rfl
theorem Q_37 : Try.prog.funcs[109]? = some Try.f109 ∧ (Try.f109.name == "runtime.NumGoroutine") = false ∧ Try.f109.body = some D_37 := ⟨Try.func109, by kernel_rfl, by kernel_rfl⟩
theorem H_37 : Holds Try.prog 109 E_37 :=
 holds_of (cx := C_37) (tabOk_ok tabT rfl).1 (allT_ok ⟨⟨H_34, _, _, Q_34⟩, ⟨⟨H_36, _, _, Q_36⟩, trivial⟩⟩) mixT Q_37.1 Q_37.2.2 (loops_of W_37 trivial) (enc := N_37) (fun _ _ => ⟨rfl, rfl⟩) F_37
theorem K_38L4 (n : Nat) (x) : impl_IsNetwork_L4 (n + 1) x = roundK C_38 B_38L4 (S_38L4 fuel) x (impl_IsNetwork_L4 n) := by
 obtain ⟨_, _, _, _⟩ := x
 kernel_rfl
theorem F_38 (a : dens [.v (.pair .int (.pair .int (.slice (.pair (.slice .int) (.pair .int (.slice (.slice .int)))))))]) : E_38.run a = funK C_38 Try.f57 [.v (.pair .int (.pair .int (.slice (.pair (.slice .int) (.pair .int (.slice (.slice .int)))))))] [.v .bool] a (fun o r => some (N_38 o r)) := by
 kernel_rfl
theorem W_38 : loopsOf D_38 = [B_38L4] := by kernel_rfl
theorem R_38L4 : firstReg B_38L4 = 4 := by kernel_rfl
theorem Q_38 : Try.prog.funcs[57]? = some Try.f57 ∧ (Try.f57.name == "runtime.NumGoroutine") = false ∧ Try.f57.body = some D_38 := ⟨Try.func57, by kernel_rfl, by kernel_rfl⟩
theorem H_38 : Holds Try.prog 57 E_38 :=
 holds_of (cx := C_38) (tabOk_ok tabT rfl).1 (allT_ok ⟨⟨H_33, _, _, Q_33⟩, ⟨⟨H_37, _, _, Q_37⟩, trivial⟩⟩) mixT Q_38.1 Q_38.2.2 (loops_of W_38 ⟨loop_of (cx := C_38) (L := S_38L4 fuel) rfl (by rw [R_38L4]; rfl) ⟨impl_IsNetwork_L4, fun _ => rfl, fun n x => K_38L4 n x, fuel, fun _ => rfl⟩, trivial⟩) (enc := N_38) (fun _ _ => ⟨rfl, rfl⟩) F_38
theorem K_39L3 (n : Nat) (x) : impl_keyOf_L3 (n + 1) x = roundK C_39 B_39L3 (S_39L3 fuel) x (impl_keyOf_L3 n) := by
 obtain ⟨_, _, _, _⟩ := x
 kernel_rfl
theorem F_39 (a : dens [.v (.slice .int)]) : E_39.run a = funK C_39 Try.f62 [.v (.slice .int)] [.v .str] a (fun o r => some (N_39 o r)) := by
 kernel_rfl
theorem W_39 : loopsOf D_39 = [B_39L3] := by kernel_rfl
theorem R_39L3 : firstReg B_39L3 = 3 := by kernel_rfl
theorem Q_39 : Try.prog.funcs[62]? = some Try.f62 ∧ (Try.f62.name == "runtime.NumGoroutine") = false ∧ Try.f62.body = some D_39 := ⟨Try.func62, by kernel_rfl, by kernel_rfl⟩
theorem H_39 : Holds Try.prog 62 E_39 :=
 holds_of (cx := C_39) (tabOk_ok tabT rfl).1 (allT_ok trivial) mixT Q_39.1 Q_39.2.2 (loops_of W_39 ⟨loop_of (cx := C_39) (L := S_39L3 fuel) rfl (by rw [R_39L3]; rfl) ⟨impl_keyOf_L3, fun _ => rfl, fun n x => K_39L3 n x, fuel, fun _ => rfl⟩, trivial⟩) (enc := N_39) (fun _ _ => ⟨rfl, rfl⟩) F_39
theorem K_40L3 (n : Nat) (x) : impl_tupleSet_L3 (n + 1) x = roundK C_40 B_40L3 (S_40L3 fuel) x (impl_tupleSet_L3 n) := by
 obtain ⟨_, _, _, _⟩ := x
 kernel_rfl
theorem F_40 (a : dens [.v (.pair .int (.slice (.slice .int)))]) : E_40.run a = funK C_40 Try.f140 [.v (.pair .int (.slice (.slice .int)))] [.v .smap] a (fun o r => some (N_40 o r)) := by
 kernel_rfl
theorem W_40 : loopsOf D_40 = [B_40L3] := by kernel_rfl
theorem R_40L3 : firstReg B_40L3 = 3 := by kernel_rfl
theorem Q_40 : Try.prog.funcs[140]? = some Try.f140 ∧ (Try.f140.name == "runtime.NumGoroutine") = false ∧ Try.f140.body = some D_40 := ⟨Try.func140, by kernel_rfl, by kernel_rfl⟩
theorem H_40 : Holds Try.prog 140 E_40 :=
 holds_of (cx := C_40) (tabOk_ok tabT rfl).1 (allT_ok ⟨⟨H_39, _, _, Q_39⟩, trivial⟩) mixT Q_40.1 Q_40.2.2 (loops_of W_40 ⟨loop_of (cx := C_40) (L := S_40L3 fuel) rfl (by rw [R_40L3]; rfl) ⟨impl_tupleSet_L3, fun _ => rfl, fun n x => K_40L3 n x, fuel, fun _ => rfl⟩, trivial⟩) (enc := N_40) (fun _ _ => ⟨rfl, rfl⟩) F_40
theorem K_41L7 (n : Nat) (x) : impl_newNetSearch_L7 (n + 1) x = roundK C_41 B_41L7 (S_41L7 fuel) x (impl_newNetSearch_L7 n) := by
 obtain ⟨_, _, _, _, _, _, _, _, _⟩ := x
 kernel_rfl
theorem K_41L3 (n : Nat) (x) : impl_newNetSearch_L3 (n + 1) x = roundK C_41 B_41L3 (S_41L3 fuel) x (impl_newNetSearch_L3 n) := by
 obtain ⟨_, _, _, _⟩ := x
 kernel_rfl
theorem F_41 (a : dens [.v (.pair .int (.pair .int (.slice (.pair (.slice .int) (.pair .int (.slice (.slice .int)))))))]) : E_41.run a = funK C_41 Try.f110 [.v (.pair .int (.pair .int (.slice (.pair (.slice .int) (.pair .int (.slice (.slice .int)))))))] [.v (.ptr (.pair .int (.pair (.slice (.slice (.slice .int))) (.slice (.slice .smap)))))] a (fun o r => some (N_41 o r)) := by
 kernel_rfl
theorem W_41 : loopsOf D_41 = [B_41L3, B_41L7] := by kernel_rfl
theorem R_41L7 : firstReg B_41L7 = 7 := by kernel_rfl
theorem R_41L3 : firstReg B_41L3 = 3 := by kernel_rfl
theorem Q_41 : Try.prog.funcs[110]? = some Try.f110 ∧ (Try.f110.name == "runtime.NumGoroutine") = false ∧ Try.f110.body = some D_41 := ⟨Try.func110, by kernel_rfl, by kernel_rfl⟩
theorem H_41 : Holds Try.prog 110 E_41 :=
 holds_of (cx := C_41) (tabOk_ok tabT rfl).1 (allT_ok ⟨⟨H_40, _, _, Q_40⟩, trivial⟩) mixT Q_41.1 Q_41.2.2 (loops_of W_41 ⟨loop_of (cx := C_41) (L := S_41L3 fuel) rfl (by rw [R_41L3]; rfl) ⟨impl_newNetSearch_L3, fun _ => rfl, fun n x => K_41L3 n x, fuel, fun _ => rfl⟩, ⟨loop_of (cx := C_41) (L := S_41L7 fuel) rfl (by rw [R_41L7]; rfl) ⟨impl_newNetSearch_L7, fun _ => rfl, fun n x => K_41L7 n x, fuel, fun _ => rfl⟩, trivial⟩⟩) (enc := N_41) (fun _ _ => ⟨rfl, rfl⟩) F_41
theorem K_42L3 (n : Nat) (x) : impl_freeTable_L3 (n + 1) x = roundK C_42 B_42L3 (S_42L3 fuel) x (impl_freeTable_L3 n) := by
 obtain ⟨_, _, _⟩ := x
 kernel_rfl
theorem F_42 (a : dens [.v .int]) : E_42.run a = funK C_42 Try.f112 [.v .int] [.mv .int 0] a (fun o r => some (N_42 o r)) := by
 kernel_rfl
theorem W_42 : loopsOf D_42 = [B_42L3] := by kernel_rfl
theorem R_42L3 : firstReg B_42L3 = 3 := by kernel_rfl
theorem Q_42 : Try.prog.funcs[112]? = some Try.f112 ∧ (Try.f112.name == "runtime.NumGoroutine") = false ∧ Try.f112.body = some D_42 := ⟨Try.func112, by kernel_rfl, by kernel_rfl⟩
theorem H_42 : Holds Try.prog 112 E_42 :=
 holds_of (cx := C_42) (tabOk_ok tabT rfl).1 (allT_ok trivial) mixT Q_42.1 Q_42.2.2 (loops_of W_42 ⟨loop_of (cx := C_42) (L := S_42L3 fuel) rfl (by rw [R_42L3]; rfl) ⟨impl_freeTable_L3, fun _ => rfl, fun n x => K_42L3 n x, fuel, fun _ => rfl⟩, trivial⟩) (enc := N_42) (fun _ _ => ⟨rfl, rfl⟩) F_42
theorem F_43 (a : dens [.v (.slice .int)]) : E_43.run a = funK C_43 Try.f135 [.v (.slice .int)] [.mv .int 0] a (fun o r => some (N_43 o r)) := by
 kernel_rfl
theorem W_43 : loopsOf D_43 = [] := by kernel_rfl
theorem Q_43 : Try.prog.funcs[135]? = some Try.f135 ∧ (Try.f135.name == "runtime.NumGoroutine") = false ∧ Try.f135.body = some D_43 := ⟨Try.func135, by kernel_rfl, by kernel_rfl⟩
theorem H_43 : Holds Try.prog 135 E_43 :=
 holds_of (cx := C_43) (tabOk_ok tabT rfl).1 (allT_ok trivial) mixT Q_43.1 Q_43.2.2 (loops_of W_43 trivial) (enc := N_43) (fun _ _ => ⟨rfl, rfl⟩) F_43
theorem K_44L3 (n : Nat) (x) : impl_cloneRows_L3 (n + 1) x = roundK C_44 B_44L3 (S_44L3 fuel) x (impl_cloneRows_L3 n) := by
 obtain ⟨_, _, _, _⟩ := x
 kernel_rfl
theorem F_44 (a : dens [.v (.slice (.slice .int))]) : E_44.run a = funK C_44 Try.f142 [.v (.slice (.slice .int))] [.mv (.slice .int) 1] a (fun o r => some (N_44 o r)) := by
 kernel_rfl
theorem W_44 : loopsOf D_44 = [B_44L3] := by kernel_rfl
theorem R_44L3 : firstReg B_44L3 = 3 := by kernel_rfl
theorem Q_44 : Try.prog.funcs[142]? = some Try.f142 ∧ (Try.f142.name == "runtime.NumGoroutine") = false ∧ Try.f142.body = some D_44 := ⟨Try.func142, by kernel_rfl, by kernel_rfl⟩
theorem H_44 : Holds Try.prog 142 E_44 :=
 holds_of (cx := C_44) (tabOk_ok tabT rfl).1 (allT_ok ⟨⟨H_43, _, _, Q_43⟩, trivial⟩) mixT Q_44.1 Q_44.2.2 (loops_of W_44 ⟨loop_of (cx := C_44) (L := S_44L3 fuel) rfl (by rw [R_44L3]; rfl) ⟨impl_cloneRows_L3, fun _ => rfl, fun n x => K_44L3 n x, fuel, fun _ => rfl⟩, trivial⟩) (enc := N_44) (fun _ _ => ⟨rfl, rfl⟩) F_44
theorem Q_45 : Try.prog.funcs[143]? = some Try.f143 ∧ (Try.f143.name == "runtime.NumGoroutine") = false ∧ Try.f143.body = some D_45 := ⟨Try.func143, by kernel_rfl, by kernel_rfl⟩
theorem H_45 : Holds Try.prog 143 E_45 := Go.Proofs.H_sort_cmpL 1
theorem F_46 (a : dens [.v (.slice (.slice .int))]) : E_46.run a = funK C_46 Try.f114 [.v (.slice (.slice .int))] [.mv (.slice .int) 1] a (fun o r => some (N_46 o r)) := by
 kernel_rfl
theorem W_46 : loopsOf D_46 = [] := by kernel_rfl
theorem Q_46 : Try.prog.funcs[114]? = some Try.f114 ∧ (Try.f114.name == "runtime.NumGoroutine") = false ∧ Try.f114.body = some D_46 := ⟨Try.func114, by kernel_rfl, by kernel_rfl⟩
theorem H_46 : Holds Try.prog 114 E_46 :=
 holds_of (cx := C_46) (tabOk_ok tabT rfl).1 (allT_ok ⟨⟨H_44, _, _, Q_44⟩, ⟨⟨H_45, _, _, Q_45⟩, trivial⟩⟩) mixT Q_46.1 Q_46.2.2 (loops_of W_46 trivial) (enc := N_46) (fun _ _ => ⟨rfl, rfl⟩) F_46
theorem K_47L4 (n : Nat) (x) : impl_sameList_L4 (n + 1) x = roundK C_47 B_47L4 (S_47L4 fuel) x (impl_sameList_L4 n) := by
 obtain ⟨_, _, _, _⟩ := x
 kernel_rfl
theorem F_47 (a : dens [.v (.slice .int), .v (.slice .int)]) : E_47.run a = funK C_47 Try.f86 [.v (.slice .int), .v (.slice .int)] [.v .bool] a (fun o r => some (N_47 o r)) := by
 kernel_rfl
theorem W_47 : loopsOf D_47 = [B_47L4] := by kernel_rfl
theorem R_47L4 : firstReg B_47L4 = 4 := by kernel_rfl
theorem Q_47 : Try.prog.funcs[86]? = some Try.f86 ∧ (Try.f86.name == "runtime.NumGoroutine") = false ∧ Try.f86.body = some D_47 := ⟨Try.func86, by kernel_rfl, by kernel_rfl⟩
theorem H_47 : Holds Try.prog 86 E_47 :=
 holds_of (cx := C_47) (tabOk_ok tabT rfl).1 (allT_ok trivial) mixT Q_47.1 Q_47.2.2 (loops_of W_47 ⟨loop_of (cx := C_47) (L := S_47L4 fuel) rfl (by rw [R_47L4]; rfl) ⟨impl_sameList_L4, fun _ => rfl, fun n x => K_47L4 n x, fuel, fun _ => rfl⟩, trivial⟩) (enc := N_47) (fun _ _ => ⟨rfl, rfl⟩) F_47
theorem Q_48 : Try.prog.funcs[113]? = some Try.f113 ∧ (Try.f113.name == "runtime.NumGoroutine") = false ∧ Try.f113.body = some D_48 := ⟨Try.func113, by kernel_rfl, by kernel_rfl⟩
theorem H_48 : Holds Try.prog 113 E_48 := Go.Proofs.H_diff 1
theorem F_49 (a : dens [.v .int, .v (.slice (.slice .int))]) : E_49.run a = funK C_49 Try.f63 [.v .int, .v (.slice (.slice .int))] [.pr (.v .int) (.mv (.slice .int) 1)] a (fun o r => some (N_49 o r)) := by
 kernel_rfl
theorem W_49 : loopsOf D_49 = [] := by kernel_rfl
theorem Q_49 : Try.prog.funcs[63]? = some Try.f63 ∧ (Try.f63.name == "runtime.NumGoroutine") = false ∧ Try.f63.body = some D_49 := ⟨Try.func63, by kernel_rfl, by kernel_rfl⟩
theorem H_49 : Holds Try.prog 63 E_49 :=
 holds_of (cx := C_49) (tabOk_ok tabT rfl).1 (allT_ok ⟨⟨H_48, _, _, Q_48⟩, ⟨⟨H_46, _, _, Q_46⟩, trivial⟩⟩) mixT Q_49.1 Q_49.2.2 (loops_of W_49 trivial) (enc := N_49) (fun _ _ => ⟨rfl, rfl⟩) F_49
theorem K_50L3 (n : Nat) (x) : impl_compose_L3 (n + 1) x = roundK C_50 B_50L3 (S_50L3 fuel) x (impl_compose_L3 n) := by
 obtain ⟨_, _, _, _, _⟩ := x
 kernel_rfl
theorem F_50 (a : dens [.v (.slice .int), .v (.slice .int)]) : E_50.run a = funK C_50 Try.f61 [.v (.slice .int), .v (.slice .int)] [.mv .int 0] a (fun o r => some (N_50 o r)) := by
 kernel_rfl
theorem W_50 : loopsOf D_50 = [B_50L3] := by kernel_rfl
theorem R_50L3 : firstReg B_50L3 = 3 := by kernel_rfl
theorem Q_50 : Try.prog.funcs[61]? = some Try.f61 ∧ (Try.f61.name == "runtime.NumGoroutine") = false ∧ Try.f61.body = some D_50 := ⟨Try.func61, by kernel_rfl, by kernel_rfl⟩
theorem H_50 : Holds Try.prog 61 E_50 :=
 holds_of (cx := C_50) (tabOk_ok tabT rfl).1 (allT_ok trivial) mixT Q_50.1 Q_50.2.2 (loops_of W_50 ⟨loop_of (cx := C_50) (L := S_50L3 fuel) rfl (by rw [R_50L3]; rfl) ⟨impl_compose_L3, fun _ => rfl, fun n x => K_50L3 n x, fuel, fun _ => rfl⟩, trivial⟩) (enc := N_50) (fun _ _ => ⟨rfl, rfl⟩) F_50
theorem F_51 (a : dens [.v (.slice .int), .pz (.slice .int), .bx (.mp), .bx (.mv (.slice .int) 1)]) : E_51.run a = funK C_51 Try.f60 [.v (.slice .int), .pz (.slice .int), .bx (.mp), .bx (.mv (.slice .int) 1)] [.v .bool] a (fun o r => some (N_51 o r)) := by
 kernel_rfl
theorem W_51 : loopsOf D_51 = [] := by kernel_rfl
theorem Q_51 : Try.prog.funcs[60]? = some Try.f60 ∧ (Try.f60.name == "runtime.NumGoroutine") = false ∧ Try.f60.body = some D_51 := ⟨Try.func60, by kernel_rfl, by kernel_rfl⟩
theorem H_51 : Holds Try.prog 60 E_51 :=
 holds_of (cx := C_51) (tabOk_ok tabT rfl).1 (allT_ok ⟨⟨H_50, _, _, Q_50⟩, ⟨⟨H_39, _, _, Q_39⟩, trivial⟩⟩) mixT Q_51.1 Q_51.2.2 (loops_of W_51 trivial) (enc := N_51) (fun _ _ => ⟨rfl, rfl⟩) F_51
theorem K_52L10 (rec : (Int × (List Int) × ((List Int) × ((List ByteArray) × (List (List Int)))) × (Bool × Int × (List (List (List Int))) × (List (List (List ByteArray)))) × (List Int) × Unit) → Option ((List Int) × (Unit × ((List ByteArray) × (List (List Int)))) × (Bool × Int × (List (List (List Int))) × (List (List (List ByteArray)))) × (List Int) × Bool)) (n : Nat) (x) : impl_netSearch_each_c1_impl_SolutionRelation_c1_L10 rec (n + 1) x = roundK (C_52 rec) B_52L10 (S_52L10 rec fuel) x (impl_netSearch_each_c1_impl_SolutionRelation_c1_L10 rec n) := by
 obtain ⟨_, _, _, _, _, _, _, _, _, _, _⟩ := x
 kernel_rfl
theorem K_52L4 (rec : (Int × (List Int) × ((List Int) × ((List ByteArray) × (List (List Int)))) × (Bool × Int × (List (List (List Int))) × (List (List (List ByteArray)))) × (List Int) × Unit) → Option ((List Int) × (Unit × ((List ByteArray) × (List (List Int)))) × (Bool × Int × (List (List (List Int))) × (List (List (List ByteArray)))) × (List Int) × Bool)) (n : Nat) (x) : impl_netSearch_each_c1_impl_SolutionRelation_c1_L4 rec (n + 1) x = roundK (C_52 rec) B_52L4 (S_52L4 rec fuel) x (impl_netSearch_each_c1_impl_SolutionRelation_c1_L4 rec n) := by
 obtain ⟨_, _, _, _, _, _, _⟩ := x
 kernel_rfl
theorem F_52 (rec : (Int × (List Int) × ((List Int) × ((List ByteArray) × (List (List Int)))) × (Bool × Int × (List (List (List Int))) × (List (List (List ByteArray)))) × (List Int) × Unit) → Option ((List Int) × (Unit × ((List ByteArray) × (List (List Int)))) × (Bool × Int × (List (List (List Int))) × (List (List (List ByteArray)))) × (List Int) × Bool)) (a : dens [.v .int, .bx (.mv .int 0), .pr (.pz (.slice .int)) (.pr (.bx (.mp)) (.bx (.mv (.slice .int) 1))), .bx (.v (.ptr (.pair .int (.pair (.slice (.slice (.slice .int))) (.slice (.slice .smap)))))), .bx (.v (.slice .int)), .jk 1]) : impl_netSearch_each_c1_impl_SolutionRelation_c1_body rec a.1 a.2.1 a.2.2.1 a.2.2.2.1 a.2.2.2.2.1 a.2.2.2.2.2 = funK (C_52 rec) Try.f141 [.v .int, .bx (.mv .int 0), .pr (.pz (.slice .int)) (.pr (.bx (.mp)) (.bx (.mv (.slice .int) 1))), .bx (.v (.ptr (.pair .int (.pair (.slice (.slice (.slice .int))) (.slice (.slice .smap)))))), .bx (.v (.slice .int)), .jk 1] [.v .bool] a (fun o r => some (N_52 o r)) := by
 kernel_rfl
theorem W_52 : loopsOf D_52 = [B_52L4, B_52L10] := by kernel_rfl
theorem R_52L10 : firstReg B_52L10 = 10 := by kernel_rfl
theorem R_52L4 : firstReg B_52L4 = 4 := by kernel_rfl
theorem Q_52 : Try.prog.funcs[141]? = some Try.f141 ∧ (Try.f141.name == "runtime.NumGoroutine") = false ∧ Try.f141.body = some D_52 := ⟨Try.func141, by kernel_rfl, by kernel_rfl⟩
theorem H_52 : ∀ d, Holds Try.prog 141 (E_52 d)
 | 0 => fun _ b h => absurd (show (none : Option _) = some b from h) (by simp)
 | d + 1 => holds_of (en := E_52 (d + 1)) (cx := (C_52 (impl_netSearch_each_c1_impl_SolutionRelation_c1 d))) (tabOk_ok tabT rfl).1 (allT_ok ⟨⟨H_51, _, _, Q_51⟩, ⟨⟨H_50, _, _, Q_50⟩, ⟨⟨H_39, _, _, Q_39⟩, ⟨⟨H_52 d, _, _, Q_52⟩, trivial⟩⟩⟩⟩) mixT Q_52.1 Q_52.2.2 (loops_of W_52 ⟨loop_of (cx := (C_52 (impl_netSearch_each_c1_impl_SolutionRelation_c1 d))) (L := S_52L4 (impl_netSearch_each_c1_impl_SolutionRelation_c1 d) fuel) rfl (by rw [R_52L4]; rfl) ⟨impl_netSearch_each_c1_impl_SolutionRelation_c1_L4 (impl_netSearch_each_c1_impl_SolutionRelation_c1 d), fun _ => rfl, fun n x => K_52L4 (impl_netSearch_each_c1_impl_SolutionRelation_c1 d) n x, fuel, fun _ => rfl⟩, ⟨loop_of (cx := (C_52 (impl_netSearch_each_c1_impl_SolutionRelation_c1 d))) (L := S_52L10 (impl_netSearch_each_c1_impl_SolutionRelation_c1 d) fuel) rfl (by rw [R_52L10]; rfl) ⟨impl_netSearch_each_c1_impl_SolutionRelation_c1_L10 (impl_netSearch_each_c1_impl_SolutionRelation_c1 d), fun _ => rfl, fun n x => K_52L10 (impl_netSearch_each_c1_impl_SolutionRelation_c1 d) n x, fuel, fun _ => rfl⟩, trivial⟩⟩) (enc := N_52) (fun _ _ => ⟨rfl, rfl⟩) (F_52 (impl_netSearch_each_c1_impl_SolutionRelation_c1 d)) rfl
theorem F_53 (a : dens [.v (.ptr (.pair .int (.pair (.slice (.slice (.slice .int))) (.slice (.slice .smap))))), .v (.slice .int), .pr (.pz (.slice .int)) (.pr (.bx (.mp)) (.bx (.mv (.slice .int) 1)))]) : E_53.run a = funK C_53 Try.f111 [.v (.ptr (.pair .int (.pair (.slice (.slice (.slice .int))) (.slice (.slice .smap))))), .v (.slice .int), .pr (.pz (.slice .int)) (.pr (.bx (.mp)) (.bx (.mv (.slice .int) 1)))] [] a (fun o r => some (N_53 o r)) := by
 kernel_rfl
theorem W_53 : loopsOf D_53 = [] := by kernel_rfl
theorem Q_53 : Try.prog.funcs[111]? = some Try.f111 ∧ (Try.f111.name == "runtime.NumGoroutine") = false ∧ Try.f111.body = some D_53 := ⟨Try.func111, by kernel_rfl, by kernel_rfl⟩
theorem H_53 : Holds Try.prog 111 E_53 :=
 holds_of (cx := C_53) (tabOk_ok tabT rfl).1 (allT_ok ⟨⟨H_52 fuel, _, _, Q_52⟩, trivial⟩) mixT Q_53.1 Q_53.2.2 (loops_of W_53 trivial) (enc := N_53) (fun _ _ => ⟨rfl, rfl⟩) F_53
theorem F_54 (a : dens [.v (.pair .int (.pair .int (.slice (.pair (.slice .int) (.pair .int (.slice (.slice .int))))))), .pr (.pz (.slice .int)) (.pr (.bx (.mp)) (.bx (.mv (.slice .int) 1)))]) : E_54.run a = funK C_54 Try.f59 [.v (.pair .int (.pair .int (.slice (.pair (.slice .int) (.pair .int (.slice (.slice .int))))))), .pr (.pz (.slice .int)) (.pr (.bx (.mp)) (.bx (.mv (.slice .int) 1)))] [] a (fun o r => some (N_54 o r)) := by
 kernel_rfl
theorem W_54 : loopsOf D_54 = [] := by kernel_rfl
theorem Q_54 : Try.prog.funcs[59]? = some Try.f59 ∧ (Try.f59.name == "runtime.NumGoroutine") = false ∧ Try.f59.body = some D_54 := ⟨Try.func59, by kernel_rfl, by kernel_rfl⟩
theorem H_54 : Holds Try.prog 59 E_54 :=
 holds_of (cx := C_54) (tabOk_ok tabT rfl).1 (allT_ok ⟨⟨H_41, _, _, Q_41⟩, ⟨⟨H_42, _, _, Q_42⟩, ⟨⟨H_53, _, _, Q_53⟩, trivial⟩⟩⟩) mixT Q_54.1 Q_54.2.2 (loops_of W_54 trivial) (enc := N_54) (fun _ _ => ⟨rfl, rfl⟩) F_54
theorem F_55 (a : dens [.v (.pair .int (.pair .int (.slice (.pair (.slice .int) (.pair .int (.slice (.slice .int))))))), .v (.slice .int)]) : E_55.run a = funK C_55 Try.f10 [.v (.pair .int (.pair .int (.slice (.pair (.slice .int) (.pair .int (.slice (.slice .int))))))), .v (.slice .int)] [.pr (.v .int) (.mv (.slice .int) 1), .v .bool] a (fun o r => some (N_55 o r)) := by
 kernel_rfl
theorem W_55 : loopsOf D_55 = [] := by kernel_rfl
theorem Q_55 : Try.prog.funcs[10]? = some Try.f10 ∧ (Try.f10.name == "runtime.NumGoroutine") = false ∧ Try.f10.body = some D_55 := ⟨Try.func10, by kernel_rfl, by kernel_rfl⟩
theorem H_55 : Holds Try.prog 10 E_55 :=
 holds_of (cx := C_55) (tabOk_ok tabT rfl).1 (allT_ok ⟨⟨H_38, _, _, Q_38⟩, ⟨⟨H_34, _, _, Q_34⟩, ⟨⟨H_49, _, _, Q_49⟩, ⟨⟨H_54, _, _, Q_54⟩, trivial⟩⟩⟩⟩) mixT Q_55.1 Q_55.2.2 (loops_of W_55 trivial) (enc := N_55) (fun _ _ => ⟨rfl, rfl⟩) F_55
theorem K_56L4 (n : Nat) (x) : laws_eqIntS_L4 (n + 1) x = roundK C_56 B_56L4 (S_56L4 fuel) x (laws_eqIntS_L4 n) := by
 obtain ⟨_, _, _⟩ := x
 kernel_rfl
theorem F_56 (a : dens [.v (.slice .int), .v (.slice .int)]) : E_56.run a = funK C_56 Try.f13 [.v (.slice .int), .v (.slice .int)] [.v .bool] a (fun o r => some (N_56 o r)) := by
 kernel_rfl
theorem W_56 : loopsOf D_56 = [B_56L4] := by kernel_rfl
theorem R_56L4 : firstReg B_56L4 = 4 := by kernel_rfl
theorem Q_56 : Try.prog.funcs[13]? = some Try.f13 ∧ (Try.f13.name == "runtime.NumGoroutine") = false ∧ Try.f13.body = some D_56 := ⟨Try.func13, by kernel_rfl, by kernel_rfl⟩
theorem H_56 : Holds Try.prog 13 E_56 :=
 holds_of (cx := C_56) (tabOk_ok tabT rfl).1 (allT_ok trivial) mixT Q_56.1 Q_56.2.2 (loops_of W_56 ⟨loop_of (cx := C_56) (L := S_56L4 fuel) rfl (by rw [R_56L4]; rfl) ⟨laws_eqIntS_L4, fun _ => rfl, fun n x => K_56L4 n x, fuel, fun _ => rfl⟩, trivial⟩) (enc := N_56) (fun _ _ => ⟨rfl, rfl⟩) F_56
theorem K_57L4 (n : Nat) (x) : laws_eqIntSS_L4 (n + 1) x = roundK C_57 B_57L4 (S_57L4 fuel) x (laws_eqIntSS_L4 n) := by
 obtain ⟨_, _, _⟩ := x
 kernel_rfl
theorem F_57 (a : dens [.v (.slice (.slice .int)), .v (.slice (.slice .int))]) : E_57.run a = funK C_57 Try.f64 [.v (.slice (.slice .int)), .v (.slice (.slice .int))] [.v .bool] a (fun o r => some (N_57 o r)) := by
 kernel_rfl
theorem W_57 : loopsOf D_57 = [B_57L4] := by kernel_rfl
theorem R_57L4 : firstReg B_57L4 = 4 := by kernel_rfl
theorem Q_57 : Try.prog.funcs[64]? = some Try.f64 ∧ (Try.f64.name == "runtime.NumGoroutine") = false ∧ Try.f64.body = some D_57 := ⟨Try.func64, by kernel_rfl, by kernel_rfl⟩
theorem H_57 : Holds Try.prog 64 E_57 :=
 holds_of (cx := C_57) (tabOk_ok tabT rfl).1 (allT_ok ⟨⟨H_56, _, _, Q_56⟩, trivial⟩) mixT Q_57.1 Q_57.2.2 (loops_of W_57 ⟨loop_of (cx := C_57) (L := S_57L4 fuel) rfl (by rw [R_57L4]; rfl) ⟨laws_eqIntSS_L4, fun _ => rfl, fun n x => K_57L4 n x, fuel, fun _ => rfl⟩, trivial⟩) (enc := N_57) (fun _ _ => ⟨rfl, rfl⟩) F_57
theorem F_58 (a : dens [.v (.pair .int (.slice (.slice .int))), .v (.pair .int (.slice (.slice .int)))]) : E_58.run a = funK C_58 Try.f11 [.v (.pair .int (.slice (.slice .int))), .v (.pair .int (.slice (.slice .int)))] [.v .bool] a (fun o r => some (N_58 o r)) := by
 kernel_rfl
theorem W_58 : loopsOf D_58 = [] := by kernel_rfl
theorem Q_58 : Try.prog.funcs[11]? = some Try.f11 ∧ (Try.f11.name == "runtime.NumGoroutine") = false ∧ Try.f11.body = some D_58 := ⟨Try.func11, by kernel_rfl, by kernel_rfl⟩
theorem H_58 : Holds Try.prog 11 E_58 :=
 holds_of (cx := C_58) (tabOk_ok tabT rfl).1 (allT_ok ⟨⟨H_57, _, _, Q_57⟩, trivial⟩) mixT Q_58.1 Q_58.2.2 (loops_of W_58 trivial) (enc := N_58) (fun _ _ => ⟨rfl, rfl⟩) F_58
theorem F_59 (a : dens [.v (.pair (.slice .int) (.pair .int (.slice (.slice .int)))), .v (.pair (.slice .int) (.pair .int (.slice (.slice .int))))]) : E_59.run a = funK C_59 Try.f115 [.v (.pair (.slice .int) (.pair .int (.slice (.slice .int)))), .v (.pair (.slice .int) (.pair .int (.slice (.slice .int))))] [.v .bool] a (fun o r => some (N_59 o r)) := by
 kernel_rfl
theorem W_59 : loopsOf D_59 = [] := by kernel_rfl
theorem Q_59 : Try.prog.funcs[115]? = some Try.f115 ∧ (Try.f115.name == "runtime.NumGoroutine") = false ∧ Try.f115.body = some D_59 := ⟨Try.func115, by kernel_rfl, by kernel_rfl⟩
theorem H_59 : Holds Try.prog 115 E_59 :=
 holds_of (cx := C_59) (tabOk_ok tabT rfl).1 (allT_ok ⟨⟨H_58, _, _, Q_58⟩, ⟨⟨H_56, _, _, Q_56⟩, trivial⟩⟩) mixT Q_59.1 Q_59.2.2 (loops_of W_59 trivial) (enc := N_59) (fun _ _ => ⟨rfl, rfl⟩) F_59
theorem K_60L4 (n : Nat) (x) : laws_eqConstraintS_L4 (n + 1) x = roundK C_60 B_60L4 (S_60L4 fuel) x (laws_eqConstraintS_L4 n) := by
 obtain ⟨_, _, _⟩ := x
 kernel_rfl
theorem F_60 (a : dens [.v (.slice (.pair (.slice .int) (.pair .int (.slice (.slice .int))))), .v (.slice (.pair (.slice .int) (.pair .int (.slice (.slice .int)))))]) : E_60.run a = funK C_60 Try.f65 [.v (.slice (.pair (.slice .int) (.pair .int (.slice (.slice .int))))), .v (.slice (.pair (.slice .int) (.pair .int (.slice (.slice .int)))))] [.v .bool] a (fun o r => some (N_60 o r)) := by
 kernel_rfl
theorem W_60 : loopsOf D_60 = [B_60L4] := by kernel_rfl
theorem R_60L4 : firstReg B_60L4 = 4 := by kernel_rfl
theorem Q_60 : Try.prog.funcs[65]? = some Try.f65 ∧ (Try.f65.name == "runtime.NumGoroutine") = false ∧ Try.f65.body = some D_60 := ⟨Try.func65, by kernel_rfl, by kernel_rfl⟩
theorem H_60 : Holds Try.prog 65 E_60 :=
 holds_of (cx := C_60) (tabOk_ok tabT rfl).1 (allT_ok ⟨⟨H_59, _, _, Q_59⟩, trivial⟩) mixT Q_60.1 Q_60.2.2 (loops_of W_60 ⟨loop_of (cx := C_60) (L := S_60L4 fuel) rfl (by rw [R_60L4]; rfl) ⟨laws_eqConstraintS_L4, fun _ => rfl, fun n x => K_60L4 n x, fuel, fun _ => rfl⟩, trivial⟩) (enc := N_60) (fun _ _ => ⟨rfl, rfl⟩) F_60
theorem F_61 (a : dens [.v (.pair .int (.pair .int (.slice (.pair (.slice .int) (.pair .int (.slice (.slice .int))))))), .v (.pair .int (.pair .int (.slice (.pair (.slice .int) (.pair .int (.slice (.slice .int)))))))]) : E_61.run a = funK C_61 Try.f12 [.v (.pair .int (.pair .int (.slice (.pair (.slice .int) (.pair .int (.slice (.slice .int))))))), .v (.pair .int (.pair .int (.slice (.pair (.slice .int) (.pair .int (.slice (.slice .int)))))))] [.v .bool] a (fun o r => some (N_61 o r)) := by
 kernel_rfl
theorem W_61 : loopsOf D_61 = [] := by kernel_rfl
theorem Q_61 : Try.prog.funcs[12]? = some Try.f12 ∧ (Try.f12.name == "runtime.NumGoroutine") = false ∧ Try.f12.body = some D_61 := ⟨Try.func12, by kernel_rfl, by kernel_rfl⟩
theorem H_61 : Holds Try.prog 12 E_61 :=
 holds_of (cx := C_61) (tabOk_ok tabT rfl).1 (allT_ok ⟨⟨H_60, _, _, Q_60⟩, trivial⟩) mixT Q_61.1 Q_61.2.2 (loops_of W_61 trivial) (enc := N_61) (fun _ _ => ⟨rfl, rfl⟩) F_61
theorem K_62L2 (n : Nat) (x) : laws_markIntS_L2 (n + 1) x = roundK C_62 B_62L2 (S_62L2 fuel) x (laws_markIntS_L2 n) := by
 obtain ⟨_, _, _⟩ := x
 kernel_rfl
theorem F_62 (a : dens [.io .int 0, .v .int]) : E_62.run a = funK C_62 Try.f15 [.io .int 0, .v .int] [.v .int] a (fun o r => some (N_62 o r)) := by
 kernel_rfl
theorem W_62 : loopsOf D_62 = [B_62L2] := by kernel_rfl
theorem R_62L2 : firstReg B_62L2 = 2 := by kernel_rfl
theorem Q_62 : Try.prog.funcs[15]? = some Try.f15 ∧ (Try.f15.name == "runtime.NumGoroutine") = false ∧ Try.f15.body = some D_62 := ⟨Try.func15, by kernel_rfl, by kernel_rfl⟩
theorem H_62 : Holds Try.prog 15 E_62 :=
 holds_of (cx := C_62) (tabOk_ok tabT rfl).1 (allT_ok trivial) mixT Q_62.1 Q_62.2.2 (loops_of W_62 ⟨loop_of (cx := C_62) (L := S_62L2 fuel) rfl (by rw [R_62L2]; rfl) ⟨laws_markIntS_L2, fun _ => rfl, fun n x => K_62L2 n x, fuel, fun _ => rfl⟩, trivial⟩) (enc := N_62) (fun _ _ => ⟨rfl, rfl⟩) F_62
theorem K_63L2 (n : Nat) (x) : laws_markIntSS_L2 (n + 1) x = roundK C_63 B_63L2 (S_63L2 fuel) x (laws_markIntSS_L2 n) := by
 obtain ⟨_, _, _⟩ := x
 kernel_rfl
theorem F_63 (a : dens [.io (.slice .int) 1, .v .int]) : E_63.run a = funK C_63 Try.f67 [.io (.slice .int) 1, .v .int] [.v .int] a (fun o r => some (N_63 o r)) := by
 kernel_rfl
theorem W_63 : loopsOf D_63 = [B_63L2] := by kernel_rfl
theorem R_63L2 : firstReg B_63L2 = 2 := by kernel_rfl
theorem Q_63 : Try.prog.funcs[67]? = some Try.f67 ∧ (Try.f67.name == "runtime.NumGoroutine") = false ∧ Try.f67.body = some D_63 := ⟨Try.func67, by kernel_rfl, by kernel_rfl⟩
theorem H_63 : Holds Try.prog 67 E_63 :=
 holds_of (cx := C_63) (tabOk_ok tabT rfl).1 (allT_ok ⟨⟨H_62, _, _, Q_62⟩, trivial⟩) mixT Q_63.1 Q_63.2.2 (loops_of W_63 ⟨loop_of (cx := C_63) (L := S_63L2 fuel) rfl (by rw [R_63L2]; rfl) ⟨laws_markIntSS_L2, fun _ => rfl, fun n x => K_63L2 n x, fuel, fun _ => rfl⟩, trivial⟩) (enc := N_63) (fun _ _ => ⟨rfl, rfl⟩) F_63
theorem K_64L2 (n : Nat) (x) : laws_markConstraintS_L2 (n + 1) x = roundK C_64 B_64L2 (S_64L2 fuel) x (laws_markConstraintS_L2 n) := by
 obtain ⟨_, _, _⟩ := x
 kernel_rfl
theorem F_64 (a : dens [.io (.pair (.slice .int) (.pair .int (.slice (.slice .int)))) 2, .v .int]) : E_64.run a = funK C_64 Try.f66 [.io (.pair (.slice .int) (.pair .int (.slice (.slice .int)))) 2, .v .int] [.v .int] a (fun o r => some (N_64 o r)) := by
 kernel_rfl
theorem W_64 : loopsOf D_64 = [B_64L2] := by kernel_rfl
theorem R_64L2 : firstReg B_64L2 = 2 := by kernel_rfl
theorem Q_64 : Try.prog.funcs[66]? = some Try.f66 ∧ (Try.f66.name == "runtime.NumGoroutine") = false ∧ Try.f66.body = some D_64 := ⟨Try.func66, by kernel_rfl, by kernel_rfl⟩
theorem H_64 : Holds Try.prog 66 E_64 :=
 holds_of (cx := C_64) (tabOk_ok tabT rfl).1 (allT_ok ⟨⟨H_62, _, _, Q_62⟩, ⟨⟨H_63, _, _, Q_63⟩, trivial⟩⟩) mixT Q_64.1 Q_64.2.2 (loops_of W_64 ⟨loop_of (cx := C_64) (L := S_64L2 fuel) rfl (by rw [R_64L2]; rfl) ⟨laws_markConstraintS_L2, fun _ => rfl, fun n x => K_64L2 n x, fuel, fun _ => rfl⟩, trivial⟩) (enc := N_64) (fun _ _ => ⟨rfl, rfl⟩) F_64
theorem F_65 (a : dens [.pr (.v .int) (.pr (.v .int) (.io (.pair (.slice .int) (.pair .int (.slice (.slice .int)))) 2)), .v .int]) : E_65.run a = funK C_65 Try.f14 [.pr (.v .int) (.pr (.v .int) (.io (.pair (.slice .int) (.pair .int (.slice (.slice .int)))) 2)), .v .int] [.v .int] a (fun o r => some (N_65 o r)) := by
 kernel_rfl
theorem W_65 : loopsOf D_65 = [] := by kernel_rfl
theorem Q_65 : Try.prog.funcs[14]? = some Try.f14 ∧ (Try.f14.name == "runtime.NumGoroutine") = false ∧ Try.f14.body = some D_65 := ⟨Try.func14, by kernel_rfl, by kernel_rfl⟩
theorem H_65 : Holds Try.prog 14 E_65 :=
 holds_of (cx := C_65) (tabOk_ok tabT rfl).1 (allT_ok ⟨⟨H_64, _, _, Q_64⟩, trivial⟩) mixT Q_65.1 Q_65.2.2 (loops_of W_65 trivial) (enc := N_65) (fun _ _ => ⟨rfl, rfl⟩) F_65
theorem F_66 (a : dens [.pr (.v .int) (.io (.slice .int) 1), .v .int]) : E_66.run a = funK C_66 Try.f16 [.pr (.v .int) (.io (.slice .int) 1), .v .int] [.v .int] a (fun o r => some (N_66 o r)) := by
 kernel_rfl
theorem W_66 : loopsOf D_66 = [] := by kernel_rfl
theorem Q_66 : Try.prog.funcs[16]? = some Try.f16 ∧ (Try.f16.name == "runtime.NumGoroutine") = false ∧ Try.f16.body = some D_66 := ⟨Try.func16, by kernel_rfl, by kernel_rfl⟩
theorem H_66 : Holds Try.prog 16 E_66 :=
 holds_of (cx := C_66) (tabOk_ok tabT rfl).1 (allT_ok ⟨⟨H_63, _, _, Q_63⟩, trivial⟩) mixT Q_66.1 Q_66.2.2 (loops_of W_66 trivial) (enc := N_66) (fun _ _ => ⟨rfl, rfl⟩) F_66
theorem K_67L2 (n : Nat) (x) : laws_heldIntS_L2 (n + 1) x = roundK C_67 B_67L2 (S_67L2 fuel) x (laws_heldIntS_L2 n) := by
 obtain ⟨_, _, _⟩ := x
 kernel_rfl
theorem F_67 (a : dens [.v (.slice .int), .v .int]) : E_67.run a = funK C_67 Try.f116 [.v (.slice .int), .v .int] [.v .int] a (fun o r => some (N_67 o r)) := by
 kernel_rfl
theorem W_67 : loopsOf D_67 = [B_67L2] := by kernel_rfl
theorem R_67L2 : firstReg B_67L2 = 2 := by kernel_rfl
theorem Q_67 : Try.prog.funcs[116]? = some Try.f116 ∧ (Try.f116.name == "runtime.NumGoroutine") = false ∧ Try.f116.body = some D_67 := ⟨Try.func116, by kernel_rfl, by kernel_rfl⟩
theorem H_67 : Holds Try.prog 116 E_67 :=
 holds_of (cx := C_67) (tabOk_ok tabT rfl).1 (allT_ok trivial) mixT Q_67.1 Q_67.2.2 (loops_of W_67 ⟨loop_of (cx := C_67) (L := S_67L2 fuel) rfl (by rw [R_67L2]; rfl) ⟨laws_heldIntS_L2, fun _ => rfl, fun n x => K_67L2 n x, fuel, fun _ => rfl⟩, trivial⟩) (enc := N_67) (fun _ _ => ⟨rfl, rfl⟩) F_67
theorem K_68L2 (n : Nat) (x) : laws_heldIntSS_L2 (n + 1) x = roundK C_68 B_68L2 (S_68L2 fuel) x (laws_heldIntSS_L2 n) := by
 obtain ⟨_, _, _⟩ := x
 kernel_rfl
theorem F_68 (a : dens [.v (.slice (.slice .int)), .v .int]) : E_68.run a = funK C_68 Try.f68 [.v (.slice (.slice .int)), .v .int] [.v .int] a (fun o r => some (N_68 o r)) := by
 kernel_rfl
theorem W_68 : loopsOf D_68 = [B_68L2] := by kernel_rfl
theorem R_68L2 : firstReg B_68L2 = 2 := by kernel_rfl
theorem Q_68 : Try.prog.funcs[68]? = some Try.f68 ∧ (Try.f68.name == "runtime.NumGoroutine") = false ∧ Try.f68.body = some D_68 := ⟨Try.func68, by kernel_rfl, by kernel_rfl⟩
theorem H_68 : Holds Try.prog 68 E_68 :=
 holds_of (cx := C_68) (tabOk_ok tabT rfl).1 (allT_ok ⟨⟨H_67, _, _, Q_67⟩, trivial⟩) mixT Q_68.1 Q_68.2.2 (loops_of W_68 ⟨loop_of (cx := C_68) (L := S_68L2 fuel) rfl (by rw [R_68L2]; rfl) ⟨laws_heldIntSS_L2, fun _ => rfl, fun n x => K_68L2 n x, fuel, fun _ => rfl⟩, trivial⟩) (enc := N_68) (fun _ _ => ⟨rfl, rfl⟩) F_68
theorem F_69 (a : dens [.v (.pair .int (.slice (.slice .int))), .v .int]) : E_69.run a = funK C_69 Try.f17 [.v (.pair .int (.slice (.slice .int))), .v .int] [.v .int] a (fun o r => some (N_69 o r)) := by
 kernel_rfl
theorem W_69 : loopsOf D_69 = [] := by kernel_rfl
theorem Q_69 : Try.prog.funcs[17]? = some Try.f17 ∧ (Try.f17.name == "runtime.NumGoroutine") = false ∧ Try.f17.body = some D_69 := ⟨Try.func17, by kernel_rfl, by kernel_rfl⟩
theorem H_69 : Holds Try.prog 17 E_69 :=
 holds_of (cx := C_69) (tabOk_ok tabT rfl).1 (allT_ok ⟨⟨H_68, _, _, Q_68⟩, trivial⟩) mixT Q_69.1 Q_69.2.2 (loops_of W_69 trivial) (enc := N_69) (fun _ _ => ⟨rfl, rfl⟩) F_69
theorem F_70 (a : dens [.v (.pair .int (.pair .int (.slice (.pair (.slice .int) (.pair .int (.slice (.slice .int))))))), .v (.slice .int)]) : E_70.run a = funK C_70 Try.f3 [.v (.pair .int (.pair .int (.slice (.pair (.slice .int) (.pair .int (.slice (.slice .int))))))), .v (.slice .int)] [.v .bool] a (fun o r => some (N_70 o r)) := by
 kernel_rfl
theorem W_70 : loopsOf D_70 = [] := by kernel_rfl
theorem Q_70 : Try.prog.funcs[3]? = some Try.f3 ∧ (Try.f3.name == "runtime.NumGoroutine") = false ∧ Try.f3.body = some D_70 := ⟨Try.func3, by kernel_rfl, by kernel_rfl⟩
theorem H_70 : Holds Try.prog 3 E_70 :=
 holds_of (cx := C_70) (tabOk_ok tabT rfl).1 (allT_ok ⟨⟨H_6, _, _, Q_6⟩, ⟨⟨H_32, _, _, Q_32⟩, ⟨⟨H_12, _, _, Q_12⟩, ⟨⟨H_7, _, _, Q_7⟩, ⟨⟨H_55, _, _, Q_55⟩, ⟨⟨H_58, _, _, Q_58⟩, ⟨⟨H_61, _, _, Q_61⟩, ⟨⟨H_56, _, _, Q_56⟩, ⟨⟨H_65, _, _, Q_65⟩, ⟨⟨H_62, _, _, Q_62⟩, ⟨⟨H_66, _, _, Q_66⟩, ⟨⟨H_69, _, _, Q_69⟩, trivial⟩⟩⟩⟩⟩⟩⟩⟩⟩⟩⟩⟩) mixT Q_70.1 Q_70.2.2 (loops_of W_70 trivial) (enc := N_70) (fun _ _ => ⟨rfl, rfl⟩) F_70
end T
