/- Each typed function is what the program computes; no conditions. -/
import Derived.Test.YtcdjlpcapanibabSFnExactBinaryPart
import Derived.Test.YtcdjlpcapanibabCFnExactBinaryPart
set_option linter.all false
set_option maxRecDepth 10000
open Go Go.Va Go.Proofs
namespace T
theorem F_1 (a : dens [.v (.slice .int), .v .int]) : E_1.run a = funK C_1 Try.f38 [.v (.slice .int), .v .int] [.v .int] a (fun o r => some (N_1 o r)) := by
 kernel_rfl
theorem W_1 : loopsOf D_1 = [] := by kernel_rfl
theorem Q_1 : Try.prog.funcs[38]? = some Try.f38 ∧ (Try.f38.name == "runtime.NumGoroutine") = false ∧ Try.f38.body = some D_1 := ⟨Try.func38, by kernel_rfl, by kernel_rfl⟩
theorem H_1 : Holds Try.prog 38 E_1 :=
 holds_of (cx := C_1) (tabOk_ok tabT rfl).1 (allT_ok trivial) mixT Q_1.1 Q_1.2.2 (loops_of W_1 trivial) (enc := N_1) (fun _ _ => ⟨rfl, rfl⟩) F_1
theorem K_2L5 (n : Nat) (x) : laws_szIntSS_L5 (n + 1) x = roundK C_2 B_2L5 (S_2L5 fuel) x (laws_szIntSS_L5 n) := by
 obtain ⟨_, _, _⟩ := x
 kernel_rfl
theorem F_2 (a : dens [.v (.slice (.slice .int)), .v .int]) : E_2.run a = funK C_2 Try.f100 [.v (.slice (.slice .int)), .v .int] [.v .int] a (fun o r => some (N_2 o r)) := by
 kernel_rfl
theorem W_2 : loopsOf D_2 = [B_2L5] := by kernel_rfl
theorem R_2L5 : firstReg B_2L5 = 5 := by kernel_rfl
theorem Q_2 : Try.prog.funcs[100]? = some Try.f100 ∧ (Try.f100.name == "runtime.NumGoroutine") = false ∧ Try.f100.body = some D_2 := ⟨Try.func100, by kernel_rfl, by kernel_rfl⟩
theorem H_2 : Holds Try.prog 100 E_2 :=
 holds_of (cx := C_2) (tabOk_ok tabT rfl).1 (allT_ok ⟨⟨H_1, _, _, Q_1⟩, trivial⟩) mixT Q_2.1 Q_2.2.2 (loops_of W_2 ⟨loop_of (cx := C_2) (L := S_2L5 fuel) rfl (by rw [R_2L5]; rfl) ⟨laws_szIntSS_L5, fun _ => rfl, fun n x => K_2L5 n x, fuel, fun _ => rfl⟩, trivial⟩) (enc := N_2) (fun _ _ => ⟨rfl, rfl⟩) F_2
theorem F_3 (a : dens [.v (.pair .int (.slice (.slice .int))), .v .int]) : E_3.run a = funK C_3 Try.f87 [.v (.pair .int (.slice (.slice .int))), .v .int] [.v .int] a (fun o r => some (N_3 o r)) := by
 kernel_rfl
theorem W_3 : loopsOf D_3 = [] := by kernel_rfl
theorem Q_3 : Try.prog.funcs[87]? = some Try.f87 ∧ (Try.f87.name == "runtime.NumGoroutine") = false ∧ Try.f87.body = some D_3 := ⟨Try.func87, by kernel_rfl, by kernel_rfl⟩
theorem H_3 : Holds Try.prog 87 E_3 :=
 holds_of (cx := C_3) (tabOk_ok tabT rfl).1 (allT_ok ⟨⟨H_2, _, _, Q_2⟩, trivial⟩) mixT Q_3.1 Q_3.2.2 (loops_of W_3 trivial) (enc := N_3) (fun _ _ => ⟨rfl, rfl⟩) F_3
theorem F_4 (a : dens [.v (.pair (.slice .int) (.pair .int (.slice (.slice .int)))), .v .int]) : E_4.run a = funK C_4 Try.f67 [.v (.pair (.slice .int) (.pair .int (.slice (.slice .int)))), .v .int] [.v .int] a (fun o r => some (N_4 o r)) := by
 kernel_rfl
theorem W_4 : loopsOf D_4 = [] := by kernel_rfl
theorem Q_4 : Try.prog.funcs[67]? = some Try.f67 ∧ (Try.f67.name == "runtime.NumGoroutine") = false ∧ Try.f67.body = some D_4 := ⟨Try.func67, by kernel_rfl, by kernel_rfl⟩
theorem H_4 : Holds Try.prog 67 E_4 :=
 holds_of (cx := C_4) (tabOk_ok tabT rfl).1 (allT_ok ⟨⟨H_1, _, _, Q_1⟩, ⟨⟨H_3, _, _, Q_3⟩, trivial⟩⟩) mixT Q_4.1 Q_4.2.2 (loops_of W_4 trivial) (enc := N_4) (fun _ _ => ⟨rfl, rfl⟩) F_4
theorem K_5L5 (n : Nat) (x) : laws_szConstraintS_L5 (n + 1) x = roundK C_5 B_5L5 (S_5L5 fuel) x (laws_szConstraintS_L5 n) := by
 obtain ⟨_, _, _⟩ := x
 kernel_rfl
theorem F_5 (a : dens [.v (.slice (.pair (.slice .int) (.pair .int (.slice (.slice .int))))), .v .int]) : E_5.run a = funK C_5 Try.f30 [.v (.slice (.pair (.slice .int) (.pair .int (.slice (.slice .int))))), .v .int] [.v .int] a (fun o r => some (N_5 o r)) := by
 kernel_rfl
theorem W_5 : loopsOf D_5 = [B_5L5] := by kernel_rfl
theorem R_5L5 : firstReg B_5L5 = 5 := by kernel_rfl
theorem Q_5 : Try.prog.funcs[30]? = some Try.f30 ∧ (Try.f30.name == "runtime.NumGoroutine") = false ∧ Try.f30.body = some D_5 := ⟨Try.func30, by kernel_rfl, by kernel_rfl⟩
theorem H_5 : Holds Try.prog 30 E_5 :=
 holds_of (cx := C_5) (tabOk_ok tabT rfl).1 (allT_ok ⟨⟨H_4, _, _, Q_4⟩, trivial⟩) mixT Q_5.1 Q_5.2.2 (loops_of W_5 ⟨loop_of (cx := C_5) (L := S_5L5 fuel) rfl (by rw [R_5L5]; rfl) ⟨laws_szConstraintS_L5, fun _ => rfl, fun n x => K_5L5 n x, fuel, fun _ => rfl⟩, trivial⟩) (enc := N_5) (fun _ _ => ⟨rfl, rfl⟩) F_5
theorem F_6 (a : dens [.v (.pair .int (.pair .int (.slice (.pair (.slice .int) (.pair .int (.slice (.slice .int))))))), .v .int]) : E_6.run a = funK C_6 Try.f7 [.v (.pair .int (.pair .int (.slice (.pair (.slice .int) (.pair .int (.slice (.slice .int))))))), .v .int] [.v .int] a (fun o r => some (N_6 o r)) := by
 kernel_rfl
theorem W_6 : loopsOf D_6 = [] := by kernel_rfl
theorem Q_6 : Try.prog.funcs[7]? = some Try.f7 ∧ (Try.f7.name == "runtime.NumGoroutine") = false ∧ Try.f7.body = some D_6 := ⟨Try.func7, by kernel_rfl, by kernel_rfl⟩
theorem H_6 : Holds Try.prog 7 E_6 :=
 holds_of (cx := C_6) (tabOk_ok tabT rfl).1 (allT_ok ⟨⟨H_5, _, _, Q_5⟩, trivial⟩) mixT Q_6.1 Q_6.2.2 (loops_of W_6 trivial) (enc := N_6) (fun _ _ => ⟨rfl, rfl⟩) F_6
theorem K_7L3 (n : Nat) (x) : laws_toIntS_L3 (n + 1) x = roundK C_7 B_7L3 (S_7L3 fuel) x (laws_toIntS_L3 n) := by
 obtain ⟨_, _, _⟩ := x
 kernel_rfl
theorem F_7 (a : dens [.v (.slice .int)]) : E_7.run a = funK C_7 Try.f23 [.v (.slice .int)] [.mv .int 0] a (fun o r => some (N_7 o r)) := by
 kernel_rfl
theorem W_7 : loopsOf D_7 = [B_7L3] := by kernel_rfl
theorem R_7L3 : firstReg B_7L3 = 3 := by kernel_rfl
theorem Q_7 : Try.prog.funcs[23]? = some Try.f23 ∧ (Try.f23.name == "runtime.NumGoroutine") = false ∧ Try.f23.body = some D_7 := ⟨Try.func23, by kernel_rfl, by kernel_rfl⟩
theorem H_7 : Holds Try.prog 23 E_7 :=
 holds_of (cx := C_7) (tabOk_ok tabT rfl).1 (allT_ok trivial) mixT Q_7.1 Q_7.2.2 (loops_of W_7 ⟨loop_of (cx := C_7) (L := S_7L3 fuel) rfl (by rw [R_7L3]; rfl) ⟨laws_toIntS_L3, fun _ => rfl, fun n x => K_7L3 n x, fuel, fun _ => rfl⟩, trivial⟩) (enc := N_7) (fun _ _ => ⟨rfl, rfl⟩) F_7
theorem K_8L3 (n : Nat) (x) : laws_toIntSS_L3 (n + 1) x = roundK C_8 B_8L3 (S_8L3 fuel) x (laws_toIntSS_L3 n) := by
 obtain ⟨_, _, _⟩ := x
 kernel_rfl
theorem F_8 (a : dens [.v (.slice (.slice .int))]) : E_8.run a = funK C_8 Try.f101 [.v (.slice (.slice .int))] [.mv (.slice .int) 1] a (fun o r => some (N_8 o r)) := by
 kernel_rfl
theorem W_8 : loopsOf D_8 = [B_8L3] := by kernel_rfl
theorem R_8L3 : firstReg B_8L3 = 3 := by kernel_rfl
theorem Q_8 : Try.prog.funcs[101]? = some Try.f101 ∧ (Try.f101.name == "runtime.NumGoroutine") = false ∧ Try.f101.body = some D_8 := ⟨Try.func101, by kernel_rfl, by kernel_rfl⟩
theorem H_8 : Holds Try.prog 101 E_8 :=
 holds_of (cx := C_8) (tabOk_ok tabT rfl).1 (allT_ok ⟨⟨H_7, _, _, Q_7⟩, trivial⟩) mixT Q_8.1 Q_8.2.2 (loops_of W_8 ⟨loop_of (cx := C_8) (L := S_8L3 fuel) rfl (by rw [R_8L3]; rfl) ⟨laws_toIntSS_L3, fun _ => rfl, fun n x => K_8L3 n x, fuel, fun _ => rfl⟩, trivial⟩) (enc := N_8) (fun _ _ => ⟨rfl, rfl⟩) F_8
theorem F_9 (a : dens [.v (.pair .int (.slice (.slice .int)))]) : E_9.run a = funK C_9 Try.f88 [.v (.pair .int (.slice (.slice .int)))] [.pr (.v .int) (.mv (.slice .int) 1)] a (fun o r => some (N_9 o r)) := by
 kernel_rfl
theorem W_9 : loopsOf D_9 = [] := by kernel_rfl
theorem Q_9 : Try.prog.funcs[88]? = some Try.f88 ∧ (Try.f88.name == "runtime.NumGoroutine") = false ∧ Try.f88.body = some D_9 := ⟨Try.func88, by kernel_rfl, by kernel_rfl⟩
theorem H_9 : Holds Try.prog 88 E_9 :=
 holds_of (cx := C_9) (tabOk_ok tabT rfl).1 (allT_ok ⟨⟨H_8, _, _, Q_8⟩, trivial⟩) mixT Q_9.1 Q_9.2.2 (loops_of W_9 trivial) (enc := N_9) (fun _ _ => ⟨rfl, rfl⟩) F_9
theorem F_10 (a : dens [.v (.pair (.slice .int) (.pair .int (.slice (.slice .int))))]) : E_10.run a = funK C_10 Try.f68 [.v (.pair (.slice .int) (.pair .int (.slice (.slice .int))))] [.pr (.mv .int 0) (.pr (.v .int) (.mv (.slice .int) 1))] a (fun o r => some (N_10 o r)) := by
 kernel_rfl
theorem W_10 : loopsOf D_10 = [] := by kernel_rfl
theorem Q_10 : Try.prog.funcs[68]? = some Try.f68 ∧ (Try.f68.name == "runtime.NumGoroutine") = false ∧ Try.f68.body = some D_10 := ⟨Try.func68, by kernel_rfl, by kernel_rfl⟩
theorem H_10 : Holds Try.prog 68 E_10 :=
 holds_of (cx := C_10) (tabOk_ok tabT rfl).1 (allT_ok ⟨⟨H_7, _, _, Q_7⟩, ⟨⟨H_9, _, _, Q_9⟩, trivial⟩⟩) mixT Q_10.1 Q_10.2.2 (loops_of W_10 trivial) (enc := N_10) (fun _ _ => ⟨rfl, rfl⟩) F_10
theorem K_11L3 (n : Nat) (x) : laws_toConstraintS_L3 (n + 1) x = roundK C_11 B_11L3 (S_11L3 fuel) x (laws_toConstraintS_L3 n) := by
 obtain ⟨_, _, _⟩ := x
 kernel_rfl
theorem F_11 (a : dens [.v (.slice (.pair (.slice .int) (.pair .int (.slice (.slice .int)))))]) : E_11.run a = funK C_11 Try.f33 [.v (.slice (.pair (.slice .int) (.pair .int (.slice (.slice .int)))))] [.mv (.pair (.slice .int) (.pair .int (.slice (.slice .int)))) 2] a (fun o r => some (N_11 o r)) := by
 kernel_rfl
theorem W_11 : loopsOf D_11 = [B_11L3] := by kernel_rfl
theorem R_11L3 : firstReg B_11L3 = 3 := by kernel_rfl
theorem Q_11 : Try.prog.funcs[33]? = some Try.f33 ∧ (Try.f33.name == "runtime.NumGoroutine") = false ∧ Try.f33.body = some D_11 := ⟨Try.func33, by kernel_rfl, by kernel_rfl⟩
theorem H_11 : Holds Try.prog 33 E_11 :=
 holds_of (cx := C_11) (tabOk_ok tabT rfl).1 (allT_ok ⟨⟨H_10, _, _, Q_10⟩, trivial⟩) mixT Q_11.1 Q_11.2.2 (loops_of W_11 ⟨loop_of (cx := C_11) (L := S_11L3 fuel) rfl (by rw [R_11L3]; rfl) ⟨laws_toConstraintS_L3, fun _ => rfl, fun n x => K_11L3 n x, fuel, fun _ => rfl⟩, trivial⟩) (enc := N_11) (fun _ _ => ⟨rfl, rfl⟩) F_11
theorem F_12 (a : dens [.v (.pair .int (.pair .int (.slice (.pair (.slice .int) (.pair .int (.slice (.slice .int)))))))]) : E_12.run a = funK C_12 Try.f9 [.v (.pair .int (.pair .int (.slice (.pair (.slice .int) (.pair .int (.slice (.slice .int)))))))] [.pr (.v .int) (.pr (.v .int) (.mv (.pair (.slice .int) (.pair .int (.slice (.slice .int)))) 2))] a (fun o r => some (N_12 o r)) := by
 kernel_rfl
theorem W_12 : loopsOf D_12 = [] := by kernel_rfl
theorem Q_12 : Try.prog.funcs[9]? = some Try.f9 ∧ (Try.f9.name == "runtime.NumGoroutine") = false ∧ Try.f9.body = some D_12 := ⟨Try.func9, by kernel_rfl, by kernel_rfl⟩
theorem H_12 : Holds Try.prog 9 E_12 :=
 holds_of (cx := C_12) (tabOk_ok tabT rfl).1 (allT_ok ⟨⟨H_11, _, _, Q_11⟩, trivial⟩) mixT Q_12.1 Q_12.2.2 (loops_of W_12 trivial) (enc := N_12) (fun _ _ => ⟨rfl, rfl⟩) F_12
theorem F_13 (a : dens [.v .int, .v .int, .v .int]) : E_13.run a = funK C_13 Try.f53 [.v .int, .v .int, .v .int] [.v .bool] a (fun o r => some (N_13 o r)) := by
 kernel_rfl
theorem W_13 : loopsOf D_13 = [] := by kernel_rfl
theorem Q_13 : Try.prog.funcs[53]? = some Try.f53 ∧ (Try.f53.name == "runtime.NumGoroutine") = false ∧ Try.f53.body = some D_13 := ⟨Try.func53, by kernel_rfl, by kernel_rfl⟩
theorem H_13 : Holds Try.prog 53 E_13 :=
 holds_of (cx := C_13) (tabOk_ok tabT rfl).1 (allT_ok trivial) mixT Q_13.1 Q_13.2.2 (loops_of W_13 trivial) (enc := N_13) (fun _ _ => ⟨rfl, rfl⟩) F_13
theorem K_14L2 (n : Nat) (x) : spec_l2Pow_L2 (n + 1) x = roundK C_14 B_14L2 (S_14L2 fuel) x (spec_l2Pow_L2 n) := by
 obtain ⟨_, _, _⟩ := x
 kernel_rfl
theorem F_14 (a : dens [.v .int, .v .int]) : E_14.run a = funK C_14 Try.f55 [.v .int, .v .int] [.v .int] a (fun o r => some (N_14 o r)) := by
 kernel_rfl
theorem W_14 : loopsOf D_14 = [B_14L2] := by kernel_rfl
theorem R_14L2 : firstReg B_14L2 = 2 := by kernel_rfl
theorem Q_14 : Try.prog.funcs[55]? = some Try.f55 ∧ (Try.f55.name == "runtime.NumGoroutine") = false ∧ Try.f55.body = some D_14 := ⟨Try.func55, by kernel_rfl, by kernel_rfl⟩
theorem H_14 : Holds Try.prog 55 E_14 :=
 holds_of (cx := C_14) (tabOk_ok tabT rfl).1 (allT_ok trivial) mixT Q_14.1 Q_14.2.2 (loops_of W_14 ⟨loop_of (cx := C_14) (L := S_14L2 fuel) rfl (by rw [R_14L2]; rfl) ⟨spec_l2Pow_L2, fun _ => rfl, fun n x => K_14L2 n x, fuel, fun _ => rfl⟩, trivial⟩) (enc := N_14) (fun _ _ => ⟨rfl, rfl⟩) F_14
theorem K_15L2 (n : Nat) (x) : spec_l2Elements_L2 (n + 1) x = roundK C_15 B_15L2 (S_15L2 fuel) x (spec_l2Elements_L2 n) := by
 obtain ⟨_, _, _⟩ := x
 kernel_rfl
theorem F_15 (a : dens [.v .int, .v (.slice .int)]) : E_15.run a = funK C_15 Try.f54 [.v .int, .v (.slice .int)] [.v .bool] a (fun o r => some (N_15 o r)) := by
 kernel_rfl
theorem W_15 : loopsOf D_15 = [B_15L2] := by kernel_rfl
theorem R_15L2 : firstReg B_15L2 = 2 := by kernel_rfl
theorem Q_15 : Try.prog.funcs[54]? = some Try.f54 ∧ (Try.f54.name == "runtime.NumGoroutine") = false ∧ Try.f54.body = some D_15 := ⟨Try.func54, by kernel_rfl, by kernel_rfl⟩
theorem H_15 : Holds Try.prog 54 E_15 :=
 holds_of (cx := C_15) (tabOk_ok tabT rfl).1 (allT_ok ⟨⟨H_13, _, _, Q_13⟩, trivial⟩) mixT Q_15.1 Q_15.2.2 (loops_of W_15 ⟨loop_of (cx := C_15) (L := S_15L2 fuel) rfl (by rw [R_15L2]; rfl) ⟨spec_l2Elements_L2, fun _ => rfl, fun n x => K_15L2 n x, fuel, fun _ => rfl⟩, trivial⟩) (enc := N_15) (fun _ _ => ⟨rfl, rfl⟩) F_15
theorem F_16 (a : dens [.v .int, .v .int, .v (.slice .int)]) : E_16.run a = funK C_16 Try.f102 [.v .int, .v .int, .v (.slice .int)] [.v .bool] a (fun o r => some (N_16 o r)) := by
 kernel_rfl
theorem W_16 : loopsOf D_16 = [] := by kernel_rfl
theorem Q_16 : Try.prog.funcs[102]? = some Try.f102 ∧ (Try.f102.name == "runtime.NumGoroutine") = false ∧ Try.f102.body = some D_16 := ⟨Try.func102, by kernel_rfl, by kernel_rfl⟩
theorem H_16 : Holds Try.prog 102 E_16 :=
 holds_of (cx := C_16) (tabOk_ok tabT rfl).1 (allT_ok ⟨⟨H_15, _, _, Q_15⟩, trivial⟩) mixT Q_16.1 Q_16.2.2 (loops_of W_16 trivial) (enc := N_16) (fun _ _ => ⟨rfl, rfl⟩) F_16
theorem K_17L2 (n : Nat) (x) : spec_l3Less_L2 (n + 1) x = roundK C_17 B_17L2 (S_17L2 fuel) x (spec_l3Less_L2 n) := by
 obtain ⟨_, _, _⟩ := x
 kernel_rfl
theorem F_17 (a : dens [.v (.slice .int), .v (.slice .int)]) : E_17.run a = funK C_17 Try.f103 [.v (.slice .int), .v (.slice .int)] [.v .bool] a (fun o r => some (N_17 o r)) := by
 kernel_rfl
theorem W_17 : loopsOf D_17 = [B_17L2] := by kernel_rfl
theorem R_17L2 : firstReg B_17L2 = 2 := by kernel_rfl
theorem Q_17 : Try.prog.funcs[103]? = some Try.f103 ∧ (Try.f103.name == "runtime.NumGoroutine") = false ∧ Try.f103.body = some D_17 := ⟨Try.func103, by kernel_rfl, by kernel_rfl⟩
theorem H_17 : Holds Try.prog 103 E_17 :=
 holds_of (cx := C_17) (tabOk_ok tabT rfl).1 (allT_ok trivial) mixT Q_17.1 Q_17.2.2 (loops_of W_17 ⟨loop_of (cx := C_17) (L := S_17L2 fuel) rfl (by rw [R_17L2]; rfl) ⟨spec_l3Less_L2, fun _ => rfl, fun n x => K_17L2 n x, fuel, fun _ => rfl⟩, trivial⟩) (enc := N_17) (fun _ _ => ⟨rfl, rfl⟩) F_17
theorem K_18L4 (n : Nat) (x) : spec_l13Good_L4 (n + 1) x = roundK C_18 B_18L4 (S_18L4 fuel) x (spec_l13Good_L4 n) := by
 obtain ⟨_, _, _⟩ := x
 kernel_rfl
theorem F_18 (a : dens [.v .int, .v (.pair .int (.slice (.slice .int)))]) : E_18.run a = funK C_18 Try.f89 [.v .int, .v (.pair .int (.slice (.slice .int)))] [.v .bool] a (fun o r => some (N_18 o r)) := by
 kernel_rfl
theorem W_18 : loopsOf D_18 = [B_18L4] := by kernel_rfl
theorem R_18L4 : firstReg B_18L4 = 4 := by kernel_rfl
theorem Q_18 : Try.prog.funcs[89]? = some Try.f89 ∧ (Try.f89.name == "runtime.NumGoroutine") = false ∧ Try.f89.body = some D_18 := ⟨Try.func89, by kernel_rfl, by kernel_rfl⟩
theorem H_18 : Holds Try.prog 89 E_18 :=
 holds_of (cx := C_18) (tabOk_ok tabT rfl).1 (allT_ok ⟨⟨H_13, _, _, Q_13⟩, ⟨⟨H_14, _, _, Q_14⟩, ⟨⟨H_16, _, _, Q_16⟩, ⟨⟨H_17, _, _, Q_17⟩, trivial⟩⟩⟩⟩) mixT Q_18.1 Q_18.2.2 (loops_of W_18 ⟨loop_of (cx := C_18) (L := S_18L4 fuel) rfl (by rw [R_18L4]; rfl) ⟨spec_l13Good_L4, fun _ => rfl, fun n x => K_18L4 n x, fuel, fun _ => rfl⟩, trivial⟩) (enc := N_18) (fun _ _ => ⟨rfl, rfl⟩) F_18
theorem F_19 (a : dens [.v .int, .v .int, .v (.pair (.slice .int) (.pair .int (.slice (.slice .int))))]) : E_19.run a = funK C_19 Try.f71 [.v .int, .v .int, .v (.pair (.slice .int) (.pair .int (.slice (.slice .int))))] [.v .bool] a (fun o r => some (N_19 o r)) := by
 kernel_rfl
theorem W_19 : loopsOf D_19 = [] := by kernel_rfl
theorem Q_19 : Try.prog.funcs[71]? = some Try.f71 ∧ (Try.f71.name == "runtime.NumGoroutine") = false ∧ Try.f71.body = some D_19 := ⟨Try.func71, by kernel_rfl, by kernel_rfl⟩
theorem H_19 : Holds Try.prog 71 E_19 :=
 holds_of (cx := C_19) (tabOk_ok tabT rfl).1 (allT_ok ⟨⟨H_15, _, _, Q_15⟩, ⟨⟨H_18, _, _, Q_18⟩, trivial⟩⟩) mixT Q_19.1 Q_19.2.2 (loops_of W_19 trivial) (enc := N_19) (fun _ _ => ⟨rfl, rfl⟩) F_19
theorem K_20L4 (n : Nat) (x) : spec_l19Good_L4 (n + 1) x = roundK C_20 B_20L4 (S_20L4 fuel) x (spec_l19Good_L4 n) := by
 obtain ⟨_, _⟩ := x
 kernel_rfl
theorem F_20 (a : dens [.v (.pair .int (.pair .int (.slice (.pair (.slice .int) (.pair .int (.slice (.slice .int)))))))]) : E_20.run a = funK C_20 Try.f39 [.v (.pair .int (.pair .int (.slice (.pair (.slice .int) (.pair .int (.slice (.slice .int)))))))] [.v .bool] a (fun o r => some (N_20 o r)) := by
 kernel_rfl
theorem W_20 : loopsOf D_20 = [B_20L4] := by kernel_rfl
theorem R_20L4 : firstReg B_20L4 = 4 := by kernel_rfl
theorem Q_20 : Try.prog.funcs[39]? = some Try.f39 ∧ (Try.f39.name == "runtime.NumGoroutine") = false ∧ Try.f39.body = some D_20 := ⟨Try.func39, by kernel_rfl, by kernel_rfl⟩
theorem H_20 : Holds Try.prog 39 E_20 :=
 holds_of (cx := C_20) (tabOk_ok tabT rfl).1 (allT_ok ⟨⟨H_13, _, _, Q_13⟩, ⟨⟨H_19, _, _, Q_19⟩, trivial⟩⟩) mixT Q_20.1 Q_20.2.2 (loops_of W_20 ⟨loop_of (cx := C_20) (L := S_20L4 fuel) rfl (by rw [R_20L4]; rfl) ⟨spec_l19Good_L4, fun _ => rfl, fun n x => K_20L4 n x, fuel, fun _ => rfl⟩, trivial⟩) (enc := N_20) (fun _ _ => ⟨rfl, rfl⟩) F_20
theorem F_21 (a : dens [.v (.slice .int)]) : E_21.run a = funK C_21 Try.f32 [.v (.slice .int)] [.mv .int 0] a (fun o r => some (N_21 o r)) := by
 kernel_rfl
theorem W_21 : loopsOf D_21 = [] := by kernel_rfl
theorem Q_21 : Try.prog.funcs[32]? = some Try.f32 ∧ (Try.f32.name == "runtime.NumGoroutine") = false ∧ Try.f32.body = some D_21 := ⟨Try.func32, by kernel_rfl, by kernel_rfl⟩
theorem H_21 : Holds Try.prog 32 E_21 :=
 holds_of (cx := C_21) (tabOk_ok tabT rfl).1 (allT_ok trivial) mixT Q_21.1 Q_21.2.2 (loops_of W_21 trivial) (enc := N_21) (fun _ _ => ⟨rfl, rfl⟩) F_21
theorem K_22L7 (n : Nat) (x) : spec_l19Copy_L7 (n + 1) x = roundK C_22 B_22L7 (S_22L7 fuel) x (spec_l19Copy_L7 n) := by
 obtain ⟨_, _, _, _, _⟩ := x
 kernel_rfl
theorem K_22L3 (n : Nat) (x) : spec_l19Copy_L3 (n + 1) x = roundK C_22 B_22L3 (S_22L3 fuel) x (spec_l19Copy_L3 n) := by
 obtain ⟨_, _, _⟩ := x
 kernel_rfl
theorem F_22 (a : dens [.v (.slice (.pair (.slice .int) (.pair .int (.slice (.slice .int)))))]) : E_22.run a = funK C_22 Try.f41 [.v (.slice (.pair (.slice .int) (.pair .int (.slice (.slice .int)))))] [.mv (.pair (.slice .int) (.pair .int (.slice (.slice .int)))) 0] a (fun o r => some (N_22 o r)) := by
 kernel_rfl
theorem W_22 : loopsOf D_22 = [B_22L3, B_22L7] := by kernel_rfl
theorem R_22L7 : firstReg B_22L7 = 7 := by kernel_rfl
theorem R_22L3 : firstReg B_22L3 = 3 := by kernel_rfl
theorem Q_22 : Try.prog.funcs[41]? = some Try.f41 ∧ (Try.f41.name == "runtime.NumGoroutine") = false ∧ Try.f41.body = some D_22 := ⟨Try.func41, by kernel_rfl, by kernel_rfl⟩
theorem H_22 : Holds Try.prog 41 E_22 :=
 holds_of (cx := C_22) (tabOk_ok tabT rfl).1 (allT_ok ⟨⟨H_21, _, _, Q_21⟩, trivial⟩) mixT Q_22.1 Q_22.2.2 (loops_of W_22 ⟨loop_of (cx := C_22) (L := S_22L3 fuel) rfl (by rw [R_22L3]; rfl) ⟨spec_l19Copy_L3, fun _ => rfl, fun n x => K_22L3 n x, fuel, fun _ => rfl⟩, ⟨loop_of (cx := C_22) (L := S_22L7 fuel) rfl (by rw [R_22L7]; rfl) ⟨spec_l19Copy_L7, fun _ => rfl, fun n x => K_22L7 n x, fuel, fun _ => rfl⟩, trivial⟩⟩) (enc := N_22) (fun _ _ => ⟨rfl, rfl⟩) F_22
theorem K_23L3 (n : Nat) (x) : spec_l8At_L3 (n + 1) x = roundK C_23 B_23L3 (S_23L3 fuel) x (spec_l8At_L3 n) := by
 obtain ⟨_, _, _, _⟩ := x
 kernel_rfl
theorem F_23 (a : dens [.v (.slice .int), .v (.slice .int)]) : E_23.run a = funK C_23 Try.f78 [.v (.slice .int), .v (.slice .int)] [.mv .int 0] a (fun o r => some (N_23 o r)) := by
 kernel_rfl
theorem W_23 : loopsOf D_23 = [B_23L3] := by kernel_rfl
theorem R_23L3 : firstReg B_23L3 = 3 := by kernel_rfl
theorem Q_23 : Try.prog.funcs[78]? = some Try.f78 ∧ (Try.f78.name == "runtime.NumGoroutine") = false ∧ Try.f78.body = some D_23 := ⟨Try.func78, by kernel_rfl, by kernel_rfl⟩
theorem H_23 : Holds Try.prog 78 E_23 :=
 holds_of (cx := C_23) (tabOk_ok tabT rfl).1 (allT_ok trivial) mixT Q_23.1 Q_23.2.2 (loops_of W_23 ⟨loop_of (cx := C_23) (L := S_23L3 fuel) rfl (by rw [R_23L3]; rfl) ⟨spec_l8At_L3, fun _ => rfl, fun n x => K_23L3 n x, fuel, fun _ => rfl⟩, trivial⟩) (enc := N_23) (fun _ _ => ⟨rfl, rfl⟩) F_23
theorem K_24L4 (n : Nat) (x) : spec_l1Same_L4 (n + 1) x = roundK C_24 B_24L4 (S_24L4 fuel) x (spec_l1Same_L4 n) := by
 obtain ⟨_, _, _⟩ := x
 kernel_rfl
theorem F_24 (a : dens [.v (.slice .int), .v (.slice .int)]) : E_24.run a = funK C_24 Try.f72 [.v (.slice .int), .v (.slice .int)] [.v .bool] a (fun o r => some (N_24 o r)) := by
 kernel_rfl
theorem W_24 : loopsOf D_24 = [B_24L4] := by kernel_rfl
theorem R_24L4 : firstReg B_24L4 = 4 := by kernel_rfl
theorem Q_24 : Try.prog.funcs[72]? = some Try.f72 ∧ (Try.f72.name == "runtime.NumGoroutine") = false ∧ Try.f72.body = some D_24 := ⟨Try.func72, by kernel_rfl, by kernel_rfl⟩
theorem H_24 : Holds Try.prog 72 E_24 :=
 holds_of (cx := C_24) (tabOk_ok tabT rfl).1 (allT_ok trivial) mixT Q_24.1 Q_24.2.2 (loops_of W_24 ⟨loop_of (cx := C_24) (L := S_24L4 fuel) rfl (by rw [R_24L4]; rfl) ⟨spec_l1Same_L4, fun _ => rfl, fun n x => K_24L4 n x, fuel, fun _ => rfl⟩, trivial⟩) (enc := N_24) (fun _ _ => ⟨rfl, rfl⟩) F_24
theorem K_25L2 (n : Nat) (x) : spec_l8Find_L2 (n + 1) x = roundK C_25 B_25L2 (S_25L2 fuel) x (spec_l8Find_L2 n) := by
 obtain ⟨_, _, _, _⟩ := x
 kernel_rfl
theorem F_25 (a : dens [.v (.slice (.slice .int)), .v (.slice .int)]) : E_25.run a = funK C_25 Try.f91 [.v (.slice (.slice .int)), .v (.slice .int)] [.v .int, .v .bool] a (fun o r => some (N_25 o r)) := by
 kernel_rfl
theorem W_25 : loopsOf D_25 = [B_25L2] := by kernel_rfl
theorem R_25L2 : firstReg B_25L2 = 2 := by kernel_rfl
theorem Q_25 : Try.prog.funcs[91]? = some Try.f91 ∧ (Try.f91.name == "runtime.NumGoroutine") = false ∧ Try.f91.body = some D_25 := ⟨Try.func91, by kernel_rfl, by kernel_rfl⟩
theorem H_25 : Holds Try.prog 91 E_25 :=
 holds_of (cx := C_25) (tabOk_ok tabT rfl).1 (allT_ok ⟨⟨H_24, _, _, Q_24⟩, ⟨⟨H_17, _, _, Q_17⟩, trivial⟩⟩) mixT Q_25.1 Q_25.2.2 (loops_of W_25 ⟨loop_of (cx := C_25) (L := S_25L2 fuel) rfl (by rw [R_25L2]; rfl) ⟨spec_l8Find_L2, fun _ => rfl, fun n x => K_25L2 n x, fuel, fun _ => rfl⟩, trivial⟩) (enc := N_25) (fun _ _ => ⟨rfl, rfl⟩) F_25
theorem F_26 (a : dens [.v (.slice (.slice .int)), .v (.slice .int)]) : E_26.run a = funK C_26 Try.f77 [.v (.slice (.slice .int)), .v (.slice .int)] [.v (.slice (.slice .int))] a (fun o r => some (N_26 o r)) := by
 kernel_rfl
theorem W_26 : loopsOf D_26 = [] := by kernel_rfl
theorem Q_26 : Try.prog.funcs[77]? = some Try.f77 ∧ (Try.f77.name == "runtime.NumGoroutine") = false ∧ Try.f77.body = some D_26 := ⟨Try.func77, by kernel_rfl, by kernel_rfl⟩
theorem H_26 : Holds Try.prog 77 E_26 :=
 holds_of (cx := C_26) (tabOk_ok tabT rfl).1 (allT_ok ⟨⟨H_25, _, _, Q_25⟩, trivial⟩) mixT Q_26.1 Q_26.2.2 (loops_of W_26 trivial) (enc := N_26) (fun _ _ => ⟨rfl, rfl⟩) F_26
theorem K_27L3 (n : Nat) (x) : spec_l13Project_L3 (n + 1) x = roundK C_27 B_27L3 (S_27L3 fuel) x (spec_l13Project_L3 n) := by
 obtain ⟨_, _, _, _, _⟩ := x
 kernel_rfl
theorem F_27 (a : dens [.v (.pair .int (.slice (.slice .int))), .v (.slice .int)]) : E_27.run a = funK C_27 Try.f49 [.v (.pair .int (.slice (.slice .int))), .v (.slice .int)] [.v (.pair .int (.slice (.slice .int)))] a (fun o r => some (N_27 o r)) := by
 kernel_rfl
theorem W_27 : loopsOf D_27 = [B_27L3] := by kernel_rfl
theorem R_27L3 : firstReg B_27L3 = 3 := by kernel_rfl
theorem Q_27 : Try.prog.funcs[49]? = some Try.f49 ∧ (Try.f49.name == "runtime.NumGoroutine") = false ∧ Try.f49.body = some D_27 := ⟨Try.func49, by kernel_rfl, by kernel_rfl⟩
theorem H_27 : Holds Try.prog 49 E_27 :=
 holds_of (cx := C_27) (tabOk_ok tabT rfl).1 (allT_ok ⟨⟨H_26, _, _, Q_26⟩, ⟨⟨H_23, _, _, Q_23⟩, trivial⟩⟩) mixT Q_27.1 Q_27.2.2 (loops_of W_27 ⟨loop_of (cx := C_27) (L := S_27L3 fuel) rfl (by rw [R_27L3]; rfl) ⟨spec_l13Project_L3, fun _ => rfl, fun n x => K_27L3 n x, fuel, fun _ => rfl⟩, trivial⟩) (enc := N_27) (fun _ _ => ⟨rfl, rfl⟩) F_27
theorem F_28 (a : dens [.v (.pair .int (.pair .int (.slice (.pair (.slice .int) (.pair .int (.slice (.slice .int)))))))]) : E_28.run a = funK C_28 Try.f50 [.v (.pair .int (.pair .int (.slice (.pair (.slice .int) (.pair .int (.slice (.slice .int)))))))] [.v (.pair .int (.pair .int (.slice (.pair (.slice .int) (.pair .int (.slice (.slice .int))))))), .v .bool] a (fun o r => some (N_28 o r)) := by
 kernel_rfl
theorem W_28 : loopsOf D_28 = [] := by kernel_rfl
theorem Q_28 : Try.prog.funcs[50]? = some Try.f50 ∧ (Try.f50.name == "runtime.NumGoroutine") = false ∧ Try.f50.body = some D_28 := ⟨Try.func50, by kernel_rfl, by kernel_rfl⟩
theorem H_28 : Holds Try.prog 50 E_28 :=
 holds_of (cx := C_28) (tabOk_ok tabT rfl).1 (allT_ok ⟨⟨H_20, _, _, Q_20⟩, trivial⟩) mixT Q_28.1 Q_28.2.2 (loops_of W_28 trivial) (enc := N_28) (fun _ _ => ⟨rfl, rfl⟩) F_28
theorem K_29L14 (n : Nat) (x) : spec_BinaryPart_L14 (n + 1) x = roundK C_29 B_29L14 (S_29L14 fuel) x (spec_BinaryPart_L14 n) := by
 obtain ⟨_, _, _, _, _, _, _⟩ := x
 kernel_rfl
theorem K_29L11 (n : Nat) (x) : spec_BinaryPart_L11 (n + 1) x = roundK C_29 B_29L11 (S_29L11 fuel) x (spec_BinaryPart_L11 n) := by
 obtain ⟨_, _, _, _, _, _⟩ := x
 kernel_rfl
theorem K_29L5 (n : Nat) (x) : spec_BinaryPart_L5 (n + 1) x = roundK C_29 B_29L5 (S_29L5 fuel) x (spec_BinaryPart_L5 n) := by
 obtain ⟨_, _, _, _⟩ := x
 kernel_rfl
theorem F_29 (a : dens [.v (.pair .int (.pair .int (.slice (.pair (.slice .int) (.pair .int (.slice (.slice .int)))))))]) : E_29.run a = funK C_29 Try.f20 [.v (.pair .int (.pair .int (.slice (.pair (.slice .int) (.pair .int (.slice (.slice .int)))))))] [.v (.pair .int (.pair .int (.slice (.pair (.slice .int) (.pair .int (.slice (.slice .int))))))), .v .bool] a (fun o r => some (N_29 o r)) := by
 kernel_rfl
theorem W_29 : loopsOf D_29 = [B_29L5, B_29L11, B_29L14] := by kernel_rfl
theorem R_29L14 : firstReg B_29L14 = 14 := by kernel_rfl
theorem R_29L11 : firstReg B_29L11 = 11 := by kernel_rfl
theorem R_29L5 : firstReg B_29L5 = 5 := by kernel_rfl
theorem Q_29 : Try.prog.funcs[20]? = some Try.f20 ∧ (Try.f20.name == "runtime.NumGoroutine") = false ∧ Try.f20.body = some D_29 := ⟨Try.func20, by kernel_rfl, by kernel_rfl⟩
theorem H_29 : Holds Try.prog 20 E_29 :=
 holds_of (cx := C_29) (tabOk_ok tabT rfl).1 (allT_ok ⟨⟨H_20, _, _, Q_20⟩, ⟨⟨H_22, _, _, Q_22⟩, ⟨⟨H_27, _, _, Q_27⟩, ⟨⟨H_28, _, _, Q_28⟩, trivial⟩⟩⟩⟩) mixT Q_29.1 Q_29.2.2 (loops_of W_29 ⟨loop_of (cx := C_29) (L := S_29L5 fuel) rfl (by rw [R_29L5]; rfl) ⟨spec_BinaryPart_L5, fun _ => rfl, fun n x => K_29L5 n x, fuel, fun _ => rfl⟩, ⟨loop_of (cx := C_29) (L := S_29L11 fuel) rfl (by rw [R_29L11]; rfl) ⟨spec_BinaryPart_L11, fun _ => rfl, fun n x => K_29L11 n x, fuel, fun _ => rfl⟩, ⟨loop_of (cx := C_29) (L := S_29L14 fuel) rfl (by rw [R_29L14]; rfl) ⟨spec_BinaryPart_L14, fun _ => rfl, fun n x => K_29L14 n x, fuel, fun _ => rfl⟩, trivial⟩⟩⟩) (enc := N_29) (fun _ _ => ⟨rfl, rfl⟩) F_29
theorem F_30 (a : dens [.v .int]) : E_30.run a = funK C_30 Try.f74 [.v .int] [.v .bool] a (fun o r => some (N_30 o r)) := by
 kernel_rfl
theorem W_30 : loopsOf D_30 = [] := by kernel_rfl
theorem Q_30 : Try.prog.funcs[74]? = some Try.f74 ∧ (Try.f74.name == "runtime.NumGoroutine") = false ∧ Try.f74.body = some D_30 := ⟨Try.func74, by kernel_rfl, by kernel_rfl⟩
theorem H_30 : Holds Try.prog 74 E_30 :=
 holds_of (cx := C_30) (tabOk_ok tabT rfl).1 (allT_ok trivial) mixT Q_30.1 Q_30.2.2 (loops_of W_30 trivial) (enc := N_30) (fun _ _ => ⟨rfl, rfl⟩) F_30
theorem K_31L2 (n : Nat) (x) : impl_inSize_L2 (n + 1) x = roundK C_31 B_31L2 (S_31L2 fuel) x (impl_inSize_L2 n) := by
 obtain ⟨_, _, _, _⟩ := x
 kernel_rfl
theorem F_31 (a : dens [.v (.slice .int), .v .int]) : E_31.run a = funK C_31 Try.f59 [.v (.slice .int), .v .int] [.v .bool] a (fun o r => some (N_31 o r)) := by
 kernel_rfl
theorem W_31 : loopsOf D_31 = [B_31L2] := by kernel_rfl
theorem R_31L2 : firstReg B_31L2 = 2 := by kernel_rfl
theorem Q_31 : Try.prog.funcs[59]? = some Try.f59 ∧ (Try.f59.name == "runtime.NumGoroutine") = false ∧ Try.f59.body = some D_31 := ⟨Try.func59, by kernel_rfl, by kernel_rfl⟩
theorem H_31 : Holds Try.prog 59 E_31 :=
 holds_of (cx := C_31) (tabOk_ok tabT rfl).1 (allT_ok trivial) mixT Q_31.1 Q_31.2.2 (loops_of W_31 ⟨loop_of (cx := C_31) (L := S_31L2 fuel) rfl (by rw [R_31L2]; rfl) ⟨impl_inSize_L2, fun _ => rfl, fun n x => K_31L2 n x, fuel, fun _ => rfl⟩, trivial⟩) (enc := N_31) (fun _ _ => ⟨rfl, rfl⟩) F_31
theorem K_32L2 (n : Nat) (x) : impl_compareLists_L2 (n + 1) x = roundK C_32 B_32L2 (S_32L2 fuel) x (impl_compareLists_L2 n) := by
 obtain ⟨_, _, _⟩ := x
 kernel_rfl
theorem F_32 (a : dens [.v (.slice .int), .v (.slice .int)]) : E_32.run a = funK C_32 Try.f95 [.v (.slice .int), .v (.slice .int)] [.v .int] a (fun o r => some (N_32 o r)) := by
 kernel_rfl
theorem W_32 : loopsOf D_32 = [B_32L2] := by kernel_rfl
theorem R_32L2 : firstReg B_32L2 = 2 := by kernel_rfl
theorem Q_32 : Try.prog.funcs[95]? = some Try.f95 ∧ (Try.f95.name == "runtime.NumGoroutine") = false ∧ Try.f95.body = some D_32 := ⟨Try.func95, by kernel_rfl, by kernel_rfl⟩
theorem H_32 : Holds Try.prog 95 E_32 :=
 holds_of (cx := C_32) (tabOk_ok tabT rfl).1 (allT_ok trivial) mixT Q_32.1 Q_32.2.2 (loops_of W_32 ⟨loop_of (cx := C_32) (L := S_32L2 fuel) rfl (by rw [R_32L2]; rfl) ⟨impl_compareLists_L2, fun _ => rfl, fun n x => K_32L2 n x, fuel, fun _ => rfl⟩, trivial⟩) (enc := N_32) (fun _ _ => ⟨rfl, rfl⟩) F_32
theorem K_33L4 (n : Nat) (x) : impl_isRelation_L4 (n + 1) x = roundK C_33 B_33L4 (S_33L4 fuel) x (impl_isRelation_L4 n) := by
 obtain ⟨_, _, _, _, _⟩ := x
 kernel_rfl
theorem F_33 (a : dens [.v .int, .v (.pair .int (.slice (.slice .int)))]) : E_33.run a = funK C_33 Try.f90 [.v .int, .v (.pair .int (.slice (.slice .int)))] [.v .bool] a (fun o r => some (N_33 o r)) := by
 kernel_rfl
theorem W_33 : loopsOf D_33 = [B_33L4] := by kernel_rfl
theorem R_33L4 : firstReg B_33L4 = 4 := by kernel_rfl
theorem Q_33 : Try.prog.funcs[90]? = some Try.f90 ∧ (Try.f90.name == "runtime.NumGoroutine") = false ∧ Try.f90.body = some D_33 := ⟨Try.func90, by kernel_rfl, by kernel_rfl⟩
theorem H_33 : Holds Try.prog 90 E_33 :=
 holds_of (cx := C_33) (tabOk_ok tabT rfl).1 (allT_ok ⟨⟨H_31, _, _, Q_31⟩, ⟨⟨H_32, _, _, Q_32⟩, trivial⟩⟩) mixT Q_33.1 Q_33.2.2 (loops_of W_33 ⟨loop_of (cx := C_33) (L := S_33L4 fuel) rfl (by rw [R_33L4]; rfl) ⟨impl_isRelation_L4, fun _ => rfl, fun n x => K_33L4 n x, fuel, fun _ => rfl⟩, trivial⟩) (enc := N_33) (fun _ _ => ⟨rfl, rfl⟩) F_33
theorem F_34 (a : dens [.v .int, .v .int, .v (.pair (.slice .int) (.pair .int (.slice (.slice .int))))]) : E_34.run a = funK C_34 Try.f75 [.v .int, .v .int, .v (.pair (.slice .int) (.pair .int (.slice (.slice .int))))] [.v .bool] a (fun o r => some (N_34 o r)) := by
 kernel_rfl
theorem W_34 : loopsOf D_34 = [] := by kernel_rfl
theorem Q_34 : Try.prog.funcs[75]? = some Try.f75 ∧ (Try.f75.name == "runtime.NumGoroutine") = false ∧ Try.f75.body = some D_34 := ⟨Try.func75, by kernel_rfl, by kernel_rfl⟩
theorem H_34 : Holds Try.prog 75 E_34 :=
 holds_of (cx := C_34) (tabOk_ok tabT rfl).1 (allT_ok ⟨⟨H_31, _, _, Q_31⟩, ⟨⟨H_33, _, _, Q_33⟩, trivial⟩⟩) mixT Q_34.1 Q_34.2.2 (loops_of W_34 trivial) (enc := N_34) (fun _ _ => ⟨rfl, rfl⟩) F_34
theorem K_35L4 (n : Nat) (x) : impl_IsNetwork_L4 (n + 1) x = roundK C_35 B_35L4 (S_35L4 fuel) x (impl_IsNetwork_L4 n) := by
 obtain ⟨_, _, _, _⟩ := x
 kernel_rfl
theorem F_35 (a : dens [.v (.pair .int (.pair .int (.slice (.pair (.slice .int) (.pair .int (.slice (.slice .int)))))))]) : E_35.run a = funK C_35 Try.f44 [.v (.pair .int (.pair .int (.slice (.pair (.slice .int) (.pair .int (.slice (.slice .int)))))))] [.v .bool] a (fun o r => some (N_35 o r)) := by
 kernel_rfl
theorem W_35 : loopsOf D_35 = [B_35L4] := by kernel_rfl
theorem R_35L4 : firstReg B_35L4 = 4 := by kernel_rfl
theorem Q_35 : Try.prog.funcs[44]? = some Try.f44 ∧ (Try.f44.name == "runtime.NumGoroutine") = false ∧ Try.f44.body = some D_35 := ⟨Try.func44, by kernel_rfl, by kernel_rfl⟩
theorem H_35 : Holds Try.prog 44 E_35 :=
 holds_of (cx := C_35) (tabOk_ok tabT rfl).1 (allT_ok ⟨⟨H_30, _, _, Q_30⟩, ⟨⟨H_34, _, _, Q_34⟩, trivial⟩⟩) mixT Q_35.1 Q_35.2.2 (loops_of W_35 ⟨loop_of (cx := C_35) (L := S_35L4 fuel) rfl (by rw [R_35L4]; rfl) ⟨impl_IsNetwork_L4, fun _ => rfl, fun n x => K_35L4 n x, fuel, fun _ => rfl⟩, trivial⟩) (enc := N_35) (fun _ _ => ⟨rfl, rfl⟩) F_35
theorem F_36 (a : dens [.v (.slice .int)]) : E_36.run a = funK C_36 Try.f46 [.v (.slice .int)] [.mv .int 0] a (fun o r => some (N_36 o r)) := by
 kernel_rfl
theorem W_36 : loopsOf D_36 = [] := by kernel_rfl
theorem Q_36 : Try.prog.funcs[46]? = some Try.f46 ∧ (Try.f46.name == "runtime.NumGoroutine") = false ∧ Try.f46.body = some D_36 := ⟨Try.func46, by kernel_rfl, by kernel_rfl⟩
theorem H_36 : Holds Try.prog 46 E_36 :=
 holds_of (cx := C_36) (tabOk_ok tabT rfl).1 (allT_ok trivial) mixT Q_36.1 Q_36.2.2 (loops_of W_36 trivial) (enc := N_36) (fun _ _ => ⟨rfl, rfl⟩) F_36
theorem K_37L3 (n : Nat) (x) : impl_cloneRows_L3 (n + 1) x = roundK C_37 B_37L3 (S_37L3 fuel) x (impl_cloneRows_L3 n) := by
 obtain ⟨_, _, _, _⟩ := x
 kernel_rfl
theorem F_37 (a : dens [.v (.slice (.slice .int))]) : E_37.run a = funK C_37 Try.f92 [.v (.slice (.slice .int))] [.mv (.slice .int) 1] a (fun o r => some (N_37 o r)) := by
 kernel_rfl
theorem W_37 : loopsOf D_37 = [B_37L3] := by kernel_rfl
theorem R_37L3 : firstReg B_37L3 = 3 := by kernel_rfl
theorem Q_37 : Try.prog.funcs[92]? = some Try.f92 ∧ (Try.f92.name == "runtime.NumGoroutine") = false ∧ Try.f92.body = some D_37 := ⟨Try.func92, by kernel_rfl, by kernel_rfl⟩
theorem H_37 : Holds Try.prog 92 E_37 :=
 holds_of (cx := C_37) (tabOk_ok tabT rfl).1 (allT_ok ⟨⟨H_36, _, _, Q_36⟩, trivial⟩) mixT Q_37.1 Q_37.2.2 (loops_of W_37 ⟨loop_of (cx := C_37) (L := S_37L3 fuel) rfl (by rw [R_37L3]; rfl) ⟨impl_cloneRows_L3, fun _ => rfl, fun n x => K_37L3 n x, fuel, fun _ => rfl⟩, trivial⟩) (enc := N_37) (fun _ _ => ⟨rfl, rfl⟩) F_37
theorem F_38 (a : dens [.v (.pair .int (.slice (.slice .int)))]) : E_38.run a = funK C_38 Try.f79 [.v (.pair .int (.slice (.slice .int)))] [.pr (.v .int) (.mv (.slice .int) 1)] a (fun o r => some (N_38 o r)) := by
 kernel_rfl
theorem W_38 : loopsOf D_38 = [] := by kernel_rfl
theorem Q_38 : Try.prog.funcs[79]? = some Try.f79 ∧ (Try.f79.name == "runtime.NumGoroutine") = false ∧ Try.f79.body = some D_38 := ⟨Try.func79, by kernel_rfl, by kernel_rfl⟩
theorem H_38 : Holds Try.prog 79 E_38 :=
 holds_of (cx := C_38) (tabOk_ok tabT rfl).1 (allT_ok ⟨⟨H_37, _, _, Q_37⟩, trivial⟩) mixT Q_38.1 Q_38.2.2 (loops_of W_38 trivial) (enc := N_38) (fun _ _ => ⟨rfl, rfl⟩) F_38
theorem K_39L3 (n : Nat) (x) : impl_cloneConstraints_L3 (n + 1) x = roundK C_39 B_39L3 (S_39L3 fuel) x (impl_cloneConstraints_L3 n) := by
 obtain ⟨_, _, _, _⟩ := x
 kernel_rfl
theorem F_39 (a : dens [.v (.slice (.pair (.slice .int) (.pair .int (.slice (.slice .int)))))]) : E_39.run a = funK C_39 Try.f51 [.v (.slice (.pair (.slice .int) (.pair .int (.slice (.slice .int)))))] [.mv (.pair (.slice .int) (.pair .int (.slice (.slice .int)))) 2] a (fun o r => some (N_39 o r)) := by
 kernel_rfl
theorem W_39 : loopsOf D_39 = [B_39L3] := by kernel_rfl
theorem R_39L3 : firstReg B_39L3 = 3 := by kernel_rfl
theorem Q_39 : Try.prog.funcs[51]? = some Try.f51 ∧ (Try.f51.name == "runtime.NumGoroutine") = false ∧ Try.f51.body = some D_39 := ⟨Try.func51, by kernel_rfl, by kernel_rfl⟩
theorem H_39 : Holds Try.prog 51 E_39 :=
 holds_of (cx := C_39) (tabOk_ok tabT rfl).1 (allT_ok ⟨⟨H_36, _, _, Q_36⟩, ⟨⟨H_38, _, _, Q_38⟩, trivial⟩⟩) mixT Q_39.1 Q_39.2.2 (loops_of W_39 ⟨loop_of (cx := C_39) (L := S_39L3 fuel) rfl (by rw [R_39L3]; rfl) ⟨impl_cloneConstraints_L3, fun _ => rfl, fun n x => K_39L3 n x, fuel, fun _ => rfl⟩, trivial⟩) (enc := N_39) (fun _ _ => ⟨rfl, rfl⟩) F_39
theorem Q_40 : Try.prog.funcs[94]? = some Try.f94 ∧ (Try.f94.name == "runtime.NumGoroutine") = false ∧ Try.f94.body = some D_40 := ⟨Try.func94, by kernel_rfl, by kernel_rfl⟩
theorem H_40 : Holds Try.prog 94 E_40 := Go.Proofs.H_sort_cmpL 1
theorem F_41 (a : dens [.v (.slice (.slice .int))]) : E_41.run a = funK C_41 Try.f81 [.v (.slice (.slice .int))] [.mv (.slice .int) 1] a (fun o r => some (N_41 o r)) := by
 kernel_rfl
theorem W_41 : loopsOf D_41 = [] := by kernel_rfl
theorem Q_41 : Try.prog.funcs[81]? = some Try.f81 ∧ (Try.f81.name == "runtime.NumGoroutine") = false ∧ Try.f81.body = some D_41 := ⟨Try.func81, by kernel_rfl, by kernel_rfl⟩
theorem H_41 : Holds Try.prog 81 E_41 :=
 holds_of (cx := C_41) (tabOk_ok tabT rfl).1 (allT_ok ⟨⟨H_37, _, _, Q_37⟩, ⟨⟨H_40, _, _, Q_40⟩, trivial⟩⟩) mixT Q_41.1 Q_41.2.2 (loops_of W_41 trivial) (enc := N_41) (fun _ _ => ⟨rfl, rfl⟩) F_41
theorem K_42L4 (n : Nat) (x) : impl_sameList_L4 (n + 1) x = roundK C_42 B_42L4 (S_42L4 fuel) x (impl_sameList_L4 n) := by
 obtain ⟨_, _, _, _⟩ := x
 kernel_rfl
theorem F_42 (a : dens [.v (.slice .int), .v (.slice .int)]) : E_42.run a = funK C_42 Try.f93 [.v (.slice .int), .v (.slice .int)] [.v .bool] a (fun o r => some (N_42 o r)) := by
 kernel_rfl
theorem W_42 : loopsOf D_42 = [B_42L4] := by kernel_rfl
theorem R_42L4 : firstReg B_42L4 = 4 := by kernel_rfl
theorem Q_42 : Try.prog.funcs[93]? = some Try.f93 ∧ (Try.f93.name == "runtime.NumGoroutine") = false ∧ Try.f93.body = some D_42 := ⟨Try.func93, by kernel_rfl, by kernel_rfl⟩
theorem H_42 : Holds Try.prog 93 E_42 :=
 holds_of (cx := C_42) (tabOk_ok tabT rfl).1 (allT_ok trivial) mixT Q_42.1 Q_42.2.2 (loops_of W_42 ⟨loop_of (cx := C_42) (L := S_42L4 fuel) rfl (by rw [R_42L4]; rfl) ⟨impl_sameList_L4, fun _ => rfl, fun n x => K_42L4 n x, fuel, fun _ => rfl⟩, trivial⟩) (enc := N_42) (fun _ _ => ⟨rfl, rfl⟩) F_42
theorem Q_43 : Try.prog.funcs[80]? = some Try.f80 ∧ (Try.f80.name == "runtime.NumGoroutine") = false ∧ Try.f80.body = some D_43 := ⟨Try.func80, by kernel_rfl, by kernel_rfl⟩
theorem H_43 : Holds Try.prog 80 E_43 := Go.Proofs.H_diff 1
theorem F_44 (a : dens [.v .int, .v (.slice (.slice .int))]) : E_44.run a = funK C_44 Try.f52 [.v .int, .v (.slice (.slice .int))] [.pr (.v .int) (.mv (.slice .int) 1)] a (fun o r => some (N_44 o r)) := by
 kernel_rfl
theorem W_44 : loopsOf D_44 = [] := by kernel_rfl
theorem Q_44 : Try.prog.funcs[52]? = some Try.f52 ∧ (Try.f52.name == "runtime.NumGoroutine") = false ∧ Try.f52.body = some D_44 := ⟨Try.func52, by kernel_rfl, by kernel_rfl⟩
theorem H_44 : Holds Try.prog 52 E_44 :=
 holds_of (cx := C_44) (tabOk_ok tabT rfl).1 (allT_ok ⟨⟨H_43, _, _, Q_43⟩, ⟨⟨H_41, _, _, Q_41⟩, trivial⟩⟩) mixT Q_44.1 Q_44.2.2 (loops_of W_44 trivial) (enc := N_44) (fun _ _ => ⟨rfl, rfl⟩) F_44
theorem F_45 (a : dens [.v (.pair .int (.pair .int (.slice (.pair (.slice .int) (.pair .int (.slice (.slice .int))))))), .mv (.pair (.slice .int) (.pair .int (.slice (.slice .int)))) 2]) : E_45.run a = funK C_45 Try.f48 [.v (.pair .int (.pair .int (.slice (.pair (.slice .int) (.pair .int (.slice (.slice .int))))))), .mv (.pair (.slice .int) (.pair .int (.slice (.slice .int)))) 2] [.pr (.v .int) (.pr (.v .int) (.mv (.pair (.slice .int) (.pair .int (.slice (.slice .int)))) 2)), .v .bool] a (fun o r => some (N_45 o r)) := by
 kernel_rfl
theorem W_45 : loopsOf D_45 = [] := by kernel_rfl
theorem Q_45 : Try.prog.funcs[48]? = some Try.f48 ∧ (Try.f48.name == "runtime.NumGoroutine") = false ∧ Try.f48.body = some D_45 := ⟨Try.func48, by kernel_rfl, by kernel_rfl⟩
theorem H_45 : Holds Try.prog 48 E_45 :=
 holds_of (cx := C_45) (tabOk_ok tabT rfl).1 (allT_ok trivial) mixT Q_45.1 Q_45.2.2 (loops_of W_45 trivial) (enc := N_45) (fun _ _ => ⟨rfl, rfl⟩) F_45
theorem K_46L17 (n : Nat) (x) : impl_BinaryPart_L17 (n + 1) x = roundK C_46 B_46L17 (S_46L17 fuel) x (impl_BinaryPart_L17 n) := by
 obtain ⟨_, _, _, _, _, _, _, _, _, _, _, _, _, _, _⟩ := x
 kernel_rfl
theorem K_46L13 (n : Nat) (x) : impl_BinaryPart_L13 (n + 1) x = roundK C_46 B_46L13 (S_46L13 fuel) x (impl_BinaryPart_L13 n) := by
 obtain ⟨_, _, _, _, _, _, _, _, _, _, _⟩ := x
 kernel_rfl
theorem K_46L10 (n : Nat) (x) : impl_BinaryPart_L10 (n + 1) x = roundK C_46 B_46L10 (S_46L10 fuel) x (impl_BinaryPart_L10 n) := by
 obtain ⟨_, _, _, _, _, _, _, _, _⟩ := x
 kernel_rfl
theorem K_46L5 (n : Nat) (x) : impl_BinaryPart_L5 (n + 1) x = roundK C_46 B_46L5 (S_46L5 fuel) x (impl_BinaryPart_L5 n) := by
 obtain ⟨_, _, _, _, _, _⟩ := x
 kernel_rfl
theorem F_46 (a : dens [.v (.pair .int (.pair .int (.slice (.pair (.slice .int) (.pair .int (.slice (.slice .int)))))))]) : E_46.run a = funK C_46 Try.f21 [.v (.pair .int (.pair .int (.slice (.pair (.slice .int) (.pair .int (.slice (.slice .int)))))))] [.pr (.v .int) (.pr (.v .int) (.mv (.pair (.slice .int) (.pair .int (.slice (.slice .int)))) 2)), .v .bool] a (fun o r => some (N_46 o r)) := by
 kernel_rfl
theorem W_46 : loopsOf D_46 = [B_46L5, B_46L10, B_46L13, B_46L17] := by kernel_rfl
theorem R_46L17 : firstReg B_46L17 = 17 := by kernel_rfl
theorem R_46L13 : firstReg B_46L13 = 13 := by kernel_rfl
theorem R_46L10 : firstReg B_46L10 = 10 := by kernel_rfl
theorem R_46L5 : firstReg B_46L5 = 5 := by kernel_rfl
theorem Q_46 : Try.prog.funcs[21]? = some Try.f21 ∧ (Try.f21.name == "runtime.NumGoroutine") = false ∧ Try.f21.body = some D_46 := ⟨Try.func21, by kernel_rfl, by kernel_rfl⟩
theorem H_46 : Holds Try.prog 21 E_46 :=
 holds_of (cx := C_46) (tabOk_ok tabT rfl).1 (allT_ok ⟨⟨H_35, _, _, Q_35⟩, ⟨⟨H_45, _, _, Q_45⟩, ⟨⟨H_39, _, _, Q_39⟩, ⟨⟨H_44, _, _, Q_44⟩, trivial⟩⟩⟩⟩) mixT Q_46.1 Q_46.2.2 (loops_of W_46 ⟨loop_of (cx := C_46) (L := S_46L5 fuel) rfl (by rw [R_46L5]; rfl) ⟨impl_BinaryPart_L5, fun _ => rfl, fun n x => K_46L5 n x, fuel, fun _ => rfl⟩, ⟨loop_of (cx := C_46) (L := S_46L10 fuel) rfl (by rw [R_46L10]; rfl) ⟨impl_BinaryPart_L10, fun _ => rfl, fun n x => K_46L10 n x, fuel, fun _ => rfl⟩, ⟨loop_of (cx := C_46) (L := S_46L13 fuel) rfl (by rw [R_46L13]; rfl) ⟨impl_BinaryPart_L13, fun _ => rfl, fun n x => K_46L13 n x, fuel, fun _ => rfl⟩, ⟨loop_of (cx := C_46) (L := S_46L17 fuel) rfl (by rw [R_46L17]; rfl) ⟨impl_BinaryPart_L17, fun _ => rfl, fun n x => K_46L17 n x, fuel, fun _ => rfl⟩, trivial⟩⟩⟩⟩) (enc := N_46) (fun _ _ => ⟨rfl, rfl⟩) F_46
theorem K_47L4 (n : Nat) (x) : laws_eqIntS_L4 (n + 1) x = roundK C_47 B_47L4 (S_47L4 fuel) x (laws_eqIntS_L4 n) := by
 obtain ⟨_, _, _⟩ := x
 kernel_rfl
theorem F_47 (a : dens [.v (.slice .int), .v (.slice .int)]) : E_47.run a = funK C_47 Try.f26 [.v (.slice .int), .v (.slice .int)] [.v .bool] a (fun o r => some (N_47 o r)) := by
 kernel_rfl
theorem W_47 : loopsOf D_47 = [B_47L4] := by kernel_rfl
theorem R_47L4 : firstReg B_47L4 = 4 := by kernel_rfl
theorem Q_47 : Try.prog.funcs[26]? = some Try.f26 ∧ (Try.f26.name == "runtime.NumGoroutine") = false ∧ Try.f26.body = some D_47 := ⟨Try.func26, by kernel_rfl, by kernel_rfl⟩
theorem H_47 : Holds Try.prog 26 E_47 :=
 holds_of (cx := C_47) (tabOk_ok tabT rfl).1 (allT_ok trivial) mixT Q_47.1 Q_47.2.2 (loops_of W_47 ⟨loop_of (cx := C_47) (L := S_47L4 fuel) rfl (by rw [R_47L4]; rfl) ⟨laws_eqIntS_L4, fun _ => rfl, fun n x => K_47L4 n x, fuel, fun _ => rfl⟩, trivial⟩) (enc := N_47) (fun _ _ => ⟨rfl, rfl⟩) F_47
theorem K_48L4 (n : Nat) (x) : laws_eqIntSS_L4 (n + 1) x = roundK C_48 B_48L4 (S_48L4 fuel) x (laws_eqIntSS_L4 n) := by
 obtain ⟨_, _, _⟩ := x
 kernel_rfl
theorem F_48 (a : dens [.v (.slice (.slice .int)), .v (.slice (.slice .int))]) : E_48.run a = funK C_48 Try.f64 [.v (.slice (.slice .int)), .v (.slice (.slice .int))] [.v .bool] a (fun o r => some (N_48 o r)) := by
 kernel_rfl
theorem W_48 : loopsOf D_48 = [B_48L4] := by kernel_rfl
theorem R_48L4 : firstReg B_48L4 = 4 := by kernel_rfl
theorem Q_48 : Try.prog.funcs[64]? = some Try.f64 ∧ (Try.f64.name == "runtime.NumGoroutine") = false ∧ Try.f64.body = some D_48 := ⟨Try.func64, by kernel_rfl, by kernel_rfl⟩
theorem H_48 : Holds Try.prog 64 E_48 :=
 holds_of (cx := C_48) (tabOk_ok tabT rfl).1 (allT_ok ⟨⟨H_47, _, _, Q_47⟩, trivial⟩) mixT Q_48.1 Q_48.2.2 (loops_of W_48 ⟨loop_of (cx := C_48) (L := S_48L4 fuel) rfl (by rw [R_48L4]; rfl) ⟨laws_eqIntSS_L4, fun _ => rfl, fun n x => K_48L4 n x, fuel, fun _ => rfl⟩, trivial⟩) (enc := N_48) (fun _ _ => ⟨rfl, rfl⟩) F_48
theorem F_49 (a : dens [.v (.pair .int (.slice (.slice .int))), .v (.pair .int (.slice (.slice .int)))]) : E_49.run a = funK C_49 Try.f25 [.v (.pair .int (.slice (.slice .int))), .v (.pair .int (.slice (.slice .int)))] [.v .bool] a (fun o r => some (N_49 o r)) := by
 kernel_rfl
theorem W_49 : loopsOf D_49 = [] := by kernel_rfl
theorem Q_49 : Try.prog.funcs[25]? = some Try.f25 ∧ (Try.f25.name == "runtime.NumGoroutine") = false ∧ Try.f25.body = some D_49 := ⟨Try.func25, by kernel_rfl, by kernel_rfl⟩
theorem H_49 : Holds Try.prog 25 E_49 :=
 holds_of (cx := C_49) (tabOk_ok tabT rfl).1 (allT_ok ⟨⟨H_48, _, _, Q_48⟩, trivial⟩) mixT Q_49.1 Q_49.2.2 (loops_of W_49 trivial) (enc := N_49) (fun _ _ => ⟨rfl, rfl⟩) F_49
theorem F_50 (a : dens [.v (.pair (.slice .int) (.pair .int (.slice (.slice .int)))), .v (.pair (.slice .int) (.pair .int (.slice (.slice .int))))]) : E_50.run a = funK C_50 Try.f69 [.v (.pair (.slice .int) (.pair .int (.slice (.slice .int)))), .v (.pair (.slice .int) (.pair .int (.slice (.slice .int))))] [.v .bool] a (fun o r => some (N_50 o r)) := by
 kernel_rfl
theorem W_50 : loopsOf D_50 = [] := by kernel_rfl
theorem Q_50 : Try.prog.funcs[69]? = some Try.f69 ∧ (Try.f69.name == "runtime.NumGoroutine") = false ∧ Try.f69.body = some D_50 := ⟨Try.func69, by kernel_rfl, by kernel_rfl⟩
theorem H_50 : Holds Try.prog 69 E_50 :=
 holds_of (cx := C_50) (tabOk_ok tabT rfl).1 (allT_ok ⟨⟨H_49, _, _, Q_49⟩, ⟨⟨H_47, _, _, Q_47⟩, trivial⟩⟩) mixT Q_50.1 Q_50.2.2 (loops_of W_50 trivial) (enc := N_50) (fun _ _ => ⟨rfl, rfl⟩) F_50
theorem K_51L4 (n : Nat) (x) : laws_eqConstraintS_L4 (n + 1) x = roundK C_51 B_51L4 (S_51L4 fuel) x (laws_eqConstraintS_L4 n) := by
 obtain ⟨_, _, _⟩ := x
 kernel_rfl
theorem F_51 (a : dens [.v (.slice (.pair (.slice .int) (.pair .int (.slice (.slice .int))))), .v (.slice (.pair (.slice .int) (.pair .int (.slice (.slice .int)))))]) : E_51.run a = funK C_51 Try.f35 [.v (.slice (.pair (.slice .int) (.pair .int (.slice (.slice .int))))), .v (.slice (.pair (.slice .int) (.pair .int (.slice (.slice .int)))))] [.v .bool] a (fun o r => some (N_51 o r)) := by
 kernel_rfl
theorem W_51 : loopsOf D_51 = [B_51L4] := by kernel_rfl
theorem R_51L4 : firstReg B_51L4 = 4 := by kernel_rfl
theorem Q_51 : Try.prog.funcs[35]? = some Try.f35 ∧ (Try.f35.name == "runtime.NumGoroutine") = false ∧ Try.f35.body = some D_51 := ⟨Try.func35, by kernel_rfl, by kernel_rfl⟩
theorem H_51 : Holds Try.prog 35 E_51 :=
 holds_of (cx := C_51) (tabOk_ok tabT rfl).1 (allT_ok ⟨⟨H_50, _, _, Q_50⟩, trivial⟩) mixT Q_51.1 Q_51.2.2 (loops_of W_51 ⟨loop_of (cx := C_51) (L := S_51L4 fuel) rfl (by rw [R_51L4]; rfl) ⟨laws_eqConstraintS_L4, fun _ => rfl, fun n x => K_51L4 n x, fuel, fun _ => rfl⟩, trivial⟩) (enc := N_51) (fun _ _ => ⟨rfl, rfl⟩) F_51
theorem F_52 (a : dens [.v (.pair .int (.pair .int (.slice (.pair (.slice .int) (.pair .int (.slice (.slice .int))))))), .v (.pair .int (.pair .int (.slice (.pair (.slice .int) (.pair .int (.slice (.slice .int)))))))]) : E_52.run a = funK C_52 Try.f11 [.v (.pair .int (.pair .int (.slice (.pair (.slice .int) (.pair .int (.slice (.slice .int))))))), .v (.pair .int (.pair .int (.slice (.pair (.slice .int) (.pair .int (.slice (.slice .int)))))))] [.v .bool] a (fun o r => some (N_52 o r)) := by
 kernel_rfl
theorem W_52 : loopsOf D_52 = [] := by kernel_rfl
theorem Q_52 : Try.prog.funcs[11]? = some Try.f11 ∧ (Try.f11.name == "runtime.NumGoroutine") = false ∧ Try.f11.body = some D_52 := ⟨Try.func11, by kernel_rfl, by kernel_rfl⟩
theorem H_52 : Holds Try.prog 11 E_52 :=
 holds_of (cx := C_52) (tabOk_ok tabT rfl).1 (allT_ok ⟨⟨H_51, _, _, Q_51⟩, trivial⟩) mixT Q_52.1 Q_52.2.2 (loops_of W_52 trivial) (enc := N_52) (fun _ _ => ⟨rfl, rfl⟩) F_52
theorem K_53L2 (n : Nat) (x) : laws_markIntS_L2 (n + 1) x = roundK C_53 B_53L2 (S_53L2 fuel) x (laws_markIntS_L2 n) := by
 obtain ⟨_, _, _⟩ := x
 kernel_rfl
theorem F_53 (a : dens [.io .int 0, .v .int]) : E_53.run a = funK C_53 Try.f27 [.io .int 0, .v .int] [.v .int] a (fun o r => some (N_53 o r)) := by
 kernel_rfl
theorem W_53 : loopsOf D_53 = [B_53L2] := by kernel_rfl
theorem R_53L2 : firstReg B_53L2 = 2 := by kernel_rfl
theorem Q_53 : Try.prog.funcs[27]? = some Try.f27 ∧ (Try.f27.name == "runtime.NumGoroutine") = false ∧ Try.f27.body = some D_53 := ⟨Try.func27, by kernel_rfl, by kernel_rfl⟩
theorem H_53 : Holds Try.prog 27 E_53 :=
 holds_of (cx := C_53) (tabOk_ok tabT rfl).1 (allT_ok trivial) mixT Q_53.1 Q_53.2.2 (loops_of W_53 ⟨loop_of (cx := C_53) (L := S_53L2 fuel) rfl (by rw [R_53L2]; rfl) ⟨laws_markIntS_L2, fun _ => rfl, fun n x => K_53L2 n x, fuel, fun _ => rfl⟩, trivial⟩) (enc := N_53) (fun _ _ => ⟨rfl, rfl⟩) F_53
theorem K_54L2 (n : Nat) (x) : laws_markIntSS_L2 (n + 1) x = roundK C_54 B_54L2 (S_54L2 fuel) x (laws_markIntSS_L2 n) := by
 obtain ⟨_, _, _⟩ := x
 kernel_rfl
theorem F_54 (a : dens [.io (.slice .int) 1, .v .int]) : E_54.run a = funK C_54 Try.f65 [.io (.slice .int) 1, .v .int] [.v .int] a (fun o r => some (N_54 o r)) := by
 kernel_rfl
theorem W_54 : loopsOf D_54 = [B_54L2] := by kernel_rfl
theorem R_54L2 : firstReg B_54L2 = 2 := by kernel_rfl
theorem Q_54 : Try.prog.funcs[65]? = some Try.f65 ∧ (Try.f65.name == "runtime.NumGoroutine") = false ∧ Try.f65.body = some D_54 := ⟨Try.func65, by kernel_rfl, by kernel_rfl⟩
theorem H_54 : Holds Try.prog 65 E_54 :=
 holds_of (cx := C_54) (tabOk_ok tabT rfl).1 (allT_ok ⟨⟨H_53, _, _, Q_53⟩, trivial⟩) mixT Q_54.1 Q_54.2.2 (loops_of W_54 ⟨loop_of (cx := C_54) (L := S_54L2 fuel) rfl (by rw [R_54L2]; rfl) ⟨laws_markIntSS_L2, fun _ => rfl, fun n x => K_54L2 n x, fuel, fun _ => rfl⟩, trivial⟩) (enc := N_54) (fun _ _ => ⟨rfl, rfl⟩) F_54
theorem K_55L2 (n : Nat) (x) : laws_markConstraintS_L2 (n + 1) x = roundK C_55 B_55L2 (S_55L2 fuel) x (laws_markConstraintS_L2 n) := by
 obtain ⟨_, _, _⟩ := x
 kernel_rfl
theorem F_55 (a : dens [.io (.pair (.slice .int) (.pair .int (.slice (.slice .int)))) 2, .v .int]) : E_55.run a = funK C_55 Try.f36 [.io (.pair (.slice .int) (.pair .int (.slice (.slice .int)))) 2, .v .int] [.v .int] a (fun o r => some (N_55 o r)) := by
 kernel_rfl
theorem W_55 : loopsOf D_55 = [B_55L2] := by kernel_rfl
theorem R_55L2 : firstReg B_55L2 = 2 := by kernel_rfl
theorem Q_55 : Try.prog.funcs[36]? = some Try.f36 ∧ (Try.f36.name == "runtime.NumGoroutine") = false ∧ Try.f36.body = some D_55 := ⟨Try.func36, by kernel_rfl, by kernel_rfl⟩
theorem H_55 : Holds Try.prog 36 E_55 :=
 holds_of (cx := C_55) (tabOk_ok tabT rfl).1 (allT_ok ⟨⟨H_53, _, _, Q_53⟩, ⟨⟨H_54, _, _, Q_54⟩, trivial⟩⟩) mixT Q_55.1 Q_55.2.2 (loops_of W_55 ⟨loop_of (cx := C_55) (L := S_55L2 fuel) rfl (by rw [R_55L2]; rfl) ⟨laws_markConstraintS_L2, fun _ => rfl, fun n x => K_55L2 n x, fuel, fun _ => rfl⟩, trivial⟩) (enc := N_55) (fun _ _ => ⟨rfl, rfl⟩) F_55
theorem F_56 (a : dens [.pr (.v .int) (.pr (.v .int) (.io (.pair (.slice .int) (.pair .int (.slice (.slice .int)))) 2)), .v .int]) : E_56.run a = funK C_56 Try.f12 [.pr (.v .int) (.pr (.v .int) (.io (.pair (.slice .int) (.pair .int (.slice (.slice .int)))) 2)), .v .int] [.v .int] a (fun o r => some (N_56 o r)) := by
 kernel_rfl
theorem W_56 : loopsOf D_56 = [] := by kernel_rfl
theorem Q_56 : Try.prog.funcs[12]? = some Try.f12 ∧ (Try.f12.name == "runtime.NumGoroutine") = false ∧ Try.f12.body = some D_56 := ⟨Try.func12, by kernel_rfl, by kernel_rfl⟩
theorem H_56 : Holds Try.prog 12 E_56 :=
 holds_of (cx := C_56) (tabOk_ok tabT rfl).1 (allT_ok ⟨⟨H_55, _, _, Q_55⟩, trivial⟩) mixT Q_56.1 Q_56.2.2 (loops_of W_56 trivial) (enc := N_56) (fun _ _ => ⟨rfl, rfl⟩) F_56
theorem K_57L2 (n : Nat) (x) : laws_heldIntS_L2 (n + 1) x = roundK C_57 B_57L2 (S_57L2 fuel) x (laws_heldIntS_L2 n) := by
 obtain ⟨_, _, _⟩ := x
 kernel_rfl
theorem F_57 (a : dens [.v (.slice .int), .v .int]) : E_57.run a = funK C_57 Try.f70 [.v (.slice .int), .v .int] [.v .int] a (fun o r => some (N_57 o r)) := by
 kernel_rfl
theorem W_57 : loopsOf D_57 = [B_57L2] := by kernel_rfl
theorem R_57L2 : firstReg B_57L2 = 2 := by kernel_rfl
theorem Q_57 : Try.prog.funcs[70]? = some Try.f70 ∧ (Try.f70.name == "runtime.NumGoroutine") = false ∧ Try.f70.body = some D_57 := ⟨Try.func70, by kernel_rfl, by kernel_rfl⟩
theorem H_57 : Holds Try.prog 70 E_57 :=
 holds_of (cx := C_57) (tabOk_ok tabT rfl).1 (allT_ok trivial) mixT Q_57.1 Q_57.2.2 (loops_of W_57 ⟨loop_of (cx := C_57) (L := S_57L2 fuel) rfl (by rw [R_57L2]; rfl) ⟨laws_heldIntS_L2, fun _ => rfl, fun n x => K_57L2 n x, fuel, fun _ => rfl⟩, trivial⟩) (enc := N_57) (fun _ _ => ⟨rfl, rfl⟩) F_57
theorem K_58L2 (n : Nat) (x) : laws_heldIntSS_L2 (n + 1) x = roundK C_58 B_58L2 (S_58L2 fuel) x (laws_heldIntSS_L2 n) := by
 obtain ⟨_, _, _⟩ := x
 kernel_rfl
theorem F_58 (a : dens [.v (.slice (.slice .int)), .v .int]) : E_58.run a = funK C_58 Try.f66 [.v (.slice (.slice .int)), .v .int] [.v .int] a (fun o r => some (N_58 o r)) := by
 kernel_rfl
theorem W_58 : loopsOf D_58 = [B_58L2] := by kernel_rfl
theorem R_58L2 : firstReg B_58L2 = 2 := by kernel_rfl
theorem Q_58 : Try.prog.funcs[66]? = some Try.f66 ∧ (Try.f66.name == "runtime.NumGoroutine") = false ∧ Try.f66.body = some D_58 := ⟨Try.func66, by kernel_rfl, by kernel_rfl⟩
theorem H_58 : Holds Try.prog 66 E_58 :=
 holds_of (cx := C_58) (tabOk_ok tabT rfl).1 (allT_ok ⟨⟨H_57, _, _, Q_57⟩, trivial⟩) mixT Q_58.1 Q_58.2.2 (loops_of W_58 ⟨loop_of (cx := C_58) (L := S_58L2 fuel) rfl (by rw [R_58L2]; rfl) ⟨laws_heldIntSS_L2, fun _ => rfl, fun n x => K_58L2 n x, fuel, fun _ => rfl⟩, trivial⟩) (enc := N_58) (fun _ _ => ⟨rfl, rfl⟩) F_58
theorem K_59L2 (n : Nat) (x) : laws_heldConstraintS_L2 (n + 1) x = roundK C_59 B_59L2 (S_59L2 fuel) x (laws_heldConstraintS_L2 n) := by
 obtain ⟨_, _, _⟩ := x
 kernel_rfl
theorem F_59 (a : dens [.v (.slice (.pair (.slice .int) (.pair .int (.slice (.slice .int))))), .v .int]) : E_59.run a = funK C_59 Try.f37 [.v (.slice (.pair (.slice .int) (.pair .int (.slice (.slice .int))))), .v .int] [.v .int] a (fun o r => some (N_59 o r)) := by
 kernel_rfl
theorem W_59 : loopsOf D_59 = [B_59L2] := by kernel_rfl
theorem R_59L2 : firstReg B_59L2 = 2 := by kernel_rfl
theorem Q_59 : Try.prog.funcs[37]? = some Try.f37 ∧ (Try.f37.name == "runtime.NumGoroutine") = false ∧ Try.f37.body = some D_59 := ⟨Try.func37, by kernel_rfl, by kernel_rfl⟩
theorem H_59 : Holds Try.prog 37 E_59 :=
 holds_of (cx := C_59) (tabOk_ok tabT rfl).1 (allT_ok ⟨⟨H_58, _, _, Q_58⟩, ⟨⟨H_57, _, _, Q_57⟩, trivial⟩⟩) mixT Q_59.1 Q_59.2.2 (loops_of W_59 ⟨loop_of (cx := C_59) (L := S_59L2 fuel) rfl (by rw [R_59L2]; rfl) ⟨laws_heldConstraintS_L2, fun _ => rfl, fun n x => K_59L2 n x, fuel, fun _ => rfl⟩, trivial⟩) (enc := N_59) (fun _ _ => ⟨rfl, rfl⟩) F_59
theorem F_60 (a : dens [.v (.pair .int (.pair .int (.slice (.pair (.slice .int) (.pair .int (.slice (.slice .int))))))), .v .int]) : E_60.run a = funK C_60 Try.f13 [.v (.pair .int (.pair .int (.slice (.pair (.slice .int) (.pair .int (.slice (.slice .int))))))), .v .int] [.v .int] a (fun o r => some (N_60 o r)) := by
 kernel_rfl
theorem W_60 : loopsOf D_60 = [] := by kernel_rfl
theorem Q_60 : Try.prog.funcs[13]? = some Try.f13 ∧ (Try.f13.name == "runtime.NumGoroutine") = false ∧ Try.f13.body = some D_60 := ⟨Try.func13, by kernel_rfl, by kernel_rfl⟩
theorem H_60 : Holds Try.prog 13 E_60 :=
 holds_of (cx := C_60) (tabOk_ok tabT rfl).1 (allT_ok ⟨⟨H_59, _, _, Q_59⟩, trivial⟩) mixT Q_60.1 Q_60.2.2 (loops_of W_60 trivial) (enc := N_60) (fun _ _ => ⟨rfl, rfl⟩) F_60
theorem F_61 (a : dens [.v (.pair .int (.pair .int (.slice (.pair (.slice .int) (.pair .int (.slice (.slice .int)))))))]) : E_61.run a = funK C_61 Try.f5 [.v (.pair .int (.pair .int (.slice (.pair (.slice .int) (.pair .int (.slice (.slice .int)))))))] [.v .bool] a (fun o r => some (N_61 o r)) := by
 kernel_rfl
theorem W_61 : loopsOf D_61 = [] := by kernel_rfl
theorem Q_61 : Try.prog.funcs[5]? = some Try.f5 ∧ (Try.f5.name == "runtime.NumGoroutine") = false ∧ Try.f5.body = some D_61 := ⟨Try.func5, by kernel_rfl, by kernel_rfl⟩
theorem H_61 : Holds Try.prog 5 E_61 :=
 holds_of (cx := C_61) (tabOk_ok tabT rfl).1 (allT_ok ⟨⟨H_6, _, _, Q_6⟩, ⟨⟨H_12, _, _, Q_12⟩, ⟨⟨H_52, _, _, Q_52⟩, ⟨⟨H_56, _, _, Q_56⟩, ⟨⟨H_60, _, _, Q_60⟩, ⟨⟨H_29, _, _, Q_29⟩, ⟨⟨H_46, _, _, Q_46⟩, trivial⟩⟩⟩⟩⟩⟩⟩) mixT Q_61.1 Q_61.2.2 (loops_of W_61 trivial) (enc := N_61) (fun _ _ => ⟨rfl, rfl⟩) F_61
end T
