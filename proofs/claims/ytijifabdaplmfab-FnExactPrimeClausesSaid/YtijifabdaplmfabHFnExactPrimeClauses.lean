/- Each typed function is what the program computes; no conditions. -/
import Derived.Test.YtijifabdaplmfabSFnExactPrimeClauses
import Derived.Test.YtijifabdaplmfabCFnExactPrimeClauses
set_option linter.all false
set_option maxRecDepth 10000
open Go Go.Va Go.Proofs
namespace T
theorem F_1 (a : dens [.v (.slice .int), .v .int]) : E_1.run a = funK C_1 Try.f51 [.v (.slice .int), .v .int] [.v .int] a (fun o r => some (N_1 o r)) := by
 kernel_rfl
theorem W_1 : loopsOf D_1 = [] := by kernel_rfl
theorem Q_1 : Try.prog.funcs[51]? = some Try.f51 ∧ (Try.f51.name == "runtime.NumGoroutine") = false ∧ Try.f51.body = some D_1 := ⟨Try.func51, by kernel_rfl, by kernel_rfl⟩
theorem H_1 : Holds Try.prog 51 E_1 :=
 holds_of (cx := C_1) (tabOk_ok tabT rfl).1 (allT_ok trivial) mixT Q_1.1 Q_1.2.2 (loops_of W_1 trivial) (enc := N_1) (fun _ _ => ⟨rfl, rfl⟩) F_1
theorem K_2L5 (n : Nat) (x) : laws_szIntSS_L5 (n + 1) x = roundK C_2 B_2L5 (S_2L5 fuel) x (laws_szIntSS_L5 n) := by
 obtain ⟨_, _, _⟩ := x
 kernel_rfl
theorem F_2 (a : dens [.v (.slice (.slice .int)), .v .int]) : E_2.run a = funK C_2 Try.f34 [.v (.slice (.slice .int)), .v .int] [.v .int] a (fun o r => some (N_2 o r)) := by
 kernel_rfl
theorem W_2 : loopsOf D_2 = [B_2L5] := by kernel_rfl
theorem R_2L5 : firstReg B_2L5 = 5 := by kernel_rfl
theorem Q_2 : Try.prog.funcs[34]? = some Try.f34 ∧ (Try.f34.name == "runtime.NumGoroutine") = false ∧ Try.f34.body = some D_2 := ⟨Try.func34, by kernel_rfl, by kernel_rfl⟩
theorem H_2 : Holds Try.prog 34 E_2 :=
 holds_of (cx := C_2) (tabOk_ok tabT rfl).1 (allT_ok ⟨⟨H_1, _, _, Q_1⟩, trivial⟩) mixT Q_2.1 Q_2.2.2 (loops_of W_2 ⟨loop_of (cx := C_2) (L := S_2L5 fuel) rfl (by rw [R_2L5]; rfl) ⟨laws_szIntSS_L5, fun _ => rfl, fun n x => K_2L5 n x, fuel, fun _ => rfl⟩, trivial⟩) (enc := N_2) (fun _ _ => ⟨rfl, rfl⟩) F_2
theorem F_3 (a : dens [.v (.pair .int (.slice (.slice .int))), .v .int]) : E_3.run a = funK C_3 Try.f7 [.v (.pair .int (.slice (.slice .int))), .v .int] [.v .int] a (fun o r => some (N_3 o r)) := by
 kernel_rfl
theorem W_3 : loopsOf D_3 = [] := by kernel_rfl
theorem Q_3 : Try.prog.funcs[7]? = some Try.f7 ∧ (Try.f7.name == "runtime.NumGoroutine") = false ∧ Try.f7.body = some D_3 := ⟨Try.func7, by kernel_rfl, by kernel_rfl⟩
theorem H_3 : Holds Try.prog 7 E_3 :=
 holds_of (cx := C_3) (tabOk_ok tabT rfl).1 (allT_ok ⟨⟨H_2, _, _, Q_2⟩, trivial⟩) mixT Q_3.1 Q_3.2.2 (loops_of W_3 trivial) (enc := N_3) (fun _ _ => ⟨rfl, rfl⟩) F_3
theorem K_4L3 (n : Nat) (x) : laws_toIntS_L3 (n + 1) x = roundK C_4 B_4L3 (S_4L3 fuel) x (laws_toIntS_L3 n) := by
 obtain ⟨_, _, _⟩ := x
 kernel_rfl
theorem F_4 (a : dens [.v (.slice .int)]) : E_4.run a = funK C_4 Try.f57 [.v (.slice .int)] [.mv .int 0] a (fun o r => some (N_4 o r)) := by
 kernel_rfl
theorem W_4 : loopsOf D_4 = [B_4L3] := by kernel_rfl
theorem R_4L3 : firstReg B_4L3 = 3 := by kernel_rfl
theorem Q_4 : Try.prog.funcs[57]? = some Try.f57 ∧ (Try.f57.name == "runtime.NumGoroutine") = false ∧ Try.f57.body = some D_4 := ⟨Try.func57, by kernel_rfl, by kernel_rfl⟩
theorem H_4 : Holds Try.prog 57 E_4 :=
 holds_of (cx := C_4) (tabOk_ok tabT rfl).1 (allT_ok trivial) mixT Q_4.1 Q_4.2.2 (loops_of W_4 ⟨loop_of (cx := C_4) (L := S_4L3 fuel) rfl (by rw [R_4L3]; rfl) ⟨laws_toIntS_L3, fun _ => rfl, fun n x => K_4L3 n x, fuel, fun _ => rfl⟩, trivial⟩) (enc := N_4) (fun _ _ => ⟨rfl, rfl⟩) F_4
theorem K_5L3 (n : Nat) (x) : laws_toIntSS_L3 (n + 1) x = roundK C_5 B_5L3 (S_5L3 fuel) x (laws_toIntSS_L3 n) := by
 obtain ⟨_, _, _⟩ := x
 kernel_rfl
theorem F_5 (a : dens [.v (.slice (.slice .int))]) : E_5.run a = funK C_5 Try.f37 [.v (.slice (.slice .int))] [.mv (.slice .int) 1] a (fun o r => some (N_5 o r)) := by
 kernel_rfl
theorem W_5 : loopsOf D_5 = [B_5L3] := by kernel_rfl
theorem R_5L3 : firstReg B_5L3 = 3 := by kernel_rfl
theorem Q_5 : Try.prog.funcs[37]? = some Try.f37 ∧ (Try.f37.name == "runtime.NumGoroutine") = false ∧ Try.f37.body = some D_5 := ⟨Try.func37, by kernel_rfl, by kernel_rfl⟩
theorem H_5 : Holds Try.prog 37 E_5 :=
 holds_of (cx := C_5) (tabOk_ok tabT rfl).1 (allT_ok ⟨⟨H_4, _, _, Q_4⟩, trivial⟩) mixT Q_5.1 Q_5.2.2 (loops_of W_5 ⟨loop_of (cx := C_5) (L := S_5L3 fuel) rfl (by rw [R_5L3]; rfl) ⟨laws_toIntSS_L3, fun _ => rfl, fun n x => K_5L3 n x, fuel, fun _ => rfl⟩, trivial⟩) (enc := N_5) (fun _ _ => ⟨rfl, rfl⟩) F_5
theorem F_6 (a : dens [.v (.pair .int (.slice (.slice .int)))]) : E_6.run a = funK C_6 Try.f9 [.v (.pair .int (.slice (.slice .int)))] [.pr (.v .int) (.mv (.slice .int) 1)] a (fun o r => some (N_6 o r)) := by
 kernel_rfl
theorem W_6 : loopsOf D_6 = [] := by kernel_rfl
theorem Q_6 : Try.prog.funcs[9]? = some Try.f9 ∧ (Try.f9.name == "runtime.NumGoroutine") = false ∧ Try.f9.body = some D_6 := ⟨Try.func9, by kernel_rfl, by kernel_rfl⟩
theorem H_6 : Holds Try.prog 9 E_6 :=
 holds_of (cx := C_6) (tabOk_ok tabT rfl).1 (allT_ok ⟨⟨H_5, _, _, Q_5⟩, trivial⟩) mixT Q_6.1 Q_6.2.2 (loops_of W_6 trivial) (enc := N_6) (fun _ _ => ⟨rfl, rfl⟩) F_6
theorem F_7 (a : dens [.v .int, .v .int, .v .int]) : E_7.run a = funK C_7 Try.f63 [.v .int, .v .int, .v .int] [.v .bool] a (fun o r => some (N_7 o r)) := by
 kernel_rfl
theorem W_7 : loopsOf D_7 = [] := by kernel_rfl
theorem Q_7 : Try.prog.funcs[63]? = some Try.f63 ∧ (Try.f63.name == "runtime.NumGoroutine") = false ∧ Try.f63.body = some D_7 := ⟨Try.func63, by kernel_rfl, by kernel_rfl⟩
theorem H_7 : Holds Try.prog 63 E_7 :=
 holds_of (cx := C_7) (tabOk_ok tabT rfl).1 (allT_ok trivial) mixT Q_7.1 Q_7.2.2 (loops_of W_7 trivial) (enc := N_7) (fun _ _ => ⟨rfl, rfl⟩) F_7
theorem K_8L2 (n : Nat) (x) : spec_l2Pow_L2 (n + 1) x = roundK C_8 B_8L2 (S_8L2 fuel) x (spec_l2Pow_L2 n) := by
 obtain ⟨_, _, _⟩ := x
 kernel_rfl
theorem F_8 (a : dens [.v .int, .v .int]) : E_8.run a = funK C_8 Try.f64 [.v .int, .v .int] [.v .int] a (fun o r => some (N_8 o r)) := by
 kernel_rfl
theorem W_8 : loopsOf D_8 = [B_8L2] := by kernel_rfl
theorem R_8L2 : firstReg B_8L2 = 2 := by kernel_rfl
theorem Q_8 : Try.prog.funcs[64]? = some Try.f64 ∧ (Try.f64.name == "runtime.NumGoroutine") = false ∧ Try.f64.body = some D_8 := ⟨Try.func64, by kernel_rfl, by kernel_rfl⟩
theorem H_8 : Holds Try.prog 64 E_8 :=
 holds_of (cx := C_8) (tabOk_ok tabT rfl).1 (allT_ok trivial) mixT Q_8.1 Q_8.2.2 (loops_of W_8 ⟨loop_of (cx := C_8) (L := S_8L2 fuel) rfl (by rw [R_8L2]; rfl) ⟨spec_l2Pow_L2, fun _ => rfl, fun n x => K_8L2 n x, fuel, fun _ => rfl⟩, trivial⟩) (enc := N_8) (fun _ _ => ⟨rfl, rfl⟩) F_8
theorem K_9L2 (n : Nat) (x) : spec_l2Elements_L2 (n + 1) x = roundK C_9 B_9L2 (S_9L2 fuel) x (spec_l2Elements_L2 n) := by
 obtain ⟨_, _, _⟩ := x
 kernel_rfl
theorem F_9 (a : dens [.v .int, .v (.slice .int)]) : E_9.run a = funK C_9 Try.f85 [.v .int, .v (.slice .int)] [.v .bool] a (fun o r => some (N_9 o r)) := by
 kernel_rfl
theorem W_9 : loopsOf D_9 = [B_9L2] := by kernel_rfl
theorem R_9L2 : firstReg B_9L2 = 2 := by kernel_rfl
theorem Q_9 : Try.prog.funcs[85]? = some Try.f85 ∧ (Try.f85.name == "runtime.NumGoroutine") = false ∧ Try.f85.body = some D_9 := ⟨Try.func85, by kernel_rfl, by kernel_rfl⟩
theorem H_9 : Holds Try.prog 85 E_9 :=
 holds_of (cx := C_9) (tabOk_ok tabT rfl).1 (allT_ok ⟨⟨H_7, _, _, Q_7⟩, trivial⟩) mixT Q_9.1 Q_9.2.2 (loops_of W_9 ⟨loop_of (cx := C_9) (L := S_9L2 fuel) rfl (by rw [R_9L2]; rfl) ⟨spec_l2Elements_L2, fun _ => rfl, fun n x => K_9L2 n x, fuel, fun _ => rfl⟩, trivial⟩) (enc := N_9) (fun _ _ => ⟨rfl, rfl⟩) F_9
theorem F_10 (a : dens [.v .int, .v .int, .v (.slice .int)]) : E_10.run a = funK C_10 Try.f65 [.v .int, .v .int, .v (.slice .int)] [.v .bool] a (fun o r => some (N_10 o r)) := by
 kernel_rfl
theorem W_10 : loopsOf D_10 = [] := by kernel_rfl
theorem Q_10 : Try.prog.funcs[65]? = some Try.f65 ∧ (Try.f65.name == "runtime.NumGoroutine") = false ∧ Try.f65.body = some D_10 := ⟨Try.func65, by kernel_rfl, by kernel_rfl⟩
theorem H_10 : Holds Try.prog 65 E_10 :=
 holds_of (cx := C_10) (tabOk_ok tabT rfl).1 (allT_ok ⟨⟨H_9, _, _, Q_9⟩, trivial⟩) mixT Q_10.1 Q_10.2.2 (loops_of W_10 trivial) (enc := N_10) (fun _ _ => ⟨rfl, rfl⟩) F_10
theorem K_11L2 (n : Nat) (x) : spec_l3Less_L2 (n + 1) x = roundK C_11 B_11L2 (S_11L2 fuel) x (spec_l3Less_L2 n) := by
 obtain ⟨_, _, _⟩ := x
 kernel_rfl
theorem F_11 (a : dens [.v (.slice .int), .v (.slice .int)]) : E_11.run a = funK C_11 Try.f66 [.v (.slice .int), .v (.slice .int)] [.v .bool] a (fun o r => some (N_11 o r)) := by
 kernel_rfl
theorem W_11 : loopsOf D_11 = [B_11L2] := by kernel_rfl
theorem R_11L2 : firstReg B_11L2 = 2 := by kernel_rfl
theorem Q_11 : Try.prog.funcs[66]? = some Try.f66 ∧ (Try.f66.name == "runtime.NumGoroutine") = false ∧ Try.f66.body = some D_11 := ⟨Try.func66, by kernel_rfl, by kernel_rfl⟩
theorem H_11 : Holds Try.prog 66 E_11 :=
 holds_of (cx := C_11) (tabOk_ok tabT rfl).1 (allT_ok trivial) mixT Q_11.1 Q_11.2.2 (loops_of W_11 ⟨loop_of (cx := C_11) (L := S_11L2 fuel) rfl (by rw [R_11L2]; rfl) ⟨spec_l3Less_L2, fun _ => rfl, fun n x => K_11L2 n x, fuel, fun _ => rfl⟩, trivial⟩) (enc := N_11) (fun _ _ => ⟨rfl, rfl⟩) F_11
theorem K_12L4 (n : Nat) (x) : spec_l13Good_L4 (n + 1) x = roundK C_12 B_12L4 (S_12L4 fuel) x (spec_l13Good_L4 n) := by
 obtain ⟨_, _, _⟩ := x
 kernel_rfl
theorem F_12 (a : dens [.v .int, .v (.pair .int (.slice (.slice .int)))]) : E_12.run a = funK C_12 Try.f35 [.v .int, .v (.pair .int (.slice (.slice .int)))] [.v .bool] a (fun o r => some (N_12 o r)) := by
 kernel_rfl
theorem W_12 : loopsOf D_12 = [B_12L4] := by kernel_rfl
theorem R_12L4 : firstReg B_12L4 = 4 := by kernel_rfl
theorem Q_12 : Try.prog.funcs[35]? = some Try.f35 ∧ (Try.f35.name == "runtime.NumGoroutine") = false ∧ Try.f35.body = some D_12 := ⟨Try.func35, by kernel_rfl, by kernel_rfl⟩
theorem H_12 : Holds Try.prog 35 E_12 :=
 holds_of (cx := C_12) (tabOk_ok tabT rfl).1 (allT_ok ⟨⟨H_7, _, _, Q_7⟩, ⟨⟨H_8, _, _, Q_8⟩, ⟨⟨H_10, _, _, Q_10⟩, ⟨⟨H_11, _, _, Q_11⟩, trivial⟩⟩⟩⟩) mixT Q_12.1 Q_12.2.2 (loops_of W_12 ⟨loop_of (cx := C_12) (L := S_12L4 fuel) rfl (by rw [R_12L4]; rfl) ⟨spec_l13Good_L4, fun _ => rfl, fun n x => K_12L4 n x, fuel, fun _ => rfl⟩, trivial⟩) (enc := N_12) (fun _ _ => ⟨rfl, rfl⟩) F_12
theorem K_13L3 (n : Nat) (x) : spec_l2Args_L3 (n + 1) x = roundK C_13 B_13L3 (S_13L3 fuel) x (spec_l2Args_L3 n) := by
 obtain ⟨_, _, _, _⟩ := x
 kernel_rfl
theorem F_13 (a : dens [.v .int, .v .int, .v .int]) : E_13.run a = funK C_13 Try.f86 [.v .int, .v .int, .v .int] [.mv .int 0] a (fun o r => some (N_13 o r)) := by
 kernel_rfl
theorem W_13 : loopsOf D_13 = [B_13L3] := by kernel_rfl
theorem R_13L3 : firstReg B_13L3 = 3 := by kernel_rfl
theorem Q_13 : Try.prog.funcs[86]? = some Try.f86 ∧ (Try.f86.name == "runtime.NumGoroutine") = false ∧ Try.f86.body = some D_13 := ⟨Try.func86, by kernel_rfl, by kernel_rfl⟩
theorem H_13 : Holds Try.prog 86 E_13 :=
 holds_of (cx := C_13) (tabOk_ok tabT rfl).1 (allT_ok trivial) mixT Q_13.1 Q_13.2.2 (loops_of W_13 ⟨loop_of (cx := C_13) (L := S_13L3 fuel) rfl (by rw [R_13L3]; rfl) ⟨spec_l2Args_L3, fun _ => rfl, fun n x => K_13L3 n x, fuel, fun _ => rfl⟩, trivial⟩) (enc := N_13) (fun _ _ => ⟨rfl, rfl⟩) F_13
theorem F_14 (a : dens [.v (.slice .int), .v (.slice .int)]) : E_14.run a = funK C_14 Try.f87 [.v (.slice .int), .v (.slice .int)] [.v .bool] a (fun o r => some (N_14 o r)) := by
 kernel_rfl
theorem W_14 : loopsOf D_14 = [] := by kernel_rfl
theorem Q_14 : Try.prog.funcs[87]? = some Try.f87 ∧ (Try.f87.name == "runtime.NumGoroutine") = false ∧ Try.f87.body = some D_14 := ⟨Try.func87, by kernel_rfl, by kernel_rfl⟩
theorem H_14 : Holds Try.prog 87 E_14 :=
 holds_of (cx := C_14) (tabOk_ok tabT rfl).1 (allT_ok ⟨⟨H_11, _, _, Q_11⟩, trivial⟩) mixT Q_14.1 Q_14.2.2 (loops_of W_14 trivial) (enc := N_14) (fun _ _ => ⟨rfl, rfl⟩) F_14
theorem K_15L7 (n : Nat) (x) : spec_l22Clauses_L7 (n + 1) x = roundK C_15 B_15L7 (S_15L7 fuel) x (spec_l22Clauses_L7 n) := by
 obtain ⟨_, _, _, _, _, _⟩ := x
 kernel_rfl
theorem K_15L14 (n : Nat) (x) : spec_l22Clauses_L14 (n + 1) x = roundK C_15 B_15L14 (S_15L14 fuel) x (spec_l22Clauses_L14 n) := by
 obtain ⟨_, _, _, _, _⟩ := x
 kernel_rfl
theorem K_15L3 (n : Nat) (x) : spec_l22Clauses_L3 (n + 1) x = roundK C_15 B_15L3 (S_15L3 fuel) x (spec_l22Clauses_L3 n) := by
 obtain ⟨_, _, _⟩ := x
 kernel_rfl
theorem F_15 (a : dens [.v .int]) : E_15.run a = funK C_15 Try.f67 [.v .int] [.v (.slice (.slice .int))] a (fun o r => some (N_15 o r)) := by
 kernel_rfl
theorem W_15 : loopsOf D_15 = [B_15L3, B_15L7, B_15L14] := by kernel_rfl
theorem R_15L7 : firstReg B_15L7 = 7 := by kernel_rfl
theorem R_15L14 : firstReg B_15L14 = 14 := by kernel_rfl
theorem R_15L3 : firstReg B_15L3 = 3 := by kernel_rfl
theorem Q_15 : Try.prog.funcs[67]? = some Try.f67 ∧ (Try.f67.name == "runtime.NumGoroutine") = false ∧ Try.f67.body = some D_15 := ⟨Try.func67, by kernel_rfl, by kernel_rfl⟩
theorem H_15 : Holds Try.prog 67 E_15 :=
 holds_of (cx := C_15) (tabOk_ok tabT rfl).1 (allT_ok ⟨⟨H_8, _, _, Q_8⟩, ⟨⟨H_13, _, _, Q_13⟩, ⟨⟨H_14, _, _, Q_14⟩, trivial⟩⟩⟩) mixT Q_15.1 Q_15.2.2 (loops_of W_15 ⟨loop_of (cx := C_15) (L := S_15L3 fuel) rfl (by rw [R_15L3]; rfl) ⟨spec_l22Clauses_L3, fun _ => rfl, fun n x => K_15L3 n x, fuel, fun _ => rfl⟩, ⟨loop_of (cx := C_15) (L := S_15L7 fuel) rfl (by rw [R_15L7]; rfl) ⟨spec_l22Clauses_L7, fun _ => rfl, fun n x => K_15L7 n x, fuel, fun _ => rfl⟩, ⟨loop_of (cx := C_15) (L := S_15L14 fuel) rfl (by rw [R_15L14]; rfl) ⟨spec_l22Clauses_L14, fun _ => rfl, fun n x => K_15L14 n x, fuel, fun _ => rfl⟩, trivial⟩⟩⟩) (enc := N_15) (fun _ _ => ⟨rfl, rfl⟩) F_15
theorem K_16L2 (n : Nat) (x) : spec_l22Obeys_L2 (n + 1) x = roundK C_16 B_16L2 (S_16L2 fuel) x (spec_l22Obeys_L2 n) := by
 obtain ⟨_, _, _⟩ := x
 kernel_rfl
theorem F_16 (a : dens [.v (.slice .int), .v (.slice .int)]) : E_16.run a = funK C_16 Try.f88 [.v (.slice .int), .v (.slice .int)] [.v .bool] a (fun o r => some (N_16 o r)) := by
 kernel_rfl
theorem W_16 : loopsOf D_16 = [B_16L2] := by kernel_rfl
theorem R_16L2 : firstReg B_16L2 = 2 := by kernel_rfl
theorem Q_16 : Try.prog.funcs[88]? = some Try.f88 ∧ (Try.f88.name == "runtime.NumGoroutine") = false ∧ Try.f88.body = some D_16 := ⟨Try.func88, by kernel_rfl, by kernel_rfl⟩
theorem H_16 : Holds Try.prog 88 E_16 :=
 holds_of (cx := C_16) (tabOk_ok tabT rfl).1 (allT_ok trivial) mixT Q_16.1 Q_16.2.2 (loops_of W_16 ⟨loop_of (cx := C_16) (L := S_16L2 fuel) rfl (by rw [R_16L2]; rfl) ⟨spec_l22Obeys_L2, fun _ => rfl, fun n x => K_16L2 n x, fuel, fun _ => rfl⟩, trivial⟩) (enc := N_16) (fun _ _ => ⟨rfl, rfl⟩) F_16
theorem K_17L2 (n : Nat) (x) : spec_l22All_L2 (n + 1) x = roundK C_17 B_17L2 (S_17L2 fuel) x (spec_l22All_L2 n) := by
 obtain ⟨_, _, _⟩ := x
 kernel_rfl
theorem F_17 (a : dens [.v (.pair .int (.slice (.slice .int))), .v (.slice .int)]) : E_17.run a = funK C_17 Try.f68 [.v (.pair .int (.slice (.slice .int))), .v (.slice .int)] [.v .bool] a (fun o r => some (N_17 o r)) := by
 kernel_rfl
theorem W_17 : loopsOf D_17 = [B_17L2] := by kernel_rfl
theorem R_17L2 : firstReg B_17L2 = 2 := by kernel_rfl
theorem Q_17 : Try.prog.funcs[68]? = some Try.f68 ∧ (Try.f68.name == "runtime.NumGoroutine") = false ∧ Try.f68.body = some D_17 := ⟨Try.func68, by kernel_rfl, by kernel_rfl⟩
theorem H_17 : Holds Try.prog 68 E_17 :=
 holds_of (cx := C_17) (tabOk_ok tabT rfl).1 (allT_ok ⟨⟨H_16, _, _, Q_16⟩, trivial⟩) mixT Q_17.1 Q_17.2.2 (loops_of W_17 ⟨loop_of (cx := C_17) (L := S_17L2 fuel) rfl (by rw [R_17L2]; rfl) ⟨spec_l22All_L2, fun _ => rfl, fun n x => K_17L2 n x, fuel, fun _ => rfl⟩, trivial⟩) (enc := N_17) (fun _ _ => ⟨rfl, rfl⟩) F_17
theorem F_18 (a : dens [.v (.slice .int)]) : E_18.run a = funK C_18 Try.f45 [.v (.slice .int)] [.mv .int 0] a (fun o r => some (N_18 o r)) := by
 kernel_rfl
theorem W_18 : loopsOf D_18 = [] := by kernel_rfl
theorem Q_18 : Try.prog.funcs[45]? = some Try.f45 ∧ (Try.f45.name == "runtime.NumGoroutine") = false ∧ Try.f45.body = some D_18 := ⟨Try.func45, by kernel_rfl, by kernel_rfl⟩
theorem H_18 : Holds Try.prog 45 E_18 :=
 holds_of (cx := C_18) (tabOk_ok tabT rfl).1 (allT_ok trivial) mixT Q_18.1 Q_18.2.2 (loops_of W_18 trivial) (enc := N_18) (fun _ _ => ⟨rfl, rfl⟩) F_18
theorem K_19L7 (n : Nat) (x) : spec_l22Prime_L7 (n + 1) x = roundK C_19 B_19L7 (S_19L7 fuel) x (spec_l22Prime_L7 n) := by
 obtain ⟨_, _, _, _, _, _⟩ := x
 kernel_rfl
theorem K_19L3 (n : Nat) (x) : spec_l22Prime_L3 (n + 1) x = roundK C_19 B_19L3 (S_19L3 fuel) x (spec_l22Prime_L3 n) := by
 obtain ⟨_, _, _, _⟩ := x
 kernel_rfl
theorem F_19 (a : dens [.v (.pair .int (.slice (.slice .int)))]) : E_19.run a = funK C_19 Try.f36 [.v (.pair .int (.slice (.slice .int)))] [.mv (.slice .int) 0] a (fun o r => some (N_19 o r)) := by
 kernel_rfl
theorem W_19 : loopsOf D_19 = [B_19L3, B_19L7] := by kernel_rfl
theorem R_19L7 : firstReg B_19L7 = 7 := by kernel_rfl
theorem R_19L3 : firstReg B_19L3 = 3 := by kernel_rfl
theorem Q_19 : Try.prog.funcs[36]? = some Try.f36 ∧ (Try.f36.name == "runtime.NumGoroutine") = false ∧ Try.f36.body = some D_19 := ⟨Try.func36, by kernel_rfl, by kernel_rfl⟩
theorem H_19 : Holds Try.prog 36 E_19 :=
 holds_of (cx := C_19) (tabOk_ok tabT rfl).1 (allT_ok ⟨⟨H_18, _, _, Q_18⟩, ⟨⟨H_15, _, _, Q_15⟩, ⟨⟨H_17, _, _, Q_17⟩, trivial⟩⟩⟩) mixT Q_19.1 Q_19.2.2 (loops_of W_19 ⟨loop_of (cx := C_19) (L := S_19L3 fuel) rfl (by rw [R_19L3]; rfl) ⟨spec_l22Prime_L3, fun _ => rfl, fun n x => K_19L3 n x, fuel, fun _ => rfl⟩, ⟨loop_of (cx := C_19) (L := S_19L7 fuel) rfl (by rw [R_19L7]; rfl) ⟨spec_l22Prime_L7, fun _ => rfl, fun n x => K_19L7 n x, fuel, fun _ => rfl⟩, trivial⟩⟩) (enc := N_19) (fun _ _ => ⟨rfl, rfl⟩) F_19
theorem F_20 (a : dens [.v (.pair .int (.slice (.slice .int)))]) : E_20.run a = funK C_20 Try.f8 [.v (.pair .int (.slice (.slice .int)))] [.mv (.slice .int) 0, .v .bool] a (fun o r => some (N_20 o r)) := by
 kernel_rfl
theorem W_20 : loopsOf D_20 = [] := by kernel_rfl
theorem Q_20 : Try.prog.funcs[8]? = some Try.f8 ∧ (Try.f8.name == "runtime.NumGoroutine") = false ∧ Try.f8.body = some D_20 := ⟨Try.func8, by kernel_rfl, by kernel_rfl⟩
theorem H_20 : Holds Try.prog 8 E_20 :=
 holds_of (cx := C_20) (tabOk_ok tabT rfl).1 (allT_ok ⟨⟨H_12, _, _, Q_12⟩, ⟨⟨H_19, _, _, Q_19⟩, trivial⟩⟩) mixT Q_20.1 Q_20.2.2 (loops_of W_20 trivial) (enc := N_20) (fun _ _ => ⟨rfl, rfl⟩) F_20
theorem K_21L2 (n : Nat) (x) : impl_inSize_L2 (n + 1) x = roundK C_21 B_21L2 (S_21L2 fuel) x (impl_inSize_L2 n) := by
 obtain ⟨_, _, _, _⟩ := x
 kernel_rfl
theorem F_21 (a : dens [.v (.slice .int), .v .int]) : E_21.run a = funK C_21 Try.f69 [.v (.slice .int), .v .int] [.v .bool] a (fun o r => some (N_21 o r)) := by
 kernel_rfl
theorem W_21 : loopsOf D_21 = [B_21L2] := by kernel_rfl
theorem R_21L2 : firstReg B_21L2 = 2 := by kernel_rfl
theorem Q_21 : Try.prog.funcs[69]? = some Try.f69 ∧ (Try.f69.name == "runtime.NumGoroutine") = false ∧ Try.f69.body = some D_21 := ⟨Try.func69, by kernel_rfl, by kernel_rfl⟩
theorem H_21 : Holds Try.prog 69 E_21 :=
 holds_of (cx := C_21) (tabOk_ok tabT rfl).1 (allT_ok trivial) mixT Q_21.1 Q_21.2.2 (loops_of W_21 ⟨loop_of (cx := C_21) (L := S_21L2 fuel) rfl (by rw [R_21L2]; rfl) ⟨impl_inSize_L2, fun _ => rfl, fun n x => K_21L2 n x, fuel, fun _ => rfl⟩, trivial⟩) (enc := N_21) (fun _ _ => ⟨rfl, rfl⟩) F_21
theorem K_22L2 (n : Nat) (x) : impl_compareLists_L2 (n + 1) x = roundK C_22 B_22L2 (S_22L2 fuel) x (impl_compareLists_L2 n) := by
 obtain ⟨_, _, _⟩ := x
 kernel_rfl
theorem F_22 (a : dens [.v (.slice .int), .v (.slice .int)]) : E_22.run a = funK C_22 Try.f70 [.v (.slice .int), .v (.slice .int)] [.v .int] a (fun o r => some (N_22 o r)) := by
 kernel_rfl
theorem W_22 : loopsOf D_22 = [B_22L2] := by kernel_rfl
theorem R_22L2 : firstReg B_22L2 = 2 := by kernel_rfl
theorem Q_22 : Try.prog.funcs[70]? = some Try.f70 ∧ (Try.f70.name == "runtime.NumGoroutine") = false ∧ Try.f70.body = some D_22 := ⟨Try.func70, by kernel_rfl, by kernel_rfl⟩
theorem H_22 : Holds Try.prog 70 E_22 :=
 holds_of (cx := C_22) (tabOk_ok tabT rfl).1 (allT_ok trivial) mixT Q_22.1 Q_22.2.2 (loops_of W_22 ⟨loop_of (cx := C_22) (L := S_22L2 fuel) rfl (by rw [R_22L2]; rfl) ⟨impl_compareLists_L2, fun _ => rfl, fun n x => K_22L2 n x, fuel, fun _ => rfl⟩, trivial⟩) (enc := N_22) (fun _ _ => ⟨rfl, rfl⟩) F_22
theorem K_23L4 (n : Nat) (x) : impl_isRelation_L4 (n + 1) x = roundK C_23 B_23L4 (S_23L4 fuel) x (impl_isRelation_L4 n) := by
 obtain ⟨_, _, _, _, _⟩ := x
 kernel_rfl
theorem F_23 (a : dens [.v .int, .v (.pair .int (.slice (.slice .int)))]) : E_23.run a = funK C_23 Try.f38 [.v .int, .v (.pair .int (.slice (.slice .int)))] [.v .bool] a (fun o r => some (N_23 o r)) := by
 kernel_rfl
theorem W_23 : loopsOf D_23 = [B_23L4] := by kernel_rfl
theorem R_23L4 : firstReg B_23L4 = 4 := by kernel_rfl
theorem Q_23 : Try.prog.funcs[38]? = some Try.f38 ∧ (Try.f38.name == "runtime.NumGoroutine") = false ∧ Try.f38.body = some D_23 := ⟨Try.func38, by kernel_rfl, by kernel_rfl⟩
theorem H_23 : Holds Try.prog 38 E_23 :=
 holds_of (cx := C_23) (tabOk_ok tabT rfl).1 (allT_ok ⟨⟨H_21, _, _, Q_21⟩, ⟨⟨H_22, _, _, Q_22⟩, trivial⟩⟩) mixT Q_23.1 Q_23.2.2 (loops_of W_23 ⟨loop_of (cx := C_23) (L := S_23L4 fuel) rfl (by rw [R_23L4]; rfl) ⟨impl_isRelation_L4, fun _ => rfl, fun n x => K_23L4 n x, fuel, fun _ => rfl⟩, trivial⟩) (enc := N_23) (fun _ _ => ⟨rfl, rfl⟩) F_23
theorem K_24L2 (n : Nat) (x) : impl_power_L2 (n + 1) x = roundK C_24 B_24L2 (S_24L2 fuel) x (impl_power_L2 n) := by
 obtain ⟨_, _, _⟩ := x
 kernel_rfl
theorem F_24 (a : dens [.v .int, .v .int]) : E_24.run a = funK C_24 Try.f82 [.v .int, .v .int] [.v .int] a (fun o r => some (N_24 o r)) := by
 kernel_rfl
theorem W_24 : loopsOf D_24 = [B_24L2] := by kernel_rfl
theorem R_24L2 : firstReg B_24L2 = 2 := by kernel_rfl
theorem Q_24 : Try.prog.funcs[82]? = some Try.f82 ∧ (Try.f82.name == "runtime.NumGoroutine") = false ∧ Try.f82.body = some D_24 := ⟨Try.func82, by kernel_rfl, by kernel_rfl⟩
theorem H_24 : Holds Try.prog 82 E_24 :=
 holds_of (cx := C_24) (tabOk_ok tabT rfl).1 (allT_ok trivial) mixT Q_24.1 Q_24.2.2 (loops_of W_24 ⟨loop_of (cx := C_24) (L := S_24L2 fuel) rfl (by rw [R_24L2]; rfl) ⟨impl_power_L2, fun _ => rfl, fun n x => K_24L2 n x, fuel, fun _ => rfl⟩, trivial⟩) (enc := N_24) (fun _ _ => ⟨rfl, rfl⟩) F_24
theorem K_25L3 (n : Nat) (x) : impl_argsAt_L3 (n + 1) x = roundK C_25 B_25L3 (S_25L3 fuel) x (impl_argsAt_L3 n) := by
 obtain ⟨_, _, _, _⟩ := x
 kernel_rfl
theorem F_25 (a : dens [.v .int, .v .int, .v .int]) : E_25.run a = funK C_25 Try.f89 [.v .int, .v .int, .v .int] [.mv .int 0] a (fun o r => some (N_25 o r)) := by
 kernel_rfl
theorem W_25 : loopsOf D_25 = [B_25L3] := by kernel_rfl
theorem R_25L3 : firstReg B_25L3 = 3 := by kernel_rfl
theorem Q_25 : Try.prog.funcs[89]? = some Try.f89 ∧ (Try.f89.name == "runtime.NumGoroutine") = false ∧ Try.f89.body = some D_25 := ⟨Try.func89, by kernel_rfl, by kernel_rfl⟩
theorem H_25 : Holds Try.prog 89 E_25 :=
 holds_of (cx := C_25) (tabOk_ok tabT rfl).1 (allT_ok trivial) mixT Q_25.1 Q_25.2.2 (loops_of W_25 ⟨loop_of (cx := C_25) (L := S_25L3 fuel) rfl (by rw [R_25L3]; rfl) ⟨impl_argsAt_L3, fun _ => rfl, fun n x => K_25L3 n x, fuel, fun _ => rfl⟩, trivial⟩) (enc := N_25) (fun _ _ => ⟨rfl, rfl⟩) F_25
theorem Q_26 : Try.prog.funcs[90]? = some Try.f90 ∧ (Try.f90.name == "runtime.NumGoroutine") = false ∧ Try.f90.body = some D_26 := ⟨Try.func90, by kernel_rfl, by kernel_rfl⟩
theorem H_26 : Holds Try.prog 90 E_26 := Go.Proofs.H_sort_cmpT 1
theorem K_27L7 (n : Nat) (x) : impl_allClauses_L7 (n + 1) x = roundK C_27 B_27L7 (S_27L7 fuel) x (impl_allClauses_L7 n) := by
 obtain ⟨_, _, _, _, _, _, _⟩ := x
 kernel_rfl
theorem K_27L3 (n : Nat) (x) : impl_allClauses_L3 (n + 1) x = roundK C_27 B_27L3 (S_27L3 fuel) x (impl_allClauses_L3 n) := by
 obtain ⟨_, _, _⟩ := x
 kernel_rfl
theorem F_27 (a : dens [.v .int]) : E_27.run a = funK C_27 Try.f71 [.v .int] [.mv (.slice .int) 1] a (fun o r => some (N_27 o r)) := by
 kernel_rfl
theorem W_27 : loopsOf D_27 = [B_27L3, B_27L7] := by kernel_rfl
theorem R_27L7 : firstReg B_27L7 = 7 := by kernel_rfl
theorem R_27L3 : firstReg B_27L3 = 3 := by kernel_rfl
theorem Q_27 : Try.prog.funcs[71]? = some Try.f71 ∧ (Try.f71.name == "runtime.NumGoroutine") = false ∧ Try.f71.body = some D_27 := ⟨Try.func71, by kernel_rfl, by kernel_rfl⟩
theorem H_27 : Holds Try.prog 71 E_27 :=
 holds_of (cx := C_27) (tabOk_ok tabT rfl).1 (allT_ok ⟨⟨H_24, _, _, Q_24⟩, ⟨⟨H_25, _, _, Q_25⟩, ⟨⟨H_26, _, _, Q_26⟩, trivial⟩⟩⟩) mixT Q_27.1 Q_27.2.2 (loops_of W_27 ⟨loop_of (cx := C_27) (L := S_27L3 fuel) rfl (by rw [R_27L3]; rfl) ⟨impl_allClauses_L3, fun _ => rfl, fun n x => K_27L3 n x, fuel, fun _ => rfl⟩, ⟨loop_of (cx := C_27) (L := S_27L7 fuel) rfl (by rw [R_27L7]; rfl) ⟨impl_allClauses_L7, fun _ => rfl, fun n x => K_27L7 n x, fuel, fun _ => rfl⟩, trivial⟩⟩) (enc := N_27) (fun _ _ => ⟨rfl, rfl⟩) F_27
theorem K_28L2 (n : Nat) (x) : impl_obeysClause_L2 (n + 1) x = roundK C_28 B_28L2 (S_28L2 fuel) x (impl_obeysClause_L2 n) := by
 obtain ⟨_, _, _, _⟩ := x
 kernel_rfl
theorem F_28 (a : dens [.v (.slice .int), .v (.slice .int)]) : E_28.run a = funK C_28 Try.f92 [.v (.slice .int), .v (.slice .int)] [.v .bool] a (fun o r => some (N_28 o r)) := by
 kernel_rfl
theorem W_28 : loopsOf D_28 = [B_28L2] := by kernel_rfl
theorem R_28L2 : firstReg B_28L2 = 2 := by kernel_rfl
theorem Q_28 : Try.prog.funcs[92]? = some Try.f92 ∧ (Try.f92.name == "runtime.NumGoroutine") = false ∧ Try.f92.body = some D_28 := ⟨Try.func92, by kernel_rfl, by kernel_rfl⟩
theorem H_28 : Holds Try.prog 92 E_28 :=
 holds_of (cx := C_28) (tabOk_ok tabT rfl).1 (allT_ok trivial) mixT Q_28.1 Q_28.2.2 (loops_of W_28 ⟨loop_of (cx := C_28) (L := S_28L2 fuel) rfl (by rw [R_28L2]; rfl) ⟨impl_obeysClause_L2, fun _ => rfl, fun n x => K_28L2 n x, fuel, fun _ => rfl⟩, trivial⟩) (enc := N_28) (fun _ _ => ⟨rfl, rfl⟩) F_28
theorem K_29L2 (n : Nat) (x) : impl_allObey_L2 (n + 1) x = roundK C_29 B_29L2 (S_29L2 fuel) x (impl_allObey_L2 n) := by
 obtain ⟨_, _, _, _⟩ := x
 kernel_rfl
theorem F_29 (a : dens [.v (.slice (.slice .int)), .v (.slice .int)]) : E_29.run a = funK C_29 Try.f72 [.v (.slice (.slice .int)), .v (.slice .int)] [.v .bool] a (fun o r => some (N_29 o r)) := by
 kernel_rfl
theorem W_29 : loopsOf D_29 = [B_29L2] := by kernel_rfl
theorem R_29L2 : firstReg B_29L2 = 2 := by kernel_rfl
theorem Q_29 : Try.prog.funcs[72]? = some Try.f72 ∧ (Try.f72.name == "runtime.NumGoroutine") = false ∧ Try.f72.body = some D_29 := ⟨Try.func72, by kernel_rfl, by kernel_rfl⟩
theorem H_29 : Holds Try.prog 72 E_29 :=
 holds_of (cx := C_29) (tabOk_ok tabT rfl).1 (allT_ok ⟨⟨H_28, _, _, Q_28⟩, trivial⟩) mixT Q_29.1 Q_29.2.2 (loops_of W_29 ⟨loop_of (cx := C_29) (L := S_29L2 fuel) rfl (by rw [R_29L2]; rfl) ⟨impl_allObey_L2, fun _ => rfl, fun n x => K_29L2 n x, fuel, fun _ => rfl⟩, trivial⟩) (enc := N_29) (fun _ _ => ⟨rfl, rfl⟩) F_29
theorem F_30 (a : dens [.v (.slice .int)]) : E_30.run a = funK C_30 Try.f60 [.v (.slice .int)] [.mv .int 0] a (fun o r => some (N_30 o r)) := by
 kernel_rfl
theorem W_30 : loopsOf D_30 = [] := by kernel_rfl
theorem Q_30 : Try.prog.funcs[60]? = some Try.f60 ∧ (Try.f60.name == "runtime.NumGoroutine") = false ∧ Try.f60.body = some D_30 := ⟨Try.func60, by kernel_rfl, by kernel_rfl⟩
theorem H_30 : Holds Try.prog 60 E_30 :=
 holds_of (cx := C_30) (tabOk_ok tabT rfl).1 (allT_ok trivial) mixT Q_30.1 Q_30.2.2 (loops_of W_30 trivial) (enc := N_30) (fun _ _ => ⟨rfl, rfl⟩) F_30
theorem F_31 (a : dens [.v (.slice .int), .v .int]) : E_31.run a = funK C_31 Try.f73 [.v (.slice .int), .v .int] [.mv .int 0] a (fun o r => some (N_31 o r)) := by
 kernel_rfl
theorem W_31 : loopsOf D_31 = [] := by kernel_rfl
theorem Q_31 : Try.prog.funcs[73]? = some Try.f73 ∧ (Try.f73.name == "runtime.NumGoroutine") = false ∧ Try.f73.body = some D_31 := ⟨Try.func73, by kernel_rfl, by kernel_rfl⟩
theorem H_31 : Holds Try.prog 73 E_31 :=
 holds_of (cx := C_31) (tabOk_ok tabT rfl).1 (allT_ok ⟨⟨H_30, _, _, Q_30⟩, trivial⟩) mixT Q_31.1 Q_31.2.2 (loops_of W_31 trivial) (enc := N_31) (fun _ _ => ⟨rfl, rfl⟩) F_31
theorem K_32L7 (n : Nat) (x) : impl_primeClauses_L7 (n + 1) x = roundK C_32 B_32L7 (S_32L7 fuel) x (impl_primeClauses_L7 n) := by
 obtain ⟨_, _, _, _, _, _, _, _, _⟩ := x
 kernel_rfl
theorem K_32L3 (n : Nat) (x) : impl_primeClauses_L3 (n + 1) x = roundK C_32 B_32L3 (S_32L3 fuel) x (impl_primeClauses_L3 n) := by
 obtain ⟨_, _, _, _, _⟩ := x
 kernel_rfl
theorem F_32 (a : dens [.v (.pair .int (.slice (.slice .int)))]) : E_32.run a = funK C_32 Try.f39 [.v (.pair .int (.slice (.slice .int)))] [.mv (.slice .int) 0] a (fun o r => some (N_32 o r)) := by
 kernel_rfl
theorem W_32 : loopsOf D_32 = [B_32L3, B_32L7] := by kernel_rfl
theorem R_32L7 : firstReg B_32L7 = 7 := by kernel_rfl
theorem R_32L3 : firstReg B_32L3 = 3 := by kernel_rfl
theorem Q_32 : Try.prog.funcs[39]? = some Try.f39 ∧ (Try.f39.name == "runtime.NumGoroutine") = false ∧ Try.f39.body = some D_32 := ⟨Try.func39, by kernel_rfl, by kernel_rfl⟩
theorem H_32 : Holds Try.prog 39 E_32 :=
 holds_of (cx := C_32) (tabOk_ok tabT rfl).1 (allT_ok ⟨⟨H_27, _, _, Q_27⟩, ⟨⟨H_29, _, _, Q_29⟩, ⟨⟨H_31, _, _, Q_31⟩, trivial⟩⟩⟩) mixT Q_32.1 Q_32.2.2 (loops_of W_32 ⟨loop_of (cx := C_32) (L := S_32L3 fuel) rfl (by rw [R_32L3]; rfl) ⟨impl_primeClauses_L3, fun _ => rfl, fun n x => K_32L3 n x, fuel, fun _ => rfl⟩, ⟨loop_of (cx := C_32) (L := S_32L7 fuel) rfl (by rw [R_32L7]; rfl) ⟨impl_primeClauses_L7, fun _ => rfl, fun n x => K_32L7 n x, fuel, fun _ => rfl⟩, trivial⟩⟩) (enc := N_32) (fun _ _ => ⟨rfl, rfl⟩) F_32
theorem K_33L7 (n : Nat) (x) : impl_primeClauses_b_L7 (n + 1) x = roundK C_33 B_33L7 (S_33L7 fuel) x (impl_primeClauses_b_L7 n) := by
 obtain ⟨_, _, _, _, _, _, _, _, _⟩ := x
 kernel_rfl
theorem K_33L3 (n : Nat) (x) : impl_primeClauses_b_L3 (n + 1) x = roundK C_33 B_33L3 (S_33L3 fuel) x (impl_primeClauses_b_L3 n) := by
 obtain ⟨_, _, _, _, _⟩ := x
 kernel_rfl
theorem F_33 (a : dens [.v (.pair .int (.slice (.slice .int)))]) : E_33.run a = funK C_33 Try.f39 [.v (.pair .int (.slice (.slice .int)))] [.mv (.slice .int) 1] a (fun o r => some (N_33 o r)) := by
 kernel_rfl
theorem W_33 : loopsOf D_33 = [B_33L3, B_33L7] := by kernel_rfl
theorem R_33L7 : firstReg B_33L7 = 7 := by kernel_rfl
theorem R_33L3 : firstReg B_33L3 = 3 := by kernel_rfl
theorem Q_33 : Try.prog.funcs[39]? = some Try.f39 ∧ (Try.f39.name == "runtime.NumGoroutine") = false ∧ Try.f39.body = some D_33 := ⟨Try.func39, by kernel_rfl, by kernel_rfl⟩
theorem H_33 : Holds Try.prog 39 E_33 :=
 holds_of (cx := C_33) (tabOk_ok tabT rfl).1 (allT_ok ⟨⟨H_27, _, _, Q_27⟩, ⟨⟨H_29, _, _, Q_29⟩, ⟨⟨H_31, _, _, Q_31⟩, trivial⟩⟩⟩) mixT Q_33.1 Q_33.2.2 (loops_of W_33 ⟨loop_of (cx := C_33) (L := S_33L3 fuel) rfl (by rw [R_33L3]; rfl) ⟨impl_primeClauses_b_L3, fun _ => rfl, fun n x => K_33L3 n x, fuel, fun _ => rfl⟩, ⟨loop_of (cx := C_33) (L := S_33L7 fuel) rfl (by rw [R_33L7]; rfl) ⟨impl_primeClauses_b_L7, fun _ => rfl, fun n x => K_33L7 n x, fuel, fun _ => rfl⟩, trivial⟩⟩) (enc := N_33) (fun _ _ => ⟨rfl, rfl⟩) F_33
theorem F_34 (a : dens [.v (.pair .int (.slice (.slice .int)))]) : E_34.run a = funK C_34 Try.f10 [.v (.pair .int (.slice (.slice .int)))] [.mv (.slice .int) 1, .v .bool] a (fun o r => some (N_34 o r)) := by
 kernel_rfl
theorem W_34 : loopsOf D_34 = [] := by kernel_rfl
theorem Q_34 : Try.prog.funcs[10]? = some Try.f10 ∧ (Try.f10.name == "runtime.NumGoroutine") = false ∧ Try.f10.body = some D_34 := ⟨Try.func10, by kernel_rfl, by kernel_rfl⟩
theorem H_34 : Holds Try.prog 10 E_34 :=
 holds_of (cx := C_34) (tabOk_ok tabT rfl).1 (allT_ok ⟨⟨H_23, _, _, Q_23⟩, ⟨⟨H_33, _, _, Q_33⟩, trivial⟩⟩) mixT Q_34.1 Q_34.2.2 (loops_of W_34 trivial) (enc := N_34) (fun _ _ => ⟨rfl, rfl⟩) F_34
theorem K_35L4 (n : Nat) (x) : laws_eqIntS_L4 (n + 1) x = roundK C_35 B_35L4 (S_35L4 fuel) x (laws_eqIntS_L4 n) := by
 obtain ⟨_, _, _⟩ := x
 kernel_rfl
theorem F_35 (a : dens [.v (.slice .int), .v (.slice .int)]) : E_35.run a = funK C_35 Try.f40 [.v (.slice .int), .v (.slice .int)] [.v .bool] a (fun o r => some (N_35 o r)) := by
 kernel_rfl
theorem W_35 : loopsOf D_35 = [B_35L4] := by kernel_rfl
theorem R_35L4 : firstReg B_35L4 = 4 := by kernel_rfl
theorem Q_35 : Try.prog.funcs[40]? = some Try.f40 ∧ (Try.f40.name == "runtime.NumGoroutine") = false ∧ Try.f40.body = some D_35 := ⟨Try.func40, by kernel_rfl, by kernel_rfl⟩
theorem H_35 : Holds Try.prog 40 E_35 :=
 holds_of (cx := C_35) (tabOk_ok tabT rfl).1 (allT_ok trivial) mixT Q_35.1 Q_35.2.2 (loops_of W_35 ⟨loop_of (cx := C_35) (L := S_35L4 fuel) rfl (by rw [R_35L4]; rfl) ⟨laws_eqIntS_L4, fun _ => rfl, fun n x => K_35L4 n x, fuel, fun _ => rfl⟩, trivial⟩) (enc := N_35) (fun _ _ => ⟨rfl, rfl⟩) F_35
theorem K_36L4 (n : Nat) (x) : laws_eqIntSS_L4 (n + 1) x = roundK C_36 B_36L4 (S_36L4 fuel) x (laws_eqIntSS_L4 n) := by
 obtain ⟨_, _, _⟩ := x
 kernel_rfl
theorem F_36 (a : dens [.v (.slice (.slice .int)), .v (.slice (.slice .int))]) : E_36.run a = funK C_36 Try.f11 [.v (.slice (.slice .int)), .v (.slice (.slice .int))] [.v .bool] a (fun o r => some (N_36 o r)) := by
 kernel_rfl
theorem W_36 : loopsOf D_36 = [B_36L4] := by kernel_rfl
theorem R_36L4 : firstReg B_36L4 = 4 := by kernel_rfl
theorem Q_36 : Try.prog.funcs[11]? = some Try.f11 ∧ (Try.f11.name == "runtime.NumGoroutine") = false ∧ Try.f11.body = some D_36 := ⟨Try.func11, by kernel_rfl, by kernel_rfl⟩
theorem H_36 : Holds Try.prog 11 E_36 :=
 holds_of (cx := C_36) (tabOk_ok tabT rfl).1 (allT_ok ⟨⟨H_35, _, _, Q_35⟩, trivial⟩) mixT Q_36.1 Q_36.2.2 (loops_of W_36 ⟨loop_of (cx := C_36) (L := S_36L4 fuel) rfl (by rw [R_36L4]; rfl) ⟨laws_eqIntSS_L4, fun _ => rfl, fun n x => K_36L4 n x, fuel, fun _ => rfl⟩, trivial⟩) (enc := N_36) (fun _ _ => ⟨rfl, rfl⟩) F_36
theorem F_37 (a : dens [.v (.pair .int (.slice (.slice .int))), .v (.pair .int (.slice (.slice .int)))]) : E_37.run a = funK C_37 Try.f12 [.v (.pair .int (.slice (.slice .int))), .v (.pair .int (.slice (.slice .int)))] [.v .bool] a (fun o r => some (N_37 o r)) := by
 kernel_rfl
theorem W_37 : loopsOf D_37 = [] := by kernel_rfl
theorem Q_37 : Try.prog.funcs[12]? = some Try.f12 ∧ (Try.f12.name == "runtime.NumGoroutine") = false ∧ Try.f12.body = some D_37 := ⟨Try.func12, by kernel_rfl, by kernel_rfl⟩
theorem H_37 : Holds Try.prog 12 E_37 :=
 holds_of (cx := C_37) (tabOk_ok tabT rfl).1 (allT_ok ⟨⟨H_36, _, _, Q_36⟩, trivial⟩) mixT Q_37.1 Q_37.2.2 (loops_of W_37 trivial) (enc := N_37) (fun _ _ => ⟨rfl, rfl⟩) F_37
theorem K_38L2 (n : Nat) (x) : laws_markIntS_L2 (n + 1) x = roundK C_38 B_38L2 (S_38L2 fuel) x (laws_markIntS_L2 n) := by
 obtain ⟨_, _, _⟩ := x
 kernel_rfl
theorem F_38 (a : dens [.io .int 0, .v .int]) : E_38.run a = funK C_38 Try.f41 [.io .int 0, .v .int] [.v .int] a (fun o r => some (N_38 o r)) := by
 kernel_rfl
theorem W_38 : loopsOf D_38 = [B_38L2] := by kernel_rfl
theorem R_38L2 : firstReg B_38L2 = 2 := by kernel_rfl
theorem Q_38 : Try.prog.funcs[41]? = some Try.f41 ∧ (Try.f41.name == "runtime.NumGoroutine") = false ∧ Try.f41.body = some D_38 := ⟨Try.func41, by kernel_rfl, by kernel_rfl⟩
theorem H_38 : Holds Try.prog 41 E_38 :=
 holds_of (cx := C_38) (tabOk_ok tabT rfl).1 (allT_ok trivial) mixT Q_38.1 Q_38.2.2 (loops_of W_38 ⟨loop_of (cx := C_38) (L := S_38L2 fuel) rfl (by rw [R_38L2]; rfl) ⟨laws_markIntS_L2, fun _ => rfl, fun n x => K_38L2 n x, fuel, fun _ => rfl⟩, trivial⟩) (enc := N_38) (fun _ _ => ⟨rfl, rfl⟩) F_38
theorem K_39L2 (n : Nat) (x) : laws_markIntSS_L2 (n + 1) x = roundK C_39 B_39L2 (S_39L2 fuel) x (laws_markIntSS_L2 n) := by
 obtain ⟨_, _, _⟩ := x
 kernel_rfl
theorem F_39 (a : dens [.io (.slice .int) 1, .v .int]) : E_39.run a = funK C_39 Try.f14 [.io (.slice .int) 1, .v .int] [.v .int] a (fun o r => some (N_39 o r)) := by
 kernel_rfl
theorem W_39 : loopsOf D_39 = [B_39L2] := by kernel_rfl
theorem R_39L2 : firstReg B_39L2 = 2 := by kernel_rfl
theorem Q_39 : Try.prog.funcs[14]? = some Try.f14 ∧ (Try.f14.name == "runtime.NumGoroutine") = false ∧ Try.f14.body = some D_39 := ⟨Try.func14, by kernel_rfl, by kernel_rfl⟩
theorem H_39 : Holds Try.prog 14 E_39 :=
 holds_of (cx := C_39) (tabOk_ok tabT rfl).1 (allT_ok ⟨⟨H_38, _, _, Q_38⟩, trivial⟩) mixT Q_39.1 Q_39.2.2 (loops_of W_39 ⟨loop_of (cx := C_39) (L := S_39L2 fuel) rfl (by rw [R_39L2]; rfl) ⟨laws_markIntSS_L2, fun _ => rfl, fun n x => K_39L2 n x, fuel, fun _ => rfl⟩, trivial⟩) (enc := N_39) (fun _ _ => ⟨rfl, rfl⟩) F_39
theorem F_40 (a : dens [.pr (.v .int) (.io (.slice .int) 1), .v .int]) : E_40.run a = funK C_40 Try.f13 [.pr (.v .int) (.io (.slice .int) 1), .v .int] [.v .int] a (fun o r => some (N_40 o r)) := by
 kernel_rfl
theorem W_40 : loopsOf D_40 = [] := by kernel_rfl
theorem Q_40 : Try.prog.funcs[13]? = some Try.f13 ∧ (Try.f13.name == "runtime.NumGoroutine") = false ∧ Try.f13.body = some D_40 := ⟨Try.func13, by kernel_rfl, by kernel_rfl⟩
theorem H_40 : Holds Try.prog 13 E_40 :=
 holds_of (cx := C_40) (tabOk_ok tabT rfl).1 (allT_ok ⟨⟨H_39, _, _, Q_39⟩, trivial⟩) mixT Q_40.1 Q_40.2.2 (loops_of W_40 trivial) (enc := N_40) (fun _ _ => ⟨rfl, rfl⟩) F_40
theorem K_41L2 (n : Nat) (x) : laws_heldIntS_L2 (n + 1) x = roundK C_41 B_41L2 (S_41L2 fuel) x (laws_heldIntS_L2 n) := by
 obtain ⟨_, _, _⟩ := x
 kernel_rfl
theorem F_41 (a : dens [.v (.slice .int), .v .int]) : E_41.run a = funK C_41 Try.f42 [.v (.slice .int), .v .int] [.v .int] a (fun o r => some (N_41 o r)) := by
 kernel_rfl
theorem W_41 : loopsOf D_41 = [B_41L2] := by kernel_rfl
theorem R_41L2 : firstReg B_41L2 = 2 := by kernel_rfl
theorem Q_41 : Try.prog.funcs[42]? = some Try.f42 ∧ (Try.f42.name == "runtime.NumGoroutine") = false ∧ Try.f42.body = some D_41 := ⟨Try.func42, by kernel_rfl, by kernel_rfl⟩
theorem H_41 : Holds Try.prog 42 E_41 :=
 holds_of (cx := C_41) (tabOk_ok tabT rfl).1 (allT_ok trivial) mixT Q_41.1 Q_41.2.2 (loops_of W_41 ⟨loop_of (cx := C_41) (L := S_41L2 fuel) rfl (by rw [R_41L2]; rfl) ⟨laws_heldIntS_L2, fun _ => rfl, fun n x => K_41L2 n x, fuel, fun _ => rfl⟩, trivial⟩) (enc := N_41) (fun _ _ => ⟨rfl, rfl⟩) F_41
theorem K_42L2 (n : Nat) (x) : laws_heldIntSS_L2 (n + 1) x = roundK C_42 B_42L2 (S_42L2 fuel) x (laws_heldIntSS_L2 n) := by
 obtain ⟨_, _, _⟩ := x
 kernel_rfl
theorem F_42 (a : dens [.v (.slice (.slice .int)), .v .int]) : E_42.run a = funK C_42 Try.f15 [.v (.slice (.slice .int)), .v .int] [.v .int] a (fun o r => some (N_42 o r)) := by
 kernel_rfl
theorem W_42 : loopsOf D_42 = [B_42L2] := by kernel_rfl
theorem R_42L2 : firstReg B_42L2 = 2 := by kernel_rfl
theorem Q_42 : Try.prog.funcs[15]? = some Try.f15 ∧ (Try.f15.name == "runtime.NumGoroutine") = false ∧ Try.f15.body = some D_42 := ⟨Try.func15, by kernel_rfl, by kernel_rfl⟩
theorem H_42 : Holds Try.prog 15 E_42 :=
 holds_of (cx := C_42) (tabOk_ok tabT rfl).1 (allT_ok ⟨⟨H_41, _, _, Q_41⟩, trivial⟩) mixT Q_42.1 Q_42.2.2 (loops_of W_42 ⟨loop_of (cx := C_42) (L := S_42L2 fuel) rfl (by rw [R_42L2]; rfl) ⟨laws_heldIntSS_L2, fun _ => rfl, fun n x => K_42L2 n x, fuel, fun _ => rfl⟩, trivial⟩) (enc := N_42) (fun _ _ => ⟨rfl, rfl⟩) F_42
theorem F_43 (a : dens [.v (.pair .int (.slice (.slice .int)))]) : E_43.run a = funK C_43 Try.f3 [.v (.pair .int (.slice (.slice .int)))] [.v .bool] a (fun o r => some (N_43 o r)) := by
 kernel_rfl
theorem W_43 : loopsOf D_43 = [] := by kernel_rfl
theorem Q_43 : Try.prog.funcs[3]? = some Try.f3 ∧ (Try.f3.name == "runtime.NumGoroutine") = false ∧ Try.f3.body = some D_43 := ⟨Try.func3, by kernel_rfl, by kernel_rfl⟩
theorem H_43 : Holds Try.prog 3 E_43 :=
 holds_of (cx := C_43) (tabOk_ok tabT rfl).1 (allT_ok ⟨⟨H_3, _, _, Q_3⟩, ⟨⟨H_20, _, _, Q_20⟩, ⟨⟨H_6, _, _, Q_6⟩, ⟨⟨H_34, _, _, Q_34⟩, ⟨⟨H_36, _, _, Q_36⟩, ⟨⟨H_37, _, _, Q_37⟩, ⟨⟨H_40, _, _, Q_40⟩, ⟨⟨H_39, _, _, Q_39⟩, ⟨⟨H_42, _, _, Q_42⟩, trivial⟩⟩⟩⟩⟩⟩⟩⟩⟩) mixT Q_43.1 Q_43.2.2 (loops_of W_43 trivial) (enc := N_43) (fun _ _ => ⟨rfl, rfl⟩) F_43
end T
