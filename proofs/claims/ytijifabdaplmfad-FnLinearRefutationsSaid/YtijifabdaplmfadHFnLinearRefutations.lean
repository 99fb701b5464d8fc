/- Each typed function is what the program computes; no conditions. -/
import Derived.Test.YtijifabdaplmfadCFnLinearRefutations
set_option linter.all false
set_option maxRecDepth 10000
open Go Go.Va Go.Proofs
namespace T
theorem F_1 (a : dens [.v (.slice (.num .u8))]) : E_1.run a = funK C_1 Try.f6 [.v (.slice (.num .u8))] [.v .bool] a (fun o r => some (N_1 o r)) := by
 kernel_rfl
theorem W_1 : loopsOf D_1 = [] := by kernel_rfl
theorem Q_1 : Try.prog.funcs[6]? = some Try.f6 ∧ (Try.f6.name == "runtime.NumGoroutine") = false ∧ Try.f6.body = some D_1 := ⟨Try.func6, by kernel_rfl, by kernel_rfl⟩
theorem H_1 : Holds Try.prog 6 E_1 :=
 holds_of (cx := C_1) (tabOk_ok tabT rfl).1 (allT_ok trivial) mixT Q_1.1 Q_1.2.2 (loops_of W_1 trivial) (enc := N_1) (fun _ _ => ⟨rfl, rfl⟩) F_1
theorem F_2 (a : dens [.bx (.v (.pair (.slice (.num .u8)) (.pair .int (.num .u64))))]) : E_2.run a = funK C_2 Try.f104 [.bx (.v (.pair (.slice (.num .u8)) (.pair .int (.num .u64))))] [.v .int] a (fun o r => some (N_2 o r)) := by
 kernel_rfl
theorem W_2 : loopsOf D_2 = [] := by kernel_rfl
theorem Q_2 : Try.prog.funcs[104]? = some Try.f104 ∧ (Try.f104.name == "runtime.NumGoroutine") = false ∧ Try.f104.body = some D_2 := ⟨Try.func104, by kernel_rfl, by kernel_rfl⟩
theorem H_2 : Holds Try.prog 104 E_2 :=
 holds_of (cx := C_2) (tabOk_ok tabT rfl).1 (allT_ok trivial) mixT Q_2.1 Q_2.2.2 (loops_of W_2 trivial) (enc := N_2) (fun _ _ => ⟨rfl, rfl⟩) F_2
theorem F_3 (a : dens [.bx (.v (.pair (.slice (.num .u8)) (.pair .int (.num .u64)))), .v .int]) : E_3.run a = funK C_3 Try.f50 [.bx (.v (.pair (.slice (.num .u8)) (.pair .int (.num .u64)))), .v .int] [.v .int] a (fun o r => some (N_3 o r)) := by
 kernel_rfl
theorem W_3 : loopsOf D_3 = [] := by kernel_rfl
theorem Q_3 : Try.prog.funcs[50]? = some Try.f50 ∧ (Try.f50.name == "runtime.NumGoroutine") = false ∧ Try.f50.body = some D_3 := ⟨Try.func50, by kernel_rfl, by kernel_rfl⟩
theorem H_3 : Holds Try.prog 50 E_3 :=
 holds_of (cx := C_3) (tabOk_ok tabT rfl).1 (allT_ok ⟨⟨H_2, _, _, Q_2⟩, trivial⟩) mixT Q_3.1 Q_3.2.2 (loops_of W_3 trivial) (enc := N_3) (fun _ _ => ⟨rfl, rfl⟩) F_3
theorem F_4 (a : dens [.bx (.v (.pair (.slice (.num .u8)) (.pair .int (.num .u64)))), .v (.slice .int)]) : E_4.run a = funK C_4 Try.f54 [.bx (.v (.pair (.slice (.num .u8)) (.pair .int (.num .u64)))), .v (.slice .int)] [.v .int] a (fun o r => some (N_4 o r)) := by
 kernel_rfl
theorem W_4 : loopsOf D_4 = [] := by kernel_rfl
theorem Q_4 : Try.prog.funcs[54]? = some Try.f54 ∧ (Try.f54.name == "runtime.NumGoroutine") = false ∧ Try.f54.body = some D_4 := ⟨Try.func54, by kernel_rfl, by kernel_rfl⟩
theorem H_4 : Holds Try.prog 54 E_4 :=
 holds_of (cx := C_4) (tabOk_ok tabT rfl).1 (allT_ok ⟨⟨H_3, _, _, Q_3⟩, trivial⟩) mixT Q_4.1 Q_4.2.2 (loops_of W_4 trivial) (enc := N_4) (fun _ _ => ⟨rfl, rfl⟩) F_4
theorem F_5 (a : dens [.bx (.v (.pair (.slice (.num .u8)) (.pair .int (.num .u64)))), .v .int]) : E_5.run a = funK C_5 Try.f53 [.bx (.v (.pair (.slice (.num .u8)) (.pair .int (.num .u64)))), .v .int] [.v .bool] a (fun o r => some (N_5 o r)) := by
 kernel_rfl
theorem W_5 : loopsOf D_5 = [] := by kernel_rfl
theorem Q_5 : Try.prog.funcs[53]? = some Try.f53 ∧ (Try.f53.name == "runtime.NumGoroutine") = false ∧ Try.f53.body = some D_5 := ⟨Try.func53, by kernel_rfl, by kernel_rfl⟩
theorem H_5 : Holds Try.prog 53 E_5 :=
 holds_of (cx := C_5) (tabOk_ok tabT rfl).1 (allT_ok ⟨⟨H_3, _, _, Q_3⟩, trivial⟩) mixT Q_5.1 Q_5.2.2 (loops_of W_5 trivial) (enc := N_5) (fun _ _ => ⟨rfl, rfl⟩) F_5
theorem K_6L3 (n : Nat) (x) : spec_l21Scale_L3 (n + 1) x = roundK C_6 B_6L3 (S_6L3 fuel) x (spec_l21Scale_L3 n) := by
 obtain ⟨_, _, _, _, _⟩ := x
 kernel_rfl
theorem F_6 (a : dens [.v .int, .v (.slice .int), .v .int]) : E_6.run a = funK C_6 Try.f103 [.v .int, .v (.slice .int), .v .int] [.mv .int 0] a (fun o r => some (N_6 o r)) := by
 kernel_rfl
theorem W_6 : loopsOf D_6 = [B_6L3] := by kernel_rfl
theorem R_6L3 : firstReg B_6L3 = 3 := by kernel_rfl
theorem Q_6 : Try.prog.funcs[103]? = some Try.f103 ∧ (Try.f103.name == "runtime.NumGoroutine") = false ∧ Try.f103.body = some D_6 := ⟨Try.func103, by kernel_rfl, by kernel_rfl⟩
theorem H_6 : Holds Try.prog 103 E_6 :=
 holds_of (cx := C_6) (tabOk_ok tabT rfl).1 (allT_ok trivial) mixT Q_6.1 Q_6.2.2 (loops_of W_6 ⟨loop_of (cx := C_6) (L := S_6L3 fuel) rfl (by rw [R_6L3]; rfl) ⟨spec_l21Scale_L3, fun _ => rfl, fun n x => K_6L3 n x, fuel, fun _ => rfl⟩, trivial⟩) (enc := N_6) (fun _ _ => ⟨rfl, rfl⟩) F_6
theorem K_7L8 (n : Nat) (x) : spec_l1Cur_linear_L8 (n + 1) x = roundK C_7 B_7L8 (S_7L8 fuel) x (spec_l1Cur_linear_L8 n) := by
 obtain ⟨_, _, _, _, _, _, _⟩ := x
 kernel_rfl
theorem K_7L4 (n : Nat) (x) : spec_l1Cur_linear_L4 (n + 1) x = roundK C_7 B_7L4 (S_7L4 fuel) x (spec_l1Cur_linear_L4 n) := by
 obtain ⟨_, _, _, _, _⟩ := x
 kernel_rfl
theorem K_7L22 (n : Nat) (x) : spec_l1Cur_linear_L22 (n + 1) x = roundK C_7 B_7L22 (S_7L22 fuel) x (spec_l1Cur_linear_L22 n) := by
 obtain ⟨_, _, _⟩ := x
 kernel_rfl
theorem F_7 (a : dens [.bx (.v (.pair (.slice (.num .u8)) (.pair .int (.num .u64))))]) : E_7.run a = funK C_7 Try.f49 [.bx (.v (.pair (.slice (.num .u8)) (.pair .int (.num .u64))))] [.pr (.v .int) (.pr (.v .int) (.mv (.slice .int) 1))] a (fun o r => some (N_7 o r)) := by
 kernel_rfl
theorem W_7 : loopsOf D_7 = [B_7L4, B_7L8, B_7L22] := by kernel_rfl
theorem R_7L8 : firstReg B_7L8 = 8 := by kernel_rfl
theorem R_7L4 : firstReg B_7L4 = 4 := by kernel_rfl
theorem R_7L22 : firstReg B_7L22 = 22 := by kernel_rfl
theorem Q_7 : Try.prog.funcs[49]? = some Try.f49 ∧ (Try.f49.name == "runtime.NumGoroutine") = false ∧ Try.f49.body = some D_7 := ⟨Try.func49, by kernel_rfl, by kernel_rfl⟩
theorem H_7 : Holds Try.prog 49 E_7 :=
 holds_of (cx := C_7) (tabOk_ok tabT rfl).1 (allT_ok ⟨⟨H_3, _, _, Q_3⟩, ⟨⟨H_5, _, _, Q_5⟩, ⟨⟨H_4, _, _, Q_4⟩, ⟨⟨H_6, _, _, Q_6⟩, trivial⟩⟩⟩⟩) mixT Q_7.1 Q_7.2.2 (loops_of W_7 ⟨loop_of (cx := C_7) (L := S_7L4 fuel) rfl (by rw [R_7L4]; rfl) ⟨spec_l1Cur_linear_L4, fun _ => rfl, fun n x => K_7L4 n x, fuel, fun _ => rfl⟩, ⟨loop_of (cx := C_7) (L := S_7L8 fuel) rfl (by rw [R_7L8]; rfl) ⟨spec_l1Cur_linear_L8, fun _ => rfl, fun n x => K_7L8 n x, fuel, fun _ => rfl⟩, ⟨loop_of (cx := C_7) (L := S_7L22 fuel) rfl (by rw [R_7L22]; rfl) ⟨spec_l1Cur_linear_L22, fun _ => rfl, fun n x => K_7L22 n x, fuel, fun _ => rfl⟩, trivial⟩⟩⟩) (enc := N_7) (fun _ _ => ⟨rfl, rfl⟩) F_7
theorem F_8 (a : dens [.v (.slice (.num .u8))]) : E_8.run a = funK C_8 Try.f41 [.v (.slice (.num .u8))] [.pr (.v .int) (.pr (.v .int) (.mv (.slice .int) 1))] a (fun o r => some (N_8 o r)) := by
 kernel_rfl
theorem W_8 : loopsOf D_8 = [] := by kernel_rfl
theorem Q_8 : Try.prog.funcs[41]? = some Try.f41 ∧ (Try.f41.name == "runtime.NumGoroutine") = false ∧ Try.f41.body = some D_8 := ⟨Try.func41, by kernel_rfl, by kernel_rfl⟩
theorem H_8 : Holds Try.prog 41 E_8 :=
 holds_of (cx := C_8) (tabOk_ok tabT rfl).1 (allT_ok ⟨⟨H_7, _, _, Q_7⟩, trivial⟩) mixT Q_8.1 Q_8.2.2 (loops_of W_8 trivial) (enc := N_8) (fun _ _ => ⟨rfl, rfl⟩) F_8
theorem F_9 (a : dens [.v (.slice (.num .u8))]) : E_9.run a = funK C_9 Try.f7 [.v (.slice (.num .u8))] [.pr (.v .int) (.pr (.v .int) (.mv (.slice .int) 1))] a (fun o r => some (N_9 o r)) := by
 kernel_rfl
theorem W_9 : loopsOf D_9 = [] := by kernel_rfl
theorem Q_9 : Try.prog.funcs[7]? = some Try.f7 ∧ (Try.f7.name == "runtime.NumGoroutine") = false ∧ Try.f7.body = some D_9 := ⟨Try.func7, by kernel_rfl, by kernel_rfl⟩
theorem H_9 : Holds Try.prog 7 E_9 :=
 holds_of (cx := C_9) (tabOk_ok tabT rfl).1 (allT_ok ⟨⟨H_8, _, _, Q_8⟩, trivial⟩) mixT Q_9.1 Q_9.2.2 (loops_of W_9 trivial) (enc := N_9) (fun _ _ => ⟨rfl, rfl⟩) F_9
theorem F_10 (a : dens [.v .int]) : E_10.run a = funK C_10 Try.f47 [.v .int] [.v .bool] a (fun o r => some (N_10 o r)) := by
 kernel_rfl
theorem W_10 : loopsOf D_10 = [] := by kernel_rfl
theorem Q_10 : Try.prog.funcs[47]? = some Try.f47 ∧ (Try.f47.name == "runtime.NumGoroutine") = false ∧ Try.f47.body = some D_10 := ⟨Try.func47, by kernel_rfl, by kernel_rfl⟩
theorem H_10 : Holds Try.prog 47 E_10 :=
 holds_of (cx := C_10) (tabOk_ok tabT rfl).1 (allT_ok trivial) mixT Q_10.1 Q_10.2.2 (loops_of W_10 trivial) (enc := N_10) (fun _ _ => ⟨rfl, rfl⟩) F_10
theorem K_11L2 (n : Nat) (x) : impl_inSize_L2 (n + 1) x = roundK C_11 B_11L2 (S_11L2 fuel) x (impl_inSize_L2 n) := by
 obtain ⟨_, _, _, _⟩ := x
 kernel_rfl
theorem F_11 (a : dens [.v (.slice .int), .v .int]) : E_11.run a = funK C_11 Try.f48 [.v (.slice .int), .v .int] [.v .bool] a (fun o r => some (N_11 o r)) := by
 kernel_rfl
theorem W_11 : loopsOf D_11 = [B_11L2] := by kernel_rfl
theorem R_11L2 : firstReg B_11L2 = 2 := by kernel_rfl
theorem Q_11 : Try.prog.funcs[48]? = some Try.f48 ∧ (Try.f48.name == "runtime.NumGoroutine") = false ∧ Try.f48.body = some D_11 := ⟨Try.func48, by kernel_rfl, by kernel_rfl⟩
theorem H_11 : Holds Try.prog 48 E_11 :=
 holds_of (cx := C_11) (tabOk_ok tabT rfl).1 (allT_ok trivial) mixT Q_11.1 Q_11.2.2 (loops_of W_11 ⟨loop_of (cx := C_11) (L := S_11L2 fuel) rfl (by rw [R_11L2]; rfl) ⟨impl_inSize_L2, fun _ => rfl, fun n x => K_11L2 n x, fuel, fun _ => rfl⟩, trivial⟩) (enc := N_11) (fun _ _ => ⟨rfl, rfl⟩) F_11
theorem K_12L4 (n : Nat) (x) : impl_IsLinear_L4 (n + 1) x = roundK C_12 B_12L4 (S_12L4 fuel) x (impl_IsLinear_L4 n) := by
 obtain ⟨_, _, _, _⟩ := x
 kernel_rfl
theorem F_12 (a : dens [.v (.pair .int (.pair .int (.slice (.slice .int))))]) : E_12.run a = funK C_12 Try.f12 [.v (.pair .int (.pair .int (.slice (.slice .int))))] [.v .bool] a (fun o r => some (N_12 o r)) := by
 kernel_rfl
theorem W_12 : loopsOf D_12 = [B_12L4] := by kernel_rfl
theorem R_12L4 : firstReg B_12L4 = 4 := by kernel_rfl
theorem Q_12 : Try.prog.funcs[12]? = some Try.f12 ∧ (Try.f12.name == "runtime.NumGoroutine") = false ∧ Try.f12.body = some D_12 := ⟨Try.func12, by kernel_rfl, by kernel_rfl⟩
theorem H_12 : Holds Try.prog 12 E_12 :=
 holds_of (cx := C_12) (tabOk_ok tabT rfl).1 (allT_ok ⟨⟨H_10, _, _, Q_10⟩, ⟨⟨H_11, _, _, Q_11⟩, trivial⟩⟩) mixT Q_12.1 Q_12.2.2 (loops_of W_12 ⟨loop_of (cx := C_12) (L := S_12L4 fuel) rfl (by rw [R_12L4]; rfl) ⟨impl_IsLinear_L4, fun _ => rfl, fun n x => K_12L4 n x, fuel, fun _ => rfl⟩, trivial⟩) (enc := N_12) (fun _ _ => ⟨rfl, rfl⟩) F_12
theorem F_13 (a : dens [.v (.slice .int)]) : E_13.run a = funK C_13 Try.f106 [.v (.slice .int)] [.mv .int 0] a (fun o r => some (N_13 o r)) := by
 kernel_rfl
theorem W_13 : loopsOf D_13 = [] := by kernel_rfl
theorem Q_13 : Try.prog.funcs[106]? = some Try.f106 ∧ (Try.f106.name == "runtime.NumGoroutine") = false ∧ Try.f106.body = some D_13 := ⟨Try.func106, by kernel_rfl, by kernel_rfl⟩
theorem H_13 : Holds Try.prog 106 E_13 :=
 holds_of (cx := C_13) (tabOk_ok tabT rfl).1 (allT_ok trivial) mixT Q_13.1 Q_13.2.2 (loops_of W_13 trivial) (enc := N_13) (fun _ _ => ⟨rfl, rfl⟩) F_13
theorem K_14L3 (n : Nat) (x) : impl_cloneRows_L3 (n + 1) x = roundK C_14 B_14L3 (S_14L3 fuel) x (impl_cloneRows_L3 n) := by
 obtain ⟨_, _, _, _⟩ := x
 kernel_rfl
theorem F_14 (a : dens [.v (.slice (.slice .int))]) : E_14.run a = funK C_14 Try.f96 [.v (.slice (.slice .int))] [.mv (.slice .int) 1] a (fun o r => some (N_14 o r)) := by
 kernel_rfl
theorem W_14 : loopsOf D_14 = [B_14L3] := by kernel_rfl
theorem R_14L3 : firstReg B_14L3 = 3 := by kernel_rfl
theorem Q_14 : Try.prog.funcs[96]? = some Try.f96 ∧ (Try.f96.name == "runtime.NumGoroutine") = false ∧ Try.f96.body = some D_14 := ⟨Try.func96, by kernel_rfl, by kernel_rfl⟩
theorem H_14 : Holds Try.prog 96 E_14 :=
 holds_of (cx := C_14) (tabOk_ok tabT rfl).1 (allT_ok ⟨⟨H_13, _, _, Q_13⟩, trivial⟩) mixT Q_14.1 Q_14.2.2 (loops_of W_14 ⟨loop_of (cx := C_14) (L := S_14L3 fuel) rfl (by rw [R_14L3]; rfl) ⟨impl_cloneRows_L3, fun _ => rfl, fun n x => K_14L3 n x, fuel, fun _ => rfl⟩, trivial⟩) (enc := N_14) (fun _ _ => ⟨rfl, rfl⟩) F_14
theorem K_15L3 (n : Nat) (x) : impl_freeTable_L3 (n + 1) x = roundK C_15 B_15L3 (S_15L3 fuel) x (impl_freeTable_L3 n) := by
 obtain ⟨_, _, _⟩ := x
 kernel_rfl
theorem F_15 (a : dens [.v .int]) : E_15.run a = funK C_15 Try.f97 [.v .int] [.mv .int 0] a (fun o r => some (N_15 o r)) := by
 kernel_rfl
theorem W_15 : loopsOf D_15 = [B_15L3] := by kernel_rfl
theorem R_15L3 : firstReg B_15L3 = 3 := by kernel_rfl
theorem Q_15 : Try.prog.funcs[97]? = some Try.f97 ∧ (Try.f97.name == "runtime.NumGoroutine") = false ∧ Try.f97.body = some D_15 := ⟨Try.func97, by kernel_rfl, by kernel_rfl⟩
theorem H_15 : Holds Try.prog 97 E_15 :=
 holds_of (cx := C_15) (tabOk_ok tabT rfl).1 (allT_ok trivial) mixT Q_15.1 Q_15.2.2 (loops_of W_15 ⟨loop_of (cx := C_15) (L := S_15L3 fuel) rfl (by rw [R_15L3]; rfl) ⟨impl_freeTable_L3, fun _ => rfl, fun n x => K_15L3 n x, fuel, fun _ => rfl⟩, trivial⟩) (enc := N_15) (fun _ _ => ⟨rfl, rfl⟩) F_15
theorem K_16L2 (n : Nat) (x) : impl_inverseOf_L2 (n + 1) x = roundK C_16 B_16L2 (S_16L2 fuel) x (impl_inverseOf_L2 n) := by
 obtain ⟨_, _, _⟩ := x
 kernel_rfl
theorem F_16 (a : dens [.v .int, .v .int]) : E_16.run a = funK C_16 Try.f98 [.v .int, .v .int] [.v .int] a (fun o r => some (N_16 o r)) := by
 kernel_rfl
theorem W_16 : loopsOf D_16 = [B_16L2] := by kernel_rfl
theorem R_16L2 : firstReg B_16L2 = 2 := by kernel_rfl
theorem Q_16 : Try.prog.funcs[98]? = some Try.f98 ∧ (Try.f98.name == "runtime.NumGoroutine") = false ∧ Try.f98.body = some D_16 := ⟨Try.func98, by kernel_rfl, by kernel_rfl⟩
theorem H_16 : Holds Try.prog 98 E_16 :=
 holds_of (cx := C_16) (tabOk_ok tabT rfl).1 (allT_ok trivial) mixT Q_16.1 Q_16.2.2 (loops_of W_16 ⟨loop_of (cx := C_16) (L := S_16L2 fuel) rfl (by rw [R_16L2]; rfl) ⟨impl_inverseOf_L2, fun _ => rfl, fun n x => K_16L2 n x, fuel, fun _ => rfl⟩, trivial⟩) (enc := N_16) (fun _ _ => ⟨rfl, rfl⟩) F_16
theorem K_17L6 (n : Nat) (x) : impl_eliminate_L6 (n + 1) x = roundK C_17 B_17L6 (S_17L6 fuel) x (impl_eliminate_L6 n) := by
 obtain ⟨_, _, _, _, _⟩ := x
 kernel_rfl
theorem K_17L14 (n : Nat) (x) : impl_eliminate_L14 (n + 1) x = roundK C_17 B_17L14 (S_17L14 fuel) x (impl_eliminate_L14 n) := by
 obtain ⟨_, _, _, _, _, _, _, _⟩ := x
 kernel_rfl
theorem K_17L24 (n : Nat) (x) : impl_eliminate_L24 (n + 1) x = roundK C_17 B_17L24 (S_17L24 fuel) x (impl_eliminate_L24 n) := by
 obtain ⟨_, _, _, _, _, _, _, _, _, _, _, _⟩ := x
 kernel_rfl
theorem K_17L19 (n : Nat) (x) : impl_eliminate_L19 (n + 1) x = roundK C_17 B_17L19 (S_17L19 fuel) x (impl_eliminate_L19 n) := by
 obtain ⟨_, _, _, _, _, _, _, _⟩ := x
 kernel_rfl
theorem K_17L3 (n : Nat) (x) : impl_eliminate_L3 (n + 1) x = roundK C_17 B_17L3 (S_17L3 fuel) x (impl_eliminate_L3 n) := by
 obtain ⟨_, _, _, _⟩ := x
 kernel_rfl
theorem F_17 (a : dens [.v .int, .v .int, .v (.slice (.slice .int))]) : E_17.run a = funK C_17 Try.f42 [.v .int, .v .int, .v (.slice (.slice .int))] [.v (.ptr (.pair .int (.pair .int (.pair (.slice (.slice .int)) (.pair .int (.slice .int))))))] a (fun o r => some (N_17 o r)) := by
 kernel_rfl
theorem W_17 : loopsOf D_17 = [B_17L3, B_17L6, B_17L14, B_17L19, B_17L24] := by kernel_rfl
theorem R_17L6 : firstReg B_17L6 = 6 := by kernel_rfl
theorem R_17L14 : firstReg B_17L14 = 14 := by kernel_rfl
theorem R_17L24 : firstReg B_17L24 = 24 := by kernel_rfl
theorem R_17L19 : firstReg B_17L19 = 19 := by kernel_rfl
theorem R_17L3 : firstReg B_17L3 = 3 := by kernel_rfl
theorem Q_17 : Try.prog.funcs[42]? = some Try.f42 ∧ (Try.f42.name == "runtime.NumGoroutine") = false ∧ Try.f42.body = some D_17 := ⟨Try.func42, by kernel_rfl, by kernel_rfl⟩
theorem H_17 : Holds Try.prog 42 E_17 :=
 holds_of (cx := C_17) (tabOk_ok tabT rfl).1 (allT_ok ⟨⟨H_14, _, _, Q_14⟩, ⟨⟨H_15, _, _, Q_15⟩, ⟨⟨H_16, _, _, Q_16⟩, trivial⟩⟩⟩) mixT Q_17.1 Q_17.2.2 (loops_of W_17 ⟨loop_of (cx := C_17) (L := S_17L3 fuel) rfl (by rw [R_17L3]; rfl) ⟨impl_eliminate_L3, fun _ => rfl, fun n x => K_17L3 n x, fuel, fun _ => rfl⟩, ⟨loop_of (cx := C_17) (L := S_17L6 fuel) rfl (by rw [R_17L6]; rfl) ⟨impl_eliminate_L6, fun _ => rfl, fun n x => K_17L6 n x, fuel, fun _ => rfl⟩, ⟨loop_of (cx := C_17) (L := S_17L14 fuel) rfl (by rw [R_17L14]; rfl) ⟨impl_eliminate_L14, fun _ => rfl, fun n x => K_17L14 n x, fuel, fun _ => rfl⟩, ⟨loop_of (cx := C_17) (L := S_17L19 fuel) rfl (by rw [R_17L19]; rfl) ⟨impl_eliminate_L19, fun _ => rfl, fun n x => K_17L19 n x, fuel, fun _ => rfl⟩, ⟨loop_of (cx := C_17) (L := S_17L24 fuel) rfl (by rw [R_17L24]; rfl) ⟨impl_eliminate_L24, fun _ => rfl, fun n x => K_17L24 n x, fuel, fun _ => rfl⟩, trivial⟩⟩⟩⟩⟩) (enc := N_17) (fun _ _ => ⟨rfl, rfl⟩) F_17
theorem K_18L3 (n : Nat) (x) : impl_eliminated_freeVars_L3 (n + 1) x = roundK C_18 B_18L3 (S_18L3 fuel) x (impl_eliminated_freeVars_L3 n) := by
 obtain ⟨_, _, _, _, _⟩ := x
 kernel_rfl
theorem F_18 (a : dens [.bx (.pr (.v .int) (.pr (.v .int) (.pr (.mv (.slice .int) 1) (.pr (.v .int) (.mv .int 0)))))]) : E_18.run a = funK C_18 Try.f58 [.bx (.pr (.v .int) (.pr (.v .int) (.pr (.mv (.slice .int) 1) (.pr (.v .int) (.mv .int 0)))))] [.mv .int 0] a (fun o r => some (N_18 o r)) := by
 kernel_rfl
theorem W_18 : loopsOf D_18 = [B_18L3] := by kernel_rfl
theorem R_18L3 : firstReg B_18L3 = 3 := by kernel_rfl
theorem Q_18 : Try.prog.funcs[58]? = some Try.f58 ∧ (Try.f58.name == "runtime.NumGoroutine") = false ∧ Try.f58.body = some D_18 := ⟨Try.func58, by kernel_rfl, by kernel_rfl⟩
theorem H_18 : Holds Try.prog 58 E_18 :=
 holds_of (cx := C_18) (tabOk_ok tabT rfl).1 (allT_ok trivial) mixT Q_18.1 Q_18.2.2 (loops_of W_18 ⟨loop_of (cx := C_18) (L := S_18L3 fuel) rfl (by rw [R_18L3]; rfl) ⟨impl_eliminated_freeVars_L3, fun _ => rfl, fun n x => K_18L3 n x, fuel, fun _ => rfl⟩, trivial⟩) (enc := N_18) (fun _ _ => ⟨rfl, rfl⟩) F_18
theorem K_19L4 (n : Nat) (x) : impl_eliminated_solution_L4 (n + 1) x = roundK C_19 B_19L4 (S_19L4 fuel) x (impl_eliminated_solution_L4 n) := by
 obtain ⟨_, _, _, _, _, _, _⟩ := x
 kernel_rfl
theorem K_19L14 (n : Nat) (x) : impl_eliminated_solution_L14 (n + 1) x = roundK C_19 B_19L14 (S_19L14 fuel) x (impl_eliminated_solution_L14 n) := by
 obtain ⟨_, _, _, _, _, _, _, _, _, _, _, _, _⟩ := x
 kernel_rfl
theorem K_19L9 (n : Nat) (x) : impl_eliminated_solution_L9 (n + 1) x = roundK C_19 B_19L9 (S_19L9 fuel) x (impl_eliminated_solution_L9 n) := by
 obtain ⟨_, _, _, _, _, _, _⟩ := x
 kernel_rfl
theorem F_19 (a : dens [.bx (.pr (.v .int) (.pr (.v .int) (.pr (.mv (.slice .int) 1) (.pr (.v .int) (.mv .int 0))))), .v (.slice .int)]) : E_19.run a = funK C_19 Try.f66 [.bx (.pr (.v .int) (.pr (.v .int) (.pr (.mv (.slice .int) 1) (.pr (.v .int) (.mv .int 0))))), .v (.slice .int)] [.mv .int 0] a (fun o r => some (N_19 o r)) := by
 kernel_rfl
theorem W_19 : loopsOf D_19 = [B_19L4, B_19L9, B_19L14] := by kernel_rfl
theorem R_19L4 : firstReg B_19L4 = 4 := by kernel_rfl
theorem R_19L14 : firstReg B_19L14 = 14 := by kernel_rfl
theorem R_19L9 : firstReg B_19L9 = 9 := by kernel_rfl
theorem Q_19 : Try.prog.funcs[66]? = some Try.f66 ∧ (Try.f66.name == "runtime.NumGoroutine") = false ∧ Try.f66.body = some D_19 := ⟨Try.func66, by kernel_rfl, by kernel_rfl⟩
theorem H_19 : Holds Try.prog 66 E_19 :=
 holds_of (cx := C_19) (tabOk_ok tabT rfl).1 (allT_ok ⟨⟨H_18, _, _, Q_18⟩, trivial⟩) mixT Q_19.1 Q_19.2.2 (loops_of W_19 ⟨loop_of (cx := C_19) (L := S_19L4 fuel) rfl (by rw [R_19L4]; rfl) ⟨impl_eliminated_solution_L4, fun _ => rfl, fun n x => K_19L4 n x, fuel, fun _ => rfl⟩, ⟨loop_of (cx := C_19) (L := S_19L9 fuel) rfl (by rw [R_19L9]; rfl) ⟨impl_eliminated_solution_L9, fun _ => rfl, fun n x => K_19L9 n x, fuel, fun _ => rfl⟩, ⟨loop_of (cx := C_19) (L := S_19L14 fuel) rfl (by rw [R_19L14]; rfl) ⟨impl_eliminated_solution_L14, fun _ => rfl, fun n x => K_19L14 n x, fuel, fun _ => rfl⟩, trivial⟩⟩⟩) (enc := N_19) (fun _ _ => ⟨rfl, rfl⟩) F_19
theorem K_20L2 (n : Nat) (x) : impl_eliminated_fails_p_L2 (n + 1) x = roundK C_20 B_20L2 (S_20L2 fuel) x (impl_eliminated_fails_p_L2 n) := by
 obtain ⟨_, _, _, _⟩ := x
 kernel_rfl
theorem F_20 (a : dens [.v (.ptr (.pair .int (.pair .int (.pair (.slice (.slice .int)) (.pair .int (.slice .int))))))]) : E_20.run a = funK C_20 Try.f62 [.v (.ptr (.pair .int (.pair .int (.pair (.slice (.slice .int)) (.pair .int (.slice .int))))))] [.v .bool] a (fun o r => some (N_20 o r)) := by
 kernel_rfl
theorem W_20 : loopsOf D_20 = [B_20L2] := by kernel_rfl
theorem R_20L2 : firstReg B_20L2 = 2 := by kernel_rfl
theorem Q_20 : Try.prog.funcs[62]? = some Try.f62 ∧ (Try.f62.name == "runtime.NumGoroutine") = false ∧ Try.f62.body = some D_20 := ⟨Try.func62, by kernel_rfl, by kernel_rfl⟩
theorem H_20 : Holds Try.prog 62 E_20 :=
 holds_of (cx := C_20) (tabOk_ok tabT rfl).1 (allT_ok trivial) mixT Q_20.1 Q_20.2.2 (loops_of W_20 ⟨loop_of (cx := C_20) (L := S_20L2 fuel) rfl (by rw [R_20L2]; rfl) ⟨impl_eliminated_fails_p_L2, fun _ => rfl, fun n x => K_20L2 n x, fuel, fun _ => rfl⟩, trivial⟩) (enc := N_20) (fun _ _ => ⟨rfl, rfl⟩) F_20
theorem K_21L3 (n : Nat) (x) : impl_eliminated_freeVars_p_L3 (n + 1) x = roundK C_21 B_21L3 (S_21L3 fuel) x (impl_eliminated_freeVars_p_L3 n) := by
 obtain ⟨_, _, _, _⟩ := x
 kernel_rfl
theorem F_21 (a : dens [.v (.ptr (.pair .int (.pair .int (.pair (.slice (.slice .int)) (.pair .int (.slice .int))))))]) : E_21.run a = funK C_21 Try.f58 [.v (.ptr (.pair .int (.pair .int (.pair (.slice (.slice .int)) (.pair .int (.slice .int))))))] [.mv .int 0] a (fun o r => some (N_21 o r)) := by
 kernel_rfl
theorem W_21 : loopsOf D_21 = [B_21L3] := by kernel_rfl
theorem R_21L3 : firstReg B_21L3 = 3 := by kernel_rfl
theorem Q_21 : Try.prog.funcs[58]? = some Try.f58 ∧ (Try.f58.name == "runtime.NumGoroutine") = false ∧ Try.f58.body = some D_21 := ⟨Try.func58, by kernel_rfl, by kernel_rfl⟩
theorem H_21 : Holds Try.prog 58 E_21 :=
 holds_of (cx := C_21) (tabOk_ok tabT rfl).1 (allT_ok trivial) mixT Q_21.1 Q_21.2.2 (loops_of W_21 ⟨loop_of (cx := C_21) (L := S_21L3 fuel) rfl (by rw [R_21L3]; rfl) ⟨impl_eliminated_freeVars_p_L3, fun _ => rfl, fun n x => K_21L3 n x, fuel, fun _ => rfl⟩, trivial⟩) (enc := N_21) (fun _ _ => ⟨rfl, rfl⟩) F_21
theorem K_22L4 (n : Nat) (x) : impl_eliminated_solution_p_L4 (n + 1) x = roundK C_22 B_22L4 (S_22L4 fuel) x (impl_eliminated_solution_p_L4 n) := by
 obtain ⟨_, _, _, _, _, _, _⟩ := x
 kernel_rfl
theorem K_22L14 (n : Nat) (x) : impl_eliminated_solution_p_L14 (n + 1) x = roundK C_22 B_22L14 (S_22L14 fuel) x (impl_eliminated_solution_p_L14 n) := by
 obtain ⟨_, _, _, _, _, _, _, _, _, _, _, _, _⟩ := x
 kernel_rfl
theorem K_22L9 (n : Nat) (x) : impl_eliminated_solution_p_L9 (n + 1) x = roundK C_22 B_22L9 (S_22L9 fuel) x (impl_eliminated_solution_p_L9 n) := by
 obtain ⟨_, _, _, _, _, _, _⟩ := x
 kernel_rfl
theorem F_22 (a : dens [.v (.ptr (.pair .int (.pair .int (.pair (.slice (.slice .int)) (.pair .int (.slice .int)))))), .v (.slice .int)]) : E_22.run a = funK C_22 Try.f66 [.v (.ptr (.pair .int (.pair .int (.pair (.slice (.slice .int)) (.pair .int (.slice .int)))))), .v (.slice .int)] [.mv .int 0] a (fun o r => some (N_22 o r)) := by
 kernel_rfl
theorem W_22 : loopsOf D_22 = [B_22L4, B_22L9, B_22L14] := by kernel_rfl
theorem R_22L4 : firstReg B_22L4 = 4 := by kernel_rfl
theorem R_22L14 : firstReg B_22L14 = 14 := by kernel_rfl
theorem R_22L9 : firstReg B_22L9 = 9 := by kernel_rfl
theorem Q_22 : Try.prog.funcs[66]? = some Try.f66 ∧ (Try.f66.name == "runtime.NumGoroutine") = false ∧ Try.f66.body = some D_22 := ⟨Try.func66, by kernel_rfl, by kernel_rfl⟩
theorem H_22 : Holds Try.prog 66 E_22 :=
 holds_of (cx := C_22) (tabOk_ok tabT rfl).1 (allT_ok ⟨⟨H_21, _, _, Q_21⟩, trivial⟩) mixT Q_22.1 Q_22.2.2 (loops_of W_22 ⟨loop_of (cx := C_22) (L := S_22L4 fuel) rfl (by rw [R_22L4]; rfl) ⟨impl_eliminated_solution_p_L4, fun _ => rfl, fun n x => K_22L4 n x, fuel, fun _ => rfl⟩, ⟨loop_of (cx := C_22) (L := S_22L9 fuel) rfl (by rw [R_22L9]; rfl) ⟨impl_eliminated_solution_p_L9, fun _ => rfl, fun n x => K_22L9 n x, fuel, fun _ => rfl⟩, ⟨loop_of (cx := C_22) (L := S_22L14 fuel) rfl (by rw [R_22L14]; rfl) ⟨impl_eliminated_solution_p_L14, fun _ => rfl, fun n x => K_22L14 n x, fuel, fun _ => rfl⟩, trivial⟩⟩⟩) (enc := N_22) (fun _ _ => ⟨rfl, rfl⟩) F_22
theorem F_23 (a : dens [.v (.ptr (.pair .int (.pair .int (.pair (.slice (.slice .int)) (.pair .int (.slice .int))))))]) : E_23.run a = funK C_23 Try.f43 [.v (.ptr (.pair .int (.pair .int (.pair (.slice (.slice .int)) (.pair .int (.slice .int))))))] [.mv .int 0, .v .bool] a (fun o r => some (N_23 o r)) := by
 kernel_rfl
theorem W_23 : loopsOf D_23 = [] := by kernel_rfl
theorem Q_23 : Try.prog.funcs[43]? = some Try.f43 ∧ (Try.f43.name == "runtime.NumGoroutine") = false ∧ Try.f43.body = some D_23 := ⟨Try.func43, by kernel_rfl, by kernel_rfl⟩
theorem H_23 : Holds Try.prog 43 E_23 :=
 holds_of (cx := C_23) (tabOk_ok tabT rfl).1 (allT_ok ⟨⟨H_20, _, _, Q_20⟩, ⟨⟨H_22, _, _, Q_22⟩, trivial⟩⟩) mixT Q_23.1 Q_23.2.2 (loops_of W_23 trivial) (enc := N_23) (fun _ _ => ⟨rfl, rfl⟩) F_23
theorem K_24L9 (n : Nat) (x) : impl_RefuteLinear_L9 (n + 1) x = roundK C_24 B_24L9 (S_24L9 fuel) x (impl_RefuteLinear_L9 n) := by
 obtain ⟨_, _, _, _, _, _, _⟩ := x
 kernel_rfl
theorem K_24L5 (n : Nat) (x) : impl_RefuteLinear_L5 (n + 1) x = roundK C_24 B_24L5 (S_24L5 fuel) x (impl_RefuteLinear_L5 n) := by
 obtain ⟨_, _, _⟩ := x
 kernel_rfl
theorem F_24 (a : dens [.v (.pair .int (.pair .int (.slice (.slice .int))))]) : E_24.run a = funK C_24 Try.f8 [.v (.pair .int (.pair .int (.slice (.slice .int))))] [.mv .int 0, .v .bool] a (fun o r => some (N_24 o r)) := by
 kernel_rfl
theorem W_24 : loopsOf D_24 = [B_24L5, B_24L9] := by kernel_rfl
theorem R_24L9 : firstReg B_24L9 = 9 := by kernel_rfl
theorem R_24L5 : firstReg B_24L5 = 5 := by kernel_rfl
theorem Q_24 : Try.prog.funcs[8]? = some Try.f8 ∧ (Try.f8.name == "runtime.NumGoroutine") = false ∧ Try.f8.body = some D_24 := ⟨Try.func8, by kernel_rfl, by kernel_rfl⟩
theorem H_24 : Holds Try.prog 8 E_24 :=
 holds_of (cx := C_24) (tabOk_ok tabT rfl).1 (allT_ok ⟨⟨H_12, _, _, Q_12⟩, ⟨⟨H_17, _, _, Q_17⟩, ⟨⟨H_23, _, _, Q_23⟩, trivial⟩⟩⟩) mixT Q_24.1 Q_24.2.2 (loops_of W_24 ⟨loop_of (cx := C_24) (L := S_24L5 fuel) rfl (by rw [R_24L5]; rfl) ⟨impl_RefuteLinear_L5, fun _ => rfl, fun n x => K_24L5 n x, fuel, fun _ => rfl⟩, ⟨loop_of (cx := C_24) (L := S_24L9 fuel) rfl (by rw [R_24L9]; rfl) ⟨impl_RefuteLinear_L9, fun _ => rfl, fun n x => K_24L9 n x, fuel, fun _ => rfl⟩, trivial⟩⟩) (enc := N_24) (fun _ _ => ⟨rfl, rfl⟩) F_24
theorem F_25 (a : dens [.v .int]) : E_25.run a = funK C_25 Try.f99 [.v .int] [.v .bool] a (fun o r => some (N_25 o r)) := by
 kernel_rfl
theorem W_25 : loopsOf D_25 = [] := by kernel_rfl
theorem Q_25 : Try.prog.funcs[99]? = some Try.f99 ∧ (Try.f99.name == "runtime.NumGoroutine") = false ∧ Try.f99.body = some D_25 := ⟨Try.func99, by kernel_rfl, by kernel_rfl⟩
theorem H_25 : Holds Try.prog 99 E_25 :=
 holds_of (cx := C_25) (tabOk_ok tabT rfl).1 (allT_ok trivial) mixT Q_25.1 Q_25.2.2 (loops_of W_25 trivial) (enc := N_25) (fun _ _ => ⟨rfl, rfl⟩) F_25
theorem F_26 (a : dens [.v .int, .v .int, .v .int]) : E_26.run a = funK C_26 Try.f100 [.v .int, .v .int, .v .int] [.v .bool] a (fun o r => some (N_26 o r)) := by
 kernel_rfl
theorem W_26 : loopsOf D_26 = [] := by kernel_rfl
theorem Q_26 : Try.prog.funcs[100]? = some Try.f100 ∧ (Try.f100.name == "runtime.NumGoroutine") = false ∧ Try.f100.body = some D_26 := ⟨Try.func100, by kernel_rfl, by kernel_rfl⟩
theorem H_26 : Holds Try.prog 100 E_26 :=
 holds_of (cx := C_26) (tabOk_ok tabT rfl).1 (allT_ok trivial) mixT Q_26.1 Q_26.2.2 (loops_of W_26 trivial) (enc := N_26) (fun _ _ => ⟨rfl, rfl⟩) F_26
theorem K_27L2 (n : Nat) (x) : spec_l2Elements_L2 (n + 1) x = roundK C_27 B_27L2 (S_27L2 fuel) x (spec_l2Elements_L2 n) := by
 obtain ⟨_, _, _⟩ := x
 kernel_rfl
theorem F_27 (a : dens [.v .int, .v (.slice .int)]) : E_27.run a = funK C_27 Try.f105 [.v .int, .v (.slice .int)] [.v .bool] a (fun o r => some (N_27 o r)) := by
 kernel_rfl
theorem W_27 : loopsOf D_27 = [B_27L2] := by kernel_rfl
theorem R_27L2 : firstReg B_27L2 = 2 := by kernel_rfl
theorem Q_27 : Try.prog.funcs[105]? = some Try.f105 ∧ (Try.f105.name == "runtime.NumGoroutine") = false ∧ Try.f105.body = some D_27 := ⟨Try.func105, by kernel_rfl, by kernel_rfl⟩
theorem H_27 : Holds Try.prog 105 E_27 :=
 holds_of (cx := C_27) (tabOk_ok tabT rfl).1 (allT_ok ⟨⟨H_26, _, _, Q_26⟩, trivial⟩) mixT Q_27.1 Q_27.2.2 (loops_of W_27 ⟨loop_of (cx := C_27) (L := S_27L2 fuel) rfl (by rw [R_27L2]; rfl) ⟨spec_l2Elements_L2, fun _ => rfl, fun n x => K_27L2 n x, fuel, fun _ => rfl⟩, trivial⟩) (enc := N_27) (fun _ _ => ⟨rfl, rfl⟩) F_27
theorem F_28 (a : dens [.v .int, .v .int, .v (.slice .int)]) : E_28.run a = funK C_28 Try.f55 [.v .int, .v .int, .v (.slice .int)] [.v .bool] a (fun o r => some (N_28 o r)) := by
 kernel_rfl
theorem W_28 : loopsOf D_28 = [] := by kernel_rfl
theorem Q_28 : Try.prog.funcs[55]? = some Try.f55 ∧ (Try.f55.name == "runtime.NumGoroutine") = false ∧ Try.f55.body = some D_28 := ⟨Try.func55, by kernel_rfl, by kernel_rfl⟩
theorem H_28 : Holds Try.prog 55 E_28 :=
 holds_of (cx := C_28) (tabOk_ok tabT rfl).1 (allT_ok ⟨⟨H_27, _, _, Q_27⟩, trivial⟩) mixT Q_28.1 Q_28.2.2 (loops_of W_28 trivial) (enc := N_28) (fun _ _ => ⟨rfl, rfl⟩) F_28
theorem K_29L2 (n : Nat) (x) : spec_l21Rows_L2 (n + 1) x = roundK C_29 B_29L2 (S_29L2 fuel) x (spec_l21Rows_L2 n) := by
 obtain ⟨_, _, _, _⟩ := x
 kernel_rfl
theorem F_29 (a : dens [.v .int, .v .int, .v (.slice (.slice .int))]) : E_29.run a = funK C_29 Try.f101 [.v .int, .v .int, .v (.slice (.slice .int))] [.v .bool] a (fun o r => some (N_29 o r)) := by
 kernel_rfl
theorem W_29 : loopsOf D_29 = [B_29L2] := by kernel_rfl
theorem R_29L2 : firstReg B_29L2 = 2 := by kernel_rfl
theorem Q_29 : Try.prog.funcs[101]? = some Try.f101 ∧ (Try.f101.name == "runtime.NumGoroutine") = false ∧ Try.f101.body = some D_29 := ⟨Try.func101, by kernel_rfl, by kernel_rfl⟩
theorem H_29 : Holds Try.prog 101 E_29 :=
 holds_of (cx := C_29) (tabOk_ok tabT rfl).1 (allT_ok ⟨⟨H_28, _, _, Q_28⟩, trivial⟩) mixT Q_29.1 Q_29.2.2 (loops_of W_29 ⟨loop_of (cx := C_29) (L := S_29L2 fuel) rfl (by rw [R_29L2]; rfl) ⟨spec_l21Rows_L2, fun _ => rfl, fun n x => K_29L2 n x, fuel, fun _ => rfl⟩, trivial⟩) (enc := N_29) (fun _ _ => ⟨rfl, rfl⟩) F_29
theorem F_30 (a : dens [.v (.pair .int (.pair .int (.slice (.slice .int))))]) : E_30.run a = funK C_30 Try.f44 [.v (.pair .int (.pair .int (.slice (.slice .int))))] [.v .bool] a (fun o r => some (N_30 o r)) := by
 kernel_rfl
theorem W_30 : loopsOf D_30 = [] := by kernel_rfl
theorem Q_30 : Try.prog.funcs[44]? = some Try.f44 ∧ (Try.f44.name == "runtime.NumGoroutine") = false ∧ Try.f44.body = some D_30 := ⟨Try.func44, by kernel_rfl, by kernel_rfl⟩
theorem H_30 : Holds Try.prog 44 E_30 :=
 holds_of (cx := C_30) (tabOk_ok tabT rfl).1 (allT_ok ⟨⟨H_25, _, _, Q_25⟩, ⟨⟨H_26, _, _, Q_26⟩, ⟨⟨H_29, _, _, Q_29⟩, trivial⟩⟩⟩) mixT Q_30.1 Q_30.2.2 (loops_of W_30 trivial) (enc := N_30) (fun _ _ => ⟨rfl, rfl⟩) F_30
theorem F_31 (a : dens [.v (.slice .int)]) : E_31.run a = funK C_31 Try.f70 [.v (.slice .int)] [.mv .int 0] a (fun o r => some (N_31 o r)) := by
 kernel_rfl
theorem W_31 : loopsOf D_31 = [] := by kernel_rfl
theorem Q_31 : Try.prog.funcs[70]? = some Try.f70 ∧ (Try.f70.name == "runtime.NumGoroutine") = false ∧ Try.f70.body = some D_31 := ⟨Try.func70, by kernel_rfl, by kernel_rfl⟩
theorem H_31 : Holds Try.prog 70 E_31 :=
 holds_of (cx := C_31) (tabOk_ok tabT rfl).1 (allT_ok trivial) mixT Q_31.1 Q_31.2.2 (loops_of W_31 trivial) (enc := N_31) (fun _ _ => ⟨rfl, rfl⟩) F_31
theorem K_32L2 (n : Nat) (x) : spec_l21Inverse_L2 (n + 1) x = roundK C_32 B_32L2 (S_32L2 fuel) x (spec_l21Inverse_L2 n) := by
 obtain ⟨_, _, _⟩ := x
 kernel_rfl
theorem F_32 (a : dens [.v .int, .v .int]) : E_32.run a = funK C_32 Try.f126 [.v .int, .v .int] [.v .int] a (fun o r => some (N_32 o r)) := by
 kernel_rfl
theorem W_32 : loopsOf D_32 = [B_32L2] := by kernel_rfl
theorem R_32L2 : firstReg B_32L2 = 2 := by kernel_rfl
theorem Q_32 : Try.prog.funcs[126]? = some Try.f126 ∧ (Try.f126.name == "runtime.NumGoroutine") = false ∧ Try.f126.body = some D_32 := ⟨Try.func126, by kernel_rfl, by kernel_rfl⟩
theorem H_32 : Holds Try.prog 126 E_32 :=
 holds_of (cx := C_32) (tabOk_ok tabT rfl).1 (allT_ok trivial) mixT Q_32.1 Q_32.2.2 (loops_of W_32 ⟨loop_of (cx := C_32) (L := S_32L2 fuel) rfl (by rw [R_32L2]; rfl) ⟨spec_l21Inverse_L2, fun _ => rfl, fun n x => K_32L2 n x, fuel, fun _ => rfl⟩, trivial⟩) (enc := N_32) (fun _ _ => ⟨rfl, rfl⟩) F_32
theorem K_33L3 (n : Nat) (x) : spec_l21Less_L3 (n + 1) x = roundK C_33 B_33L3 (S_33L3 fuel) x (spec_l21Less_L3 n) := by
 obtain ⟨_, _, _, _, _, _⟩ := x
 kernel_rfl
theorem F_33 (a : dens [.v .int, .v (.slice .int), .v (.slice .int), .v .int]) : E_33.run a = funK C_33 Try.f72 [.v .int, .v (.slice .int), .v (.slice .int), .v .int] [.mv .int 0] a (fun o r => some (N_33 o r)) := by
 kernel_rfl
theorem W_33 : loopsOf D_33 = [B_33L3] := by kernel_rfl
theorem R_33L3 : firstReg B_33L3 = 3 := by kernel_rfl
theorem Q_33 : Try.prog.funcs[72]? = some Try.f72 ∧ (Try.f72.name == "runtime.NumGoroutine") = false ∧ Try.f72.body = some D_33 := ⟨Try.func72, by kernel_rfl, by kernel_rfl⟩
theorem H_33 : Holds Try.prog 72 E_33 :=
 holds_of (cx := C_33) (tabOk_ok tabT rfl).1 (allT_ok trivial) mixT Q_33.1 Q_33.2.2 (loops_of W_33 ⟨loop_of (cx := C_33) (L := S_33L3 fuel) rfl (by rw [R_33L3]; rfl) ⟨spec_l21Less_L3, fun _ => rfl, fun n x => K_33L3 n x, fuel, fun _ => rfl⟩, trivial⟩) (enc := N_33) (fun _ _ => ⟨rfl, rfl⟩) F_33
theorem K_34L3 (n : Nat) (x) : spec_l21Eliminate_L3 (n + 1) x = roundK C_34 B_34L3 (S_34L3 fuel) x (spec_l21Eliminate_L3 n) := by
 obtain ⟨_, _, _, _, _, _⟩ := x
 kernel_rfl
theorem K_34L10 (n : Nat) (x) : spec_l21Eliminate_L10 (n + 1) x = roundK C_34 B_34L10 (S_34L10 fuel) x (spec_l21Eliminate_L10 n) := by
 obtain ⟨_, _, _, _, _, _⟩ := x
 kernel_rfl
theorem K_34L16 (n : Nat) (x) : spec_l21Eliminate_L16 (n + 1) x = roundK C_34 B_34L16 (S_34L16 fuel) x (spec_l21Eliminate_L16 n) := by
 obtain ⟨_, _, _, _, _, _, _, _⟩ := x
 kernel_rfl
theorem K_34L20 (n : Nat) (x) : spec_l21Eliminate_L20 (n + 1) x = roundK C_34 B_34L20 (S_34L20 fuel) x (spec_l21Eliminate_L20 n) := by
 obtain ⟨_, _, _, _, _, _, _, _⟩ := x
 kernel_rfl
theorem K_34L7 (n : Nat) (x) : spec_l21Eliminate_L7 (n + 1) x = roundK C_34 B_34L7 (S_34L7 fuel) x (spec_l21Eliminate_L7 n) := by
 obtain ⟨_, _, _, _, _⟩ := x
 kernel_rfl
theorem F_34 (a : dens [.v .int, .v .int, .v (.slice (.slice .int))]) : E_34.run a = funK C_34 Try.f102 [.v .int, .v .int, .v (.slice (.slice .int))] [.pr (.mv (.slice .int) 0) (.pr (.mv .int 0) (.v (.slice (.slice .int))))] a (fun o r => some (N_34 o r)) := by
 kernel_rfl
theorem W_34 : loopsOf D_34 = [B_34L3, B_34L7, B_34L10, B_34L16, B_34L20] := by kernel_rfl
theorem R_34L3 : firstReg B_34L3 = 3 := by kernel_rfl
theorem R_34L10 : firstReg B_34L10 = 10 := by kernel_rfl
theorem R_34L16 : firstReg B_34L16 = 16 := by kernel_rfl
theorem R_34L20 : firstReg B_34L20 = 20 := by kernel_rfl
theorem R_34L7 : firstReg B_34L7 = 7 := by kernel_rfl
theorem Q_34 : Try.prog.funcs[102]? = some Try.f102 ∧ (Try.f102.name == "runtime.NumGoroutine") = false ∧ Try.f102.body = some D_34 := ⟨Try.func102, by kernel_rfl, by kernel_rfl⟩
theorem H_34 : Holds Try.prog 102 E_34 :=
 holds_of (cx := C_34) (tabOk_ok tabT rfl).1 (allT_ok ⟨⟨H_31, _, _, Q_31⟩, ⟨⟨H_33, _, _, Q_33⟩, ⟨⟨H_6, _, _, Q_6⟩, ⟨⟨H_32, _, _, Q_32⟩, trivial⟩⟩⟩⟩) mixT Q_34.1 Q_34.2.2 (loops_of W_34 ⟨loop_of (cx := C_34) (L := S_34L3 fuel) rfl (by rw [R_34L3]; rfl) ⟨spec_l21Eliminate_L3, fun _ => rfl, fun n x => K_34L3 n x, fuel, fun _ => rfl⟩, ⟨loop_of (cx := C_34) (L := S_34L7 fuel) rfl (by rw [R_34L7]; rfl) ⟨spec_l21Eliminate_L7, fun _ => rfl, fun n x => K_34L7 n x, fuel, fun _ => rfl⟩, ⟨loop_of (cx := C_34) (L := S_34L10 fuel) rfl (by rw [R_34L10]; rfl) ⟨spec_l21Eliminate_L10, fun _ => rfl, fun n x => K_34L10 n x, fuel, fun _ => rfl⟩, ⟨loop_of (cx := C_34) (L := S_34L16 fuel) rfl (by rw [R_34L16]; rfl) ⟨spec_l21Eliminate_L16, fun _ => rfl, fun n x => K_34L16 n x, fuel, fun _ => rfl⟩, ⟨loop_of (cx := C_34) (L := S_34L20 fuel) rfl (by rw [R_34L20]; rfl) ⟨spec_l21Eliminate_L20, fun _ => rfl, fun n x => K_34L20 n x, fuel, fun _ => rfl⟩, trivial⟩⟩⟩⟩⟩) (enc := N_34) (fun _ _ => ⟨rfl, rfl⟩) F_34
theorem K_35L2 (n : Nat) (x) : spec_l21Empty_L2 (n + 1) x = roundK C_35 B_35L2 (S_35L2 fuel) x (spec_l21Empty_L2 n) := by
 obtain ⟨_, _, _⟩ := x
 kernel_rfl
theorem F_35 (a : dens [.v (.pair (.slice (.slice .int)) (.pair (.slice .int) (.slice (.slice .int)))), .v .int]) : E_35.run a = funK C_35 Try.f64 [.v (.pair (.slice (.slice .int)) (.pair (.slice .int) (.slice (.slice .int)))), .v .int] [.v .bool] a (fun o r => some (N_35 o r)) := by
 kernel_rfl
theorem W_35 : loopsOf D_35 = [B_35L2] := by kernel_rfl
theorem R_35L2 : firstReg B_35L2 = 2 := by kernel_rfl
theorem Q_35 : Try.prog.funcs[64]? = some Try.f64 ∧ (Try.f64.name == "runtime.NumGoroutine") = false ∧ Try.f64.body = some D_35 := ⟨Try.func64, by kernel_rfl, by kernel_rfl⟩
theorem H_35 : Holds Try.prog 64 E_35 :=
 holds_of (cx := C_35) (tabOk_ok tabT rfl).1 (allT_ok trivial) mixT Q_35.1 Q_35.2.2 (loops_of W_35 ⟨loop_of (cx := C_35) (L := S_35L2 fuel) rfl (by rw [R_35L2]; rfl) ⟨spec_l21Empty_L2, fun _ => rfl, fun n x => K_35L2 n x, fuel, fun _ => rfl⟩, trivial⟩) (enc := N_35) (fun _ _ => ⟨rfl, rfl⟩) F_35
theorem K_36L6 (n : Nat) (x) : spec_l21Solve_L6 (n + 1) x = roundK C_36 B_36L6 (S_36L6 fuel) x (spec_l21Solve_L6 n) := by
 obtain ⟨_, _, _, _⟩ := x
 kernel_rfl
theorem F_36 (a : dens [.v .int, .v .int, .v (.slice (.slice .int))]) : E_36.run a = funK C_36 Try.f45 [.v .int, .v .int, .v (.slice (.slice .int))] [.mv .int 0, .v .bool] a (fun o r => some (N_36 o r)) := by
 kernel_rfl
theorem W_36 : loopsOf D_36 = [B_36L6] := by kernel_rfl
theorem R_36L6 : firstReg B_36L6 = 6 := by kernel_rfl
theorem Q_36 : Try.prog.funcs[45]? = some Try.f45 ∧ (Try.f45.name == "runtime.NumGoroutine") = false ∧ Try.f45.body = some D_36 := ⟨Try.func45, by kernel_rfl, by kernel_rfl⟩
theorem H_36 : Holds Try.prog 45 E_36 :=
 holds_of (cx := C_36) (tabOk_ok tabT rfl).1 (allT_ok ⟨⟨H_35, _, _, Q_35⟩, ⟨⟨H_34, _, _, Q_34⟩, trivial⟩⟩) mixT Q_36.1 Q_36.2.2 (loops_of W_36 ⟨loop_of (cx := C_36) (L := S_36L6 fuel) rfl (by rw [R_36L6]; rfl) ⟨spec_l21Solve_L6, fun _ => rfl, fun n x => K_36L6 n x, fuel, fun _ => rfl⟩, trivial⟩) (enc := N_36) (fun _ _ => ⟨rfl, rfl⟩) F_36
theorem K_37L9 (n : Nat) (x) : spec_RefuteLinear_L9 (n + 1) x = roundK C_37 B_37L9 (S_37L9 fuel) x (spec_RefuteLinear_L9 n) := by
 obtain ⟨_, _, _, _, _⟩ := x
 kernel_rfl
theorem K_37L5 (n : Nat) (x) : spec_RefuteLinear_L5 (n + 1) x = roundK C_37 B_37L5 (S_37L5 fuel) x (spec_RefuteLinear_L5 n) := by
 obtain ⟨_, _, _⟩ := x
 kernel_rfl
theorem F_37 (a : dens [.v (.pair .int (.pair .int (.slice (.slice .int))))]) : E_37.run a = funK C_37 Try.f9 [.v (.pair .int (.pair .int (.slice (.slice .int))))] [.mv .int 0, .v .bool] a (fun o r => some (N_37 o r)) := by
 kernel_rfl
theorem W_37 : loopsOf D_37 = [B_37L5, B_37L9] := by kernel_rfl
theorem R_37L9 : firstReg B_37L9 = 9 := by kernel_rfl
theorem R_37L5 : firstReg B_37L5 = 5 := by kernel_rfl
theorem Q_37 : Try.prog.funcs[9]? = some Try.f9 ∧ (Try.f9.name == "runtime.NumGoroutine") = false ∧ Try.f9.body = some D_37 := ⟨Try.func9, by kernel_rfl, by kernel_rfl⟩
theorem H_37 : Holds Try.prog 9 E_37 :=
 holds_of (cx := C_37) (tabOk_ok tabT rfl).1 (allT_ok ⟨⟨H_30, _, _, Q_30⟩, ⟨⟨H_36, _, _, Q_36⟩, trivial⟩⟩) mixT Q_37.1 Q_37.2.2 (loops_of W_37 ⟨loop_of (cx := C_37) (L := S_37L5 fuel) rfl (by rw [R_37L5]; rfl) ⟨spec_RefuteLinear_L5, fun _ => rfl, fun n x => K_37L5 n x, fuel, fun _ => rfl⟩, ⟨loop_of (cx := C_37) (L := S_37L9 fuel) rfl (by rw [R_37L9]; rfl) ⟨spec_RefuteLinear_L9, fun _ => rfl, fun n x => K_37L9 n x, fuel, fun _ => rfl⟩, trivial⟩⟩) (enc := N_37) (fun _ _ => ⟨rfl, rfl⟩) F_37
theorem K_38L4 (n : Nat) (x) : laws_vInts_L4 (n + 1) x = roundK C_38 B_38L4 (S_38L4 fuel) x (laws_vInts_L4 n) := by
 obtain ⟨_, _, _⟩ := x
 kernel_rfl
theorem F_38 (a : dens [.v (.slice .int), .v (.slice .int)]) : E_38.run a = funK C_38 Try.f10 [.v (.slice .int), .v (.slice .int)] [.v .bool] a (fun o r => some (N_38 o r)) := by
 kernel_rfl
theorem W_38 : loopsOf D_38 = [B_38L4] := by kernel_rfl
theorem R_38L4 : firstReg B_38L4 = 4 := by kernel_rfl
theorem Q_38 : Try.prog.funcs[10]? = some Try.f10 ∧ (Try.f10.name == "runtime.NumGoroutine") = false ∧ Try.f10.body = some D_38 := ⟨Try.func10, by kernel_rfl, by kernel_rfl⟩
theorem H_38 : Holds Try.prog 10 E_38 :=
 holds_of (cx := C_38) (tabOk_ok tabT rfl).1 (allT_ok trivial) mixT Q_38.1 Q_38.2.2 (loops_of W_38 ⟨loop_of (cx := C_38) (L := S_38L4 fuel) rfl (by rw [R_38L4]; rfl) ⟨laws_vInts_L4, fun _ => rfl, fun n x => K_38L4 n x, fuel, fun _ => rfl⟩, trivial⟩) (enc := N_38) (fun _ _ => ⟨rfl, rfl⟩) F_38
theorem F_39 (a : dens [.v (.pair .int (.pair .int (.slice (.slice .int))))]) : E_39.run a = funK C_39 Try.f46 [.v (.pair .int (.pair .int (.slice (.slice .int))))] [.v (.ptr (.pair .int (.pair .int (.pair (.slice (.slice .int)) (.pair .int (.slice .int))))))] a (fun o r => some (N_39 o r)) := by
 kernel_rfl
theorem W_39 : loopsOf D_39 = [] := by kernel_rfl
theorem Q_39 : Try.prog.funcs[46]? = some Try.f46 ∧ (Try.f46.name == "runtime.NumGoroutine") = false ∧ Try.f46.body = some D_39 := ⟨Try.func46, by kernel_rfl, by kernel_rfl⟩
theorem H_39 : Holds Try.prog 46 E_39 :=
 holds_of (cx := C_39) (tabOk_ok tabT rfl).1 (allT_ok ⟨⟨H_17, _, _, Q_17⟩, trivial⟩) mixT Q_39.1 Q_39.2.2 (loops_of W_39 trivial) (enc := N_39) (fun _ _ => ⟨rfl, rfl⟩) F_39
theorem F_40 (a : dens [.v (.pair .int (.pair .int (.slice (.slice .int))))]) : E_40.run a = funK C_40 Try.f11 [.v (.pair .int (.pair .int (.slice (.slice .int))))] [.mv .int 0, .v .bool] a (fun o r => some (N_40 o r)) := by
 kernel_rfl
theorem W_40 : loopsOf D_40 = [] := by kernel_rfl
theorem Q_40 : Try.prog.funcs[11]? = some Try.f11 ∧ (Try.f11.name == "runtime.NumGoroutine") = false ∧ Try.f11.body = some D_40 := ⟨Try.func11, by kernel_rfl, by kernel_rfl⟩
theorem H_40 : Holds Try.prog 11 E_40 :=
 holds_of (cx := C_40) (tabOk_ok tabT rfl).1 (allT_ok ⟨⟨H_12, _, _, Q_12⟩, ⟨⟨H_23, _, _, Q_23⟩, ⟨⟨H_39, _, _, Q_39⟩, trivial⟩⟩⟩) mixT Q_40.1 Q_40.2.2 (loops_of W_40 trivial) (enc := N_40) (fun _ _ => ⟨rfl, rfl⟩) F_40
theorem K_41L10 (n : Nat) (x) : impl_IsLinearRefutation_L10 (n + 1) x = roundK C_41 B_41L10 (S_41L10 fuel) x (impl_IsLinearRefutation_L10 n) := by
 obtain ⟨_, _, _, _, _, _, _⟩ := x
 kernel_rfl
theorem K_41L6 (n : Nat) (x) : impl_IsLinearRefutation_L6 (n + 1) x = roundK C_41 B_41L6 (S_41L6 fuel) x (impl_IsLinearRefutation_L6 n) := by
 obtain ⟨_, _, _⟩ := x
 kernel_rfl
theorem F_41 (a : dens [.v (.pair .int (.pair .int (.slice (.slice .int)))), .v (.slice .int)]) : E_41.run a = funK C_41 Try.f13 [.v (.pair .int (.pair .int (.slice (.slice .int)))), .v (.slice .int)] [.v .bool, .v .bool] a (fun o r => some (N_41 o r)) := by
 kernel_rfl
theorem W_41 : loopsOf D_41 = [B_41L6, B_41L10] := by kernel_rfl
theorem R_41L10 : firstReg B_41L10 = 10 := by kernel_rfl
theorem R_41L6 : firstReg B_41L6 = 6 := by kernel_rfl
theorem Q_41 : Try.prog.funcs[13]? = some Try.f13 ∧ (Try.f13.name == "runtime.NumGoroutine") = false ∧ Try.f13.body = some D_41 := ⟨Try.func13, by kernel_rfl, by kernel_rfl⟩
theorem H_41 : Holds Try.prog 13 E_41 :=
 holds_of (cx := C_41) (tabOk_ok tabT rfl).1 (allT_ok ⟨⟨H_12, _, _, Q_12⟩, ⟨⟨H_11, _, _, Q_11⟩, trivial⟩⟩) mixT Q_41.1 Q_41.2.2 (loops_of W_41 ⟨loop_of (cx := C_41) (L := S_41L6 fuel) rfl (by rw [R_41L6]; rfl) ⟨impl_IsLinearRefutation_L6, fun _ => rfl, fun n x => K_41L6 n x, fuel, fun _ => rfl⟩, ⟨loop_of (cx := C_41) (L := S_41L10 fuel) rfl (by rw [R_41L10]; rfl) ⟨impl_IsLinearRefutation_L10, fun _ => rfl, fun n x => K_41L10 n x, fuel, fun _ => rfl⟩, trivial⟩⟩) (enc := N_41) (fun _ _ => ⟨rfl, rfl⟩) F_41
theorem F_42 (a : dens [.v .int, .v .int]) : E_42.run a = funK C_42 Try.f52 [.v .int, .v .int] [.v .int] a (fun o r => some (N_42 o r)) := by
 kernel_rfl
theorem W_42 : loopsOf D_42 = [] := by kernel_rfl
theorem Q_42 : Try.prog.funcs[52]? = some Try.f52 ∧ (Try.f52.name == "runtime.NumGoroutine") = false ∧ Try.f52.body = some D_42 := ⟨Try.func52, by kernel_rfl, by kernel_rfl⟩
theorem H_42 : Holds Try.prog 52 E_42 :=
 holds_of (cx := C_42) (tabOk_ok tabT rfl).1 (allT_ok trivial) mixT Q_42.1 Q_42.2.2 (loops_of W_42 trivial) (enc := N_42) (fun _ _ => ⟨rfl, rfl⟩) F_42
theorem F_43 (a : dens [.v .int, .v .int]) : E_43.run a = funK C_43 Try.f51 [.v .int, .v .int] [.v .int] a (fun o r => some (N_43 o r)) := by
 kernel_rfl
theorem W_43 : loopsOf D_43 = [] := by kernel_rfl
theorem Q_43 : Try.prog.funcs[51]? = some Try.f51 ∧ (Try.f51.name == "runtime.NumGoroutine") = false ∧ Try.f51.body = some D_43 := ⟨Try.func51, by kernel_rfl, by kernel_rfl⟩
theorem H_43 : Holds Try.prog 51 E_43 :=
 holds_of (cx := C_43) (tabOk_ok tabT rfl).1 (allT_ok trivial) mixT Q_43.1 Q_43.2.2 (loops_of W_43 trivial) (enc := N_43) (fun _ _ => ⟨rfl, rfl⟩) F_43
theorem K_44L6 (n : Nat) (x) : spec_DrawIsLinearRefutation_L6 (n + 1) x = roundK C_44 B_44L6 (S_44L6 fuel) x (spec_DrawIsLinearRefutation_L6 n) := by
 obtain ⟨_, _, _, _, _⟩ := x
 kernel_rfl
theorem F_44 (a : dens [.v (.slice (.num .u8))]) : E_44.run a = funK C_44 Try.f14 [.v (.slice (.num .u8))] [.pr (.v .int) (.pr (.v .int) (.mv (.slice .int) 1)), .mv .int 0] a (fun o r => some (N_44 o r)) := by
 kernel_rfl
theorem W_44 : loopsOf D_44 = [B_44L6] := by kernel_rfl
theorem R_44L6 : firstReg B_44L6 = 6 := by kernel_rfl
theorem Q_44 : Try.prog.funcs[14]? = some Try.f14 ∧ (Try.f14.name == "runtime.NumGoroutine") = false ∧ Try.f14.body = some D_44 := ⟨Try.func14, by kernel_rfl, by kernel_rfl⟩
theorem H_44 : Holds Try.prog 14 E_44 :=
 holds_of (cx := C_44) (tabOk_ok tabT rfl).1 (allT_ok ⟨⟨H_37, _, _, Q_37⟩, ⟨⟨H_7, _, _, Q_7⟩, ⟨⟨H_3, _, _, Q_3⟩, ⟨⟨H_43, _, _, Q_43⟩, ⟨⟨H_42, _, _, Q_42⟩, ⟨⟨H_5, _, _, Q_5⟩, ⟨⟨H_4, _, _, Q_4⟩, trivial⟩⟩⟩⟩⟩⟩⟩) mixT Q_44.1 Q_44.2.2 (loops_of W_44 ⟨loop_of (cx := C_44) (L := S_44L6 fuel) rfl (by rw [R_44L6]; rfl) ⟨spec_DrawIsLinearRefutation_L6, fun _ => rfl, fun n x => K_44L6 n x, fuel, fun _ => rfl⟩, trivial⟩) (enc := N_44) (fun _ _ => ⟨rfl, rfl⟩) F_44
theorem K_45L10 (n : Nat) (x) : spec_IsLinearRefutation_L10 (n + 1) x = roundK C_45 B_45L10 (S_45L10 fuel) x (spec_IsLinearRefutation_L10 n) := by
 obtain ⟨_, _, _, _, _⟩ := x
 kernel_rfl
theorem K_45L6 (n : Nat) (x) : spec_IsLinearRefutation_L6 (n + 1) x = roundK C_45 B_45L6 (S_45L6 fuel) x (spec_IsLinearRefutation_L6 n) := by
 obtain ⟨_, _, _⟩ := x
 kernel_rfl
theorem F_45 (a : dens [.v (.pair .int (.pair .int (.slice (.slice .int)))), .v (.slice .int)]) : E_45.run a = funK C_45 Try.f15 [.v (.pair .int (.pair .int (.slice (.slice .int)))), .v (.slice .int)] [.v .bool, .v .bool] a (fun o r => some (N_45 o r)) := by
 kernel_rfl
theorem W_45 : loopsOf D_45 = [B_45L6, B_45L10] := by kernel_rfl
theorem R_45L10 : firstReg B_45L10 = 10 := by kernel_rfl
theorem R_45L6 : firstReg B_45L6 = 6 := by kernel_rfl
theorem Q_45 : Try.prog.funcs[15]? = some Try.f15 ∧ (Try.f15.name == "runtime.NumGoroutine") = false ∧ Try.f15.body = some D_45 := ⟨Try.func15, by kernel_rfl, by kernel_rfl⟩
theorem H_45 : Holds Try.prog 15 E_45 :=
 holds_of (cx := C_45) (tabOk_ok tabT rfl).1 (allT_ok ⟨⟨H_30, _, _, Q_30⟩, ⟨⟨H_28, _, _, Q_28⟩, trivial⟩⟩) mixT Q_45.1 Q_45.2.2 (loops_of W_45 ⟨loop_of (cx := C_45) (L := S_45L6 fuel) rfl (by rw [R_45L6]; rfl) ⟨spec_IsLinearRefutation_L6, fun _ => rfl, fun n x => K_45L6 n x, fuel, fun _ => rfl⟩, ⟨loop_of (cx := C_45) (L := S_45L10 fuel) rfl (by rw [R_45L10]; rfl) ⟨spec_IsLinearRefutation_L10, fun _ => rfl, fun n x => K_45L10 n x, fuel, fun _ => rfl⟩, trivial⟩⟩) (enc := N_45) (fun _ _ => ⟨rfl, rfl⟩) F_45
theorem F_46 (a : dens [.v (.slice (.num .u8))]) : E_46.run a = funK C_46 Try.f3 [.v (.slice (.num .u8))] [.v .bool] a (fun o r => some (N_46 o r)) := by
 kernel_rfl
theorem W_46 : loopsOf D_46 = [] := by kernel_rfl
theorem Q_46 : Try.prog.funcs[3]? = some Try.f3 ∧ (Try.f3.name == "runtime.NumGoroutine") = false ∧ Try.f3.body = some D_46 := ⟨Try.func3, by kernel_rfl, by kernel_rfl⟩
theorem H_46 : Holds Try.prog 3 E_46 :=
 holds_of (cx := C_46) (tabOk_ok tabT rfl).1 (allT_ok ⟨⟨H_1, _, _, Q_1⟩, ⟨⟨H_9, _, _, Q_9⟩, ⟨⟨H_24, _, _, Q_24⟩, ⟨⟨H_37, _, _, Q_37⟩, ⟨⟨H_38, _, _, Q_38⟩, ⟨⟨H_40, _, _, Q_40⟩, ⟨⟨H_12, _, _, Q_12⟩, ⟨⟨H_41, _, _, Q_41⟩, ⟨⟨H_44, _, _, Q_44⟩, ⟨⟨H_45, _, _, Q_45⟩, trivial⟩⟩⟩⟩⟩⟩⟩⟩⟩⟩) mixT Q_46.1 Q_46.2.2 (loops_of W_46 trivial) (enc := N_46) (fun _ _ => ⟨rfl, rfl⟩) F_46
end T
