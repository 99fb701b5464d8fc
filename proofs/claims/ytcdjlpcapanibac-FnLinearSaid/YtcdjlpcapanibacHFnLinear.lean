/- Each typed function is what the program computes; no conditions. -/
import Derived.Test.YtcdjlpcapanibacSFnLinear
import Derived.Test.YtcdjlpcapanibacCFnLinear
set_option linter.all false
set_option maxRecDepth 10000
open Go Go.Va Go.Proofs
namespace T
theorem F_1 (a : dens [.v (.slice (.num .u8))]) : E_1.run a = funK C_1 Try.f44 [.v (.slice (.num .u8))] [.v .bool] a (fun o r => some (N_1 o r)) := by
 kernel_rfl
theorem W_1 : loopsOf D_1 = [] := by kernel_rfl
theorem Q_1 : Try.prog.funcs[44]? = some Try.f44 ∧ (Try.f44.name == "runtime.NumGoroutine") = false ∧ Try.f44.body = some D_1 := ⟨Try.func44, by kernel_rfl, by kernel_rfl⟩
theorem H_1 : Holds Try.prog 44 E_1 :=
 holds_of (cx := C_1) (tabOk_ok tabT rfl).1 (allT_ok trivial) mixT Q_1.1 Q_1.2.2 (loops_of W_1 trivial) (enc := N_1) (fun _ _ => ⟨rfl, rfl⟩) F_1
theorem F_2 (a : dens [.bx (.v (.pair (.slice (.num .u8)) (.pair .int (.num .u64))))]) : E_2.run a = funK C_2 Try.f199 [.bx (.v (.pair (.slice (.num .u8)) (.pair .int (.num .u64))))] [.v .int] a (fun o r => some (N_2 o r)) := by
 kernel_rfl
theorem W_2 : loopsOf D_2 = [] := by kernel_rfl
theorem Q_2 : Try.prog.funcs[199]? = some Try.f199 ∧ (Try.f199.name == "runtime.NumGoroutine") = false ∧ Try.f199.body = some D_2 := ⟨Try.func199, by kernel_rfl, by kernel_rfl⟩
theorem H_2 : Holds Try.prog 199 E_2 :=
 holds_of (cx := C_2) (tabOk_ok tabT rfl).1 (allT_ok trivial) mixT Q_2.1 Q_2.2.2 (loops_of W_2 trivial) (enc := N_2) (fun _ _ => ⟨rfl, rfl⟩) F_2
theorem F_3 (a : dens [.bx (.v (.pair (.slice (.num .u8)) (.pair .int (.num .u64)))), .v .int]) : E_3.run a = funK C_3 Try.f163 [.bx (.v (.pair (.slice (.num .u8)) (.pair .int (.num .u64)))), .v .int] [.v .int] a (fun o r => some (N_3 o r)) := by
 kernel_rfl
theorem W_3 : loopsOf D_3 = [] := by kernel_rfl
theorem Q_3 : Try.prog.funcs[163]? = some Try.f163 ∧ (Try.f163.name == "runtime.NumGoroutine") = false ∧ Try.f163.body = some D_3 := ⟨Try.func163, by kernel_rfl, by kernel_rfl⟩
theorem H_3 : Holds Try.prog 163 E_3 :=
 holds_of (cx := C_3) (tabOk_ok tabT rfl).1 (allT_ok ⟨⟨H_2, _, _, Q_2⟩, trivial⟩) mixT Q_3.1 Q_3.2.2 (loops_of W_3 trivial) (enc := N_3) (fun _ _ => ⟨rfl, rfl⟩) F_3
theorem F_4 (a : dens [.bx (.v (.pair (.slice (.num .u8)) (.pair .int (.num .u64)))), .v (.slice .int)]) : E_4.run a = funK C_4 Try.f97 [.bx (.v (.pair (.slice (.num .u8)) (.pair .int (.num .u64)))), .v (.slice .int)] [.v .int] a (fun o r => some (N_4 o r)) := by
 kernel_rfl
theorem W_4 : loopsOf D_4 = [] := by kernel_rfl
theorem Q_4 : Try.prog.funcs[97]? = some Try.f97 ∧ (Try.f97.name == "runtime.NumGoroutine") = false ∧ Try.f97.body = some D_4 := ⟨Try.func97, by kernel_rfl, by kernel_rfl⟩
theorem H_4 : Holds Try.prog 97 E_4 :=
 holds_of (cx := C_4) (tabOk_ok tabT rfl).1 (allT_ok ⟨⟨H_3, _, _, Q_3⟩, trivial⟩) mixT Q_4.1 Q_4.2.2 (loops_of W_4 trivial) (enc := N_4) (fun _ _ => ⟨rfl, rfl⟩) F_4
theorem F_5 (a : dens [.bx (.v (.pair (.slice (.num .u8)) (.pair .int (.num .u64)))), .v .int]) : E_5.run a = funK C_5 Try.f96 [.bx (.v (.pair (.slice (.num .u8)) (.pair .int (.num .u64)))), .v .int] [.v .bool] a (fun o r => some (N_5 o r)) := by
 kernel_rfl
theorem W_5 : loopsOf D_5 = [] := by kernel_rfl
theorem Q_5 : Try.prog.funcs[96]? = some Try.f96 ∧ (Try.f96.name == "runtime.NumGoroutine") = false ∧ Try.f96.body = some D_5 := ⟨Try.func96, by kernel_rfl, by kernel_rfl⟩
theorem H_5 : Holds Try.prog 96 E_5 :=
 holds_of (cx := C_5) (tabOk_ok tabT rfl).1 (allT_ok ⟨⟨H_3, _, _, Q_3⟩, trivial⟩) mixT Q_5.1 Q_5.2.2 (loops_of W_5 trivial) (enc := N_5) (fun _ _ => ⟨rfl, rfl⟩) F_5
theorem K_6L3 (n : Nat) (x) : spec_l21Scale_L3 (n + 1) x = roundK C_6 B_6L3 (S_6L3 fuel) x (spec_l21Scale_L3 n) := by
 obtain ⟨_, _, _, _, _⟩ := x
 kernel_rfl
theorem F_6 (a : dens [.v .int, .v (.slice .int), .v .int]) : E_6.run a = funK C_6 Try.f202 [.v .int, .v (.slice .int), .v .int] [.mv .int 0] a (fun o r => some (N_6 o r)) := by
 kernel_rfl
theorem W_6 : loopsOf D_6 = [B_6L3] := by kernel_rfl
theorem R_6L3 : firstReg B_6L3 = 3 := by kernel_rfl
theorem Q_6 : Try.prog.funcs[202]? = some Try.f202 ∧ (Try.f202.name == "runtime.NumGoroutine") = false ∧ Try.f202.body = some D_6 := ⟨Try.func202, by kernel_rfl, by kernel_rfl⟩
theorem H_6 : Holds Try.prog 202 E_6 :=
 holds_of (cx := C_6) (tabOk_ok tabT rfl).1 (allT_ok trivial) mixT Q_6.1 Q_6.2.2 (loops_of W_6 ⟨loop_of (cx := C_6) (L := S_6L3 fuel) rfl (by rw [R_6L3]; rfl) ⟨spec_l21Scale_L3, fun _ => rfl, fun n x => K_6L3 n x, fuel, fun _ => rfl⟩, trivial⟩) (enc := N_6) (fun _ _ => ⟨rfl, rfl⟩) F_6
theorem K_7L8 (n : Nat) (x) : spec_l1Cur_linear_L8 (n + 1) x = roundK C_7 B_7L8 (S_7L8 fuel) x (spec_l1Cur_linear_L8 n) := by
 obtain ⟨_, _, _, _, _, _, _⟩ := x
 kernel_rfl
theorem K_7L4 (n : Nat) (x) : spec_l1Cur_linear_L4 (n + 1) x = roundK C_7 B_7L4 (S_7L4 fuel) x (spec_l1Cur_linear_L4 n) := by
 obtain ⟨_, _, _, _, _⟩ := x
 kernel_rfl
theorem K_7L22 (n : Nat) (x) : spec_l1Cur_linear_L22 (n + 1) x = roundK C_7 B_7L22 (S_7L22 fuel) x (spec_l1Cur_linear_L22 n) := by
 obtain ⟨_, _, _⟩ := x
 kernel_rfl
theorem F_7 (a : dens [.bx (.v (.pair (.slice (.num .u8)) (.pair .int (.num .u64))))]) : E_7.run a = funK C_7 Try.f181 [.bx (.v (.pair (.slice (.num .u8)) (.pair .int (.num .u64))))] [.pr (.v .int) (.pr (.v .int) (.mv (.slice .int) 1))] a (fun o r => some (N_7 o r)) := by
 kernel_rfl
theorem W_7 : loopsOf D_7 = [B_7L4, B_7L8, B_7L22] := by kernel_rfl
theorem R_7L8 : firstReg B_7L8 = 8 := by kernel_rfl
theorem R_7L4 : firstReg B_7L4 = 4 := by kernel_rfl
theorem R_7L22 : firstReg B_7L22 = 22 := by kernel_rfl
theorem Q_7 : Try.prog.funcs[181]? = some Try.f181 ∧ (Try.f181.name == "runtime.NumGoroutine") = false ∧ Try.f181.body = some D_7 := ⟨Try.func181, by kernel_rfl, by kernel_rfl⟩
theorem H_7 : Holds Try.prog 181 E_7 :=
 holds_of (cx := C_7) (tabOk_ok tabT rfl).1 (allT_ok ⟨⟨H_5, _, _, Q_5⟩, ⟨⟨H_4, _, _, Q_4⟩, ⟨⟨H_3, _, _, Q_3⟩, ⟨⟨H_6, _, _, Q_6⟩, trivial⟩⟩⟩⟩) mixT Q_7.1 Q_7.2.2 (loops_of W_7 ⟨loop_of (cx := C_7) (L := S_7L4 fuel) rfl (by rw [R_7L4]; rfl) ⟨spec_l1Cur_linear_L4, fun _ => rfl, fun n x => K_7L4 n x, fuel, fun _ => rfl⟩, ⟨loop_of (cx := C_7) (L := S_7L8 fuel) rfl (by rw [R_7L8]; rfl) ⟨spec_l1Cur_linear_L8, fun _ => rfl, fun n x => K_7L8 n x, fuel, fun _ => rfl⟩, ⟨loop_of (cx := C_7) (L := S_7L22 fuel) rfl (by rw [R_7L22]; rfl) ⟨spec_l1Cur_linear_L22, fun _ => rfl, fun n x => K_7L22 n x, fuel, fun _ => rfl⟩, trivial⟩⟩⟩) (enc := N_7) (fun _ _ => ⟨rfl, rfl⟩) F_7
theorem F_8 (a : dens [.v (.slice (.num .u8))]) : E_8.run a = funK C_8 Try.f124 [.v (.slice (.num .u8))] [.pr (.v .int) (.pr (.v .int) (.mv (.slice .int) 1))] a (fun o r => some (N_8 o r)) := by
 kernel_rfl
theorem W_8 : loopsOf D_8 = [] := by kernel_rfl
theorem Q_8 : Try.prog.funcs[124]? = some Try.f124 ∧ (Try.f124.name == "runtime.NumGoroutine") = false ∧ Try.f124.body = some D_8 := ⟨Try.func124, by kernel_rfl, by kernel_rfl⟩
theorem H_8 : Holds Try.prog 124 E_8 :=
 holds_of (cx := C_8) (tabOk_ok tabT rfl).1 (allT_ok ⟨⟨H_7, _, _, Q_7⟩, trivial⟩) mixT Q_8.1 Q_8.2.2 (loops_of W_8 trivial) (enc := N_8) (fun _ _ => ⟨rfl, rfl⟩) F_8
theorem F_9 (a : dens [.v (.slice (.num .u8))]) : E_9.run a = funK C_9 Try.f45 [.v (.slice (.num .u8))] [.pr (.v .int) (.pr (.v .int) (.mv (.slice .int) 1))] a (fun o r => some (N_9 o r)) := by
 kernel_rfl
theorem W_9 : loopsOf D_9 = [] := by kernel_rfl
theorem Q_9 : Try.prog.funcs[45]? = some Try.f45 ∧ (Try.f45.name == "runtime.NumGoroutine") = false ∧ Try.f45.body = some D_9 := ⟨Try.func45, by kernel_rfl, by kernel_rfl⟩
theorem H_9 : Holds Try.prog 45 E_9 :=
 holds_of (cx := C_9) (tabOk_ok tabT rfl).1 (allT_ok ⟨⟨H_8, _, _, Q_8⟩, trivial⟩) mixT Q_9.1 Q_9.2.2 (loops_of W_9 trivial) (enc := N_9) (fun _ _ => ⟨rfl, rfl⟩) F_9
theorem F_10 (a : dens [.v .int]) : E_10.run a = funK C_10 Try.f129 [.v .int] [.v .bool] a (fun o r => some (N_10 o r)) := by
 kernel_rfl
theorem W_10 : loopsOf D_10 = [] := by kernel_rfl
theorem Q_10 : Try.prog.funcs[129]? = some Try.f129 ∧ (Try.f129.name == "runtime.NumGoroutine") = false ∧ Try.f129.body = some D_10 := ⟨Try.func129, by kernel_rfl, by kernel_rfl⟩
theorem H_10 : Holds Try.prog 129 E_10 :=
 holds_of (cx := C_10) (tabOk_ok tabT rfl).1 (allT_ok trivial) mixT Q_10.1 Q_10.2.2 (loops_of W_10 trivial) (enc := N_10) (fun _ _ => ⟨rfl, rfl⟩) F_10
theorem K_11L2 (n : Nat) (x) : impl_inSize_L2 (n + 1) x = roundK C_11 B_11L2 (S_11L2 fuel) x (impl_inSize_L2 n) := by
 obtain ⟨_, _, _, _⟩ := x
 kernel_rfl
theorem F_11 (a : dens [.v (.slice .int), .v .int]) : E_11.run a = funK C_11 Try.f94 [.v (.slice .int), .v .int] [.v .bool] a (fun o r => some (N_11 o r)) := by
 kernel_rfl
theorem W_11 : loopsOf D_11 = [B_11L2] := by kernel_rfl
theorem R_11L2 : firstReg B_11L2 = 2 := by kernel_rfl
theorem Q_11 : Try.prog.funcs[94]? = some Try.f94 ∧ (Try.f94.name == "runtime.NumGoroutine") = false ∧ Try.f94.body = some D_11 := ⟨Try.func94, by kernel_rfl, by kernel_rfl⟩
theorem H_11 : Holds Try.prog 94 E_11 :=
 holds_of (cx := C_11) (tabOk_ok tabT rfl).1 (allT_ok trivial) mixT Q_11.1 Q_11.2.2 (loops_of W_11 ⟨loop_of (cx := C_11) (L := S_11L2 fuel) rfl (by rw [R_11L2]; rfl) ⟨impl_inSize_L2, fun _ => rfl, fun n x => K_11L2 n x, fuel, fun _ => rfl⟩, trivial⟩) (enc := N_11) (fun _ _ => ⟨rfl, rfl⟩) F_11
theorem K_12L4 (n : Nat) (x) : impl_IsLinear_L4 (n + 1) x = roundK C_12 B_12L4 (S_12L4 fuel) x (impl_IsLinear_L4 n) := by
 obtain ⟨_, _, _, _⟩ := x
 kernel_rfl
theorem F_12 (a : dens [.v (.pair .int (.pair .int (.slice (.slice .int))))]) : E_12.run a = funK C_12 Try.f48 [.v (.pair .int (.pair .int (.slice (.slice .int))))] [.v .bool] a (fun o r => some (N_12 o r)) := by
 kernel_rfl
theorem W_12 : loopsOf D_12 = [B_12L4] := by kernel_rfl
theorem R_12L4 : firstReg B_12L4 = 4 := by kernel_rfl
theorem Q_12 : Try.prog.funcs[48]? = some Try.f48 ∧ (Try.f48.name == "runtime.NumGoroutine") = false ∧ Try.f48.body = some D_12 := ⟨Try.func48, by kernel_rfl, by kernel_rfl⟩
theorem H_12 : Holds Try.prog 48 E_12 :=
 holds_of (cx := C_12) (tabOk_ok tabT rfl).1 (allT_ok ⟨⟨H_11, _, _, Q_11⟩, ⟨⟨H_10, _, _, Q_10⟩, trivial⟩⟩) mixT Q_12.1 Q_12.2.2 (loops_of W_12 ⟨loop_of (cx := C_12) (L := S_12L4 fuel) rfl (by rw [R_12L4]; rfl) ⟨impl_IsLinear_L4, fun _ => rfl, fun n x => K_12L4 n x, fuel, fun _ => rfl⟩, trivial⟩) (enc := N_12) (fun _ _ => ⟨rfl, rfl⟩) F_12
theorem F_13 (a : dens [.v (.slice .int)]) : E_13.run a = funK C_13 Try.f84 [.v (.slice .int)] [.mv .int 0] a (fun o r => some (N_13 o r)) := by
 kernel_rfl
theorem W_13 : loopsOf D_13 = [] := by kernel_rfl
theorem Q_13 : Try.prog.funcs[84]? = some Try.f84 ∧ (Try.f84.name == "runtime.NumGoroutine") = false ∧ Try.f84.body = some D_13 := ⟨Try.func84, by kernel_rfl, by kernel_rfl⟩
theorem H_13 : Holds Try.prog 84 E_13 :=
 holds_of (cx := C_13) (tabOk_ok tabT rfl).1 (allT_ok trivial) mixT Q_13.1 Q_13.2.2 (loops_of W_13 trivial) (enc := N_13) (fun _ _ => ⟨rfl, rfl⟩) F_13
theorem K_14L3 (n : Nat) (x) : impl_cloneRows_L3 (n + 1) x = roundK C_14 B_14L3 (S_14L3 fuel) x (impl_cloneRows_L3 n) := by
 obtain ⟨_, _, _, _⟩ := x
 kernel_rfl
theorem F_14 (a : dens [.v (.slice (.slice .int))]) : E_14.run a = funK C_14 Try.f148 [.v (.slice (.slice .int))] [.mv (.slice .int) 1] a (fun o r => some (N_14 o r)) := by
 kernel_rfl
theorem W_14 : loopsOf D_14 = [B_14L3] := by kernel_rfl
theorem R_14L3 : firstReg B_14L3 = 3 := by kernel_rfl
theorem Q_14 : Try.prog.funcs[148]? = some Try.f148 ∧ (Try.f148.name == "runtime.NumGoroutine") = false ∧ Try.f148.body = some D_14 := ⟨Try.func148, by kernel_rfl, by kernel_rfl⟩
theorem H_14 : Holds Try.prog 148 E_14 :=
 holds_of (cx := C_14) (tabOk_ok tabT rfl).1 (allT_ok ⟨⟨H_13, _, _, Q_13⟩, trivial⟩) mixT Q_14.1 Q_14.2.2 (loops_of W_14 ⟨loop_of (cx := C_14) (L := S_14L3 fuel) rfl (by rw [R_14L3]; rfl) ⟨impl_cloneRows_L3, fun _ => rfl, fun n x => K_14L3 n x, fuel, fun _ => rfl⟩, trivial⟩) (enc := N_14) (fun _ _ => ⟨rfl, rfl⟩) F_14
theorem K_15L3 (n : Nat) (x) : impl_freeTable_L3 (n + 1) x = roundK C_15 B_15L3 (S_15L3 fuel) x (impl_freeTable_L3 n) := by
 obtain ⟨_, _, _⟩ := x
 kernel_rfl
theorem F_15 (a : dens [.v .int]) : E_15.run a = funK C_15 Try.f81 [.v .int] [.mv .int 0] a (fun o r => some (N_15 o r)) := by
 kernel_rfl
theorem W_15 : loopsOf D_15 = [B_15L3] := by kernel_rfl
theorem R_15L3 : firstReg B_15L3 = 3 := by kernel_rfl
theorem Q_15 : Try.prog.funcs[81]? = some Try.f81 ∧ (Try.f81.name == "runtime.NumGoroutine") = false ∧ Try.f81.body = some D_15 := ⟨Try.func81, by kernel_rfl, by kernel_rfl⟩
theorem H_15 : Holds Try.prog 81 E_15 :=
 holds_of (cx := C_15) (tabOk_ok tabT rfl).1 (allT_ok trivial) mixT Q_15.1 Q_15.2.2 (loops_of W_15 ⟨loop_of (cx := C_15) (L := S_15L3 fuel) rfl (by rw [R_15L3]; rfl) ⟨impl_freeTable_L3, fun _ => rfl, fun n x => K_15L3 n x, fuel, fun _ => rfl⟩, trivial⟩) (enc := N_15) (fun _ _ => ⟨rfl, rfl⟩) F_15
theorem K_16L2 (n : Nat) (x) : impl_inverseOf_L2 (n + 1) x = roundK C_16 B_16L2 (S_16L2 fuel) x (impl_inverseOf_L2 n) := by
 obtain ⟨_, _, _⟩ := x
 kernel_rfl
theorem F_16 (a : dens [.v .int, .v .int]) : E_16.run a = funK C_16 Try.f203 [.v .int, .v .int] [.v .int] a (fun o r => some (N_16 o r)) := by
 kernel_rfl
theorem W_16 : loopsOf D_16 = [B_16L2] := by kernel_rfl
theorem R_16L2 : firstReg B_16L2 = 2 := by kernel_rfl
theorem Q_16 : Try.prog.funcs[203]? = some Try.f203 ∧ (Try.f203.name == "runtime.NumGoroutine") = false ∧ Try.f203.body = some D_16 := ⟨Try.func203, by kernel_rfl, by kernel_rfl⟩
theorem H_16 : Holds Try.prog 203 E_16 :=
 holds_of (cx := C_16) (tabOk_ok tabT rfl).1 (allT_ok trivial) mixT Q_16.1 Q_16.2.2 (loops_of W_16 ⟨loop_of (cx := C_16) (L := S_16L2 fuel) rfl (by rw [R_16L2]; rfl) ⟨impl_inverseOf_L2, fun _ => rfl, fun n x => K_16L2 n x, fuel, fun _ => rfl⟩, trivial⟩) (enc := N_16) (fun _ _ => ⟨rfl, rfl⟩) F_16
theorem K_17L6 (n : Nat) (x) : impl_eliminate_L6 (n + 1) x = roundK C_17 B_17L6 (S_17L6 fuel) x (impl_eliminate_L6 n) := by
 obtain ⟨_, _, _, _, _⟩ := x
 kernel_rfl
theorem K_17L14 (n : Nat) (x) : impl_eliminate_L14 (n + 1) x = roundK C_17 B_17L14 (S_17L14 fuel) x (impl_eliminate_L14 n) := by
 obtain ⟨_, _, _, _, _, _, _, _⟩ := x
 kernel_rfl
theorem K_17L24 (n : Nat) (x) : impl_eliminate_L24 (n + 1) x = roundK C_17 B_17L24 (S_17L24 fuel) x (impl_eliminate_L24 n) := by
 obtain ⟨_, _, _, _, _, _, _, _, _, _, _, _⟩ := x
 kernel_rfl
theorem K_17L19 (n : Nat) (x) : impl_eliminate_L19 (n + 1) x = roundK C_17 B_17L19 (S_17L19 fuel) x (impl_eliminate_L19 n) := by
 obtain ⟨_, _, _, _, _, _, _, _⟩ := x
 kernel_rfl
theorem K_17L3 (n : Nat) (x) : impl_eliminate_L3 (n + 1) x = roundK C_17 B_17L3 (S_17L3 fuel) x (impl_eliminate_L3 n) := by
 obtain ⟨_, _, _, _⟩ := x
 kernel_rfl
theorem F_17 (a : dens [.v .int, .v .int, .v (.slice (.slice .int))]) : E_17.run a = funK C_17 Try.f182 [.v .int, .v .int, .v (.slice (.slice .int))] [.v (.ptr (.pair .int (.pair .int (.pair (.slice (.slice .int)) (.pair .int (.slice .int))))))] a (fun o r => some (N_17 o r)) := by
 kernel_rfl
theorem W_17 : loopsOf D_17 = [B_17L3, B_17L6, B_17L14, B_17L19, B_17L24] := by kernel_rfl
theorem R_17L6 : firstReg B_17L6 = 6 := by kernel_rfl
theorem R_17L14 : firstReg B_17L14 = 14 := by kernel_rfl
theorem R_17L24 : firstReg B_17L24 = 24 := by kernel_rfl
theorem R_17L19 : firstReg B_17L19 = 19 := by kernel_rfl
theorem R_17L3 : firstReg B_17L3 = 3 := by kernel_rfl
theorem Q_17 : Try.prog.funcs[182]? = some Try.f182 ∧ (Try.f182.name == "runtime.NumGoroutine") = false ∧ Try.f182.body = some D_17 := ⟨Try.func182, by kernel_rfl, by kernel_rfl⟩
theorem H_17 : Holds Try.prog 182 E_17 :=
 holds_of (cx := C_17) (tabOk_ok tabT rfl).1 (allT_ok ⟨⟨H_15, _, _, Q_15⟩, ⟨⟨H_14, _, _, Q_14⟩, ⟨⟨H_16, _, _, Q_16⟩, trivial⟩⟩⟩) mixT Q_17.1 Q_17.2.2 (loops_of W_17 ⟨loop_of (cx := C_17) (L := S_17L3 fuel) rfl (by rw [R_17L3]; rfl) ⟨impl_eliminate_L3, fun _ => rfl, fun n x => K_17L3 n x, fuel, fun _ => rfl⟩, ⟨loop_of (cx := C_17) (L := S_17L6 fuel) rfl (by rw [R_17L6]; rfl) ⟨impl_eliminate_L6, fun _ => rfl, fun n x => K_17L6 n x, fuel, fun _ => rfl⟩, ⟨loop_of (cx := C_17) (L := S_17L14 fuel) rfl (by rw [R_17L14]; rfl) ⟨impl_eliminate_L14, fun _ => rfl, fun n x => K_17L14 n x, fuel, fun _ => rfl⟩, ⟨loop_of (cx := C_17) (L := S_17L19 fuel) rfl (by rw [R_17L19]; rfl) ⟨impl_eliminate_L19, fun _ => rfl, fun n x => K_17L19 n x, fuel, fun _ => rfl⟩, ⟨loop_of (cx := C_17) (L := S_17L24 fuel) rfl (by rw [R_17L24]; rfl) ⟨impl_eliminate_L24, fun _ => rfl, fun n x => K_17L24 n x, fuel, fun _ => rfl⟩, trivial⟩⟩⟩⟩⟩) (enc := N_17) (fun _ _ => ⟨rfl, rfl⟩) F_17
theorem F_18 (a : dens [.v (.pair .int (.pair .int (.slice (.slice .int))))]) : E_18.run a = funK C_18 Try.f126 [.v (.pair .int (.pair .int (.slice (.slice .int))))] [.v (.ptr (.pair .int (.pair .int (.pair (.slice (.slice .int)) (.pair .int (.slice .int))))))] a (fun o r => some (N_18 o r)) := by
 kernel_rfl
theorem W_18 : loopsOf D_18 = [] := by kernel_rfl
theorem Q_18 : Try.prog.funcs[126]? = some Try.f126 ∧ (Try.f126.name == "runtime.NumGoroutine") = false ∧ Try.f126.body = some D_18 := ⟨Try.func126, by kernel_rfl, by kernel_rfl⟩
theorem H_18 : Holds Try.prog 126 E_18 :=
 holds_of (cx := C_18) (tabOk_ok tabT rfl).1 (allT_ok ⟨⟨H_17, _, _, Q_17⟩, trivial⟩) mixT Q_18.1 Q_18.2.2 (loops_of W_18 trivial) (enc := N_18) (fun _ _ => ⟨rfl, rfl⟩) F_18
theorem K_19L3 (n : Nat) (x) : impl_linearOf_p_L3 (n + 1) x = roundK C_19 B_19L3 (S_19L3 fuel) x (impl_linearOf_p_L3 n) := by
 obtain ⟨_, _, _, _, _, _⟩ := x
 kernel_rfl
theorem F_19 (a : dens [.v (.ptr (.pair .int (.pair .int (.pair (.slice (.slice .int)) (.pair .int (.slice .int))))))]) : E_19.run a = funK C_19 Try.f125 [.v (.ptr (.pair .int (.pair .int (.pair (.slice (.slice .int)) (.pair .int (.slice .int))))))] [.pr (.v .int) (.pr (.v .int) (.mv (.slice .int) 1))] a (fun o r => some (N_19 o r)) := by
 kernel_rfl
theorem W_19 : loopsOf D_19 = [B_19L3] := by kernel_rfl
theorem R_19L3 : firstReg B_19L3 = 3 := by kernel_rfl
theorem Q_19 : Try.prog.funcs[125]? = some Try.f125 ∧ (Try.f125.name == "runtime.NumGoroutine") = false ∧ Try.f125.body = some D_19 := ⟨Try.func125, by kernel_rfl, by kernel_rfl⟩
theorem H_19 : Holds Try.prog 125 E_19 :=
 holds_of (cx := C_19) (tabOk_ok tabT rfl).1 (allT_ok ⟨⟨H_13, _, _, Q_13⟩, ⟨⟨H_14, _, _, Q_14⟩, trivial⟩⟩) mixT Q_19.1 Q_19.2.2 (loops_of W_19 ⟨loop_of (cx := C_19) (L := S_19L3 fuel) rfl (by rw [R_19L3]; rfl) ⟨impl_linearOf_p_L3, fun _ => rfl, fun n x => K_19L3 n x, fuel, fun _ => rfl⟩, trivial⟩) (enc := N_19) (fun _ _ => ⟨rfl, rfl⟩) F_19
theorem F_20 (a : dens [.v (.pair .int (.pair .int (.slice (.slice .int))))]) : E_20.run a = funK C_20 Try.f46 [.v (.pair .int (.pair .int (.slice (.slice .int))))] [.pr (.v .int) (.pr (.v .int) (.mv (.slice .int) 1)), .v .bool] a (fun o r => some (N_20 o r)) := by
 kernel_rfl
theorem W_20 : loopsOf D_20 = [] := by kernel_rfl
theorem Q_20 : Try.prog.funcs[46]? = some Try.f46 ∧ (Try.f46.name == "runtime.NumGoroutine") = false ∧ Try.f46.body = some D_20 := ⟨Try.func46, by kernel_rfl, by kernel_rfl⟩
theorem H_20 : Holds Try.prog 46 E_20 :=
 holds_of (cx := C_20) (tabOk_ok tabT rfl).1 (allT_ok ⟨⟨H_12, _, _, Q_12⟩, ⟨⟨H_19, _, _, Q_19⟩, ⟨⟨H_18, _, _, Q_18⟩, trivial⟩⟩⟩) mixT Q_20.1 Q_20.2.2 (loops_of W_20 trivial) (enc := N_20) (fun _ _ => ⟨rfl, rfl⟩) F_20
theorem F_21 (a : dens [.v .int]) : E_21.run a = funK C_21 Try.f183 [.v .int] [.v .bool] a (fun o r => some (N_21 o r)) := by
 kernel_rfl
theorem W_21 : loopsOf D_21 = [] := by kernel_rfl
theorem Q_21 : Try.prog.funcs[183]? = some Try.f183 ∧ (Try.f183.name == "runtime.NumGoroutine") = false ∧ Try.f183.body = some D_21 := ⟨Try.func183, by kernel_rfl, by kernel_rfl⟩
theorem H_21 : Holds Try.prog 183 E_21 :=
 holds_of (cx := C_21) (tabOk_ok tabT rfl).1 (allT_ok trivial) mixT Q_21.1 Q_21.2.2 (loops_of W_21 trivial) (enc := N_21) (fun _ _ => ⟨rfl, rfl⟩) F_21
theorem F_22 (a : dens [.v .int, .v .int, .v .int]) : E_22.run a = funK C_22 Try.f159 [.v .int, .v .int, .v .int] [.v .bool] a (fun o r => some (N_22 o r)) := by
 kernel_rfl
theorem W_22 : loopsOf D_22 = [] := by kernel_rfl
theorem Q_22 : Try.prog.funcs[159]? = some Try.f159 ∧ (Try.f159.name == "runtime.NumGoroutine") = false ∧ Try.f159.body = some D_22 := ⟨Try.func159, by kernel_rfl, by kernel_rfl⟩
theorem H_22 : Holds Try.prog 159 E_22 :=
 holds_of (cx := C_22) (tabOk_ok tabT rfl).1 (allT_ok trivial) mixT Q_22.1 Q_22.2.2 (loops_of W_22 trivial) (enc := N_22) (fun _ _ => ⟨rfl, rfl⟩) F_22
theorem K_23L2 (n : Nat) (x) : spec_l2Elements_L2 (n + 1) x = roundK C_23 B_23L2 (S_23L2 fuel) x (spec_l2Elements_L2 n) := by
 obtain ⟨_, _, _⟩ := x
 kernel_rfl
theorem F_23 (a : dens [.v .int, .v (.slice .int)]) : E_23.run a = funK C_23 Try.f167 [.v .int, .v (.slice .int)] [.v .bool] a (fun o r => some (N_23 o r)) := by
 kernel_rfl
theorem W_23 : loopsOf D_23 = [B_23L2] := by kernel_rfl
theorem R_23L2 : firstReg B_23L2 = 2 := by kernel_rfl
theorem Q_23 : Try.prog.funcs[167]? = some Try.f167 ∧ (Try.f167.name == "runtime.NumGoroutine") = false ∧ Try.f167.body = some D_23 := ⟨Try.func167, by kernel_rfl, by kernel_rfl⟩
theorem H_23 : Holds Try.prog 167 E_23 :=
 holds_of (cx := C_23) (tabOk_ok tabT rfl).1 (allT_ok ⟨⟨H_22, _, _, Q_22⟩, trivial⟩) mixT Q_23.1 Q_23.2.2 (loops_of W_23 ⟨loop_of (cx := C_23) (L := S_23L2 fuel) rfl (by rw [R_23L2]; rfl) ⟨spec_l2Elements_L2, fun _ => rfl, fun n x => K_23L2 n x, fuel, fun _ => rfl⟩, trivial⟩) (enc := N_23) (fun _ _ => ⟨rfl, rfl⟩) F_23
theorem F_24 (a : dens [.v .int, .v .int, .v (.slice .int)]) : E_24.run a = funK C_24 Try.f204 [.v .int, .v .int, .v (.slice .int)] [.v .bool] a (fun o r => some (N_24 o r)) := by
 kernel_rfl
theorem W_24 : loopsOf D_24 = [] := by kernel_rfl
theorem Q_24 : Try.prog.funcs[204]? = some Try.f204 ∧ (Try.f204.name == "runtime.NumGoroutine") = false ∧ Try.f204.body = some D_24 := ⟨Try.func204, by kernel_rfl, by kernel_rfl⟩
theorem H_24 : Holds Try.prog 204 E_24 :=
 holds_of (cx := C_24) (tabOk_ok tabT rfl).1 (allT_ok ⟨⟨H_23, _, _, Q_23⟩, trivial⟩) mixT Q_24.1 Q_24.2.2 (loops_of W_24 trivial) (enc := N_24) (fun _ _ => ⟨rfl, rfl⟩) F_24
theorem K_25L2 (n : Nat) (x) : spec_l21Rows_L2 (n + 1) x = roundK C_25 B_25L2 (S_25L2 fuel) x (spec_l21Rows_L2 n) := by
 obtain ⟨_, _, _, _⟩ := x
 kernel_rfl
theorem F_25 (a : dens [.v .int, .v .int, .v (.slice (.slice .int))]) : E_25.run a = funK C_25 Try.f184 [.v .int, .v .int, .v (.slice (.slice .int))] [.v .bool] a (fun o r => some (N_25 o r)) := by
 kernel_rfl
theorem W_25 : loopsOf D_25 = [B_25L2] := by kernel_rfl
theorem R_25L2 : firstReg B_25L2 = 2 := by kernel_rfl
theorem Q_25 : Try.prog.funcs[184]? = some Try.f184 ∧ (Try.f184.name == "runtime.NumGoroutine") = false ∧ Try.f184.body = some D_25 := ⟨Try.func184, by kernel_rfl, by kernel_rfl⟩
theorem H_25 : Holds Try.prog 184 E_25 :=
 holds_of (cx := C_25) (tabOk_ok tabT rfl).1 (allT_ok ⟨⟨H_24, _, _, Q_24⟩, trivial⟩) mixT Q_25.1 Q_25.2.2 (loops_of W_25 ⟨loop_of (cx := C_25) (L := S_25L2 fuel) rfl (by rw [R_25L2]; rfl) ⟨spec_l21Rows_L2, fun _ => rfl, fun n x => K_25L2 n x, fuel, fun _ => rfl⟩, trivial⟩) (enc := N_25) (fun _ _ => ⟨rfl, rfl⟩) F_25
theorem F_26 (a : dens [.v (.pair .int (.pair .int (.slice (.slice .int))))]) : E_26.run a = funK C_26 Try.f127 [.v (.pair .int (.pair .int (.slice (.slice .int))))] [.v .bool] a (fun o r => some (N_26 o r)) := by
 kernel_rfl
theorem W_26 : loopsOf D_26 = [] := by kernel_rfl
theorem Q_26 : Try.prog.funcs[127]? = some Try.f127 ∧ (Try.f127.name == "runtime.NumGoroutine") = false ∧ Try.f127.body = some D_26 := ⟨Try.func127, by kernel_rfl, by kernel_rfl⟩
theorem H_26 : Holds Try.prog 127 E_26 :=
 holds_of (cx := C_26) (tabOk_ok tabT rfl).1 (allT_ok ⟨⟨H_22, _, _, Q_22⟩, ⟨⟨H_21, _, _, Q_21⟩, ⟨⟨H_25, _, _, Q_25⟩, trivial⟩⟩⟩) mixT Q_26.1 Q_26.2.2 (loops_of W_26 trivial) (enc := N_26) (fun _ _ => ⟨rfl, rfl⟩) F_26
theorem F_27 (a : dens [.v (.slice .int)]) : E_27.run a = funK C_27 Try.f141 [.v (.slice .int)] [.mv .int 0] a (fun o r => some (N_27 o r)) := by
 kernel_rfl
theorem W_27 : loopsOf D_27 = [] := by kernel_rfl
theorem Q_27 : Try.prog.funcs[141]? = some Try.f141 ∧ (Try.f141.name == "runtime.NumGoroutine") = false ∧ Try.f141.body = some D_27 := ⟨Try.func141, by kernel_rfl, by kernel_rfl⟩
theorem H_27 : Holds Try.prog 141 E_27 :=
 holds_of (cx := C_27) (tabOk_ok tabT rfl).1 (allT_ok trivial) mixT Q_27.1 Q_27.2.2 (loops_of W_27 trivial) (enc := N_27) (fun _ _ => ⟨rfl, rfl⟩) F_27
theorem K_28L2 (n : Nat) (x) : spec_l21Inverse_L2 (n + 1) x = roundK C_28 B_28L2 (S_28L2 fuel) x (spec_l21Inverse_L2 n) := by
 obtain ⟨_, _, _⟩ := x
 kernel_rfl
theorem F_28 (a : dens [.v .int, .v .int]) : E_28.run a = funK C_28 Try.f205 [.v .int, .v .int] [.v .int] a (fun o r => some (N_28 o r)) := by
 kernel_rfl
theorem W_28 : loopsOf D_28 = [B_28L2] := by kernel_rfl
theorem R_28L2 : firstReg B_28L2 = 2 := by kernel_rfl
theorem Q_28 : Try.prog.funcs[205]? = some Try.f205 ∧ (Try.f205.name == "runtime.NumGoroutine") = false ∧ Try.f205.body = some D_28 := ⟨Try.func205, by kernel_rfl, by kernel_rfl⟩
theorem H_28 : Holds Try.prog 205 E_28 :=
 holds_of (cx := C_28) (tabOk_ok tabT rfl).1 (allT_ok trivial) mixT Q_28.1 Q_28.2.2 (loops_of W_28 ⟨loop_of (cx := C_28) (L := S_28L2 fuel) rfl (by rw [R_28L2]; rfl) ⟨spec_l21Inverse_L2, fun _ => rfl, fun n x => K_28L2 n x, fuel, fun _ => rfl⟩, trivial⟩) (enc := N_28) (fun _ _ => ⟨rfl, rfl⟩) F_28
theorem K_29L3 (n : Nat) (x) : spec_l21Less_L3 (n + 1) x = roundK C_29 B_29L3 (S_29L3 fuel) x (spec_l21Less_L3 n) := by
 obtain ⟨_, _, _, _, _, _⟩ := x
 kernel_rfl
theorem F_29 (a : dens [.v .int, .v (.slice .int), .v (.slice .int), .v .int]) : E_29.run a = funK C_29 Try.f142 [.v .int, .v (.slice .int), .v (.slice .int), .v .int] [.mv .int 0] a (fun o r => some (N_29 o r)) := by
 kernel_rfl
theorem W_29 : loopsOf D_29 = [B_29L3] := by kernel_rfl
theorem R_29L3 : firstReg B_29L3 = 3 := by kernel_rfl
theorem Q_29 : Try.prog.funcs[142]? = some Try.f142 ∧ (Try.f142.name == "runtime.NumGoroutine") = false ∧ Try.f142.body = some D_29 := ⟨Try.func142, by kernel_rfl, by kernel_rfl⟩
theorem H_29 : Holds Try.prog 142 E_29 :=
 holds_of (cx := C_29) (tabOk_ok tabT rfl).1 (allT_ok trivial) mixT Q_29.1 Q_29.2.2 (loops_of W_29 ⟨loop_of (cx := C_29) (L := S_29L3 fuel) rfl (by rw [R_29L3]; rfl) ⟨spec_l21Less_L3, fun _ => rfl, fun n x => K_29L3 n x, fuel, fun _ => rfl⟩, trivial⟩) (enc := N_29) (fun _ _ => ⟨rfl, rfl⟩) F_29
theorem K_30L3 (n : Nat) (x) : spec_l21Eliminate_L3 (n + 1) x = roundK C_30 B_30L3 (S_30L3 fuel) x (spec_l21Eliminate_L3 n) := by
 obtain ⟨_, _, _, _, _, _⟩ := x
 kernel_rfl
theorem K_30L10 (n : Nat) (x) : spec_l21Eliminate_L10 (n + 1) x = roundK C_30 B_30L10 (S_30L10 fuel) x (spec_l21Eliminate_L10 n) := by
 obtain ⟨_, _, _, _, _, _⟩ := x
 kernel_rfl
theorem K_30L16 (n : Nat) (x) : spec_l21Eliminate_L16 (n + 1) x = roundK C_30 B_30L16 (S_30L16 fuel) x (spec_l21Eliminate_L16 n) := by
 obtain ⟨_, _, _, _, _, _, _, _⟩ := x
 kernel_rfl
theorem K_30L20 (n : Nat) (x) : spec_l21Eliminate_L20 (n + 1) x = roundK C_30 B_30L20 (S_30L20 fuel) x (spec_l21Eliminate_L20 n) := by
 obtain ⟨_, _, _, _, _, _, _, _⟩ := x
 kernel_rfl
theorem K_30L7 (n : Nat) (x) : spec_l21Eliminate_L7 (n + 1) x = roundK C_30 B_30L7 (S_30L7 fuel) x (spec_l21Eliminate_L7 n) := by
 obtain ⟨_, _, _, _, _⟩ := x
 kernel_rfl
theorem F_30 (a : dens [.v .int, .v .int, .v (.slice (.slice .int))]) : E_30.run a = funK C_30 Try.f185 [.v .int, .v .int, .v (.slice (.slice .int))] [.pr (.mv (.slice .int) 0) (.pr (.mv .int 0) (.v (.slice (.slice .int))))] a (fun o r => some (N_30 o r)) := by
 kernel_rfl
theorem W_30 : loopsOf D_30 = [B_30L3, B_30L7, B_30L10, B_30L16, B_30L20] := by kernel_rfl
theorem R_30L3 : firstReg B_30L3 = 3 := by kernel_rfl
theorem R_30L10 : firstReg B_30L10 = 10 := by kernel_rfl
theorem R_30L16 : firstReg B_30L16 = 16 := by kernel_rfl
theorem R_30L20 : firstReg B_30L20 = 20 := by kernel_rfl
theorem R_30L7 : firstReg B_30L7 = 7 := by kernel_rfl
theorem Q_30 : Try.prog.funcs[185]? = some Try.f185 ∧ (Try.f185.name == "runtime.NumGoroutine") = false ∧ Try.f185.body = some D_30 := ⟨Try.func185, by kernel_rfl, by kernel_rfl⟩
theorem H_30 : Holds Try.prog 185 E_30 :=
 holds_of (cx := C_30) (tabOk_ok tabT rfl).1 (allT_ok ⟨⟨H_27, _, _, Q_27⟩, ⟨⟨H_29, _, _, Q_29⟩, ⟨⟨H_6, _, _, Q_6⟩, ⟨⟨H_28, _, _, Q_28⟩, trivial⟩⟩⟩⟩) mixT Q_30.1 Q_30.2.2 (loops_of W_30 ⟨loop_of (cx := C_30) (L := S_30L3 fuel) rfl (by rw [R_30L3]; rfl) ⟨spec_l21Eliminate_L3, fun _ => rfl, fun n x => K_30L3 n x, fuel, fun _ => rfl⟩, ⟨loop_of (cx := C_30) (L := S_30L7 fuel) rfl (by rw [R_30L7]; rfl) ⟨spec_l21Eliminate_L7, fun _ => rfl, fun n x => K_30L7 n x, fuel, fun _ => rfl⟩, ⟨loop_of (cx := C_30) (L := S_30L10 fuel) rfl (by rw [R_30L10]; rfl) ⟨spec_l21Eliminate_L10, fun _ => rfl, fun n x => K_30L10 n x, fuel, fun _ => rfl⟩, ⟨loop_of (cx := C_30) (L := S_30L16 fuel) rfl (by rw [R_30L16]; rfl) ⟨spec_l21Eliminate_L16, fun _ => rfl, fun n x => K_30L16 n x, fuel, fun _ => rfl⟩, ⟨loop_of (cx := C_30) (L := S_30L20 fuel) rfl (by rw [R_30L20]; rfl) ⟨spec_l21Eliminate_L20, fun _ => rfl, fun n x => K_30L20 n x, fuel, fun _ => rfl⟩, trivial⟩⟩⟩⟩⟩) (enc := N_30) (fun _ _ => ⟨rfl, rfl⟩) F_30
theorem F_31 (a : dens [.v (.pair .int (.pair .int (.slice (.slice .int))))]) : E_31.run a = funK C_31 Try.f128 [.v (.pair .int (.pair .int (.slice (.slice .int))))] [.pr (.mv (.slice .int) 0) (.pr (.mv .int 0) (.v (.slice (.slice .int))))] a (fun o r => some (N_31 o r)) := by
 kernel_rfl
theorem W_31 : loopsOf D_31 = [] := by kernel_rfl
theorem Q_31 : Try.prog.funcs[128]? = some Try.f128 ∧ (Try.f128.name == "runtime.NumGoroutine") = false ∧ Try.f128.body = some D_31 := ⟨Try.func128, by kernel_rfl, by kernel_rfl⟩
theorem H_31 : Holds Try.prog 128 E_31 :=
 holds_of (cx := C_31) (tabOk_ok tabT rfl).1 (allT_ok ⟨⟨H_30, _, _, Q_30⟩, trivial⟩) mixT Q_31.1 Q_31.2.2 (loops_of W_31 trivial) (enc := N_31) (fun _ _ => ⟨rfl, rfl⟩) F_31
theorem K_32L6 (n : Nat) (x) : spec_Eliminate_L6 (n + 1) x = roundK C_32 B_32L6 (S_32L6 fuel) x (spec_Eliminate_L6 n) := by
 obtain ⟨_, _, _, _, _⟩ := x
 kernel_rfl
theorem F_32 (a : dens [.v (.pair .int (.pair .int (.slice (.slice .int))))]) : E_32.run a = funK C_32 Try.f47 [.v (.pair .int (.pair .int (.slice (.slice .int))))] [.pr (.v .int) (.pr (.v .int) (.mv (.slice .int) 0)), .v .bool] a (fun o r => some (N_32 o r)) := by
 kernel_rfl
theorem W_32 : loopsOf D_32 = [B_32L6] := by kernel_rfl
theorem R_32L6 : firstReg B_32L6 = 6 := by kernel_rfl
theorem Q_32 : Try.prog.funcs[47]? = some Try.f47 ∧ (Try.f47.name == "runtime.NumGoroutine") = false ∧ Try.f47.body = some D_32 := ⟨Try.func47, by kernel_rfl, by kernel_rfl⟩
theorem H_32 : Holds Try.prog 47 E_32 :=
 holds_of (cx := C_32) (tabOk_ok tabT rfl).1 (allT_ok ⟨⟨H_26, _, _, Q_26⟩, ⟨⟨H_31, _, _, Q_31⟩, trivial⟩⟩) mixT Q_32.1 Q_32.2.2 (loops_of W_32 ⟨loop_of (cx := C_32) (L := S_32L6 fuel) rfl (by rw [R_32L6]; rfl) ⟨spec_Eliminate_L6, fun _ => rfl, fun n x => K_32L6 n x, fuel, fun _ => rfl⟩, trivial⟩) (enc := N_32) (fun _ _ => ⟨rfl, rfl⟩) F_32
theorem K_33L4 (n : Nat) (x) : laws_vInts_L4 (n + 1) x = roundK C_33 B_33L4 (S_33L4 fuel) x (laws_vInts_L4 n) := by
 obtain ⟨_, _, _⟩ := x
 kernel_rfl
theorem F_33 (a : dens [.v (.slice .int), .v (.slice .int)]) : E_33.run a = funK C_33 Try.f52 [.v (.slice .int), .v (.slice .int)] [.v .bool] a (fun o r => some (N_33 o r)) := by
 kernel_rfl
theorem W_33 : loopsOf D_33 = [B_33L4] := by kernel_rfl
theorem R_33L4 : firstReg B_33L4 = 4 := by kernel_rfl
theorem Q_33 : Try.prog.funcs[52]? = some Try.f52 ∧ (Try.f52.name == "runtime.NumGoroutine") = false ∧ Try.f52.body = some D_33 := ⟨Try.func52, by kernel_rfl, by kernel_rfl⟩
theorem H_33 : Holds Try.prog 52 E_33 :=
 holds_of (cx := C_33) (tabOk_ok tabT rfl).1 (allT_ok trivial) mixT Q_33.1 Q_33.2.2 (loops_of W_33 ⟨loop_of (cx := C_33) (L := S_33L4 fuel) rfl (by rw [R_33L4]; rfl) ⟨laws_vInts_L4, fun _ => rfl, fun n x => K_33L4 n x, fuel, fun _ => rfl⟩, trivial⟩) (enc := N_33) (fun _ _ => ⟨rfl, rfl⟩) F_33
theorem K_34L4 (n : Nat) (x) : laws_vTable_L4 (n + 1) x = roundK C_34 B_34L4 (S_34L4 fuel) x (laws_vTable_L4 n) := by
 obtain ⟨_, _, _⟩ := x
 kernel_rfl
theorem F_34 (a : dens [.v (.slice (.slice .int)), .v (.slice (.slice .int))]) : E_34.run a = funK C_34 Try.f57 [.v (.slice (.slice .int)), .v (.slice (.slice .int))] [.v .bool] a (fun o r => some (N_34 o r)) := by
 kernel_rfl
theorem W_34 : loopsOf D_34 = [B_34L4] := by kernel_rfl
theorem R_34L4 : firstReg B_34L4 = 4 := by kernel_rfl
theorem Q_34 : Try.prog.funcs[57]? = some Try.f57 ∧ (Try.f57.name == "runtime.NumGoroutine") = false ∧ Try.f57.body = some D_34 := ⟨Try.func57, by kernel_rfl, by kernel_rfl⟩
theorem H_34 : Holds Try.prog 57 E_34 :=
 holds_of (cx := C_34) (tabOk_ok tabT rfl).1 (allT_ok ⟨⟨H_33, _, _, Q_33⟩, trivial⟩) mixT Q_34.1 Q_34.2.2 (loops_of W_34 ⟨loop_of (cx := C_34) (L := S_34L4 fuel) rfl (by rw [R_34L4]; rfl) ⟨laws_vTable_L4, fun _ => rfl, fun n x => K_34L4 n x, fuel, fun _ => rfl⟩, trivial⟩) (enc := N_34) (fun _ _ => ⟨rfl, rfl⟩) F_34
theorem F_35 (a : dens [.v (.pair .int (.pair .int (.slice (.slice .int)))), .v (.pair .int (.pair .int (.slice (.slice .int))))]) : E_35.run a = funK C_35 Try.f49 [.v (.pair .int (.pair .int (.slice (.slice .int)))), .v (.pair .int (.pair .int (.slice (.slice .int))))] [.v .bool] a (fun o r => some (N_35 o r)) := by
 kernel_rfl
theorem W_35 : loopsOf D_35 = [] := by kernel_rfl
theorem Q_35 : Try.prog.funcs[49]? = some Try.f49 ∧ (Try.f49.name == "runtime.NumGoroutine") = false ∧ Try.f49.body = some D_35 := ⟨Try.func49, by kernel_rfl, by kernel_rfl⟩
theorem H_35 : Holds Try.prog 49 E_35 :=
 holds_of (cx := C_35) (tabOk_ok tabT rfl).1 (allT_ok ⟨⟨H_34, _, _, Q_34⟩, trivial⟩) mixT Q_35.1 Q_35.2.2 (loops_of W_35 trivial) (enc := N_35) (fun _ _ => ⟨rfl, rfl⟩) F_35
theorem K_36L3 (n : Nat) (x) : impl_eliminated_freeVars_L3 (n + 1) x = roundK C_36 B_36L3 (S_36L3 fuel) x (impl_eliminated_freeVars_L3 n) := by
 obtain ⟨_, _, _, _, _⟩ := x
 kernel_rfl
theorem F_36 (a : dens [.bx (.pr (.v .int) (.pr (.v .int) (.pr (.mv (.slice .int) 1) (.pr (.v .int) (.mv .int 0)))))]) : E_36.run a = funK C_36 Try.f132 [.bx (.pr (.v .int) (.pr (.v .int) (.pr (.mv (.slice .int) 1) (.pr (.v .int) (.mv .int 0)))))] [.mv .int 0] a (fun o r => some (N_36 o r)) := by
 kernel_rfl
theorem W_36 : loopsOf D_36 = [B_36L3] := by kernel_rfl
theorem R_36L3 : firstReg B_36L3 = 3 := by kernel_rfl
theorem Q_36 : Try.prog.funcs[132]? = some Try.f132 ∧ (Try.f132.name == "runtime.NumGoroutine") = false ∧ Try.f132.body = some D_36 := ⟨Try.func132, by kernel_rfl, by kernel_rfl⟩
theorem H_36 : Holds Try.prog 132 E_36 :=
 holds_of (cx := C_36) (tabOk_ok tabT rfl).1 (allT_ok trivial) mixT Q_36.1 Q_36.2.2 (loops_of W_36 ⟨loop_of (cx := C_36) (L := S_36L3 fuel) rfl (by rw [R_36L3]; rfl) ⟨impl_eliminated_freeVars_L3, fun _ => rfl, fun n x => K_36L3 n x, fuel, fun _ => rfl⟩, trivial⟩) (enc := N_36) (fun _ _ => ⟨rfl, rfl⟩) F_36
theorem K_37L4 (n : Nat) (x) : impl_eliminated_solution_L4 (n + 1) x = roundK C_37 B_37L4 (S_37L4 fuel) x (impl_eliminated_solution_L4 n) := by
 obtain ⟨_, _, _, _, _, _, _⟩ := x
 kernel_rfl
theorem K_37L14 (n : Nat) (x) : impl_eliminated_solution_L14 (n + 1) x = roundK C_37 B_37L14 (S_37L14 fuel) x (impl_eliminated_solution_L14 n) := by
 obtain ⟨_, _, _, _, _, _, _, _, _, _, _, _, _⟩ := x
 kernel_rfl
theorem K_37L9 (n : Nat) (x) : impl_eliminated_solution_L9 (n + 1) x = roundK C_37 B_37L9 (S_37L9 fuel) x (impl_eliminated_solution_L9 n) := by
 obtain ⟨_, _, _, _, _, _, _⟩ := x
 kernel_rfl
theorem F_37 (a : dens [.bx (.pr (.v .int) (.pr (.v .int) (.pr (.mv (.slice .int) 1) (.pr (.v .int) (.mv .int 0))))), .v (.slice .int)]) : E_37.run a = funK C_37 Try.f138 [.bx (.pr (.v .int) (.pr (.v .int) (.pr (.mv (.slice .int) 1) (.pr (.v .int) (.mv .int 0))))), .v (.slice .int)] [.mv .int 0] a (fun o r => some (N_37 o r)) := by
 kernel_rfl
theorem W_37 : loopsOf D_37 = [B_37L4, B_37L9, B_37L14] := by kernel_rfl
theorem R_37L4 : firstReg B_37L4 = 4 := by kernel_rfl
theorem R_37L14 : firstReg B_37L14 = 14 := by kernel_rfl
theorem R_37L9 : firstReg B_37L9 = 9 := by kernel_rfl
theorem Q_37 : Try.prog.funcs[138]? = some Try.f138 ∧ (Try.f138.name == "runtime.NumGoroutine") = false ∧ Try.f138.body = some D_37 := ⟨Try.func138, by kernel_rfl, by kernel_rfl⟩
theorem H_37 : Holds Try.prog 138 E_37 :=
 holds_of (cx := C_37) (tabOk_ok tabT rfl).1 (allT_ok ⟨⟨H_36, _, _, Q_36⟩, trivial⟩) mixT Q_37.1 Q_37.2.2 (loops_of W_37 ⟨loop_of (cx := C_37) (L := S_37L4 fuel) rfl (by rw [R_37L4]; rfl) ⟨impl_eliminated_solution_L4, fun _ => rfl, fun n x => K_37L4 n x, fuel, fun _ => rfl⟩, ⟨loop_of (cx := C_37) (L := S_37L9 fuel) rfl (by rw [R_37L9]; rfl) ⟨impl_eliminated_solution_L9, fun _ => rfl, fun n x => K_37L9 n x, fuel, fun _ => rfl⟩, ⟨loop_of (cx := C_37) (L := S_37L14 fuel) rfl (by rw [R_37L14]; rfl) ⟨impl_eliminated_solution_L14, fun _ => rfl, fun n x => K_37L14 n x, fuel, fun _ => rfl⟩, trivial⟩⟩⟩) (enc := N_37) (fun _ _ => ⟨rfl, rfl⟩) F_37
theorem K_38L2 (n : Nat) (x) : impl_eliminated_fails_p_L2 (n + 1) x = roundK C_38 B_38L2 (S_38L2 fuel) x (impl_eliminated_fails_p_L2 n) := by
 obtain ⟨_, _, _, _⟩ := x
 kernel_rfl
theorem F_38 (a : dens [.v (.ptr (.pair .int (.pair .int (.pair (.slice (.slice .int)) (.pair .int (.slice .int))))))]) : E_38.run a = funK C_38 Try.f136 [.v (.ptr (.pair .int (.pair .int (.pair (.slice (.slice .int)) (.pair .int (.slice .int))))))] [.v .bool] a (fun o r => some (N_38 o r)) := by
 kernel_rfl
theorem W_38 : loopsOf D_38 = [B_38L2] := by kernel_rfl
theorem R_38L2 : firstReg B_38L2 = 2 := by kernel_rfl
theorem Q_38 : Try.prog.funcs[136]? = some Try.f136 ∧ (Try.f136.name == "runtime.NumGoroutine") = false ∧ Try.f136.body = some D_38 := ⟨Try.func136, by kernel_rfl, by kernel_rfl⟩
theorem H_38 : Holds Try.prog 136 E_38 :=
 holds_of (cx := C_38) (tabOk_ok tabT rfl).1 (allT_ok trivial) mixT Q_38.1 Q_38.2.2 (loops_of W_38 ⟨loop_of (cx := C_38) (L := S_38L2 fuel) rfl (by rw [R_38L2]; rfl) ⟨impl_eliminated_fails_p_L2, fun _ => rfl, fun n x => K_38L2 n x, fuel, fun _ => rfl⟩, trivial⟩) (enc := N_38) (fun _ _ => ⟨rfl, rfl⟩) F_38
theorem K_39L3 (n : Nat) (x) : impl_eliminated_freeVars_p_L3 (n + 1) x = roundK C_39 B_39L3 (S_39L3 fuel) x (impl_eliminated_freeVars_p_L3 n) := by
 obtain ⟨_, _, _, _⟩ := x
 kernel_rfl
theorem F_39 (a : dens [.v (.ptr (.pair .int (.pair .int (.pair (.slice (.slice .int)) (.pair .int (.slice .int))))))]) : E_39.run a = funK C_39 Try.f132 [.v (.ptr (.pair .int (.pair .int (.pair (.slice (.slice .int)) (.pair .int (.slice .int))))))] [.mv .int 0] a (fun o r => some (N_39 o r)) := by
 kernel_rfl
theorem W_39 : loopsOf D_39 = [B_39L3] := by kernel_rfl
theorem R_39L3 : firstReg B_39L3 = 3 := by kernel_rfl
theorem Q_39 : Try.prog.funcs[132]? = some Try.f132 ∧ (Try.f132.name == "runtime.NumGoroutine") = false ∧ Try.f132.body = some D_39 := ⟨Try.func132, by kernel_rfl, by kernel_rfl⟩
theorem H_39 : Holds Try.prog 132 E_39 :=
 holds_of (cx := C_39) (tabOk_ok tabT rfl).1 (allT_ok trivial) mixT Q_39.1 Q_39.2.2 (loops_of W_39 ⟨loop_of (cx := C_39) (L := S_39L3 fuel) rfl (by rw [R_39L3]; rfl) ⟨impl_eliminated_freeVars_p_L3, fun _ => rfl, fun n x => K_39L3 n x, fuel, fun _ => rfl⟩, trivial⟩) (enc := N_39) (fun _ _ => ⟨rfl, rfl⟩) F_39
theorem K_40L4 (n : Nat) (x) : impl_eliminated_solution_p_L4 (n + 1) x = roundK C_40 B_40L4 (S_40L4 fuel) x (impl_eliminated_solution_p_L4 n) := by
 obtain ⟨_, _, _, _, _, _, _⟩ := x
 kernel_rfl
theorem K_40L14 (n : Nat) (x) : impl_eliminated_solution_p_L14 (n + 1) x = roundK C_40 B_40L14 (S_40L14 fuel) x (impl_eliminated_solution_p_L14 n) := by
 obtain ⟨_, _, _, _, _, _, _, _, _, _, _, _, _⟩ := x
 kernel_rfl
theorem K_40L9 (n : Nat) (x) : impl_eliminated_solution_p_L9 (n + 1) x = roundK C_40 B_40L9 (S_40L9 fuel) x (impl_eliminated_solution_p_L9 n) := by
 obtain ⟨_, _, _, _, _, _, _⟩ := x
 kernel_rfl
theorem F_40 (a : dens [.v (.ptr (.pair .int (.pair .int (.pair (.slice (.slice .int)) (.pair .int (.slice .int)))))), .v (.slice .int)]) : E_40.run a = funK C_40 Try.f138 [.v (.ptr (.pair .int (.pair .int (.pair (.slice (.slice .int)) (.pair .int (.slice .int)))))), .v (.slice .int)] [.mv .int 0] a (fun o r => some (N_40 o r)) := by
 kernel_rfl
theorem W_40 : loopsOf D_40 = [B_40L4, B_40L9, B_40L14] := by kernel_rfl
theorem R_40L4 : firstReg B_40L4 = 4 := by kernel_rfl
theorem R_40L14 : firstReg B_40L14 = 14 := by kernel_rfl
theorem R_40L9 : firstReg B_40L9 = 9 := by kernel_rfl
theorem Q_40 : Try.prog.funcs[138]? = some Try.f138 ∧ (Try.f138.name == "runtime.NumGoroutine") = false ∧ Try.f138.body = some D_40 := ⟨Try.func138, by kernel_rfl, by kernel_rfl⟩
theorem H_40 : Holds Try.prog 138 E_40 :=
 holds_of (cx := C_40) (tabOk_ok tabT rfl).1 (allT_ok ⟨⟨H_39, _, _, Q_39⟩, trivial⟩) mixT Q_40.1 Q_40.2.2 (loops_of W_40 ⟨loop_of (cx := C_40) (L := S_40L4 fuel) rfl (by rw [R_40L4]; rfl) ⟨impl_eliminated_solution_p_L4, fun _ => rfl, fun n x => K_40L4 n x, fuel, fun _ => rfl⟩, ⟨loop_of (cx := C_40) (L := S_40L9 fuel) rfl (by rw [R_40L9]; rfl) ⟨impl_eliminated_solution_p_L9, fun _ => rfl, fun n x => K_40L9 n x, fuel, fun _ => rfl⟩, ⟨loop_of (cx := C_40) (L := S_40L14 fuel) rfl (by rw [R_40L14]; rfl) ⟨impl_eliminated_solution_p_L14, fun _ => rfl, fun n x => K_40L14 n x, fuel, fun _ => rfl⟩, trivial⟩⟩⟩) (enc := N_40) (fun _ _ => ⟨rfl, rfl⟩) F_40
theorem F_41 (a : dens [.v (.ptr (.pair .int (.pair .int (.pair (.slice (.slice .int)) (.pair .int (.slice .int))))))]) : E_41.run a = funK C_41 Try.f130 [.v (.ptr (.pair .int (.pair .int (.pair (.slice (.slice .int)) (.pair .int (.slice .int))))))] [.mv .int 0, .v .bool] a (fun o r => some (N_41 o r)) := by
 kernel_rfl
theorem W_41 : loopsOf D_41 = [] := by kernel_rfl
theorem Q_41 : Try.prog.funcs[130]? = some Try.f130 ∧ (Try.f130.name == "runtime.NumGoroutine") = false ∧ Try.f130.body = some D_41 := ⟨Try.func130, by kernel_rfl, by kernel_rfl⟩
theorem H_41 : Holds Try.prog 130 E_41 :=
 holds_of (cx := C_41) (tabOk_ok tabT rfl).1 (allT_ok ⟨⟨H_38, _, _, Q_38⟩, ⟨⟨H_40, _, _, Q_40⟩, trivial⟩⟩) mixT Q_41.1 Q_41.2.2 (loops_of W_41 trivial) (enc := N_41) (fun _ _ => ⟨rfl, rfl⟩) F_41
theorem F_42 (a : dens [.v (.pair .int (.pair .int (.slice (.slice .int))))]) : E_42.run a = funK C_42 Try.f50 [.v (.pair .int (.pair .int (.slice (.slice .int))))] [.mv .int 0, .v .bool] a (fun o r => some (N_42 o r)) := by
 kernel_rfl
theorem W_42 : loopsOf D_42 = [] := by kernel_rfl
theorem Q_42 : Try.prog.funcs[50]? = some Try.f50 ∧ (Try.f50.name == "runtime.NumGoroutine") = false ∧ Try.f50.body = some D_42 := ⟨Try.func50, by kernel_rfl, by kernel_rfl⟩
theorem H_42 : Holds Try.prog 50 E_42 :=
 holds_of (cx := C_42) (tabOk_ok tabT rfl).1 (allT_ok ⟨⟨H_12, _, _, Q_12⟩, ⟨⟨H_18, _, _, Q_18⟩, ⟨⟨H_41, _, _, Q_41⟩, trivial⟩⟩⟩) mixT Q_42.1 Q_42.2.2 (loops_of W_42 trivial) (enc := N_42) (fun _ _ => ⟨rfl, rfl⟩) F_42
theorem K_43L2 (n : Nat) (x) : spec_l21Empty_L2 (n + 1) x = roundK C_43 B_43L2 (S_43L2 fuel) x (spec_l21Empty_L2 n) := by
 obtain ⟨_, _, _⟩ := x
 kernel_rfl
theorem F_43 (a : dens [.v (.pair (.slice (.slice .int)) (.pair (.slice .int) (.slice (.slice .int)))), .v .int]) : E_43.run a = funK C_43 Try.f137 [.v (.pair (.slice (.slice .int)) (.pair (.slice .int) (.slice (.slice .int)))), .v .int] [.v .bool] a (fun o r => some (N_43 o r)) := by
 kernel_rfl
theorem W_43 : loopsOf D_43 = [B_43L2] := by kernel_rfl
theorem R_43L2 : firstReg B_43L2 = 2 := by kernel_rfl
theorem Q_43 : Try.prog.funcs[137]? = some Try.f137 ∧ (Try.f137.name == "runtime.NumGoroutine") = false ∧ Try.f137.body = some D_43 := ⟨Try.func137, by kernel_rfl, by kernel_rfl⟩
theorem H_43 : Holds Try.prog 137 E_43 :=
 holds_of (cx := C_43) (tabOk_ok tabT rfl).1 (allT_ok trivial) mixT Q_43.1 Q_43.2.2 (loops_of W_43 ⟨loop_of (cx := C_43) (L := S_43L2 fuel) rfl (by rw [R_43L2]; rfl) ⟨spec_l21Empty_L2, fun _ => rfl, fun n x => K_43L2 n x, fuel, fun _ => rfl⟩, trivial⟩) (enc := N_43) (fun _ _ => ⟨rfl, rfl⟩) F_43
theorem K_44L6 (n : Nat) (x) : spec_l21Solve_L6 (n + 1) x = roundK C_44 B_44L6 (S_44L6 fuel) x (spec_l21Solve_L6 n) := by
 obtain ⟨_, _, _, _⟩ := x
 kernel_rfl
theorem F_44 (a : dens [.v .int, .v .int, .v (.slice (.slice .int))]) : E_44.run a = funK C_44 Try.f131 [.v .int, .v .int, .v (.slice (.slice .int))] [.mv .int 0, .v .bool] a (fun o r => some (N_44 o r)) := by
 kernel_rfl
theorem W_44 : loopsOf D_44 = [B_44L6] := by kernel_rfl
theorem R_44L6 : firstReg B_44L6 = 6 := by kernel_rfl
theorem Q_44 : Try.prog.funcs[131]? = some Try.f131 ∧ (Try.f131.name == "runtime.NumGoroutine") = false ∧ Try.f131.body = some D_44 := ⟨Try.func131, by kernel_rfl, by kernel_rfl⟩
theorem H_44 : Holds Try.prog 131 E_44 :=
 holds_of (cx := C_44) (tabOk_ok tabT rfl).1 (allT_ok ⟨⟨H_43, _, _, Q_43⟩, ⟨⟨H_30, _, _, Q_30⟩, trivial⟩⟩) mixT Q_44.1 Q_44.2.2 (loops_of W_44 ⟨loop_of (cx := C_44) (L := S_44L6 fuel) rfl (by rw [R_44L6]; rfl) ⟨spec_l21Solve_L6, fun _ => rfl, fun n x => K_44L6 n x, fuel, fun _ => rfl⟩, trivial⟩) (enc := N_44) (fun _ _ => ⟨rfl, rfl⟩) F_44
theorem F_45 (a : dens [.v (.pair .int (.pair .int (.slice (.slice .int))))]) : E_45.run a = funK C_45 Try.f51 [.v (.pair .int (.pair .int (.slice (.slice .int))))] [.mv .int 0, .v .bool] a (fun o r => some (N_45 o r)) := by
 kernel_rfl
theorem W_45 : loopsOf D_45 = [] := by kernel_rfl
theorem Q_45 : Try.prog.funcs[51]? = some Try.f51 ∧ (Try.f51.name == "runtime.NumGoroutine") = false ∧ Try.f51.body = some D_45 := ⟨Try.func51, by kernel_rfl, by kernel_rfl⟩
theorem H_45 : Holds Try.prog 51 E_45 :=
 holds_of (cx := C_45) (tabOk_ok tabT rfl).1 (allT_ok ⟨⟨H_26, _, _, Q_26⟩, ⟨⟨H_44, _, _, Q_44⟩, trivial⟩⟩) mixT Q_45.1 Q_45.2.2 (loops_of W_45 trivial) (enc := N_45) (fun _ _ => ⟨rfl, rfl⟩) F_45
theorem F_46 (a : dens [.v (.pair .int (.pair .int (.slice (.slice .int))))]) : E_46.run a = funK C_46 Try.f53 [.v (.pair .int (.pair .int (.slice (.slice .int))))] [.mv .int 0, .v .bool] a (fun o r => some (N_46 o r)) := by
 kernel_rfl
theorem W_46 : loopsOf D_46 = [] := by kernel_rfl
theorem Q_46 : Try.prog.funcs[53]? = some Try.f53 ∧ (Try.f53.name == "runtime.NumGoroutine") = false ∧ Try.f53.body = some D_46 := ⟨Try.func53, by kernel_rfl, by kernel_rfl⟩
theorem H_46 : Holds Try.prog 53 E_46 :=
 holds_of (cx := C_46) (tabOk_ok tabT rfl).1 (allT_ok ⟨⟨H_12, _, _, Q_12⟩, ⟨⟨H_18, _, _, Q_18⟩, ⟨⟨H_39, _, _, Q_39⟩, trivial⟩⟩⟩) mixT Q_46.1 Q_46.2.2 (loops_of W_46 trivial) (enc := N_46) (fun _ _ => ⟨rfl, rfl⟩) F_46
theorem K_47L2 (n : Nat) (x) : spec_l1Has_L2 (n + 1) x = roundK C_47 B_47L2 (S_47L2 fuel) x (spec_l1Has_L2 n) := by
 obtain ⟨_, _, _⟩ := x
 kernel_rfl
theorem F_47 (a : dens [.v (.slice .int), .v .int]) : E_47.run a = funK C_47 Try.f186 [.v (.slice .int), .v .int] [.v .bool] a (fun o r => some (N_47 o r)) := by
 kernel_rfl
theorem W_47 : loopsOf D_47 = [B_47L2] := by kernel_rfl
theorem R_47L2 : firstReg B_47L2 = 2 := by kernel_rfl
theorem Q_47 : Try.prog.funcs[186]? = some Try.f186 ∧ (Try.f186.name == "runtime.NumGoroutine") = false ∧ Try.f186.body = some D_47 := ⟨Try.func186, by kernel_rfl, by kernel_rfl⟩
theorem H_47 : Holds Try.prog 186 E_47 :=
 holds_of (cx := C_47) (tabOk_ok tabT rfl).1 (allT_ok trivial) mixT Q_47.1 Q_47.2.2 (loops_of W_47 ⟨loop_of (cx := C_47) (L := S_47L2 fuel) rfl (by rw [R_47L2]; rfl) ⟨spec_l1Has_L2, fun _ => rfl, fun n x => K_47L2 n x, fuel, fun _ => rfl⟩, trivial⟩) (enc := N_47) (fun _ _ => ⟨rfl, rfl⟩) F_47
theorem K_48L3 (n : Nat) (x) : spec_l21Free_L3 (n + 1) x = roundK C_48 B_48L3 (S_48L3 fuel) x (spec_l21Free_L3 n) := by
 obtain ⟨_, _, _, _⟩ := x
 kernel_rfl
theorem F_48 (a : dens [.v (.pair (.slice (.slice .int)) (.pair (.slice .int) (.slice (.slice .int)))), .v .int]) : E_48.run a = funK C_48 Try.f133 [.v (.pair (.slice (.slice .int)) (.pair (.slice .int) (.slice (.slice .int)))), .v .int] [.mv .int 0] a (fun o r => some (N_48 o r)) := by
 kernel_rfl
theorem W_48 : loopsOf D_48 = [B_48L3] := by kernel_rfl
theorem R_48L3 : firstReg B_48L3 = 3 := by kernel_rfl
theorem Q_48 : Try.prog.funcs[133]? = some Try.f133 ∧ (Try.f133.name == "runtime.NumGoroutine") = false ∧ Try.f133.body = some D_48 := ⟨Try.func133, by kernel_rfl, by kernel_rfl⟩
theorem H_48 : Holds Try.prog 133 E_48 :=
 holds_of (cx := C_48) (tabOk_ok tabT rfl).1 (allT_ok ⟨⟨H_47, _, _, Q_47⟩, trivial⟩) mixT Q_48.1 Q_48.2.2 (loops_of W_48 ⟨loop_of (cx := C_48) (L := S_48L3 fuel) rfl (by rw [R_48L3]; rfl) ⟨spec_l21Free_L3, fun _ => rfl, fun n x => K_48L3 n x, fuel, fun _ => rfl⟩, trivial⟩) (enc := N_48) (fun _ _ => ⟨rfl, rfl⟩) F_48
theorem F_49 (a : dens [.v (.pair .int (.pair .int (.slice (.slice .int))))]) : E_49.run a = funK C_49 Try.f54 [.v (.pair .int (.pair .int (.slice (.slice .int))))] [.mv .int 0, .v .bool] a (fun o r => some (N_49 o r)) := by
 kernel_rfl
theorem W_49 : loopsOf D_49 = [] := by kernel_rfl
theorem Q_49 : Try.prog.funcs[54]? = some Try.f54 ∧ (Try.f54.name == "runtime.NumGoroutine") = false ∧ Try.f54.body = some D_49 := ⟨Try.func54, by kernel_rfl, by kernel_rfl⟩
theorem H_49 : Holds Try.prog 54 E_49 :=
 holds_of (cx := C_49) (tabOk_ok tabT rfl).1 (allT_ok ⟨⟨H_26, _, _, Q_26⟩, ⟨⟨H_31, _, _, Q_31⟩, ⟨⟨H_48, _, _, Q_48⟩, trivial⟩⟩⟩) mixT Q_49.1 Q_49.2.2 (loops_of W_49 trivial) (enc := N_49) (fun _ _ => ⟨rfl, rfl⟩) F_49
theorem K_50L2 (n : Nat) (x) : impl_eliminated_kernel_L2 (n + 1) x = roundK C_50 B_50L2 (S_50L2 fuel) x (impl_eliminated_kernel_L2 n) := by
 obtain ⟨_, _, _, _⟩ := x
 kernel_rfl
theorem K_50L9 (n : Nat) (x) : impl_eliminated_kernel_L9 (n + 1) x = roundK C_50 B_50L9 (S_50L9 fuel) x (impl_eliminated_kernel_L9 n) := by
 obtain ⟨_, _, _, _, _⟩ := x
 kernel_rfl
theorem F_50 (a : dens [.bx (.pr (.v .int) (.pr (.v .int) (.pr (.mv (.slice .int) 1) (.pr (.v .int) (.mv .int 0)))))]) : E_50.run a = funK C_50 Try.f134 [.bx (.pr (.v .int) (.pr (.v .int) (.pr (.mv (.slice .int) 1) (.pr (.v .int) (.mv .int 0)))))] [.mv (.slice .int) 1] a (fun o r => some (N_50 o r)) := by
 kernel_rfl
theorem W_50 : loopsOf D_50 = [B_50L2, B_50L9] := by kernel_rfl
theorem R_50L2 : firstReg B_50L2 = 2 := by kernel_rfl
theorem R_50L9 : firstReg B_50L9 = 9 := by kernel_rfl
theorem Q_50 : Try.prog.funcs[134]? = some Try.f134 ∧ (Try.f134.name == "runtime.NumGoroutine") = false ∧ Try.f134.body = some D_50 := ⟨Try.func134, by kernel_rfl, by kernel_rfl⟩
theorem H_50 : Holds Try.prog 134 E_50 :=
 holds_of (cx := C_50) (tabOk_ok tabT rfl).1 (allT_ok ⟨⟨H_36, _, _, Q_36⟩, ⟨⟨H_37, _, _, Q_37⟩, trivial⟩⟩) mixT Q_50.1 Q_50.2.2 (loops_of W_50 ⟨loop_of (cx := C_50) (L := S_50L2 fuel) rfl (by rw [R_50L2]; rfl) ⟨impl_eliminated_kernel_L2, fun _ => rfl, fun n x => K_50L2 n x, fuel, fun _ => rfl⟩, ⟨loop_of (cx := C_50) (L := S_50L9 fuel) rfl (by rw [R_50L9]; rfl) ⟨impl_eliminated_kernel_L9, fun _ => rfl, fun n x => K_50L9 n x, fuel, fun _ => rfl⟩, trivial⟩⟩) (enc := N_50) (fun _ _ => ⟨rfl, rfl⟩) F_50
theorem K_51L6 (n : Nat) (x) : impl_eliminate_b_L6 (n + 1) x = roundK C_51 B_51L6 (S_51L6 fuel) x (impl_eliminate_b_L6 n) := by
 obtain ⟨_, _, _, _, _⟩ := x
 kernel_rfl
theorem K_51L14 (n : Nat) (x) : impl_eliminate_b_L14 (n + 1) x = roundK C_51 B_51L14 (S_51L14 fuel) x (impl_eliminate_b_L14 n) := by
 obtain ⟨_, _, _, _, _, _, _, _⟩ := x
 kernel_rfl
theorem K_51L24 (n : Nat) (x) : impl_eliminate_b_L24 (n + 1) x = roundK C_51 B_51L24 (S_51L24 fuel) x (impl_eliminate_b_L24 n) := by
 obtain ⟨_, _, _, _, _, _, _, _, _, _, _, _⟩ := x
 kernel_rfl
theorem K_51L19 (n : Nat) (x) : impl_eliminate_b_L19 (n + 1) x = roundK C_51 B_51L19 (S_51L19 fuel) x (impl_eliminate_b_L19 n) := by
 obtain ⟨_, _, _, _, _, _, _, _⟩ := x
 kernel_rfl
theorem K_51L3 (n : Nat) (x) : impl_eliminate_b_L3 (n + 1) x = roundK C_51 B_51L3 (S_51L3 fuel) x (impl_eliminate_b_L3 n) := by
 obtain ⟨_, _, _, _⟩ := x
 kernel_rfl
theorem F_51 (a : dens [.v .int, .v .int, .v (.slice (.slice .int))]) : E_51.run a = funK C_51 Try.f182 [.v .int, .v .int, .v (.slice (.slice .int))] [.bx (.pr (.v .int) (.pr (.v .int) (.pr (.mv (.slice .int) 1) (.pr (.v .int) (.mv .int 0)))))] a (fun o r => some (N_51 o r)) := by
 kernel_rfl
theorem W_51 : loopsOf D_51 = [B_51L3, B_51L6, B_51L14, B_51L19, B_51L24] := by kernel_rfl
theorem R_51L6 : firstReg B_51L6 = 6 := by kernel_rfl
theorem R_51L14 : firstReg B_51L14 = 14 := by kernel_rfl
theorem R_51L24 : firstReg B_51L24 = 24 := by kernel_rfl
theorem R_51L19 : firstReg B_51L19 = 19 := by kernel_rfl
theorem R_51L3 : firstReg B_51L3 = 3 := by kernel_rfl
theorem Q_51 : Try.prog.funcs[182]? = some Try.f182 ∧ (Try.f182.name == "runtime.NumGoroutine") = false ∧ Try.f182.body = some D_51 := ⟨Try.func182, by kernel_rfl, by kernel_rfl⟩
theorem H_51 : Holds Try.prog 182 E_51 :=
 holds_of (cx := C_51) (tabOk_ok tabT rfl).1 (allT_ok ⟨⟨H_15, _, _, Q_15⟩, ⟨⟨H_14, _, _, Q_14⟩, ⟨⟨H_16, _, _, Q_16⟩, trivial⟩⟩⟩) mixT Q_51.1 Q_51.2.2 (loops_of W_51 ⟨loop_of (cx := C_51) (L := S_51L3 fuel) rfl (by rw [R_51L3]; rfl) ⟨impl_eliminate_b_L3, fun _ => rfl, fun n x => K_51L3 n x, fuel, fun _ => rfl⟩, ⟨loop_of (cx := C_51) (L := S_51L6 fuel) rfl (by rw [R_51L6]; rfl) ⟨impl_eliminate_b_L6, fun _ => rfl, fun n x => K_51L6 n x, fuel, fun _ => rfl⟩, ⟨loop_of (cx := C_51) (L := S_51L14 fuel) rfl (by rw [R_51L14]; rfl) ⟨impl_eliminate_b_L14, fun _ => rfl, fun n x => K_51L14 n x, fuel, fun _ => rfl⟩, ⟨loop_of (cx := C_51) (L := S_51L19 fuel) rfl (by rw [R_51L19]; rfl) ⟨impl_eliminate_b_L19, fun _ => rfl, fun n x => K_51L19 n x, fuel, fun _ => rfl⟩, ⟨loop_of (cx := C_51) (L := S_51L24 fuel) rfl (by rw [R_51L24]; rfl) ⟨impl_eliminate_b_L24, fun _ => rfl, fun n x => K_51L24 n x, fuel, fun _ => rfl⟩, trivial⟩⟩⟩⟩⟩) (enc := N_51) (fun _ _ => ⟨rfl, rfl⟩) F_51
theorem F_52 (a : dens [.v (.pair .int (.pair .int (.slice (.slice .int))))]) : E_52.run a = funK C_52 Try.f126 [.v (.pair .int (.pair .int (.slice (.slice .int))))] [.bx (.pr (.v .int) (.pr (.v .int) (.pr (.mv (.slice .int) 1) (.pr (.v .int) (.mv .int 0)))))] a (fun o r => some (N_52 o r)) := by
 kernel_rfl
theorem W_52 : loopsOf D_52 = [] := by kernel_rfl
theorem Q_52 : Try.prog.funcs[126]? = some Try.f126 ∧ (Try.f126.name == "runtime.NumGoroutine") = false ∧ Try.f126.body = some D_52 := ⟨Try.func126, by kernel_rfl, by kernel_rfl⟩
theorem H_52 : Holds Try.prog 126 E_52 :=
 holds_of (cx := C_52) (tabOk_ok tabT rfl).1 (allT_ok ⟨⟨H_51, _, _, Q_51⟩, trivial⟩) mixT Q_52.1 Q_52.2.2 (loops_of W_52 trivial) (enc := N_52) (fun _ _ => ⟨rfl, rfl⟩) F_52
theorem F_53 (a : dens [.v (.pair .int (.pair .int (.slice (.slice .int))))]) : E_53.run a = funK C_53 Try.f55 [.v (.pair .int (.pair .int (.slice (.slice .int))))] [.mv (.slice .int) 1, .v .bool] a (fun o r => some (N_53 o r)) := by
 kernel_rfl
theorem W_53 : loopsOf D_53 = [] := by kernel_rfl
theorem Q_53 : Try.prog.funcs[55]? = some Try.f55 ∧ (Try.f55.name == "runtime.NumGoroutine") = false ∧ Try.f55.body = some D_53 := ⟨Try.func55, by kernel_rfl, by kernel_rfl⟩
theorem H_53 : Holds Try.prog 55 E_53 :=
 holds_of (cx := C_53) (tabOk_ok tabT rfl).1 (allT_ok ⟨⟨H_12, _, _, Q_12⟩, ⟨⟨H_52, _, _, Q_52⟩, ⟨⟨H_50, _, _, Q_50⟩, trivial⟩⟩⟩) mixT Q_53.1 Q_53.2.2 (loops_of W_53 trivial) (enc := N_53) (fun _ _ => ⟨rfl, rfl⟩) F_53
theorem K_54L8 (n : Nat) (x) : spec_l21Kernel_L8 (n + 1) x = roundK C_54 B_54L8 (S_54L8 fuel) x (spec_l21Kernel_L8 n) := by
 obtain ⟨_, _, _, _, _, _, _, _⟩ := x
 kernel_rfl
theorem K_54L3 (n : Nat) (x) : spec_l21Kernel_L3 (n + 1) x = roundK C_54 B_54L3 (S_54L3 fuel) x (spec_l21Kernel_L3 n) := by
 obtain ⟨_, _, _, _, _, _⟩ := x
 kernel_rfl
theorem F_54 (a : dens [.v (.pair (.slice (.slice .int)) (.pair (.slice .int) (.slice (.slice .int)))), .v .int, .v .int]) : E_54.run a = funK C_54 Try.f135 [.v (.pair (.slice (.slice .int)) (.pair (.slice .int) (.slice (.slice .int)))), .v .int, .v .int] [.mv (.slice .int) 0] a (fun o r => some (N_54 o r)) := by
 kernel_rfl
theorem W_54 : loopsOf D_54 = [B_54L3, B_54L8] := by kernel_rfl
theorem R_54L8 : firstReg B_54L8 = 8 := by kernel_rfl
theorem R_54L3 : firstReg B_54L3 = 3 := by kernel_rfl
theorem Q_54 : Try.prog.funcs[135]? = some Try.f135 ∧ (Try.f135.name == "runtime.NumGoroutine") = false ∧ Try.f135.body = some D_54 := ⟨Try.func135, by kernel_rfl, by kernel_rfl⟩
theorem H_54 : Holds Try.prog 135 E_54 :=
 holds_of (cx := C_54) (tabOk_ok tabT rfl).1 (allT_ok ⟨⟨H_48, _, _, Q_48⟩, trivial⟩) mixT Q_54.1 Q_54.2.2 (loops_of W_54 ⟨loop_of (cx := C_54) (L := S_54L3 fuel) rfl (by rw [R_54L3]; rfl) ⟨spec_l21Kernel_L3, fun _ => rfl, fun n x => K_54L3 n x, fuel, fun _ => rfl⟩, ⟨loop_of (cx := C_54) (L := S_54L8 fuel) rfl (by rw [R_54L8]; rfl) ⟨spec_l21Kernel_L8, fun _ => rfl, fun n x => K_54L8 n x, fuel, fun _ => rfl⟩, trivial⟩⟩) (enc := N_54) (fun _ _ => ⟨rfl, rfl⟩) F_54
theorem F_55 (a : dens [.v (.pair .int (.pair .int (.slice (.slice .int))))]) : E_55.run a = funK C_55 Try.f56 [.v (.pair .int (.pair .int (.slice (.slice .int))))] [.mv (.slice .int) 0, .v .bool] a (fun o r => some (N_55 o r)) := by
 kernel_rfl
theorem W_55 : loopsOf D_55 = [] := by kernel_rfl
theorem Q_55 : Try.prog.funcs[56]? = some Try.f56 ∧ (Try.f56.name == "runtime.NumGoroutine") = false ∧ Try.f56.body = some D_55 := ⟨Try.func56, by kernel_rfl, by kernel_rfl⟩
theorem H_55 : Holds Try.prog 56 E_55 :=
 holds_of (cx := C_55) (tabOk_ok tabT rfl).1 (allT_ok ⟨⟨H_26, _, _, Q_26⟩, ⟨⟨H_31, _, _, Q_31⟩, ⟨⟨H_54, _, _, Q_54⟩, trivial⟩⟩⟩) mixT Q_55.1 Q_55.2.2 (loops_of W_55 trivial) (enc := N_55) (fun _ _ => ⟨rfl, rfl⟩) F_55
theorem K_56L2 (n : Nat) (x) : impl_power_L2 (n + 1) x = roundK C_56 B_56L2 (S_56L2 fuel) x (impl_power_L2 n) := by
 obtain ⟨_, _, _⟩ := x
 kernel_rfl
theorem F_56 (a : dens [.v .int, .v .int]) : E_56.run a = funK C_56 Try.f66 [.v .int, .v .int] [.v .int] a (fun o r => some (N_56 o r)) := by
 kernel_rfl
theorem W_56 : loopsOf D_56 = [B_56L2] := by kernel_rfl
theorem R_56L2 : firstReg B_56L2 = 2 := by kernel_rfl
theorem Q_56 : Try.prog.funcs[66]? = some Try.f66 ∧ (Try.f66.name == "runtime.NumGoroutine") = false ∧ Try.f66.body = some D_56 := ⟨Try.func66, by kernel_rfl, by kernel_rfl⟩
theorem H_56 : Holds Try.prog 66 E_56 :=
 holds_of (cx := C_56) (tabOk_ok tabT rfl).1 (allT_ok trivial) mixT Q_56.1 Q_56.2.2 (loops_of W_56 ⟨loop_of (cx := C_56) (L := S_56L2 fuel) rfl (by rw [R_56L2]; rfl) ⟨impl_power_L2, fun _ => rfl, fun n x => K_56L2 n x, fuel, fun _ => rfl⟩, trivial⟩) (enc := N_56) (fun _ _ => ⟨rfl, rfl⟩) F_56
theorem F_57 (a : dens [.v (.pair .int (.pair .int (.slice (.slice .int))))]) : E_57.run a = funK C_57 Try.f58 [.v (.pair .int (.pair .int (.slice (.slice .int))))] [.v .int, .v .bool] a (fun o r => some (N_57 o r)) := by
 kernel_rfl
theorem W_57 : loopsOf D_57 = [] := by kernel_rfl
theorem Q_57 : Try.prog.funcs[58]? = some Try.f58 ∧ (Try.f58.name == "runtime.NumGoroutine") = false ∧ Try.f58.body = some D_57 := ⟨Try.func58, by kernel_rfl, by kernel_rfl⟩
theorem H_57 : Holds Try.prog 58 E_57 :=
 holds_of (cx := C_57) (tabOk_ok tabT rfl).1 (allT_ok ⟨⟨H_12, _, _, Q_12⟩, ⟨⟨H_56, _, _, Q_56⟩, ⟨⟨H_18, _, _, Q_18⟩, ⟨⟨H_39, _, _, Q_39⟩, ⟨⟨H_38, _, _, Q_38⟩, trivial⟩⟩⟩⟩⟩) mixT Q_57.1 Q_57.2.2 (loops_of W_57 trivial) (enc := N_57) (fun _ _ => ⟨rfl, rfl⟩) F_57
theorem K_58L2 (n : Nat) (x) : spec_l2Pow_L2 (n + 1) x = roundK C_58 B_58L2 (S_58L2 fuel) x (spec_l2Pow_L2 n) := by
 obtain ⟨_, _, _⟩ := x
 kernel_rfl
theorem F_58 (a : dens [.v .int, .v .int]) : E_58.run a = funK C_58 Try.f71 [.v .int, .v .int] [.v .int] a (fun o r => some (N_58 o r)) := by
 kernel_rfl
theorem W_58 : loopsOf D_58 = [B_58L2] := by kernel_rfl
theorem R_58L2 : firstReg B_58L2 = 2 := by kernel_rfl
theorem Q_58 : Try.prog.funcs[71]? = some Try.f71 ∧ (Try.f71.name == "runtime.NumGoroutine") = false ∧ Try.f71.body = some D_58 := ⟨Try.func71, by kernel_rfl, by kernel_rfl⟩
theorem H_58 : Holds Try.prog 71 E_58 :=
 holds_of (cx := C_58) (tabOk_ok tabT rfl).1 (allT_ok trivial) mixT Q_58.1 Q_58.2.2 (loops_of W_58 ⟨loop_of (cx := C_58) (L := S_58L2 fuel) rfl (by rw [R_58L2]; rfl) ⟨spec_l2Pow_L2, fun _ => rfl, fun n x => K_58L2 n x, fuel, fun _ => rfl⟩, trivial⟩) (enc := N_58) (fun _ _ => ⟨rfl, rfl⟩) F_58
theorem F_59 (a : dens [.v (.pair .int (.pair .int (.slice (.slice .int))))]) : E_59.run a = funK C_59 Try.f59 [.v (.pair .int (.pair .int (.slice (.slice .int))))] [.v .int, .v .bool] a (fun o r => some (N_59 o r)) := by
 kernel_rfl
theorem W_59 : loopsOf D_59 = [] := by kernel_rfl
theorem Q_59 : Try.prog.funcs[59]? = some Try.f59 ∧ (Try.f59.name == "runtime.NumGoroutine") = false ∧ Try.f59.body = some D_59 := ⟨Try.func59, by kernel_rfl, by kernel_rfl⟩
theorem H_59 : Holds Try.prog 59 E_59 :=
 holds_of (cx := C_59) (tabOk_ok tabT rfl).1 (allT_ok ⟨⟨H_58, _, _, Q_58⟩, ⟨⟨H_26, _, _, Q_26⟩, ⟨⟨H_31, _, _, Q_31⟩, ⟨⟨H_43, _, _, Q_43⟩, trivial⟩⟩⟩⟩) mixT Q_59.1 Q_59.2.2 (loops_of W_59 trivial) (enc := N_59) (fun _ _ => ⟨rfl, rfl⟩) F_59
theorem K_60L3 (n : Nat) (x) : impl_argsAt_L3 (n + 1) x = roundK C_60 B_60L3 (S_60L3 fuel) x (impl_argsAt_L3 n) := by
 obtain ⟨_, _, _, _⟩ := x
 kernel_rfl
theorem F_60 (a : dens [.v .int, .v .int, .v .int]) : E_60.run a = funK C_60 Try.f68 [.v .int, .v .int, .v .int] [.mv .int 0] a (fun o r => some (N_60 o r)) := by
 kernel_rfl
theorem W_60 : loopsOf D_60 = [B_60L3] := by kernel_rfl
theorem R_60L3 : firstReg B_60L3 = 3 := by kernel_rfl
theorem Q_60 : Try.prog.funcs[68]? = some Try.f68 ∧ (Try.f68.name == "runtime.NumGoroutine") = false ∧ Try.f68.body = some D_60 := ⟨Try.func68, by kernel_rfl, by kernel_rfl⟩
theorem H_60 : Holds Try.prog 68 E_60 :=
 holds_of (cx := C_60) (tabOk_ok tabT rfl).1 (allT_ok trivial) mixT Q_60.1 Q_60.2.2 (loops_of W_60 ⟨loop_of (cx := C_60) (L := S_60L3 fuel) rfl (by rw [R_60L3]; rfl) ⟨impl_argsAt_L3, fun _ => rfl, fun n x => K_60L3 n x, fuel, fun _ => rfl⟩, trivial⟩) (enc := N_60) (fun _ _ => ⟨rfl, rfl⟩) F_60
theorem Q_61 : Try.prog.funcs[139]? = some Try.f139 ∧ (Try.f139.name == "runtime.NumGoroutine") = false ∧ Try.f139.body = some D_61 := ⟨Try.func139, by kernel_rfl, by kernel_rfl⟩
theorem H_61 : Holds Try.prog 139 E_61 := Go.Proofs.H_sort_cmpL 1
theorem K_62L8 (n : Nat) (x) : impl_LinearSolutions_L8 (n + 1) x = roundK C_62 B_62L8 (S_62L8 fuel) x (impl_LinearSolutions_L8 n) := by
 obtain ⟨_, _, _, _, _, _⟩ := x
 kernel_rfl
theorem F_62 (a : dens [.v (.pair .int (.pair .int (.slice (.slice .int))))]) : E_62.run a = funK C_62 Try.f60 [.v (.pair .int (.pair .int (.slice (.slice .int))))] [.mv (.slice .int) 1, .v .bool] a (fun o r => some (N_62 o r)) := by
 kernel_rfl
theorem W_62 : loopsOf D_62 = [B_62L8] := by kernel_rfl
theorem R_62L8 : firstReg B_62L8 = 8 := by kernel_rfl
theorem Q_62 : Try.prog.funcs[60]? = some Try.f60 ∧ (Try.f60.name == "runtime.NumGoroutine") = false ∧ Try.f60.body = some D_62 := ⟨Try.func60, by kernel_rfl, by kernel_rfl⟩
theorem H_62 : Holds Try.prog 60 E_62 :=
 holds_of (cx := C_62) (tabOk_ok tabT rfl).1 (allT_ok ⟨⟨H_57, _, _, Q_57⟩, ⟨⟨H_60, _, _, Q_60⟩, ⟨⟨H_18, _, _, Q_18⟩, ⟨⟨H_39, _, _, Q_39⟩, ⟨⟨H_40, _, _, Q_40⟩, ⟨⟨H_61, _, _, Q_61⟩, trivial⟩⟩⟩⟩⟩⟩) mixT Q_62.1 Q_62.2.2 (loops_of W_62 ⟨loop_of (cx := C_62) (L := S_62L8 fuel) rfl (by rw [R_62L8]; rfl) ⟨impl_LinearSolutions_L8, fun _ => rfl, fun n x => K_62L8 n x, fuel, fun _ => rfl⟩, trivial⟩) (enc := N_62) (fun _ _ => ⟨rfl, rfl⟩) F_62
theorem K_63L3 (n : Nat) (x) : spec_l2Args_L3 (n + 1) x = roundK C_63 B_63L3 (S_63L3 fuel) x (spec_l2Args_L3 n) := by
 obtain ⟨_, _, _, _⟩ := x
 kernel_rfl
theorem F_63 (a : dens [.v .int, .v .int, .v .int]) : E_63.run a = funK C_63 Try.f72 [.v .int, .v .int, .v .int] [.mv .int 0] a (fun o r => some (N_63 o r)) := by
 kernel_rfl
theorem W_63 : loopsOf D_63 = [B_63L3] := by kernel_rfl
theorem R_63L3 : firstReg B_63L3 = 3 := by kernel_rfl
theorem Q_63 : Try.prog.funcs[72]? = some Try.f72 ∧ (Try.f72.name == "runtime.NumGoroutine") = false ∧ Try.f72.body = some D_63 := ⟨Try.func72, by kernel_rfl, by kernel_rfl⟩
theorem H_63 : Holds Try.prog 72 E_63 :=
 holds_of (cx := C_63) (tabOk_ok tabT rfl).1 (allT_ok trivial) mixT Q_63.1 Q_63.2.2 (loops_of W_63 ⟨loop_of (cx := C_63) (L := S_63L3 fuel) rfl (by rw [R_63L3]; rfl) ⟨spec_l2Args_L3, fun _ => rfl, fun n x => K_63L3 n x, fuel, fun _ => rfl⟩, trivial⟩) (enc := N_63) (fun _ _ => ⟨rfl, rfl⟩) F_63
theorem K_64L2 (n : Nat) (x) : spec_l3Less_L2 (n + 1) x = roundK C_64 B_64L2 (S_64L2 fuel) x (spec_l3Less_L2 n) := by
 obtain ⟨_, _, _⟩ := x
 kernel_rfl
theorem F_64 (a : dens [.v (.slice .int), .v (.slice .int)]) : E_64.run a = funK C_64 Try.f210 [.v (.slice .int), .v (.slice .int)] [.v .bool] a (fun o r => some (N_64 o r)) := by
 kernel_rfl
theorem W_64 : loopsOf D_64 = [B_64L2] := by kernel_rfl
theorem R_64L2 : firstReg B_64L2 = 2 := by kernel_rfl
theorem Q_64 : Try.prog.funcs[210]? = some Try.f210 ∧ (Try.f210.name == "runtime.NumGoroutine") = false ∧ Try.f210.body = some D_64 := ⟨Try.func210, by kernel_rfl, by kernel_rfl⟩
theorem H_64 : Holds Try.prog 210 E_64 :=
 holds_of (cx := C_64) (tabOk_ok tabT rfl).1 (allT_ok trivial) mixT Q_64.1 Q_64.2.2 (loops_of W_64 ⟨loop_of (cx := C_64) (L := S_64L2 fuel) rfl (by rw [R_64L2]; rfl) ⟨spec_l3Less_L2, fun _ => rfl, fun n x => K_64L2 n x, fuel, fun _ => rfl⟩, trivial⟩) (enc := N_64) (fun _ _ => ⟨rfl, rfl⟩) F_64
theorem K_65L4 (n : Nat) (x) : spec_l1Same_L4 (n + 1) x = roundK C_65 B_65L4 (S_65L4 fuel) x (spec_l1Same_L4 n) := by
 obtain ⟨_, _, _⟩ := x
 kernel_rfl
theorem F_65 (a : dens [.v (.slice .int), .v (.slice .int)]) : E_65.run a = funK C_65 Try.f73 [.v (.slice .int), .v (.slice .int)] [.v .bool] a (fun o r => some (N_65 o r)) := by
 kernel_rfl
theorem W_65 : loopsOf D_65 = [B_65L4] := by kernel_rfl
theorem R_65L4 : firstReg B_65L4 = 4 := by kernel_rfl
theorem Q_65 : Try.prog.funcs[73]? = some Try.f73 ∧ (Try.f73.name == "runtime.NumGoroutine") = false ∧ Try.f73.body = some D_65 := ⟨Try.func73, by kernel_rfl, by kernel_rfl⟩
theorem H_65 : Holds Try.prog 73 E_65 :=
 holds_of (cx := C_65) (tabOk_ok tabT rfl).1 (allT_ok trivial) mixT Q_65.1 Q_65.2.2 (loops_of W_65 ⟨loop_of (cx := C_65) (L := S_65L4 fuel) rfl (by rw [R_65L4]; rfl) ⟨spec_l1Same_L4, fun _ => rfl, fun n x => K_65L4 n x, fuel, fun _ => rfl⟩, trivial⟩) (enc := N_65) (fun _ _ => ⟨rfl, rfl⟩) F_65
theorem K_66L2 (n : Nat) (x) : spec_l8Find_L2 (n + 1) x = roundK C_66 B_66L2 (S_66L2 fuel) x (spec_l8Find_L2 n) := by
 obtain ⟨_, _, _, _⟩ := x
 kernel_rfl
theorem F_66 (a : dens [.v (.slice (.slice .int)), .v (.slice .int)]) : E_66.run a = funK C_66 Try.f189 [.v (.slice (.slice .int)), .v (.slice .int)] [.v .int, .v .bool] a (fun o r => some (N_66 o r)) := by
 kernel_rfl
theorem W_66 : loopsOf D_66 = [B_66L2] := by kernel_rfl
theorem R_66L2 : firstReg B_66L2 = 2 := by kernel_rfl
theorem Q_66 : Try.prog.funcs[189]? = some Try.f189 ∧ (Try.f189.name == "runtime.NumGoroutine") = false ∧ Try.f189.body = some D_66 := ⟨Try.func189, by kernel_rfl, by kernel_rfl⟩
theorem H_66 : Holds Try.prog 189 E_66 :=
 holds_of (cx := C_66) (tabOk_ok tabT rfl).1 (allT_ok ⟨⟨H_65, _, _, Q_65⟩, ⟨⟨H_64, _, _, Q_64⟩, trivial⟩⟩) mixT Q_66.1 Q_66.2.2 (loops_of W_66 ⟨loop_of (cx := C_66) (L := S_66L2 fuel) rfl (by rw [R_66L2]; rfl) ⟨spec_l8Find_L2, fun _ => rfl, fun n x => K_66L2 n x, fuel, fun _ => rfl⟩, trivial⟩) (enc := N_66) (fun _ _ => ⟨rfl, rfl⟩) F_66
theorem F_67 (a : dens [.v (.slice (.slice .int)), .v (.slice .int)]) : E_67.run a = funK C_67 Try.f143 [.v (.slice (.slice .int)), .v (.slice .int)] [.v (.slice (.slice .int))] a (fun o r => some (N_67 o r)) := by
 kernel_rfl
theorem W_67 : loopsOf D_67 = [] := by kernel_rfl
theorem Q_67 : Try.prog.funcs[143]? = some Try.f143 ∧ (Try.f143.name == "runtime.NumGoroutine") = false ∧ Try.f143.body = some D_67 := ⟨Try.func143, by kernel_rfl, by kernel_rfl⟩
theorem H_67 : Holds Try.prog 143 E_67 :=
 holds_of (cx := C_67) (tabOk_ok tabT rfl).1 (allT_ok ⟨⟨H_66, _, _, Q_66⟩, trivial⟩) mixT Q_67.1 Q_67.2.2 (loops_of W_67 trivial) (enc := N_67) (fun _ _ => ⟨rfl, rfl⟩) F_67
theorem K_68L12 (n : Nat) (x) : spec_LinearSolutions_L12 (n + 1) x = roundK C_68 B_68L12 (S_68L12 fuel) x (spec_LinearSolutions_L12 n) := by
 obtain ⟨_, _, _, _, _, _, _, _, _, _⟩ := x
 kernel_rfl
theorem K_68L8 (n : Nat) (x) : spec_LinearSolutions_L8 (n + 1) x = roundK C_68 B_68L8 (S_68L8 fuel) x (spec_LinearSolutions_L8 n) := by
 obtain ⟨_, _, _, _, _, _, _⟩ := x
 kernel_rfl
theorem F_68 (a : dens [.v (.pair .int (.pair .int (.slice (.slice .int))))]) : E_68.run a = funK C_68 Try.f61 [.v (.pair .int (.pair .int (.slice (.slice .int))))] [.v (.slice (.slice .int)), .v .bool] a (fun o r => some (N_68 o r)) := by
 kernel_rfl
theorem W_68 : loopsOf D_68 = [B_68L8, B_68L12] := by kernel_rfl
theorem R_68L12 : firstReg B_68L12 = 12 := by kernel_rfl
theorem R_68L8 : firstReg B_68L8 = 8 := by kernel_rfl
theorem Q_68 : Try.prog.funcs[61]? = some Try.f61 ∧ (Try.f61.name == "runtime.NumGoroutine") = false ∧ Try.f61.body = some D_68 := ⟨Try.func61, by kernel_rfl, by kernel_rfl⟩
theorem H_68 : Holds Try.prog 61 E_68 :=
 holds_of (cx := C_68) (tabOk_ok tabT rfl).1 (allT_ok ⟨⟨H_59, _, _, Q_59⟩, ⟨⟨H_63, _, _, Q_63⟩, ⟨⟨H_31, _, _, Q_31⟩, ⟨⟨H_44, _, _, Q_44⟩, ⟨⟨H_54, _, _, Q_54⟩, ⟨⟨H_27, _, _, Q_27⟩, ⟨⟨H_29, _, _, Q_29⟩, ⟨⟨H_67, _, _, Q_67⟩, trivial⟩⟩⟩⟩⟩⟩⟩⟩) mixT Q_68.1 Q_68.2.2 (loops_of W_68 ⟨loop_of (cx := C_68) (L := S_68L8 fuel) rfl (by rw [R_68L8]; rfl) ⟨spec_LinearSolutions_L8, fun _ => rfl, fun n x => K_68L8 n x, fuel, fun _ => rfl⟩, ⟨loop_of (cx := C_68) (L := S_68L12 fuel) rfl (by rw [R_68L12]; rfl) ⟨spec_LinearSolutions_L12, fun _ => rfl, fun n x => K_68L12 n x, fuel, fun _ => rfl⟩, trivial⟩⟩) (enc := N_68) (fun _ _ => ⟨rfl, rfl⟩) F_68
theorem K_69L2 (n : Nat) (x) : laws_vIn_L2 (n + 1) x = roundK C_69 B_69L2 (S_69L2 fuel) x (laws_vIn_L2 n) := by
 obtain ⟨_, _, _⟩ := x
 kernel_rfl
theorem F_69 (a : dens [.v (.slice (.slice .int)), .v (.slice .int)]) : E_69.run a = funK C_69 Try.f62 [.v (.slice (.slice .int)), .v (.slice .int)] [.v .bool] a (fun o r => some (N_69 o r)) := by
 kernel_rfl
theorem W_69 : loopsOf D_69 = [B_69L2] := by kernel_rfl
theorem R_69L2 : firstReg B_69L2 = 2 := by kernel_rfl
theorem Q_69 : Try.prog.funcs[62]? = some Try.f62 ∧ (Try.f62.name == "runtime.NumGoroutine") = false ∧ Try.f62.body = some D_69 := ⟨Try.func62, by kernel_rfl, by kernel_rfl⟩
theorem H_69 : Holds Try.prog 62 E_69 :=
 holds_of (cx := C_69) (tabOk_ok tabT rfl).1 (allT_ok ⟨⟨H_33, _, _, Q_33⟩, trivial⟩) mixT Q_69.1 Q_69.2.2 (loops_of W_69 ⟨loop_of (cx := C_69) (L := S_69L2 fuel) rfl (by rw [R_69L2]; rfl) ⟨laws_vIn_L2, fun _ => rfl, fun n x => K_69L2 n x, fuel, fun _ => rfl⟩, trivial⟩) (enc := N_69) (fun _ _ => ⟨rfl, rfl⟩) F_69
theorem K_70L32 (n : Nat) (x) : laws_FnLinear_L32 (n + 1) x = roundK C_70 B_70L32 (S_70L32 fuel) x (laws_FnLinear_L32 n) := by
 obtain ⟨_, _, _, _, _, _, _, _⟩ := x
 kernel_rfl
theorem K_70L42 (n : Nat) (x) : laws_FnLinear_L42 (n + 1) x = roundK C_70 B_70L42 (S_70L42 fuel) x (laws_FnLinear_L42 n) := by
 obtain ⟨_, _, _, _, _, _, _, _⟩ := x
 kernel_rfl
theorem K_70L52 (n : Nat) (x) : laws_FnLinear_L52 (n + 1) x = roundK C_70 B_70L52 (S_70L52 fuel) x (laws_FnLinear_L52 n) := by
 obtain ⟨_, _, _, _, _, _, _, _, _⟩ := x
 kernel_rfl
theorem K_70L48 (n : Nat) (x) : laws_FnLinear_L48 (n + 1) x = roundK C_70 B_70L48 (S_70L48 fuel) x (laws_FnLinear_L48 n) := by
 obtain ⟨_, _, _, _, _, _, _⟩ := x
 kernel_rfl
theorem K_70L38 (n : Nat) (x) : laws_FnLinear_L38 (n + 1) x = roundK C_70 B_70L38 (S_70L38 fuel) x (laws_FnLinear_L38 n) := by
 obtain ⟨_, _, _, _, _, _⟩ := x
 kernel_rfl
theorem F_70 (a : dens [.v (.slice (.num .u8))]) : E_70.run a = funK C_70 Try.f6 [.v (.slice (.num .u8))] [.v .bool] a (fun o r => some (N_70 o r)) := by
 kernel_rfl
theorem W_70 : loopsOf D_70 = [B_70L32, B_70L38, B_70L42, B_70L48, B_70L52] := by kernel_rfl
theorem R_70L32 : firstReg B_70L32 = 32 := by kernel_rfl
theorem R_70L42 : firstReg B_70L42 = 42 := by kernel_rfl
theorem R_70L52 : firstReg B_70L52 = 52 := by kernel_rfl
theorem R_70L48 : firstReg B_70L48 = 48 := by kernel_rfl
theorem R_70L38 : firstReg B_70L38 = 38 := by kernel_rfl
theorem Q_70 : Try.prog.funcs[6]? = some Try.f6 ∧ (Try.f6.name == "runtime.NumGoroutine") = false ∧ Try.f6.body = some D_70 := ⟨Try.func6, by kernel_rfl, by kernel_rfl⟩
theorem H_70 : Holds Try.prog 6 E_70 :=
 holds_of (cx := C_70) (tabOk_ok tabT rfl).1 (allT_ok ⟨⟨H_1, _, _, Q_1⟩, ⟨⟨H_9, _, _, Q_9⟩, ⟨⟨H_20, _, _, Q_20⟩, ⟨⟨H_32, _, _, Q_32⟩, ⟨⟨H_12, _, _, Q_12⟩, ⟨⟨H_35, _, _, Q_35⟩, ⟨⟨H_42, _, _, Q_42⟩, ⟨⟨H_45, _, _, Q_45⟩, ⟨⟨H_33, _, _, Q_33⟩, ⟨⟨H_46, _, _, Q_46⟩, ⟨⟨H_49, _, _, Q_49⟩, ⟨⟨H_53, _, _, Q_53⟩, ⟨⟨H_55, _, _, Q_55⟩, ⟨⟨H_34, _, _, Q_34⟩, ⟨⟨H_57, _, _, Q_57⟩, ⟨⟨H_59, _, _, Q_59⟩, ⟨⟨H_62, _, _, Q_62⟩, ⟨⟨H_68, _, _, Q_68⟩, ⟨⟨H_69, _, _, Q_69⟩, trivial⟩⟩⟩⟩⟩⟩⟩⟩⟩⟩⟩⟩⟩⟩⟩⟩⟩⟩⟩) mixT Q_70.1 Q_70.2.2 (loops_of W_70 ⟨loop_of (cx := C_70) (L := S_70L32 fuel) rfl (by rw [R_70L32]; rfl) ⟨laws_FnLinear_L32, fun _ => rfl, fun n x => K_70L32 n x, fuel, fun _ => rfl⟩, ⟨loop_of (cx := C_70) (L := S_70L38 fuel) rfl (by rw [R_70L38]; rfl) ⟨laws_FnLinear_L38, fun _ => rfl, fun n x => K_70L38 n x, fuel, fun _ => rfl⟩, ⟨loop_of (cx := C_70) (L := S_70L42 fuel) rfl (by rw [R_70L42]; rfl) ⟨laws_FnLinear_L42, fun _ => rfl, fun n x => K_70L42 n x, fuel, fun _ => rfl⟩, ⟨loop_of (cx := C_70) (L := S_70L48 fuel) rfl (by rw [R_70L48]; rfl) ⟨laws_FnLinear_L48, fun _ => rfl, fun n x => K_70L48 n x, fuel, fun _ => rfl⟩, ⟨loop_of (cx := C_70) (L := S_70L52 fuel) rfl (by rw [R_70L52]; rfl) ⟨laws_FnLinear_L52, fun _ => rfl, fun n x => K_70L52 n x, fuel, fun _ => rfl⟩, trivial⟩⟩⟩⟩⟩) (enc := N_70) (fun _ _ => ⟨rfl, rfl⟩) F_70
end T
