/- Each typed function is what the program computes; no conditions. -/
import Derived.Test.YtcnlpelkabjfaaaCFnCores
set_option linter.all false
set_option maxRecDepth 10000
open Go Go.Va Go.Proofs
namespace T
theorem F_1 (a : dens [.v (.slice (.num .u8))]) : E_1.run a = funK C_1 Try.f14 [.v (.slice (.num .u8))] [.v .bool] a (fun o r => some (N_1 o r)) := by
 kernel_rfl
theorem W_1 : loopsOf D_1 = [] := by kernel_rfl
theorem Q_1 : Try.prog.funcs[14]? = some Try.f14 ∧ (Try.f14.name == "runtime.NumGoroutine") = false ∧ Try.f14.body = some D_1 := ⟨Try.func14, by kernel_rfl, by kernel_rfl⟩
theorem H_1 : Holds Try.prog 14 E_1 :=
 holds_of (cx := C_1) (tabOk_ok tabT rfl).1 (allT_ok trivial) mixT Q_1.1 Q_1.2.2 (loops_of W_1 trivial) (enc := N_1) (fun _ _ => ⟨rfl, rfl⟩) F_1
theorem F_2 (a : dens [.bx (.v (.pair (.slice (.num .u8)) (.pair .int (.num .u64))))]) : E_2.run a = funK C_2 Try.f121 [.bx (.v (.pair (.slice (.num .u8)) (.pair .int (.num .u64))))] [.v .int] a (fun o r => some (N_2 o r)) := by
 kernel_rfl
theorem W_2 : loopsOf D_2 = [] := by kernel_rfl
theorem Q_2 : Try.prog.funcs[121]? = some Try.f121 ∧ (Try.f121.name == "runtime.NumGoroutine") = false ∧ Try.f121.body = some D_2 := ⟨Try.func121, by kernel_rfl, by kernel_rfl⟩
theorem H_2 : Holds Try.prog 121 E_2 :=
 holds_of (cx := C_2) (tabOk_ok tabT rfl).1 (allT_ok trivial) mixT Q_2.1 Q_2.2.2 (loops_of W_2 trivial) (enc := N_2) (fun _ _ => ⟨rfl, rfl⟩) F_2
theorem F_3 (a : dens [.bx (.v (.pair (.slice (.num .u8)) (.pair .int (.num .u64)))), .v .int]) : E_3.run a = funK C_3 Try.f112 [.bx (.v (.pair (.slice (.num .u8)) (.pair .int (.num .u64)))), .v .int] [.v .int] a (fun o r => some (N_3 o r)) := by
 kernel_rfl
theorem W_3 : loopsOf D_3 = [] := by kernel_rfl
theorem Q_3 : Try.prog.funcs[112]? = some Try.f112 ∧ (Try.f112.name == "runtime.NumGoroutine") = false ∧ Try.f112.body = some D_3 := ⟨Try.func112, by kernel_rfl, by kernel_rfl⟩
theorem H_3 : Holds Try.prog 112 E_3 :=
 holds_of (cx := C_3) (tabOk_ok tabT rfl).1 (allT_ok ⟨⟨H_2, _, _, Q_2⟩, trivial⟩) mixT Q_3.1 Q_3.2.2 (loops_of W_3 trivial) (enc := N_3) (fun _ _ => ⟨rfl, rfl⟩) F_3
theorem F_4 (a : dens [.bx (.v (.pair (.slice (.num .u8)) (.pair .int (.num .u64)))), .v .int]) : E_4.run a = funK C_4 Try.f110 [.bx (.v (.pair (.slice (.num .u8)) (.pair .int (.num .u64)))), .v .int] [.v .bool] a (fun o r => some (N_4 o r)) := by
 kernel_rfl
theorem W_4 : loopsOf D_4 = [] := by kernel_rfl
theorem Q_4 : Try.prog.funcs[110]? = some Try.f110 ∧ (Try.f110.name == "runtime.NumGoroutine") = false ∧ Try.f110.body = some D_4 := ⟨Try.func110, by kernel_rfl, by kernel_rfl⟩
theorem H_4 : Holds Try.prog 110 E_4 :=
 holds_of (cx := C_4) (tabOk_ok tabT rfl).1 (allT_ok ⟨⟨H_3, _, _, Q_3⟩, trivial⟩) mixT Q_4.1 Q_4.2.2 (loops_of W_4 trivial) (enc := N_4) (fun _ _ => ⟨rfl, rfl⟩) F_4
theorem F_5 (a : dens [.v .int]) : E_5.run a = funK C_5 Try.f111 [.v .int] [.v .int, .mv (.pair .int (.slice (.slice .int))) 0] a (fun o r => some (N_5 o r)) := by
 kernel_rfl
theorem W_5 : loopsOf D_5 = [] := by kernel_rfl
theorem Q_5 : Try.prog.funcs[111]? = some Try.f111 ∧ (Try.f111.name == "runtime.NumGoroutine") = false ∧ Try.f111.body = some D_5 := ⟨Try.func111, by kernel_rfl, by kernel_rfl⟩
theorem H_5 : Holds Try.prog 111 E_5 :=
 holds_of (cx := C_5) (tabOk_ok tabT rfl).1 (allT_ok trivial) mixT Q_5.1 Q_5.2.2 (loops_of W_5 trivial) (enc := N_5) (fun _ _ => ⟨rfl, rfl⟩) F_5
theorem F_6 (a : dens [.v (.slice .int)]) : E_6.run a = funK C_6 Try.f61 [.v (.slice .int)] [.mv .int 0] a (fun o r => some (N_6 o r)) := by
 kernel_rfl
theorem W_6 : loopsOf D_6 = [] := by kernel_rfl
theorem Q_6 : Try.prog.funcs[61]? = some Try.f61 ∧ (Try.f61.name == "runtime.NumGoroutine") = false ∧ Try.f61.body = some D_6 := ⟨Try.func61, by kernel_rfl, by kernel_rfl⟩
theorem H_6 : Holds Try.prog 61 E_6 :=
 holds_of (cx := C_6) (tabOk_ok tabT rfl).1 (allT_ok trivial) mixT Q_6.1 Q_6.2.2 (loops_of W_6 trivial) (enc := N_6) (fun _ _ => ⟨rfl, rfl⟩) F_6
theorem F_7 (a : dens [.bx (.v (.pair (.slice (.num .u8)) (.pair .int (.num .u64)))), .v (.slice .int)]) : E_7.run a = funK C_7 Try.f113 [.bx (.v (.pair (.slice (.num .u8)) (.pair .int (.num .u64)))), .v (.slice .int)] [.v .int] a (fun o r => some (N_7 o r)) := by
 kernel_rfl
theorem W_7 : loopsOf D_7 = [] := by kernel_rfl
theorem Q_7 : Try.prog.funcs[113]? = some Try.f113 ∧ (Try.f113.name == "runtime.NumGoroutine") = false ∧ Try.f113.body = some D_7 := ⟨Try.func113, by kernel_rfl, by kernel_rfl⟩
theorem H_7 : Holds Try.prog 113 E_7 :=
 holds_of (cx := C_7) (tabOk_ok tabT rfl).1 (allT_ok ⟨⟨H_3, _, _, Q_3⟩, trivial⟩) mixT Q_7.1 Q_7.2.2 (loops_of W_7 trivial) (enc := N_7) (fun _ _ => ⟨rfl, rfl⟩) F_7
theorem F_8 (a : dens [.v .int, .v .int, .v .int]) : E_8.run a = funK C_8 Try.f72 [.v .int, .v .int, .v .int] [.v .bool] a (fun o r => some (N_8 o r)) := by
 kernel_rfl
theorem W_8 : loopsOf D_8 = [] := by kernel_rfl
theorem Q_8 : Try.prog.funcs[72]? = some Try.f72 ∧ (Try.f72.name == "runtime.NumGoroutine") = false ∧ Try.f72.body = some D_8 := ⟨Try.func72, by kernel_rfl, by kernel_rfl⟩
theorem H_8 : Holds Try.prog 72 E_8 :=
 holds_of (cx := C_8) (tabOk_ok tabT rfl).1 (allT_ok trivial) mixT Q_8.1 Q_8.2.2 (loops_of W_8 trivial) (enc := N_8) (fun _ _ => ⟨rfl, rfl⟩) F_8
theorem F_9 (a : dens [.v .int]) : E_9.run a = funK C_9 Try.f122 [.v .int] [.v .bool] a (fun o r => some (N_9 o r)) := by
 kernel_rfl
theorem W_9 : loopsOf D_9 = [] := by kernel_rfl
theorem Q_9 : Try.prog.funcs[122]? = some Try.f122 ∧ (Try.f122.name == "runtime.NumGoroutine") = false ∧ Try.f122.body = some D_9 := ⟨Try.func122, by kernel_rfl, by kernel_rfl⟩
theorem H_9 : Holds Try.prog 122 E_9 :=
 holds_of (cx := C_9) (tabOk_ok tabT rfl).1 (allT_ok ⟨⟨H_8, _, _, Q_8⟩, trivial⟩) mixT Q_9.1 Q_9.2.2 (loops_of W_9 trivial) (enc := N_9) (fun _ _ => ⟨rfl, rfl⟩) F_9
theorem K_10L2 (n : Nat) (x) : spec_l3Less_L2 (n + 1) x = roundK C_10 B_10L2 (S_10L2 fuel) x (spec_l3Less_L2 n) := by
 obtain ⟨_, _, _⟩ := x
 kernel_rfl
theorem F_10 (a : dens [.v (.slice .int), .v (.slice .int)]) : E_10.run a = funK C_10 Try.f115 [.v (.slice .int), .v (.slice .int)] [.v .bool] a (fun o r => some (N_10 o r)) := by
 kernel_rfl
theorem W_10 : loopsOf D_10 = [B_10L2] := by kernel_rfl
theorem R_10L2 : firstReg B_10L2 = 2 := by kernel_rfl
theorem Q_10 : Try.prog.funcs[115]? = some Try.f115 ∧ (Try.f115.name == "runtime.NumGoroutine") = false ∧ Try.f115.body = some D_10 := ⟨Try.func115, by kernel_rfl, by kernel_rfl⟩
theorem H_10 : Holds Try.prog 115 E_10 :=
 holds_of (cx := C_10) (tabOk_ok tabT rfl).1 (allT_ok trivial) mixT Q_10.1 Q_10.2.2 (loops_of W_10 ⟨loop_of (cx := C_10) (L := S_10L2 fuel) rfl (by rw [R_10L2]; rfl) ⟨spec_l3Less_L2, fun _ => rfl, fun n x => K_10L2 n x, fuel, fun _ => rfl⟩, trivial⟩) (enc := N_10) (fun _ _ => ⟨rfl, rfl⟩) F_10
theorem K_11L4 (n : Nat) (x) : spec_l1Same_L4 (n + 1) x = roundK C_11 B_11L4 (S_11L4 fuel) x (spec_l1Same_L4 n) := by
 obtain ⟨_, _, _⟩ := x
 kernel_rfl
theorem F_11 (a : dens [.v (.slice .int), .v (.slice .int)]) : E_11.run a = funK C_11 Try.f116 [.v (.slice .int), .v (.slice .int)] [.v .bool] a (fun o r => some (N_11 o r)) := by
 kernel_rfl
theorem W_11 : loopsOf D_11 = [B_11L4] := by kernel_rfl
theorem R_11L4 : firstReg B_11L4 = 4 := by kernel_rfl
theorem Q_11 : Try.prog.funcs[116]? = some Try.f116 ∧ (Try.f116.name == "runtime.NumGoroutine") = false ∧ Try.f116.body = some D_11 := ⟨Try.func116, by kernel_rfl, by kernel_rfl⟩
theorem H_11 : Holds Try.prog 116 E_11 :=
 holds_of (cx := C_11) (tabOk_ok tabT rfl).1 (allT_ok trivial) mixT Q_11.1 Q_11.2.2 (loops_of W_11 ⟨loop_of (cx := C_11) (L := S_11L4 fuel) rfl (by rw [R_11L4]; rfl) ⟨spec_l1Same_L4, fun _ => rfl, fun n x => K_11L4 n x, fuel, fun _ => rfl⟩, trivial⟩) (enc := N_11) (fun _ _ => ⟨rfl, rfl⟩) F_11
theorem K_12L2 (n : Nat) (x) : spec_l8Find_L2 (n + 1) x = roundK C_12 B_12L2 (S_12L2 fuel) x (spec_l8Find_L2 n) := by
 obtain ⟨_, _, _, _⟩ := x
 kernel_rfl
theorem F_12 (a : dens [.v (.slice (.slice .int)), .v (.slice .int)]) : E_12.run a = funK C_12 Try.f98 [.v (.slice (.slice .int)), .v (.slice .int)] [.v .int, .v .bool] a (fun o r => some (N_12 o r)) := by
 kernel_rfl
theorem W_12 : loopsOf D_12 = [B_12L2] := by kernel_rfl
theorem R_12L2 : firstReg B_12L2 = 2 := by kernel_rfl
theorem Q_12 : Try.prog.funcs[98]? = some Try.f98 ∧ (Try.f98.name == "runtime.NumGoroutine") = false ∧ Try.f98.body = some D_12 := ⟨Try.func98, by kernel_rfl, by kernel_rfl⟩
theorem H_12 : Holds Try.prog 98 E_12 :=
 holds_of (cx := C_12) (tabOk_ok tabT rfl).1 (allT_ok ⟨⟨H_10, _, _, Q_10⟩, ⟨⟨H_11, _, _, Q_11⟩, trivial⟩⟩) mixT Q_12.1 Q_12.2.2 (loops_of W_12 ⟨loop_of (cx := C_12) (L := S_12L2 fuel) rfl (by rw [R_12L2]; rfl) ⟨spec_l8Find_L2, fun _ => rfl, fun n x => K_12L2 n x, fuel, fun _ => rfl⟩, trivial⟩) (enc := N_12) (fun _ _ => ⟨rfl, rfl⟩) F_12
theorem F_13 (a : dens [.v (.slice (.slice .int)), .v (.slice .int)]) : E_13.run a = funK C_13 Try.f123 [.v (.slice (.slice .int)), .v (.slice .int)] [.v (.slice (.slice .int))] a (fun o r => some (N_13 o r)) := by
 kernel_rfl
theorem W_13 : loopsOf D_13 = [] := by kernel_rfl
theorem Q_13 : Try.prog.funcs[123]? = some Try.f123 ∧ (Try.f123.name == "runtime.NumGoroutine") = false ∧ Try.f123.body = some D_13 := ⟨Try.func123, by kernel_rfl, by kernel_rfl⟩
theorem H_13 : Holds Try.prog 123 E_13 :=
 holds_of (cx := C_13) (tabOk_ok tabT rfl).1 (allT_ok ⟨⟨H_12, _, _, Q_12⟩, trivial⟩) mixT Q_13.1 Q_13.2.2 (loops_of W_13 trivial) (enc := N_13) (fun _ _ => ⟨rfl, rfl⟩) F_13
theorem K_14L3 (n : Nat) (x) : spec_l1Cur_partition13_L3 (n + 1) x = roundK C_14 B_14L3 (S_14L3 fuel) x (spec_l1Cur_partition13_L3 n) := by
 obtain ⟨_, _, _, _⟩ := x
 kernel_rfl
theorem F_14 (a : dens [.bx (.v (.pair (.slice (.num .u8)) (.pair .int (.num .u64)))), .v .int]) : E_14.run a = funK C_14 Try.f125 [.bx (.v (.pair (.slice (.num .u8)) (.pair .int (.num .u64)))), .v .int] [.mv .int 0] a (fun o r => some (N_14 o r)) := by
 kernel_rfl
theorem W_14 : loopsOf D_14 = [B_14L3] := by kernel_rfl
theorem R_14L3 : firstReg B_14L3 = 3 := by kernel_rfl
theorem Q_14 : Try.prog.funcs[125]? = some Try.f125 ∧ (Try.f125.name == "runtime.NumGoroutine") = false ∧ Try.f125.body = some D_14 := ⟨Try.func125, by kernel_rfl, by kernel_rfl⟩
theorem H_14 : Holds Try.prog 125 E_14 :=
 holds_of (cx := C_14) (tabOk_ok tabT rfl).1 (allT_ok ⟨⟨H_3, _, _, Q_3⟩, trivial⟩) mixT Q_14.1 Q_14.2.2 (loops_of W_14 ⟨loop_of (cx := C_14) (L := S_14L3 fuel) rfl (by rw [R_14L3]; rfl) ⟨spec_l1Cur_partition13_L3, fun _ => rfl, fun n x => K_14L3 n x, fuel, fun _ => rfl⟩, trivial⟩) (enc := N_14) (fun _ _ => ⟨rfl, rfl⟩) F_14
theorem K_15L6 (n : Nat) (x) : spec_l13OfPartition_L6 (n + 1) x = roundK C_15 B_15L6 (S_15L6 fuel) x (spec_l13OfPartition_L6 n) := by
 obtain ⟨_, _, _, _, _⟩ := x
 kernel_rfl
theorem K_15L3 (n : Nat) (x) : spec_l13OfPartition_L3 (n + 1) x = roundK C_15 B_15L3 (S_15L3 fuel) x (spec_l13OfPartition_L3 n) := by
 obtain ⟨_, _, _, _⟩ := x
 kernel_rfl
theorem F_15 (a : dens [.v (.slice .int)]) : E_15.run a = funK C_15 Try.f124 [.v (.slice .int)] [.pr (.v .int) (.mv (.slice .int) 0)] a (fun o r => some (N_15 o r)) := by
 kernel_rfl
theorem W_15 : loopsOf D_15 = [B_15L3, B_15L6] := by kernel_rfl
theorem R_15L6 : firstReg B_15L6 = 6 := by kernel_rfl
theorem R_15L3 : firstReg B_15L3 = 3 := by kernel_rfl
theorem Q_15 : Try.prog.funcs[124]? = some Try.f124 ∧ (Try.f124.name == "runtime.NumGoroutine") = false ∧ Try.f124.body = some D_15 := ⟨Try.func124, by kernel_rfl, by kernel_rfl⟩
theorem H_15 : Holds Try.prog 124 E_15 :=
 holds_of (cx := C_15) (tabOk_ok tabT rfl).1 (allT_ok trivial) mixT Q_15.1 Q_15.2.2 (loops_of W_15 ⟨loop_of (cx := C_15) (L := S_15L3 fuel) rfl (by rw [R_15L3]; rfl) ⟨spec_l13OfPartition_L3, fun _ => rfl, fun n x => K_15L3 n x, fuel, fun _ => rfl⟩, ⟨loop_of (cx := C_15) (L := S_15L6 fuel) rfl (by rw [R_15L6]; rfl) ⟨spec_l13OfPartition_L6, fun _ => rfl, fun n x => K_15L6 n x, fuel, fun _ => rfl⟩, trivial⟩⟩) (enc := N_15) (fun _ _ => ⟨rfl, rfl⟩) F_15
theorem K_16L2 (n : Nat) (x) : spec_l2Pow_L2 (n + 1) x = roundK C_16 B_16L2 (S_16L2 fuel) x (spec_l2Pow_L2 n) := by
 obtain ⟨_, _, _⟩ := x
 kernel_rfl
theorem F_16 (a : dens [.v .int, .v .int]) : E_16.run a = funK C_16 Try.f76 [.v .int, .v .int] [.v .int] a (fun o r => some (N_16 o r)) := by
 kernel_rfl
theorem W_16 : loopsOf D_16 = [B_16L2] := by kernel_rfl
theorem R_16L2 : firstReg B_16L2 = 2 := by kernel_rfl
theorem Q_16 : Try.prog.funcs[76]? = some Try.f76 ∧ (Try.f76.name == "runtime.NumGoroutine") = false ∧ Try.f76.body = some D_16 := ⟨Try.func76, by kernel_rfl, by kernel_rfl⟩
theorem H_16 : Holds Try.prog 76 E_16 :=
 holds_of (cx := C_16) (tabOk_ok tabT rfl).1 (allT_ok trivial) mixT Q_16.1 Q_16.2.2 (loops_of W_16 ⟨loop_of (cx := C_16) (L := S_16L2 fuel) rfl (by rw [R_16L2]; rfl) ⟨spec_l2Pow_L2, fun _ => rfl, fun n x => K_16L2 n x, fuel, fun _ => rfl⟩, trivial⟩) (enc := N_16) (fun _ _ => ⟨rfl, rfl⟩) F_16
theorem K_17L3 (n : Nat) (x) : spec_l2Args_L3 (n + 1) x = roundK C_17 B_17L3 (S_17L3 fuel) x (spec_l2Args_L3 n) := by
 obtain ⟨_, _, _, _⟩ := x
 kernel_rfl
theorem F_17 (a : dens [.v .int, .v .int, .v .int]) : E_17.run a = funK C_17 Try.f103 [.v .int, .v .int, .v .int] [.mv .int 0] a (fun o r => some (N_17 o r)) := by
 kernel_rfl
theorem W_17 : loopsOf D_17 = [B_17L3] := by kernel_rfl
theorem R_17L3 : firstReg B_17L3 = 3 := by kernel_rfl
theorem Q_17 : Try.prog.funcs[103]? = some Try.f103 ∧ (Try.f103.name == "runtime.NumGoroutine") = false ∧ Try.f103.body = some D_17 := ⟨Try.func103, by kernel_rfl, by kernel_rfl⟩
theorem H_17 : Holds Try.prog 103 E_17 :=
 holds_of (cx := C_17) (tabOk_ok tabT rfl).1 (allT_ok trivial) mixT Q_17.1 Q_17.2.2 (loops_of W_17 ⟨loop_of (cx := C_17) (L := S_17L3 fuel) rfl (by rw [R_17L3]; rfl) ⟨spec_l2Args_L3, fun _ => rfl, fun n x => K_17L3 n x, fuel, fun _ => rfl⟩, trivial⟩) (enc := N_17) (fun _ _ => ⟨rfl, rfl⟩) F_17
theorem K_18L3 (n : Nat) (x) : spec_l13Full_L3 (n + 1) x = roundK C_18 B_18L3 (S_18L3 fuel) x (spec_l13Full_L3 n) := by
 obtain ⟨_, _, _, _, _⟩ := x
 kernel_rfl
theorem F_18 (a : dens [.v .int, .v .int]) : E_18.run a = funK C_18 Try.f126 [.v .int, .v .int] [.pr (.v .int) (.mv (.slice .int) 0)] a (fun o r => some (N_18 o r)) := by
 kernel_rfl
theorem W_18 : loopsOf D_18 = [B_18L3] := by kernel_rfl
theorem R_18L3 : firstReg B_18L3 = 3 := by kernel_rfl
theorem Q_18 : Try.prog.funcs[126]? = some Try.f126 ∧ (Try.f126.name == "runtime.NumGoroutine") = false ∧ Try.f126.body = some D_18 := ⟨Try.func126, by kernel_rfl, by kernel_rfl⟩
theorem H_18 : Holds Try.prog 126 E_18 :=
 holds_of (cx := C_18) (tabOk_ok tabT rfl).1 (allT_ok ⟨⟨H_16, _, _, Q_16⟩, ⟨⟨H_17, _, _, Q_17⟩, trivial⟩⟩) mixT Q_18.1 Q_18.2.2 (loops_of W_18 ⟨loop_of (cx := C_18) (L := S_18L3 fuel) rfl (by rw [R_18L3]; rfl) ⟨spec_l13Full_L3, fun _ => rfl, fun n x => K_18L3 n x, fuel, fun _ => rfl⟩, trivial⟩) (enc := N_18) (fun _ _ => ⟨rfl, rfl⟩) F_18
theorem F_19 (a : dens [.mv (.slice .int) 0, .v (.slice .int)]) : E_19.run a = funK C_19 Try.f123 [.mv (.slice .int) 0, .v (.slice .int)] [.mv (.slice .int) 0] a (fun o r => some (N_19 o r)) := by
 kernel_rfl
theorem W_19 : loopsOf D_19 = [] := by kernel_rfl
theorem Q_19 : Try.prog.funcs[123]? = some Try.f123 ∧ (Try.f123.name == "runtime.NumGoroutine") = false ∧ Try.f123.body = some D_19 := ⟨Try.func123, by kernel_rfl, by kernel_rfl⟩
theorem H_19 : Holds Try.prog 123 E_19 :=
 holds_of (cx := C_19) (tabOk_ok tabT rfl).1 (allT_ok ⟨⟨H_12, _, _, Q_12⟩, trivial⟩) mixT Q_19.1 Q_19.2.2 (loops_of W_19 trivial) (enc := N_19) (fun _ _ => ⟨rfl, rfl⟩) F_19
theorem K_20L9 (n : Nat) (x) : spec_l1Cur_relation_L9 (n + 1) x = roundK C_20 B_20L9 (S_20L9 fuel) x (spec_l1Cur_relation_L9 n) := by
 obtain ⟨_, _, _, _, _, _, _, _⟩ := x
 kernel_rfl
theorem K_20L5 (n : Nat) (x) : spec_l1Cur_relation_L5 (n + 1) x = roundK C_20 B_20L5 (S_20L5 fuel) x (spec_l1Cur_relation_L5 n) := by
 obtain ⟨_, _, _, _, _, _⟩ := x
 kernel_rfl
theorem F_20 (a : dens [.bx (.v (.pair (.slice (.num .u8)) (.pair .int (.num .u64)))), .v .int, .v .int]) : E_20.run a = funK C_20 Try.f114 [.bx (.v (.pair (.slice (.num .u8)) (.pair .int (.num .u64)))), .v .int, .v .int] [.v (.pair .int (.slice (.slice .int)))] a (fun o r => some (N_20 o r)) := by
 kernel_rfl
theorem W_20 : loopsOf D_20 = [B_20L5, B_20L9] := by kernel_rfl
theorem R_20L9 : firstReg B_20L9 = 9 := by kernel_rfl
theorem R_20L5 : firstReg B_20L5 = 5 := by kernel_rfl
theorem Q_20 : Try.prog.funcs[114]? = some Try.f114 ∧ (Try.f114.name == "runtime.NumGoroutine") = false ∧ Try.f114.body = some D_20 := ⟨Try.func114, by kernel_rfl, by kernel_rfl⟩
theorem H_20 : Holds Try.prog 114 E_20 :=
 holds_of (cx := C_20) (tabOk_ok tabT rfl).1 (allT_ok ⟨⟨H_8, _, _, Q_8⟩, ⟨⟨H_4, _, _, Q_4⟩, ⟨⟨H_3, _, _, Q_3⟩, ⟨⟨H_7, _, _, Q_7⟩, ⟨⟨H_9, _, _, Q_9⟩, ⟨⟨H_19, _, _, Q_19⟩, ⟨⟨H_15, _, _, Q_15⟩, ⟨⟨H_14, _, _, Q_14⟩, ⟨⟨H_18, _, _, Q_18⟩, trivial⟩⟩⟩⟩⟩⟩⟩⟩⟩) mixT Q_20.1 Q_20.2.2 (loops_of W_20 ⟨loop_of (cx := C_20) (L := S_20L5 fuel) rfl (by rw [R_20L5]; rfl) ⟨spec_l1Cur_relation_L5, fun _ => rfl, fun n x => K_20L5 n x, fuel, fun _ => rfl⟩, ⟨loop_of (cx := C_20) (L := S_20L9 fuel) rfl (by rw [R_20L9]; rfl) ⟨spec_l1Cur_relation_L9, fun _ => rfl, fun n x => K_20L9 n x, fuel, fun _ => rfl⟩, trivial⟩⟩) (enc := N_20) (fun _ _ => ⟨rfl, rfl⟩) F_20
theorem K_21L9 (n : Nat) (x) : spec_l1Cur_template_L9 (n + 1) x = roundK C_21 B_21L9 (S_21L9 fuel) x (spec_l1Cur_template_L9 n) := by
 obtain ⟨_, _, _, _, _, _, _⟩ := x
 kernel_rfl
theorem K_21L5 (n : Nat) (x) : spec_l1Cur_template_L5 (n + 1) x = roundK C_21 B_21L5 (S_21L5 fuel) x (spec_l1Cur_template_L5 n) := by
 obtain ⟨_, _, _, _, _⟩ := x
 kernel_rfl
theorem K_21L17 (n : Nat) (x) : spec_l1Cur_template_L17 (n + 1) x = roundK C_21 B_21L17 (S_21L17 fuel) x (spec_l1Cur_template_L17 n) := by
 obtain ⟨_, _, _, _⟩ := x
 kernel_rfl
theorem F_21 (a : dens [.bx (.v (.pair (.slice (.num .u8)) (.pair .int (.num .u64))))]) : E_21.run a = funK C_21 Try.f88 [.bx (.v (.pair (.slice (.num .u8)) (.pair .int (.num .u64))))] [.v .int, .mv (.pair .int (.slice (.slice .int))) 0] a (fun o r => some (N_21 o r)) := by
 kernel_rfl
theorem W_21 : loopsOf D_21 = [B_21L5, B_21L9, B_21L17] := by kernel_rfl
theorem R_21L9 : firstReg B_21L9 = 9 := by kernel_rfl
theorem R_21L5 : firstReg B_21L5 = 5 := by kernel_rfl
theorem R_21L17 : firstReg B_21L17 = 17 := by kernel_rfl
theorem Q_21 : Try.prog.funcs[88]? = some Try.f88 ∧ (Try.f88.name == "runtime.NumGoroutine") = false ∧ Try.f88.body = some D_21 := ⟨Try.func88, by kernel_rfl, by kernel_rfl⟩
theorem H_21 : Holds Try.prog 88 E_21 :=
 holds_of (cx := C_21) (tabOk_ok tabT rfl).1 (allT_ok ⟨⟨H_6, _, _, Q_6⟩, ⟨⟨H_4, _, _, Q_4⟩, ⟨⟨H_5, _, _, Q_5⟩, ⟨⟨H_3, _, _, Q_3⟩, ⟨⟨H_7, _, _, Q_7⟩, ⟨⟨H_20, _, _, Q_20⟩, trivial⟩⟩⟩⟩⟩⟩) mixT Q_21.1 Q_21.2.2 (loops_of W_21 ⟨loop_of (cx := C_21) (L := S_21L5 fuel) rfl (by rw [R_21L5]; rfl) ⟨spec_l1Cur_template_L5, fun _ => rfl, fun n x => K_21L5 n x, fuel, fun _ => rfl⟩, ⟨loop_of (cx := C_21) (L := S_21L9 fuel) rfl (by rw [R_21L9]; rfl) ⟨spec_l1Cur_template_L9, fun _ => rfl, fun n x => K_21L9 n x, fuel, fun _ => rfl⟩, ⟨loop_of (cx := C_21) (L := S_21L17 fuel) rfl (by rw [R_21L17]; rfl) ⟨spec_l1Cur_template_L17, fun _ => rfl, fun n x => K_21L17 n x, fuel, fun _ => rfl⟩, trivial⟩⟩⟩) (enc := N_21) (fun _ _ => ⟨rfl, rfl⟩) F_21
theorem F_22 (a : dens [.v (.slice (.num .u8))]) : E_22.run a = funK C_22 Try.f48 [.v (.slice (.num .u8))] [.v .int, .mv (.pair .int (.slice (.slice .int))) 0] a (fun o r => some (N_22 o r)) := by
 kernel_rfl
theorem W_22 : loopsOf D_22 = [] := by kernel_rfl
theorem Q_22 : Try.prog.funcs[48]? = some Try.f48 ∧ (Try.f48.name == "runtime.NumGoroutine") = false ∧ Try.f48.body = some D_22 := ⟨Try.func48, by kernel_rfl, by kernel_rfl⟩
theorem H_22 : Holds Try.prog 48 E_22 :=
 holds_of (cx := C_22) (tabOk_ok tabT rfl).1 (allT_ok ⟨⟨H_21, _, _, Q_21⟩, trivial⟩) mixT Q_22.1 Q_22.2.2 (loops_of W_22 trivial) (enc := N_22) (fun _ _ => ⟨rfl, rfl⟩) F_22
theorem F_23 (a : dens [.v (.slice (.num .u8))]) : E_23.run a = funK C_23 Try.f15 [.v (.slice (.num .u8))] [.v .int, .mv (.pair .int (.slice (.slice .int))) 0] a (fun o r => some (N_23 o r)) := by
 kernel_rfl
theorem W_23 : loopsOf D_23 = [] := by kernel_rfl
theorem Q_23 : Try.prog.funcs[15]? = some Try.f15 ∧ (Try.f15.name == "runtime.NumGoroutine") = false ∧ Try.f15.body = some D_23 := ⟨Try.func15, by kernel_rfl, by kernel_rfl⟩
theorem H_23 : Holds Try.prog 15 E_23 :=
 holds_of (cx := C_23) (tabOk_ok tabT rfl).1 (allT_ok ⟨⟨H_22, _, _, Q_22⟩, trivial⟩) mixT Q_23.1 Q_23.2.2 (loops_of W_23 trivial) (enc := N_23) (fun _ _ => ⟨rfl, rfl⟩) F_23
theorem F_24 (a : dens [.v .int]) : E_24.run a = funK C_24 Try.f80 [.v .int] [.v .bool] a (fun o r => some (N_24 o r)) := by
 kernel_rfl
theorem W_24 : loopsOf D_24 = [] := by kernel_rfl
theorem Q_24 : Try.prog.funcs[80]? = some Try.f80 ∧ (Try.f80.name == "runtime.NumGoroutine") = false ∧ Try.f80.body = some D_24 := ⟨Try.func80, by kernel_rfl, by kernel_rfl⟩
theorem H_24 : Holds Try.prog 80 E_24 :=
 holds_of (cx := C_24) (tabOk_ok tabT rfl).1 (allT_ok trivial) mixT Q_24.1 Q_24.2.2 (loops_of W_24 trivial) (enc := N_24) (fun _ _ => ⟨rfl, rfl⟩) F_24
theorem K_25L2 (n : Nat) (x) : impl_inSize_L2 (n + 1) x = roundK C_25 B_25L2 (S_25L2 fuel) x (impl_inSize_L2 n) := by
 obtain ⟨_, _, _, _⟩ := x
 kernel_rfl
theorem F_25 (a : dens [.v (.slice .int), .v .int]) : E_25.run a = funK C_25 Try.f51 [.v (.slice .int), .v .int] [.v .bool] a (fun o r => some (N_25 o r)) := by
 kernel_rfl
theorem W_25 : loopsOf D_25 = [B_25L2] := by kernel_rfl
theorem R_25L2 : firstReg B_25L2 = 2 := by kernel_rfl
theorem Q_25 : Try.prog.funcs[51]? = some Try.f51 ∧ (Try.f51.name == "runtime.NumGoroutine") = false ∧ Try.f51.body = some D_25 := ⟨Try.func51, by kernel_rfl, by kernel_rfl⟩
theorem H_25 : Holds Try.prog 51 E_25 :=
 holds_of (cx := C_25) (tabOk_ok tabT rfl).1 (allT_ok trivial) mixT Q_25.1 Q_25.2.2 (loops_of W_25 ⟨loop_of (cx := C_25) (L := S_25L2 fuel) rfl (by rw [R_25L2]; rfl) ⟨impl_inSize_L2, fun _ => rfl, fun n x => K_25L2 n x, fuel, fun _ => rfl⟩, trivial⟩) (enc := N_25) (fun _ _ => ⟨rfl, rfl⟩) F_25
theorem K_26L2 (n : Nat) (x) : impl_compareLists_L2 (n + 1) x = roundK C_26 B_26L2 (S_26L2 fuel) x (impl_compareLists_L2 n) := by
 obtain ⟨_, _, _⟩ := x
 kernel_rfl
theorem F_26 (a : dens [.v (.slice .int), .v (.slice .int)]) : E_26.run a = funK C_26 Try.f119 [.v (.slice .int), .v (.slice .int)] [.v .int] a (fun o r => some (N_26 o r)) := by
 kernel_rfl
theorem W_26 : loopsOf D_26 = [B_26L2] := by kernel_rfl
theorem R_26L2 : firstReg B_26L2 = 2 := by kernel_rfl
theorem Q_26 : Try.prog.funcs[119]? = some Try.f119 ∧ (Try.f119.name == "runtime.NumGoroutine") = false ∧ Try.f119.body = some D_26 := ⟨Try.func119, by kernel_rfl, by kernel_rfl⟩
theorem H_26 : Holds Try.prog 119 E_26 :=
 holds_of (cx := C_26) (tabOk_ok tabT rfl).1 (allT_ok trivial) mixT Q_26.1 Q_26.2.2 (loops_of W_26 ⟨loop_of (cx := C_26) (L := S_26L2 fuel) rfl (by rw [R_26L2]; rfl) ⟨impl_compareLists_L2, fun _ => rfl, fun n x => K_26L2 n x, fuel, fun _ => rfl⟩, trivial⟩) (enc := N_26) (fun _ _ => ⟨rfl, rfl⟩) F_26
theorem K_27L4 (n : Nat) (x) : impl_isRelation_L4 (n + 1) x = roundK C_27 B_27L4 (S_27L4 fuel) x (impl_isRelation_L4 n) := by
 obtain ⟨_, _, _, _, _⟩ := x
 kernel_rfl
theorem F_27 (a : dens [.v .int, .v (.pair .int (.slice (.slice .int)))]) : E_27.run a = funK C_27 Try.f107 [.v .int, .v (.pair .int (.slice (.slice .int)))] [.v .bool] a (fun o r => some (N_27 o r)) := by
 kernel_rfl
theorem W_27 : loopsOf D_27 = [B_27L4] := by kernel_rfl
theorem R_27L4 : firstReg B_27L4 = 4 := by kernel_rfl
theorem Q_27 : Try.prog.funcs[107]? = some Try.f107 ∧ (Try.f107.name == "runtime.NumGoroutine") = false ∧ Try.f107.body = some D_27 := ⟨Try.func107, by kernel_rfl, by kernel_rfl⟩
theorem H_27 : Holds Try.prog 107 E_27 :=
 holds_of (cx := C_27) (tabOk_ok tabT rfl).1 (allT_ok ⟨⟨H_25, _, _, Q_25⟩, ⟨⟨H_26, _, _, Q_26⟩, trivial⟩⟩) mixT Q_27.1 Q_27.2.2 (loops_of W_27 ⟨loop_of (cx := C_27) (L := S_27L4 fuel) rfl (by rw [R_27L4]; rfl) ⟨impl_isRelation_L4, fun _ => rfl, fun n x => K_27L4 n x, fuel, fun _ => rfl⟩, trivial⟩) (enc := N_27) (fun _ _ => ⟨rfl, rfl⟩) F_27
theorem K_28L4 (n : Nat) (x) : impl_isTemplate_L4 (n + 1) x = roundK C_28 B_28L4 (S_28L4 fuel) x (impl_isTemplate_L4 n) := by
 obtain ⟨_, _, _, _⟩ := x
 kernel_rfl
theorem F_28 (a : dens [.v .int, .v (.slice (.pair .int (.slice (.slice .int))))]) : E_28.run a = funK C_28 Try.f81 [.v .int, .v (.slice (.pair .int (.slice (.slice .int))))] [.v .bool] a (fun o r => some (N_28 o r)) := by
 kernel_rfl
theorem W_28 : loopsOf D_28 = [B_28L4] := by kernel_rfl
theorem R_28L4 : firstReg B_28L4 = 4 := by kernel_rfl
theorem Q_28 : Try.prog.funcs[81]? = some Try.f81 ∧ (Try.f81.name == "runtime.NumGoroutine") = false ∧ Try.f81.body = some D_28 := ⟨Try.func81, by kernel_rfl, by kernel_rfl⟩
theorem H_28 : Holds Try.prog 81 E_28 :=
 holds_of (cx := C_28) (tabOk_ok tabT rfl).1 (allT_ok ⟨⟨H_27, _, _, Q_27⟩, trivial⟩) mixT Q_28.1 Q_28.2.2 (loops_of W_28 ⟨loop_of (cx := C_28) (L := S_28L4 fuel) rfl (by rw [R_28L4]; rfl) ⟨impl_isTemplate_L4, fun _ => rfl, fun n x => K_28L4 n x, fuel, fun _ => rfl⟩, trivial⟩) (enc := N_28) (fun _ _ => ⟨rfl, rfl⟩) F_28
theorem K_29L4 (n : Nat) (x) : impl_canAsk_L4 (n + 1) x = roundK C_29 B_29L4 (S_29L4 fuel) x (impl_canAsk_L4 n) := by
 obtain ⟨_, _, _, _⟩ := x
 kernel_rfl
theorem F_29 (a : dens [.v .int, .v (.slice (.pair .int (.slice (.slice .int)))), .v .int]) : E_29.run a = funK C_29 Try.f38 [.v .int, .v (.slice (.pair .int (.slice (.slice .int)))), .v .int] [.v .bool] a (fun o r => some (N_29 o r)) := by
 kernel_rfl
theorem W_29 : loopsOf D_29 = [B_29L4] := by kernel_rfl
theorem R_29L4 : firstReg B_29L4 = 4 := by kernel_rfl
theorem Q_29 : Try.prog.funcs[38]? = some Try.f38 ∧ (Try.f38.name == "runtime.NumGoroutine") = false ∧ Try.f38.body = some D_29 := ⟨Try.func38, by kernel_rfl, by kernel_rfl⟩
theorem H_29 : Holds Try.prog 38 E_29 :=
 holds_of (cx := C_29) (tabOk_ok tabT rfl).1 (allT_ok ⟨⟨H_24, _, _, Q_24⟩, ⟨⟨H_28, _, _, Q_28⟩, trivial⟩⟩) mixT Q_29.1 Q_29.2.2 (loops_of W_29 ⟨loop_of (cx := C_29) (L := S_29L4 fuel) rfl (by rw [R_29L4]; rfl) ⟨impl_canAsk_L4, fun _ => rfl, fun n x => K_29L4 n x, fuel, fun _ => rfl⟩, trivial⟩) (enc := N_29) (fun _ _ => ⟨rfl, rfl⟩) F_29
theorem K_30L2 (n : Nat) (x) : impl_power_L2 (n + 1) x = roundK C_30 B_30L2 (S_30L2 fuel) x (impl_power_L2 n) := by
 obtain ⟨_, _, _⟩ := x
 kernel_rfl
theorem F_30 (a : dens [.v .int, .v .int]) : E_30.run a = funK C_30 Try.f83 [.v .int, .v .int] [.v .int] a (fun o r => some (N_30 o r)) := by
 kernel_rfl
theorem W_30 : loopsOf D_30 = [B_30L2] := by kernel_rfl
theorem R_30L2 : firstReg B_30L2 = 2 := by kernel_rfl
theorem Q_30 : Try.prog.funcs[83]? = some Try.f83 ∧ (Try.f83.name == "runtime.NumGoroutine") = false ∧ Try.f83.body = some D_30 := ⟨Try.func83, by kernel_rfl, by kernel_rfl⟩
theorem H_30 : Holds Try.prog 83 E_30 :=
 holds_of (cx := C_30) (tabOk_ok tabT rfl).1 (allT_ok trivial) mixT Q_30.1 Q_30.2.2 (loops_of W_30 ⟨loop_of (cx := C_30) (L := S_30L2 fuel) rfl (by rw [R_30L2]; rfl) ⟨impl_power_L2, fun _ => rfl, fun n x => K_30L2 n x, fuel, fun _ => rfl⟩, trivial⟩) (enc := N_30) (fun _ _ => ⟨rfl, rfl⟩) F_30
theorem K_31L3 (n : Nat) (x) : impl_keyOf_L3 (n + 1) x = roundK C_31 B_31L3 (S_31L3 fuel) x (impl_keyOf_L3 n) := by
 obtain ⟨_, _, _, _⟩ := x
 kernel_rfl
theorem F_31 (a : dens [.v (.slice .int)]) : E_31.run a = funK C_31 Try.f94 [.v (.slice .int)] [.v .str] a (fun o r => some (N_31 o r)) := by
 kernel_rfl
theorem W_31 : loopsOf D_31 = [B_31L3] := by kernel_rfl
theorem R_31L3 : firstReg B_31L3 = 3 := by kernel_rfl
theorem Q_31 : Try.prog.funcs[94]? = some Try.f94 ∧ (Try.f94.name == "runtime.NumGoroutine") = false ∧ Try.f94.body = some D_31 := ⟨Try.func94, by kernel_rfl, by kernel_rfl⟩
theorem H_31 : Holds Try.prog 94 E_31 :=
 holds_of (cx := C_31) (tabOk_ok tabT rfl).1 (allT_ok trivial) mixT Q_31.1 Q_31.2.2 (loops_of W_31 ⟨loop_of (cx := C_31) (L := S_31L3 fuel) rfl (by rw [R_31L3]; rfl) ⟨impl_keyOf_L3, fun _ => rfl, fun n x => K_31L3 n x, fuel, fun _ => rfl⟩, trivial⟩) (enc := N_31) (fun _ _ => ⟨rfl, rfl⟩) F_31
theorem K_32L3 (n : Nat) (x) : impl_tupleSet_L3 (n + 1) x = roundK C_32 B_32L3 (S_32L3 fuel) x (impl_tupleSet_L3 n) := by
 obtain ⟨_, _, _, _⟩ := x
 kernel_rfl
theorem F_32 (a : dens [.v (.pair .int (.slice (.slice .int)))]) : E_32.run a = funK C_32 Try.f92 [.v (.pair .int (.slice (.slice .int)))] [.v .smap] a (fun o r => some (N_32 o r)) := by
 kernel_rfl
theorem W_32 : loopsOf D_32 = [B_32L3] := by kernel_rfl
theorem R_32L3 : firstReg B_32L3 = 3 := by kernel_rfl
theorem Q_32 : Try.prog.funcs[92]? = some Try.f92 ∧ (Try.f92.name == "runtime.NumGoroutine") = false ∧ Try.f92.body = some D_32 := ⟨Try.func92, by kernel_rfl, by kernel_rfl⟩
theorem H_32 : Holds Try.prog 92 E_32 :=
 holds_of (cx := C_32) (tabOk_ok tabT rfl).1 (allT_ok ⟨⟨H_31, _, _, Q_31⟩, trivial⟩) mixT Q_32.1 Q_32.2.2 (loops_of W_32 ⟨loop_of (cx := C_32) (L := S_32L3 fuel) rfl (by rw [R_32L3]; rfl) ⟨impl_tupleSet_L3, fun _ => rfl, fun n x => K_32L3 n x, fuel, fun _ => rfl⟩, trivial⟩) (enc := N_32) (fun _ _ => ⟨rfl, rfl⟩) F_32
theorem K_33L3 (n : Nat) (x) : impl_argsAt_L3 (n + 1) x = roundK C_33 B_33L3 (S_33L3 fuel) x (impl_argsAt_L3 n) := by
 obtain ⟨_, _, _, _⟩ := x
 kernel_rfl
theorem F_33 (a : dens [.v .int, .v .int, .v .int]) : E_33.run a = funK C_33 Try.f93 [.v .int, .v .int, .v .int] [.mv .int 0] a (fun o r => some (N_33 o r)) := by
 kernel_rfl
theorem W_33 : loopsOf D_33 = [B_33L3] := by kernel_rfl
theorem R_33L3 : firstReg B_33L3 = 3 := by kernel_rfl
theorem Q_33 : Try.prog.funcs[93]? = some Try.f93 ∧ (Try.f93.name == "runtime.NumGoroutine") = false ∧ Try.f93.body = some D_33 := ⟨Try.func93, by kernel_rfl, by kernel_rfl⟩
theorem H_33 : Holds Try.prog 93 E_33 :=
 holds_of (cx := C_33) (tabOk_ok tabT rfl).1 (allT_ok trivial) mixT Q_33.1 Q_33.2.2 (loops_of W_33 ⟨loop_of (cx := C_33) (L := S_33L3 fuel) rfl (by rw [R_33L3]; rfl) ⟨impl_argsAt_L3, fun _ => rfl, fun n x => K_33L3 n x, fuel, fun _ => rfl⟩, trivial⟩) (enc := N_33) (fun _ _ => ⟨rfl, rfl⟩) F_33
theorem K_34L17 (n : Nat) (x) : impl_newPolySearch_L17 (n + 1) x = roundK C_34 B_34L17 (S_34L17 fuel) x (impl_newPolySearch_L17 n) := by
 obtain ⟨_, _, _, _, _, _, _, _, _, _, _, _, _, _, _, _, _, _, _⟩ := x
 kernel_rfl
theorem K_34L14 (n : Nat) (x) : impl_newPolySearch_L14 (n + 1) x = roundK C_34 B_34L14 (S_34L14 fuel) x (impl_newPolySearch_L14 n) := by
 obtain ⟨_, _, _, _, _, _, _, _, _, _, _, _, _, _, _⟩ := x
 kernel_rfl
theorem K_34L8 (n : Nat) (x) : impl_newPolySearch_L8 (n + 1) x = roundK C_34 B_34L8 (S_34L8 fuel) x (impl_newPolySearch_L8 n) := by
 obtain ⟨_, _, _, _, _, _, _, _, _, _⟩ := x
 kernel_rfl
theorem K_34L3 (n : Nat) (x) : impl_newPolySearch_L3 (n + 1) x = roundK C_34 B_34L3 (S_34L3 fuel) x (impl_newPolySearch_L3 n) := by
 obtain ⟨_, _, _, _, _, _⟩ := x
 kernel_rfl
theorem F_34 (a : dens [.v .int, .v (.slice (.pair .int (.slice (.slice .int)))), .v .int]) : E_34.run a = funK C_34 Try.f57 [.v .int, .v (.slice (.pair .int (.slice (.slice .int)))), .v .int] [.v (.ptr (.pair .int (.pair .int (.slice (.slice (.pair (.slice .int) .smap))))))] a (fun o r => some (N_34 o r)) := by
 kernel_rfl
theorem W_34 : loopsOf D_34 = [B_34L3, B_34L8, B_34L14, B_34L17] := by kernel_rfl
theorem R_34L17 : firstReg B_34L17 = 17 := by kernel_rfl
theorem R_34L14 : firstReg B_34L14 = 14 := by kernel_rfl
theorem R_34L8 : firstReg B_34L8 = 8 := by kernel_rfl
theorem R_34L3 : firstReg B_34L3 = 3 := by kernel_rfl
theorem Q_34 : Try.prog.funcs[57]? = some Try.f57 ∧ (Try.f57.name == "runtime.NumGoroutine") = false ∧ Try.f57.body = some D_34 := ⟨Try.func57, by kernel_rfl, by kernel_rfl⟩
theorem H_34 : Holds Try.prog 57 E_34 :=
 holds_of (cx := C_34) (tabOk_ok tabT rfl).1 (allT_ok ⟨⟨H_30, _, _, Q_30⟩, ⟨⟨H_32, _, _, Q_32⟩, ⟨⟨H_33, _, _, Q_33⟩, ⟨⟨H_31, _, _, Q_31⟩, trivial⟩⟩⟩⟩) mixT Q_34.1 Q_34.2.2 (loops_of W_34 ⟨loop_of (cx := C_34) (L := S_34L3 fuel) rfl (by rw [R_34L3]; rfl) ⟨impl_newPolySearch_L3, fun _ => rfl, fun n x => K_34L3 n x, fuel, fun _ => rfl⟩, ⟨loop_of (cx := C_34) (L := S_34L8 fuel) rfl (by rw [R_34L8]; rfl) ⟨impl_newPolySearch_L8, fun _ => rfl, fun n x => K_34L8 n x, fuel, fun _ => rfl⟩, ⟨loop_of (cx := C_34) (L := S_34L14 fuel) rfl (by rw [R_34L14]; rfl) ⟨impl_newPolySearch_L14, fun _ => rfl, fun n x => K_34L14 n x, fuel, fun _ => rfl⟩, ⟨loop_of (cx := C_34) (L := S_34L17 fuel) rfl (by rw [R_34L17]; rfl) ⟨impl_newPolySearch_L17, fun _ => rfl, fun n x => K_34L17 n x, fuel, fun _ => rfl⟩, trivial⟩⟩⟩⟩) (enc := N_34) (fun _ _ => ⟨rfl, rfl⟩) F_34
theorem K_35L3 (n : Nat) (x) : impl_freeTable_L3 (n + 1) x = roundK C_35 B_35L3 (S_35L3 fuel) x (impl_freeTable_L3 n) := by
 obtain ⟨_, _, _⟩ := x
 kernel_rfl
theorem F_35 (a : dens [.v .int]) : E_35.run a = funK C_35 Try.f55 [.v .int] [.mv .int 0] a (fun o r => some (N_35 o r)) := by
 kernel_rfl
theorem W_35 : loopsOf D_35 = [B_35L3] := by kernel_rfl
theorem R_35L3 : firstReg B_35L3 = 3 := by kernel_rfl
theorem Q_35 : Try.prog.funcs[55]? = some Try.f55 ∧ (Try.f55.name == "runtime.NumGoroutine") = false ∧ Try.f55.body = some D_35 := ⟨Try.func55, by kernel_rfl, by kernel_rfl⟩
theorem H_35 : Holds Try.prog 55 E_35 :=
 holds_of (cx := C_35) (tabOk_ok tabT rfl).1 (allT_ok trivial) mixT Q_35.1 Q_35.2.2 (loops_of W_35 ⟨loop_of (cx := C_35) (L := S_35L3 fuel) rfl (by rw [R_35L3]; rfl) ⟨impl_freeTable_L3, fun _ => rfl, fun n x => K_35L3 n x, fuel, fun _ => rfl⟩, trivial⟩) (enc := N_35) (fun _ _ => ⟨rfl, rfl⟩) F_35
theorem K_36L3 (n : Nat) (x) : impl_marks_L3 (n + 1) x = roundK C_36 B_36L3 (S_36L3 fuel) x (impl_marks_L3 n) := by
 obtain ⟨_, _, _, _⟩ := x
 kernel_rfl
theorem F_36 (a : dens [.v (.slice .int), .v .int]) : E_36.run a = funK C_36 Try.f90 [.v (.slice .int), .v .int] [.mv .bool 0] a (fun o r => some (N_36 o r)) := by
 kernel_rfl
theorem W_36 : loopsOf D_36 = [B_36L3] := by kernel_rfl
theorem R_36L3 : firstReg B_36L3 = 3 := by kernel_rfl
theorem Q_36 : Try.prog.funcs[90]? = some Try.f90 ∧ (Try.f90.name == "runtime.NumGoroutine") = false ∧ Try.f90.body = some D_36 := ⟨Try.func90, by kernel_rfl, by kernel_rfl⟩
theorem H_36 : Holds Try.prog 90 E_36 :=
 holds_of (cx := C_36) (tabOk_ok tabT rfl).1 (allT_ok trivial) mixT Q_36.1 Q_36.2.2 (loops_of W_36 ⟨loop_of (cx := C_36) (L := S_36L3 fuel) rfl (by rw [R_36L3]; rfl) ⟨impl_marks_L3, fun _ => rfl, fun n x => K_36L3 n x, fuel, fun _ => rfl⟩, trivial⟩) (enc := N_36) (fun _ _ => ⟨rfl, rfl⟩) F_36
theorem K_37L3 (n : Nat) (x) : impl_marked_L3 (n + 1) x = roundK C_37 B_37L3 (S_37L3 fuel) x (impl_marked_L3 n) := by
 obtain ⟨_, _, _, _⟩ := x
 kernel_rfl
theorem F_37 (a : dens [.v (.slice .bool)]) : E_37.run a = funK C_37 Try.f89 [.v (.slice .bool)] [.mv .int 0] a (fun o r => some (N_37 o r)) := by
 kernel_rfl
theorem W_37 : loopsOf D_37 = [B_37L3] := by kernel_rfl
theorem R_37L3 : firstReg B_37L3 = 3 := by kernel_rfl
theorem Q_37 : Try.prog.funcs[89]? = some Try.f89 ∧ (Try.f89.name == "runtime.NumGoroutine") = false ∧ Try.f89.body = some D_37 := ⟨Try.func89, by kernel_rfl, by kernel_rfl⟩
theorem H_37 : Holds Try.prog 89 E_37 :=
 holds_of (cx := C_37) (tabOk_ok tabT rfl).1 (allT_ok trivial) mixT Q_37.1 Q_37.2.2 (loops_of W_37 ⟨loop_of (cx := C_37) (L := S_37L3 fuel) rfl (by rw [R_37L3]; rfl) ⟨impl_marked_L3, fun _ => rfl, fun n x => K_37L3 n x, fuel, fun _ => rfl⟩, trivial⟩) (enc := N_37) (fun _ _ => ⟨rfl, rfl⟩) F_37
theorem F_38 (a : dens [.v (.slice .int), .v .int]) : E_38.run a = funK C_38 Try.f49 [.v (.slice .int), .v .int] [.mv .int 0] a (fun o r => some (N_38 o r)) := by
 kernel_rfl
theorem W_38 : loopsOf D_38 = [] := by kernel_rfl
theorem Q_38 : Try.prog.funcs[49]? = some Try.f49 ∧ (Try.f49.name == "runtime.NumGoroutine") = false ∧ Try.f49.body = some D_38 := ⟨Try.func49, by kernel_rfl, by kernel_rfl⟩
theorem H_38 : Holds Try.prog 49 E_38 :=
 holds_of (cx := C_38) (tabOk_ok tabT rfl).1 (allT_ok ⟨⟨H_37, _, _, Q_37⟩, ⟨⟨H_36, _, _, Q_36⟩, trivial⟩⟩) mixT Q_38.1 Q_38.2.2 (loops_of W_38 trivial) (enc := N_38) (fun _ _ => ⟨rfl, rfl⟩) F_38
theorem F_39 (a : dens [.v (.slice .int)]) : E_39.run a = funK C_39 Try.f60 [.v (.slice .int)] [.mv .int 0] a (fun o r => some (N_39 o r)) := by
 kernel_rfl
theorem W_39 : loopsOf D_39 = [] := by kernel_rfl
theorem Q_39 : Try.prog.funcs[60]? = some Try.f60 ∧ (Try.f60.name == "runtime.NumGoroutine") = false ∧ Try.f60.body = some D_39 := ⟨Try.func60, by kernel_rfl, by kernel_rfl⟩
theorem H_39 : Holds Try.prog 60 E_39 :=
 holds_of (cx := C_39) (tabOk_ok tabT rfl).1 (allT_ok trivial) mixT Q_39.1 Q_39.2.2 (loops_of W_39 trivial) (enc := N_39) (fun _ _ => ⟨rfl, rfl⟩) F_39
theorem F_40 (a : dens [.v (.slice .int), .bx (.v .int), .bx (.v .int), .bx (.pr (.v .int) (.mv .int 0))]) : E_40.run a = funK C_40 Try.f59 [.v (.slice .int), .bx (.v .int), .bx (.v .int), .bx (.pr (.v .int) (.mv .int 0))] [.v .bool] a (fun o r => some (N_40 o r)) := by
 kernel_rfl
theorem W_40 : loopsOf D_40 = [] := by kernel_rfl
theorem Q_40 : Try.prog.funcs[59]? = some Try.f59 ∧ (Try.f59.name == "runtime.NumGoroutine") = false ∧ Try.f59.body = some D_40 := ⟨Try.func59, by kernel_rfl, by kernel_rfl⟩
theorem H_40 : Holds Try.prog 59 E_40 :=
 holds_of (cx := C_40) (tabOk_ok tabT rfl).1 (allT_ok ⟨⟨H_38, _, _, Q_38⟩, ⟨⟨H_39, _, _, Q_39⟩, trivial⟩⟩) mixT Q_40.1 Q_40.2.2 (loops_of W_40 trivial) (enc := N_40) (fun _ _ => ⟨rfl, rfl⟩) F_40
theorem K_41L3 (n : Nat) (x) : impl_compose_L3 (n + 1) x = roundK C_41 B_41L3 (S_41L3 fuel) x (impl_compose_L3 n) := by
 obtain ⟨_, _, _, _, _⟩ := x
 kernel_rfl
theorem F_41 (a : dens [.v (.slice .int), .v (.slice .int)]) : E_41.run a = funK C_41 Try.f50 [.v (.slice .int), .v (.slice .int)] [.mv .int 0] a (fun o r => some (N_41 o r)) := by
 kernel_rfl
theorem W_41 : loopsOf D_41 = [B_41L3] := by kernel_rfl
theorem R_41L3 : firstReg B_41L3 = 3 := by kernel_rfl
theorem Q_41 : Try.prog.funcs[50]? = some Try.f50 ∧ (Try.f50.name == "runtime.NumGoroutine") = false ∧ Try.f50.body = some D_41 := ⟨Try.func50, by kernel_rfl, by kernel_rfl⟩
theorem H_41 : Holds Try.prog 50 E_41 :=
 holds_of (cx := C_41) (tabOk_ok tabT rfl).1 (allT_ok trivial) mixT Q_41.1 Q_41.2.2 (loops_of W_41 ⟨loop_of (cx := C_41) (L := S_41L3 fuel) rfl (by rw [R_41L3]; rfl) ⟨impl_compose_L3, fun _ => rfl, fun n x => K_41L3 n x, fuel, fun _ => rfl⟩, trivial⟩) (enc := N_41) (fun _ _ => ⟨rfl, rfl⟩) F_41
theorem K_42L2 (n : Nat) (x) : impl_polySearch_fits_p_L2 (n + 1) x = roundK C_42 B_42L2 (S_42L2 fuel) x (impl_polySearch_fits_p_L2 n) := by
 obtain ⟨_, _, _, _⟩ := x
 kernel_rfl
theorem F_42 (a : dens [.v (.ptr (.pair .int (.pair .int (.slice (.slice (.pair (.slice .int) .smap)))))), .v (.slice .int), .v .int]) : E_42.run a = funK C_42 Try.f96 [.v (.ptr (.pair .int (.pair .int (.slice (.slice (.pair (.slice .int) .smap)))))), .v (.slice .int), .v .int] [.v .bool] a (fun o r => some (N_42 o r)) := by
 kernel_rfl
theorem W_42 : loopsOf D_42 = [B_42L2] := by kernel_rfl
theorem R_42L2 : firstReg B_42L2 = 2 := by kernel_rfl
theorem Q_42 : Try.prog.funcs[96]? = some Try.f96 ∧ (Try.f96.name == "runtime.NumGoroutine") = false ∧ Try.f96.body = some D_42 := ⟨Try.func96, by kernel_rfl, by kernel_rfl⟩
theorem H_42 : Holds Try.prog 96 E_42 :=
 holds_of (cx := C_42) (tabOk_ok tabT rfl).1 (allT_ok ⟨⟨H_41, _, _, Q_41⟩, ⟨⟨H_31, _, _, Q_31⟩, trivial⟩⟩) mixT Q_42.1 Q_42.2.2 (loops_of W_42 ⟨loop_of (cx := C_42) (L := S_42L2 fuel) rfl (by rw [R_42L2]; rfl) ⟨impl_polySearch_fits_p_L2, fun _ => rfl, fun n x => K_42L2 n x, fuel, fun _ => rfl⟩, trivial⟩) (enc := N_42) (fun _ _ => ⟨rfl, rfl⟩) F_42
theorem K_43L4 (rec : (Int × (List Int) × (Int × (Int × (Int × (List Int)))) × (Bool × Int × Int × (List (List ((List Int) × (List ByteArray))))) × (List Int) × Unit) → Option ((List Int) × (Int × (Int × (Int × (List Int)))) × (Bool × Int × Int × (List (List ((List Int) × (List ByteArray))))) × (List Int) × Bool)) (n : Nat) (x) : impl_polySearch_each_c1_impl_CoreMap_c1_L4 rec (n + 1) x = roundK (C_43 rec) B_43L4 (S_43L4 rec fuel) x (impl_polySearch_each_c1_impl_CoreMap_c1_L4 rec n) := by
 obtain ⟨_, _, _, _, _, _, _⟩ := x
 kernel_rfl
theorem F_43 (rec : (Int × (List Int) × (Int × (Int × (Int × (List Int)))) × (Bool × Int × Int × (List (List ((List Int) × (List ByteArray))))) × (List Int) × Unit) → Option ((List Int) × (Int × (Int × (Int × (List Int)))) × (Bool × Int × Int × (List (List ((List Int) × (List ByteArray))))) × (List Int) × Bool)) (a : dens [.v .int, .bx (.mv .int 0), .pr (.bx (.v .int)) (.pr (.bx (.v .int)) (.bx (.pr (.v .int) (.mv .int 0)))), .bx (.v (.ptr (.pair .int (.pair .int (.slice (.slice (.pair (.slice .int) .smap))))))), .bx (.v (.slice .int)), .jk 1]) : impl_polySearch_each_c1_impl_CoreMap_c1_body rec a.1 a.2.1 a.2.2.1 a.2.2.2.1 a.2.2.2.2.1 a.2.2.2.2.2 = funK (C_43 rec) Try.f95 [.v .int, .bx (.mv .int 0), .pr (.bx (.v .int)) (.pr (.bx (.v .int)) (.bx (.pr (.v .int) (.mv .int 0)))), .bx (.v (.ptr (.pair .int (.pair .int (.slice (.slice (.pair (.slice .int) .smap))))))), .bx (.v (.slice .int)), .jk 1] [.v .bool] a (fun o r => some (N_43 o r)) := by
 kernel_rfl
theorem W_43 : loopsOf D_43 = [B_43L4] := by kernel_rfl
theorem R_43L4 : firstReg B_43L4 = 4 := by kernel_rfl
theorem Q_43 : Try.prog.funcs[95]? = some Try.f95 ∧ (Try.f95.name == "runtime.NumGoroutine") = false ∧ Try.f95.body = some D_43 := ⟨Try.func95, by kernel_rfl, by kernel_rfl⟩
theorem H_43 : ∀ d, Holds Try.prog 95 (E_43 d)
 | 0 => fun _ b h => absurd (show (none : Option _) = some b from h) (by simp)
 | d + 1 => holds_of (en := E_43 (d + 1)) (cx := (C_43 (impl_polySearch_each_c1_impl_CoreMap_c1 d))) (tabOk_ok tabT rfl).1 (allT_ok ⟨⟨H_40, _, _, Q_40⟩, ⟨⟨H_42, _, _, Q_42⟩, ⟨⟨H_43 d, _, _, Q_43⟩, trivial⟩⟩⟩) mixT Q_43.1 Q_43.2.2 (loops_of W_43 ⟨loop_of (cx := (C_43 (impl_polySearch_each_c1_impl_CoreMap_c1 d))) (L := S_43L4 (impl_polySearch_each_c1_impl_CoreMap_c1 d) fuel) rfl (by rw [R_43L4]; rfl) ⟨impl_polySearch_each_c1_impl_CoreMap_c1_L4 (impl_polySearch_each_c1_impl_CoreMap_c1 d), fun _ => rfl, fun n x => K_43L4 (impl_polySearch_each_c1_impl_CoreMap_c1 d) n x, fuel, fun _ => rfl⟩, trivial⟩) (enc := N_43) (fun _ _ => ⟨rfl, rfl⟩) (F_43 (impl_polySearch_each_c1_impl_CoreMap_c1 d)) rfl
theorem F_44 (a : dens [.v (.ptr (.pair .int (.pair .int (.slice (.slice (.pair (.slice .int) .smap)))))), .v (.slice .int), .pr (.bx (.v .int)) (.pr (.bx (.v .int)) (.bx (.pr (.v .int) (.mv .int 0))))]) : E_44.run a = funK C_44 Try.f58 [.v (.ptr (.pair .int (.pair .int (.slice (.slice (.pair (.slice .int) .smap)))))), .v (.slice .int), .pr (.bx (.v .int)) (.pr (.bx (.v .int)) (.bx (.pr (.v .int) (.mv .int 0))))] [] a (fun o r => some (N_44 o r)) := by
 kernel_rfl
theorem W_44 : loopsOf D_44 = [] := by kernel_rfl
theorem Q_44 : Try.prog.funcs[58]? = some Try.f58 ∧ (Try.f58.name == "runtime.NumGoroutine") = false ∧ Try.f58.body = some D_44 := ⟨Try.func58, by kernel_rfl, by kernel_rfl⟩
theorem H_44 : Holds Try.prog 58 E_44 :=
 holds_of (cx := C_44) (tabOk_ok tabT rfl).1 (allT_ok ⟨⟨H_43 fuel, _, _, Q_43⟩, trivial⟩) mixT Q_44.1 Q_44.2.2 (loops_of W_44 trivial) (enc := N_44) (fun _ _ => ⟨rfl, rfl⟩) F_44
theorem F_45 (a : dens [.v .int, .v (.slice (.pair .int (.slice (.slice .int))))]) : E_45.run a = funK C_45 Try.f21 [.v .int, .v (.slice (.pair .int (.slice (.slice .int))))] [.pr (.v .int) (.mv .int 0), .v .bool] a (fun o r => some (N_45 o r)) := by
 kernel_rfl
theorem W_45 : loopsOf D_45 = [] := by kernel_rfl
theorem Q_45 : Try.prog.funcs[21]? = some Try.f21 ∧ (Try.f21.name == "runtime.NumGoroutine") = false ∧ Try.f21.body = some D_45 := ⟨Try.func21, by kernel_rfl, by kernel_rfl⟩
theorem H_45 : Holds Try.prog 21 E_45 :=
 holds_of (cx := C_45) (tabOk_ok tabT rfl).1 (allT_ok ⟨⟨H_29, _, _, Q_29⟩, ⟨⟨H_35, _, _, Q_35⟩, ⟨⟨H_34, _, _, Q_34⟩, ⟨⟨H_44, _, _, Q_44⟩, trivial⟩⟩⟩⟩) mixT Q_45.1 Q_45.2.2 (loops_of W_45 trivial) (enc := N_45) (fun _ _ => ⟨rfl, rfl⟩) F_45
theorem K_46L7 (n : Nat) (x) : impl_CoreTemplate_L7 (n + 1) x = roundK C_46 B_46L7 (S_46L7 fuel) x (impl_CoreTemplate_L7 n) := by
 obtain ⟨_, _, _, _, _, _⟩ := x
 kernel_rfl
theorem K_46L12 (n : Nat) (x) : impl_CoreTemplate_L12 (n + 1) x = roundK C_46 B_46L12 (S_46L12 fuel) x (impl_CoreTemplate_L12 n) := by
 obtain ⟨_, _, _, _, _, _, _⟩ := x
 kernel_rfl
theorem K_46L22 (n : Nat) (x) : impl_CoreTemplate_L22 (n + 1) x = roundK C_46 B_46L22 (S_46L22 fuel) x (impl_CoreTemplate_L22 n) := by
 obtain ⟨_, _, _, _, _, _, _, _, _, _, _⟩ := x
 kernel_rfl
theorem K_46L18 (n : Nat) (x) : impl_CoreTemplate_L18 (n + 1) x = roundK C_46 B_46L18 (S_46L18 fuel) x (impl_CoreTemplate_L18 n) := by
 obtain ⟨_, _, _, _, _, _, _⟩ := x
 kernel_rfl
theorem F_46 (a : dens [.v .int, .v (.slice (.pair .int (.slice (.slice .int))))]) : E_46.run a = funK C_46 Try.f16 [.v .int, .v (.slice (.pair .int (.slice (.slice .int))))] [.v .int, .mv (.pair .int (.slice (.slice .int))) 2, .v .bool] a (fun o r => some (N_46 o r)) := by
 kernel_rfl
theorem W_46 : loopsOf D_46 = [B_46L7, B_46L12, B_46L18, B_46L22] := by kernel_rfl
theorem R_46L7 : firstReg B_46L7 = 7 := by kernel_rfl
theorem R_46L12 : firstReg B_46L12 = 12 := by kernel_rfl
theorem R_46L22 : firstReg B_46L22 = 22 := by kernel_rfl
theorem R_46L18 : firstReg B_46L18 = 18 := by kernel_rfl
theorem Q_46 : Try.prog.funcs[16]? = some Try.f16 ∧ (Try.f16.name == "runtime.NumGoroutine") = false ∧ Try.f16.body = some D_46 := ⟨Try.func16, by kernel_rfl, by kernel_rfl⟩
theorem H_46 : Holds Try.prog 16 E_46 :=
 holds_of (cx := C_46) (tabOk_ok tabT rfl).1 (allT_ok ⟨⟨H_45, _, _, Q_45⟩, ⟨⟨H_38, _, _, Q_38⟩, ⟨⟨H_41, _, _, Q_41⟩, ⟨⟨H_25, _, _, Q_25⟩, trivial⟩⟩⟩⟩) mixT Q_46.1 Q_46.2.2 (loops_of W_46 ⟨loop_of (cx := C_46) (L := S_46L7 fuel) rfl (by rw [R_46L7]; rfl) ⟨impl_CoreTemplate_L7, fun _ => rfl, fun n x => K_46L7 n x, fuel, fun _ => rfl⟩, ⟨loop_of (cx := C_46) (L := S_46L12 fuel) rfl (by rw [R_46L12]; rfl) ⟨impl_CoreTemplate_L12, fun _ => rfl, fun n x => K_46L12 n x, fuel, fun _ => rfl⟩, ⟨loop_of (cx := C_46) (L := S_46L18 fuel) rfl (by rw [R_46L18]; rfl) ⟨impl_CoreTemplate_L18, fun _ => rfl, fun n x => K_46L18 n x, fuel, fun _ => rfl⟩, ⟨loop_of (cx := C_46) (L := S_46L22 fuel) rfl (by rw [R_46L22]; rfl) ⟨impl_CoreTemplate_L22, fun _ => rfl, fun n x => K_46L22 n x, fuel, fun _ => rfl⟩, trivial⟩⟩⟩⟩) (enc := N_46) (fun _ _ => ⟨rfl, rfl⟩) F_46
theorem F_47 (a : dens [.v .int]) : E_47.run a = funK C_47 Try.f70 [.v .int] [.v .bool] a (fun o r => some (N_47 o r)) := by
 kernel_rfl
theorem W_47 : loopsOf D_47 = [] := by kernel_rfl
theorem Q_47 : Try.prog.funcs[70]? = some Try.f70 ∧ (Try.f70.name == "runtime.NumGoroutine") = false ∧ Try.f70.body = some D_47 := ⟨Try.func70, by kernel_rfl, by kernel_rfl⟩
theorem H_47 : Holds Try.prog 70 E_47 :=
 holds_of (cx := C_47) (tabOk_ok tabT rfl).1 (allT_ok ⟨⟨H_8, _, _, Q_8⟩, trivial⟩) mixT Q_47.1 Q_47.2.2 (loops_of W_47 trivial) (enc := N_47) (fun _ _ => ⟨rfl, rfl⟩) F_47
theorem K_48L2 (n : Nat) (x) : spec_l2Elements_L2 (n + 1) x = roundK C_48 B_48L2 (S_48L2 fuel) x (spec_l2Elements_L2 n) := by
 obtain ⟨_, _, _⟩ := x
 kernel_rfl
theorem F_48 (a : dens [.v .int, .v (.slice .int)]) : E_48.run a = funK C_48 Try.f127 [.v .int, .v (.slice .int)] [.v .bool] a (fun o r => some (N_48 o r)) := by
 kernel_rfl
theorem W_48 : loopsOf D_48 = [B_48L2] := by kernel_rfl
theorem R_48L2 : firstReg B_48L2 = 2 := by kernel_rfl
theorem Q_48 : Try.prog.funcs[127]? = some Try.f127 ∧ (Try.f127.name == "runtime.NumGoroutine") = false ∧ Try.f127.body = some D_48 := ⟨Try.func127, by kernel_rfl, by kernel_rfl⟩
theorem H_48 : Holds Try.prog 127 E_48 :=
 holds_of (cx := C_48) (tabOk_ok tabT rfl).1 (allT_ok ⟨⟨H_8, _, _, Q_8⟩, trivial⟩) mixT Q_48.1 Q_48.2.2 (loops_of W_48 ⟨loop_of (cx := C_48) (L := S_48L2 fuel) rfl (by rw [R_48L2]; rfl) ⟨spec_l2Elements_L2, fun _ => rfl, fun n x => K_48L2 n x, fuel, fun _ => rfl⟩, trivial⟩) (enc := N_48) (fun _ _ => ⟨rfl, rfl⟩) F_48
theorem F_49 (a : dens [.v .int, .v .int, .v (.slice .int)]) : E_49.run a = funK C_49 Try.f117 [.v .int, .v .int, .v (.slice .int)] [.v .bool] a (fun o r => some (N_49 o r)) := by
 kernel_rfl
theorem W_49 : loopsOf D_49 = [] := by kernel_rfl
theorem Q_49 : Try.prog.funcs[117]? = some Try.f117 ∧ (Try.f117.name == "runtime.NumGoroutine") = false ∧ Try.f117.body = some D_49 := ⟨Try.func117, by kernel_rfl, by kernel_rfl⟩
theorem H_49 : Holds Try.prog 117 E_49 :=
 holds_of (cx := C_49) (tabOk_ok tabT rfl).1 (allT_ok ⟨⟨H_48, _, _, Q_48⟩, trivial⟩) mixT Q_49.1 Q_49.2.2 (loops_of W_49 trivial) (enc := N_49) (fun _ _ => ⟨rfl, rfl⟩) F_49
theorem K_50L4 (n : Nat) (x) : spec_l13Good_L4 (n + 1) x = roundK C_50 B_50L4 (S_50L4 fuel) x (spec_l13Good_L4 n) := by
 obtain ⟨_, _, _⟩ := x
 kernel_rfl
theorem F_50 (a : dens [.v .int, .v (.pair .int (.slice (.slice .int)))]) : E_50.run a = funK C_50 Try.f101 [.v .int, .v (.pair .int (.slice (.slice .int)))] [.v .bool] a (fun o r => some (N_50 o r)) := by
 kernel_rfl
theorem W_50 : loopsOf D_50 = [B_50L4] := by kernel_rfl
theorem R_50L4 : firstReg B_50L4 = 4 := by kernel_rfl
theorem Q_50 : Try.prog.funcs[101]? = some Try.f101 ∧ (Try.f101.name == "runtime.NumGoroutine") = false ∧ Try.f101.body = some D_50 := ⟨Try.func101, by kernel_rfl, by kernel_rfl⟩
theorem H_50 : Holds Try.prog 101 E_50 :=
 holds_of (cx := C_50) (tabOk_ok tabT rfl).1 (allT_ok ⟨⟨H_8, _, _, Q_8⟩, ⟨⟨H_16, _, _, Q_16⟩, ⟨⟨H_10, _, _, Q_10⟩, ⟨⟨H_49, _, _, Q_49⟩, trivial⟩⟩⟩⟩) mixT Q_50.1 Q_50.2.2 (loops_of W_50 ⟨loop_of (cx := C_50) (L := S_50L4 fuel) rfl (by rw [R_50L4]; rfl) ⟨spec_l13Good_L4, fun _ => rfl, fun n x => K_50L4 n x, fuel, fun _ => rfl⟩, trivial⟩) (enc := N_50) (fun _ _ => ⟨rfl, rfl⟩) F_50
theorem K_51L4 (n : Nat) (x) : spec_l14Rels_L4 (n + 1) x = roundK C_51 B_51L4 (S_51L4 fuel) x (spec_l14Rels_L4 n) := by
 obtain ⟨_, _, _⟩ := x
 kernel_rfl
theorem F_51 (a : dens [.v .int, .v (.slice (.pair .int (.slice (.slice .int))))]) : E_51.run a = funK C_51 Try.f71 [.v .int, .v (.slice (.pair .int (.slice (.slice .int))))] [.v .bool] a (fun o r => some (N_51 o r)) := by
 kernel_rfl
theorem W_51 : loopsOf D_51 = [B_51L4] := by kernel_rfl
theorem R_51L4 : firstReg B_51L4 = 4 := by kernel_rfl
theorem Q_51 : Try.prog.funcs[71]? = some Try.f71 ∧ (Try.f71.name == "runtime.NumGoroutine") = false ∧ Try.f71.body = some D_51 := ⟨Try.func71, by kernel_rfl, by kernel_rfl⟩
theorem H_51 : Holds Try.prog 71 E_51 :=
 holds_of (cx := C_51) (tabOk_ok tabT rfl).1 (allT_ok ⟨⟨H_50, _, _, Q_50⟩, trivial⟩) mixT Q_51.1 Q_51.2.2 (loops_of W_51 ⟨loop_of (cx := C_51) (L := S_51L4 fuel) rfl (by rw [R_51L4]; rfl) ⟨spec_l14Rels_L4, fun _ => rfl, fun n x => K_51L4 n x, fuel, fun _ => rfl⟩, trivial⟩) (enc := N_51) (fun _ _ => ⟨rfl, rfl⟩) F_51
theorem K_52L4 (n : Nat) (x) : spec_l14Takes_L4 (n + 1) x = roundK C_52 B_52L4 (S_52L4 fuel) x (spec_l14Takes_L4 n) := by
 obtain ⟨_, _, _⟩ := x
 kernel_rfl
theorem F_52 (a : dens [.v .int, .v (.slice (.pair .int (.slice (.slice .int)))), .v .int]) : E_52.run a = funK C_52 Try.f32 [.v .int, .v (.slice (.pair .int (.slice (.slice .int)))), .v .int] [.v .bool] a (fun o r => some (N_52 o r)) := by
 kernel_rfl
theorem W_52 : loopsOf D_52 = [B_52L4] := by kernel_rfl
theorem R_52L4 : firstReg B_52L4 = 4 := by kernel_rfl
theorem Q_52 : Try.prog.funcs[32]? = some Try.f32 ∧ (Try.f32.name == "runtime.NumGoroutine") = false ∧ Try.f32.body = some D_52 := ⟨Try.func32, by kernel_rfl, by kernel_rfl⟩
theorem H_52 : Holds Try.prog 32 E_52 :=
 holds_of (cx := C_52) (tabOk_ok tabT rfl).1 (allT_ok ⟨⟨H_47, _, _, Q_47⟩, ⟨⟨H_51, _, _, Q_51⟩, ⟨⟨H_8, _, _, Q_8⟩, trivial⟩⟩⟩) mixT Q_52.1 Q_52.2.2 (loops_of W_52 ⟨loop_of (cx := C_52) (L := S_52L4 fuel) rfl (by rw [R_52L4]; rfl) ⟨spec_l14Takes_L4, fun _ => rfl, fun n x => K_52L4 n x, fuel, fun _ => rfl⟩, trivial⟩) (enc := N_52) (fun _ _ => ⟨rfl, rfl⟩) F_52
theorem K_53L3 (n : Nat) (x) : spec_l14Free_L3 (n + 1) x = roundK C_53 B_53L3 (S_53L3 fuel) x (spec_l14Free_L3 n) := by
 obtain ⟨_, _, _⟩ := x
 kernel_rfl
theorem F_53 (a : dens [.v .int]) : E_53.run a = funK C_53 Try.f75 [.v .int] [.mv .int 0] a (fun o r => some (N_53 o r)) := by
 kernel_rfl
theorem W_53 : loopsOf D_53 = [B_53L3] := by kernel_rfl
theorem R_53L3 : firstReg B_53L3 = 3 := by kernel_rfl
theorem Q_53 : Try.prog.funcs[75]? = some Try.f75 ∧ (Try.f75.name == "runtime.NumGoroutine") = false ∧ Try.f75.body = some D_53 := ⟨Try.func75, by kernel_rfl, by kernel_rfl⟩
theorem H_53 : Holds Try.prog 75 E_53 :=
 holds_of (cx := C_53) (tabOk_ok tabT rfl).1 (allT_ok trivial) mixT Q_53.1 Q_53.2.2 (loops_of W_53 ⟨loop_of (cx := C_53) (L := S_53L3 fuel) rfl (by rw [R_53L3]; rfl) ⟨spec_l14Free_L3, fun _ => rfl, fun n x => K_53L3 n x, fuel, fun _ => rfl⟩, trivial⟩) (enc := N_53) (fun _ _ => ⟨rfl, rfl⟩) F_53
theorem F_54 (a : dens [.v .int, .v .int]) : E_54.run a = funK C_54 Try.f104 [.v .int, .v .int] [.v .int] a (fun o r => some (N_54 o r)) := by
 kernel_rfl
theorem W_54 : loopsOf D_54 = [] := by kernel_rfl
theorem Q_54 : Try.prog.funcs[104]? = some Try.f104 ∧ (Try.f104.name == "runtime.NumGoroutine") = false ∧ Try.f104.body = some D_54 := ⟨Try.func104, by kernel_rfl, by kernel_rfl⟩
theorem H_54 : Holds Try.prog 104 E_54 :=
 holds_of (cx := C_54) (tabOk_ok tabT rfl).1 (allT_ok trivial) mixT Q_54.1 Q_54.2.2 (loops_of W_54 trivial) (enc := N_54) (fun _ _ => ⟨rfl, rfl⟩) F_54
theorem K_55L3 (n : Nat) (x) : spec_l14Needs_L3 (n + 1) x = roundK C_55 B_55L3 (S_55L3 fuel) x (spec_l14Needs_L3 n) := by
 obtain ⟨_, _, _, _, _⟩ := x
 kernel_rfl
theorem K_55L21 (n : Nat) (x) : spec_l14Needs_L21 (n + 1) x = roundK C_55 B_55L21 (S_55L21 fuel) x (spec_l14Needs_L21 n) := by
 obtain ⟨_, _, _, _, _, _, _, _, _, _, _, _, _⟩ := x
 kernel_rfl
theorem K_55L17 (n : Nat) (x) : spec_l14Needs_L17 (n + 1) x = roundK C_55 B_55L17 (S_55L17 fuel) x (spec_l14Needs_L17 n) := by
 obtain ⟨_, _, _, _, _, _, _, _, _, _, _⟩ := x
 kernel_rfl
theorem K_55L11 (n : Nat) (x) : spec_l14Needs_L11 (n + 1) x = roundK C_55 B_55L11 (S_55L11 fuel) x (spec_l14Needs_L11 n) := by
 obtain ⟨_, _, _, _, _, _, _⟩ := x
 kernel_rfl
theorem K_55L7 (n : Nat) (x) : spec_l14Needs_L7 (n + 1) x = roundK C_55 B_55L7 (S_55L7 fuel) x (spec_l14Needs_L7 n) := by
 obtain ⟨_, _, _, _, _⟩ := x
 kernel_rfl
theorem F_55 (a : dens [.v .int, .v (.slice (.pair .int (.slice (.slice .int)))), .v .int]) : E_55.run a = funK C_55 Try.f74 [.v .int, .v (.slice (.pair .int (.slice (.slice .int)))), .v .int] [.mv (.slice (.pair (.slice .int) (.pair .int (.slice (.slice .int))))) 1] a (fun o r => some (N_55 o r)) := by
 kernel_rfl
theorem W_55 : loopsOf D_55 = [B_55L3, B_55L7, B_55L11, B_55L17, B_55L21] := by kernel_rfl
theorem R_55L3 : firstReg B_55L3 = 3 := by kernel_rfl
theorem R_55L21 : firstReg B_55L21 = 21 := by kernel_rfl
theorem R_55L17 : firstReg B_55L17 = 17 := by kernel_rfl
theorem R_55L11 : firstReg B_55L11 = 11 := by kernel_rfl
theorem R_55L7 : firstReg B_55L7 = 7 := by kernel_rfl
theorem Q_55 : Try.prog.funcs[74]? = some Try.f74 ∧ (Try.f74.name == "runtime.NumGoroutine") = false ∧ Try.f74.body = some D_55 := ⟨Try.func74, by kernel_rfl, by kernel_rfl⟩
theorem H_55 : Holds Try.prog 74 E_55 :=
 holds_of (cx := C_55) (tabOk_ok tabT rfl).1 (allT_ok ⟨⟨H_16, _, _, Q_16⟩, ⟨⟨H_17, _, _, Q_17⟩, ⟨⟨H_54, _, _, Q_54⟩, trivial⟩⟩⟩) mixT Q_55.1 Q_55.2.2 (loops_of W_55 ⟨loop_of (cx := C_55) (L := S_55L3 fuel) rfl (by rw [R_55L3]; rfl) ⟨spec_l14Needs_L3, fun _ => rfl, fun n x => K_55L3 n x, fuel, fun _ => rfl⟩, ⟨loop_of (cx := C_55) (L := S_55L7 fuel) rfl (by rw [R_55L7]; rfl) ⟨spec_l14Needs_L7, fun _ => rfl, fun n x => K_55L7 n x, fuel, fun _ => rfl⟩, ⟨loop_of (cx := C_55) (L := S_55L11 fuel) rfl (by rw [R_55L11]; rfl) ⟨spec_l14Needs_L11, fun _ => rfl, fun n x => K_55L11 n x, fuel, fun _ => rfl⟩, ⟨loop_of (cx := C_55) (L := S_55L17 fuel) rfl (by rw [R_55L17]; rfl) ⟨spec_l14Needs_L17, fun _ => rfl, fun n x => K_55L17 n x, fuel, fun _ => rfl⟩, ⟨loop_of (cx := C_55) (L := S_55L21 fuel) rfl (by rw [R_55L21]; rfl) ⟨spec_l14Needs_L21, fun _ => rfl, fun n x => K_55L21 n x, fuel, fun _ => rfl⟩, trivial⟩⟩⟩⟩⟩) (enc := N_55) (fun _ _ => ⟨rfl, rfl⟩) F_55
theorem F_56 (a : dens [.v (.pair .int (.slice (.slice .int))), .v (.slice .int)]) : E_56.run a = funK C_56 Try.f64 [.v (.pair .int (.slice (.slice .int))), .v (.slice .int)] [.v .bool] a (fun o r => some (N_56 o r)) := by
 kernel_rfl
theorem W_56 : loopsOf D_56 = [] := by kernel_rfl
theorem Q_56 : Try.prog.funcs[64]? = some Try.f64 ∧ (Try.f64.name == "runtime.NumGoroutine") = false ∧ Try.f64.body = some D_56 := ⟨Try.func64, by kernel_rfl, by kernel_rfl⟩
theorem H_56 : Holds Try.prog 64 E_56 :=
 holds_of (cx := C_56) (tabOk_ok tabT rfl).1 (allT_ok ⟨⟨H_12, _, _, Q_12⟩, trivial⟩) mixT Q_56.1 Q_56.2.2 (loops_of W_56 trivial) (enc := N_56) (fun _ _ => ⟨rfl, rfl⟩) F_56
theorem K_57L6 (n : Nat) (x) : spec_l14Holds_L6 (n + 1) x = roundK C_57 B_57L6 (S_57L6 fuel) x (spec_l14Holds_L6 n) := by
 obtain ⟨_, _, _, _, _⟩ := x
 kernel_rfl
theorem K_57L2 (n : Nat) (x) : spec_l14Holds_L2 (n + 1) x = roundK C_57 B_57L2 (S_57L2 fuel) x (spec_l14Holds_L2 n) := by
 obtain ⟨_, _, _⟩ := x
 kernel_rfl
theorem F_57 (a : dens [.v (.slice (.pair (.slice .int) (.pair .int (.slice (.slice .int))))), .v (.slice .int)]) : E_57.run a = funK C_57 Try.f102 [.v (.slice (.pair (.slice .int) (.pair .int (.slice (.slice .int))))), .v (.slice .int)] [.v .bool] a (fun o r => some (N_57 o r)) := by
 kernel_rfl
theorem W_57 : loopsOf D_57 = [B_57L2, B_57L6] := by kernel_rfl
theorem R_57L6 : firstReg B_57L6 = 6 := by kernel_rfl
theorem R_57L2 : firstReg B_57L2 = 2 := by kernel_rfl
theorem Q_57 : Try.prog.funcs[102]? = some Try.f102 ∧ (Try.f102.name == "runtime.NumGoroutine") = false ∧ Try.f102.body = some D_57 := ⟨Try.func102, by kernel_rfl, by kernel_rfl⟩
theorem H_57 : Holds Try.prog 102 E_57 :=
 holds_of (cx := C_57) (tabOk_ok tabT rfl).1 (allT_ok ⟨⟨H_56, _, _, Q_56⟩, trivial⟩) mixT Q_57.1 Q_57.2.2 (loops_of W_57 ⟨loop_of (cx := C_57) (L := S_57L2 fuel) rfl (by rw [R_57L2]; rfl) ⟨spec_l14Holds_L2, fun _ => rfl, fun n x => K_57L2 n x, fuel, fun _ => rfl⟩, ⟨loop_of (cx := C_57) (L := S_57L6 fuel) rfl (by rw [R_57L6]; rfl) ⟨spec_l14Holds_L6, fun _ => rfl, fun n x => K_57L6 n x, fuel, fun _ => rfl⟩, trivial⟩⟩) (enc := N_57) (fun _ _ => ⟨rfl, rfl⟩) F_57
theorem K_58L8 (rec : (Int × (List (List ((List Int) × Int × (List (List Int))))) × (List Int) × (List Int) × ((List (List Int)) × (Int × Int))) → Option (((List (List Int)) × (Int × Int)))) (n : Nat) (x) : spec_l14Go_L8 rec (n + 1) x = roundK (C_58 rec) B_58L8 (S_58L8 rec fuel) x (spec_l14Go_L8 rec n) := by
 obtain ⟨_, _, _, _, _, _, _, _⟩ := x
 kernel_rfl
theorem F_58 (rec : (Int × (List (List ((List Int) × Int × (List (List Int))))) × (List Int) × (List Int) × ((List (List Int)) × (Int × Int))) → Option (((List (List Int)) × (Int × Int)))) (a : dens [.v .int, .v (.slice (.slice (.pair (.slice .int) (.pair .int (.slice (.slice .int)))))), .v (.slice .int), .v (.slice .int), .pr (.mv (.slice .int) 1) (.v (.pair .int .int))]) : spec_l14Go_body rec a.1 a.2.1 a.2.2.1 a.2.2.2.1 a.2.2.2.2 = funK (C_58 rec) Try.f73 [.v .int, .v (.slice (.slice (.pair (.slice .int) (.pair .int (.slice (.slice .int)))))), .v (.slice .int), .v (.slice .int), .pr (.mv (.slice .int) 1) (.v (.pair .int .int))] [.pr (.mv (.slice .int) 1) (.v (.pair .int .int))] a (fun o r => some (N_58 o r)) := by
 kernel_rfl
theorem W_58 : loopsOf D_58 = [B_58L8] := by kernel_rfl
theorem R_58L8 : firstReg B_58L8 = 8 := by kernel_rfl
theorem Q_58 : Try.prog.funcs[73]? = some Try.f73 ∧ (Try.f73.name == "runtime.NumGoroutine") = false ∧ Try.f73.body = some D_58 := ⟨Try.func73, by kernel_rfl, by kernel_rfl⟩
theorem H_58 : ∀ d, Holds Try.prog 73 (E_58 d)
 | 0 => fun _ b h => absurd (show (none : Option _) = some b from h) (by simp)
 | d + 1 => holds_of (en := E_58 (d + 1)) (cx := (C_58 (spec_l14Go d))) (tabOk_ok tabT rfl).1 (allT_ok ⟨⟨H_6, _, _, Q_6⟩, ⟨⟨H_58 d, _, _, Q_58⟩, ⟨⟨H_57, _, _, Q_57⟩, trivial⟩⟩⟩) mixT Q_58.1 Q_58.2.2 (loops_of W_58 ⟨loop_of (cx := (C_58 (spec_l14Go d))) (L := S_58L8 (spec_l14Go d) fuel) rfl (by rw [R_58L8]; rfl) ⟨spec_l14Go_L8 (spec_l14Go d), fun _ => rfl, fun n x => K_58L8 (spec_l14Go d) n x, fuel, fun _ => rfl⟩, trivial⟩) (enc := N_58) (fun _ _ => ⟨rfl, rfl⟩) (F_58 (spec_l14Go d)) rfl
theorem F_59 (a : dens [.v .int, .v (.slice (.pair .int (.slice (.slice .int)))), .v .int, .v (.slice .int), .v .int]) : E_59.run a = funK C_59 Try.f33 [.v .int, .v (.slice (.pair .int (.slice (.slice .int)))), .v .int, .v (.slice .int), .v .int] [.pr (.mv (.slice .int) 1) (.v (.pair .int .int))] a (fun o r => some (N_59 o r)) := by
 kernel_rfl
theorem W_59 : loopsOf D_59 = [] := by kernel_rfl
theorem Q_59 : Try.prog.funcs[33]? = some Try.f33 ∧ (Try.f33.name == "runtime.NumGoroutine") = false ∧ Try.f33.body = some D_59 := ⟨Try.func33, by kernel_rfl, by kernel_rfl⟩
theorem H_59 : Holds Try.prog 33 E_59 :=
 holds_of (cx := C_59) (tabOk_ok tabT rfl).1 (allT_ok ⟨⟨H_58 fuel, _, _, Q_58⟩, ⟨⟨H_55, _, _, Q_55⟩, trivial⟩⟩) mixT Q_59.1 Q_59.2.2 (loops_of W_59 trivial) (enc := N_59) (fun _ _ => ⟨rfl, rfl⟩) F_59
theorem K_60L2 (n : Nat) (x) : spec_l1Put_L2 (n + 1) x = roundK C_60 B_60L2 (S_60L2 fuel) x (spec_l1Put_L2 n) := by
 obtain ⟨_, _, _⟩ := x
 kernel_rfl
theorem F_60 (a : dens [.v (.slice .int), .v .int]) : E_60.run a = funK C_60 Try.f91 [.v (.slice .int), .v .int] [.v (.slice .int)] a (fun o r => some (N_60 o r)) := by
 kernel_rfl
theorem W_60 : loopsOf D_60 = [B_60L2] := by kernel_rfl
theorem R_60L2 : firstReg B_60L2 = 2 := by kernel_rfl
theorem Q_60 : Try.prog.funcs[91]? = some Try.f91 ∧ (Try.f91.name == "runtime.NumGoroutine") = false ∧ Try.f91.body = some D_60 := ⟨Try.func91, by kernel_rfl, by kernel_rfl⟩
theorem H_60 : Holds Try.prog 91 E_60 :=
 holds_of (cx := C_60) (tabOk_ok tabT rfl).1 (allT_ok trivial) mixT Q_60.1 Q_60.2.2 (loops_of W_60 ⟨loop_of (cx := C_60) (L := S_60L2 fuel) rfl (by rw [R_60L2]; rfl) ⟨spec_l1Put_L2, fun _ => rfl, fun n x => K_60L2 n x, fuel, fun _ => rfl⟩, trivial⟩) (enc := N_60) (fun _ _ => ⟨rfl, rfl⟩) F_60
theorem K_61L3 (n : Nat) (x) : spec_l14Values_L3 (n + 1) x = roundK C_61 B_61L3 (S_61L3 fuel) x (spec_l14Values_L3 n) := by
 obtain ⟨_, _, _⟩ := x
 kernel_rfl
theorem F_61 (a : dens [.v (.slice .int)]) : E_61.run a = funK C_61 Try.f52 [.v (.slice .int)] [.v (.slice .int)] a (fun o r => some (N_61 o r)) := by
 kernel_rfl
theorem W_61 : loopsOf D_61 = [B_61L3] := by kernel_rfl
theorem R_61L3 : firstReg B_61L3 = 3 := by kernel_rfl
theorem Q_61 : Try.prog.funcs[52]? = some Try.f52 ∧ (Try.f52.name == "runtime.NumGoroutine") = false ∧ Try.f52.body = some D_61 := ⟨Try.func52, by kernel_rfl, by kernel_rfl⟩
theorem H_61 : Holds Try.prog 52 E_61 :=
 holds_of (cx := C_61) (tabOk_ok tabT rfl).1 (allT_ok ⟨⟨H_60, _, _, Q_60⟩, trivial⟩) mixT Q_61.1 Q_61.2.2 (loops_of W_61 ⟨loop_of (cx := C_61) (L := S_61L3 fuel) rfl (by rw [R_61L3]; rfl) ⟨spec_l14Values_L3, fun _ => rfl, fun n x => K_61L3 n x, fuel, fun _ => rfl⟩, trivial⟩) (enc := N_61) (fun _ _ => ⟨rfl, rfl⟩) F_61
theorem K_62L4 (n : Nat) (x) : spec_l14Core_L4 (n + 1) x = roundK C_62 B_62L4 (S_62L4 fuel) x (spec_l14Core_L4 n) := by
 obtain ⟨_, _, _⟩ := x
 kernel_rfl
theorem F_62 (a : dens [.v .int, .v (.slice (.pair .int (.slice (.slice .int))))]) : E_62.run a = funK C_62 Try.f53 [.v .int, .v (.slice (.pair .int (.slice (.slice .int))))] [.v (.slice .int)] a (fun o r => some (N_62 o r)) := by
 kernel_rfl
theorem W_62 : loopsOf D_62 = [B_62L4] := by kernel_rfl
theorem R_62L4 : firstReg B_62L4 = 4 := by kernel_rfl
theorem Q_62 : Try.prog.funcs[53]? = some Try.f53 ∧ (Try.f53.name == "runtime.NumGoroutine") = false ∧ Try.f53.body = some D_62 := ⟨Try.func53, by kernel_rfl, by kernel_rfl⟩
theorem H_62 : Holds Try.prog 53 E_62 :=
 holds_of (cx := C_62) (tabOk_ok tabT rfl).1 (allT_ok ⟨⟨H_59, _, _, Q_59⟩, ⟨⟨H_61, _, _, Q_61⟩, ⟨⟨H_53, _, _, Q_53⟩, trivial⟩⟩⟩) mixT Q_62.1 Q_62.2.2 (loops_of W_62 ⟨loop_of (cx := C_62) (L := S_62L4 fuel) rfl (by rw [R_62L4]; rfl) ⟨spec_l14Core_L4, fun _ => rfl, fun n x => K_62L4 n x, fuel, fun _ => rfl⟩, trivial⟩) (enc := N_62) (fun _ _ => ⟨rfl, rfl⟩) F_62
theorem K_63L2 (n : Nat) (x) : spec_l5Place_L2 (n + 1) x = roundK C_63 B_63L2 (S_63L2 fuel) x (spec_l5Place_L2 n) := by
 obtain ⟨_, _, _⟩ := x
 kernel_rfl
theorem F_63 (a : dens [.v (.slice .int), .v .int]) : E_63.run a = funK C_63 Try.f54 [.v (.slice .int), .v .int] [.v .int] a (fun o r => some (N_63 o r)) := by
 kernel_rfl
theorem W_63 : loopsOf D_63 = [B_63L2] := by kernel_rfl
theorem R_63L2 : firstReg B_63L2 = 2 := by kernel_rfl
theorem Q_63 : Try.prog.funcs[54]? = some Try.f54 ∧ (Try.f54.name == "runtime.NumGoroutine") = false ∧ Try.f54.body = some D_63 := ⟨Try.func54, by kernel_rfl, by kernel_rfl⟩
theorem H_63 : Holds Try.prog 54 E_63 :=
 holds_of (cx := C_63) (tabOk_ok tabT rfl).1 (allT_ok trivial) mixT Q_63.1 Q_63.2.2 (loops_of W_63 ⟨loop_of (cx := C_63) (L := S_63L2 fuel) rfl (by rw [R_63L2]; rfl) ⟨spec_l5Place_L2, fun _ => rfl, fun n x => K_63L2 n x, fuel, fun _ => rfl⟩, trivial⟩) (enc := N_63) (fun _ _ => ⟨rfl, rfl⟩) F_63
theorem K_64L14 (n : Nat) (x) : spec_CoreTemplate_L14 (n + 1) x = roundK C_64 B_64L14 (S_64L14 fuel) x (spec_CoreTemplate_L14 n) := by
 obtain ⟨_, _, _, _, _, _, _, _⟩ := x
 kernel_rfl
theorem K_64L10 (n : Nat) (x) : spec_CoreTemplate_L10 (n + 1) x = roundK C_64 B_64L10 (S_64L10 fuel) x (spec_CoreTemplate_L10 n) := by
 obtain ⟨_, _, _, _, _, _⟩ := x
 kernel_rfl
theorem K_64L6 (n : Nat) (x) : spec_CoreTemplate_L6 (n + 1) x = roundK C_64 B_64L6 (S_64L6 fuel) x (spec_CoreTemplate_L6 n) := by
 obtain ⟨_, _, _, _⟩ := x
 kernel_rfl
theorem F_64 (a : dens [.v .int, .v (.slice (.pair .int (.slice (.slice .int))))]) : E_64.run a = funK C_64 Try.f17 [.v .int, .v (.slice (.pair .int (.slice (.slice .int))))] [.v .int, .mv (.pair .int (.slice (.slice .int))) 0, .v .bool] a (fun o r => some (N_64 o r)) := by
 kernel_rfl
theorem W_64 : loopsOf D_64 = [B_64L6, B_64L10, B_64L14] := by kernel_rfl
theorem R_64L14 : firstReg B_64L14 = 14 := by kernel_rfl
theorem R_64L10 : firstReg B_64L10 = 10 := by kernel_rfl
theorem R_64L6 : firstReg B_64L6 = 6 := by kernel_rfl
theorem Q_64 : Try.prog.funcs[17]? = some Try.f17 ∧ (Try.f17.name == "runtime.NumGoroutine") = false ∧ Try.f17.body = some D_64 := ⟨Try.func17, by kernel_rfl, by kernel_rfl⟩
theorem H_64 : Holds Try.prog 17 E_64 :=
 holds_of (cx := C_64) (tabOk_ok tabT rfl).1 (allT_ok ⟨⟨H_52, _, _, Q_52⟩, ⟨⟨H_61, _, _, Q_61⟩, ⟨⟨H_62, _, _, Q_62⟩, ⟨⟨H_63, _, _, Q_63⟩, trivial⟩⟩⟩⟩) mixT Q_64.1 Q_64.2.2 (loops_of W_64 ⟨loop_of (cx := C_64) (L := S_64L6 fuel) rfl (by rw [R_64L6]; rfl) ⟨spec_CoreTemplate_L6, fun _ => rfl, fun n x => K_64L6 n x, fuel, fun _ => rfl⟩, ⟨loop_of (cx := C_64) (L := S_64L10 fuel) rfl (by rw [R_64L10]; rfl) ⟨spec_CoreTemplate_L10, fun _ => rfl, fun n x => K_64L10 n x, fuel, fun _ => rfl⟩, ⟨loop_of (cx := C_64) (L := S_64L14 fuel) rfl (by rw [R_64L14]; rfl) ⟨spec_CoreTemplate_L14, fun _ => rfl, fun n x => K_64L14 n x, fuel, fun _ => rfl⟩, trivial⟩⟩⟩) (enc := N_64) (fun _ _ => ⟨rfl, rfl⟩) F_64
theorem K_65L4 (n : Nat) (x) : laws_rInts_L4 (n + 1) x = roundK C_65 B_65L4 (S_65L4 fuel) x (laws_rInts_L4 n) := by
 obtain ⟨_, _, _⟩ := x
 kernel_rfl
theorem F_65 (a : dens [.v (.slice .int), .v (.slice .int)]) : E_65.run a = funK C_65 Try.f27 [.v (.slice .int), .v (.slice .int)] [.v .bool] a (fun o r => some (N_65 o r)) := by
 kernel_rfl
theorem W_65 : loopsOf D_65 = [B_65L4] := by kernel_rfl
theorem R_65L4 : firstReg B_65L4 = 4 := by kernel_rfl
theorem Q_65 : Try.prog.funcs[27]? = some Try.f27 ∧ (Try.f27.name == "runtime.NumGoroutine") = false ∧ Try.f27.body = some D_65 := ⟨Try.func27, by kernel_rfl, by kernel_rfl⟩
theorem H_65 : Holds Try.prog 27 E_65 :=
 holds_of (cx := C_65) (tabOk_ok tabT rfl).1 (allT_ok trivial) mixT Q_65.1 Q_65.2.2 (loops_of W_65 ⟨loop_of (cx := C_65) (L := S_65L4 fuel) rfl (by rw [R_65L4]; rfl) ⟨laws_rInts_L4, fun _ => rfl, fun n x => K_65L4 n x, fuel, fun _ => rfl⟩, trivial⟩) (enc := N_65) (fun _ _ => ⟨rfl, rfl⟩) F_65
theorem K_66L4 (n : Nat) (x) : laws_rTable_L4 (n + 1) x = roundK C_66 B_66L4 (S_66L4 fuel) x (laws_rTable_L4 n) := by
 obtain ⟨_, _, _⟩ := x
 kernel_rfl
theorem F_66 (a : dens [.v (.slice (.slice .int)), .v (.slice (.slice .int))]) : E_66.run a = funK C_66 Try.f18 [.v (.slice (.slice .int)), .v (.slice (.slice .int))] [.v .bool] a (fun o r => some (N_66 o r)) := by
 kernel_rfl
theorem W_66 : loopsOf D_66 = [B_66L4] := by kernel_rfl
theorem R_66L4 : firstReg B_66L4 = 4 := by kernel_rfl
theorem Q_66 : Try.prog.funcs[18]? = some Try.f18 ∧ (Try.f18.name == "runtime.NumGoroutine") = false ∧ Try.f18.body = some D_66 := ⟨Try.func18, by kernel_rfl, by kernel_rfl⟩
theorem H_66 : Holds Try.prog 18 E_66 :=
 holds_of (cx := C_66) (tabOk_ok tabT rfl).1 (allT_ok ⟨⟨H_65, _, _, Q_65⟩, trivial⟩) mixT Q_66.1 Q_66.2.2 (loops_of W_66 ⟨loop_of (cx := C_66) (L := S_66L4 fuel) rfl (by rw [R_66L4]; rfl) ⟨laws_rTable_L4, fun _ => rfl, fun n x => K_66L4 n x, fuel, fun _ => rfl⟩, trivial⟩) (enc := N_66) (fun _ _ => ⟨rfl, rfl⟩) F_66
theorem F_67 (a : dens [.v (.slice .int), .v (.ptr .int)]) : E_67.run a = funK C_67 Try.f56 [.v (.slice .int), .v (.ptr .int)] [.v .bool] a (fun o r => some (N_67 o r)) := by
 kernel_rfl
theorem W_67 : loopsOf D_67 = [] := by kernel_rfl
theorem Q_67 : Try.prog.funcs[56]? = some Try.f56 ∧ (Try.f56.name == "runtime.NumGoroutine") = false ∧ Try.f56.body = some D_67 := ⟨Try.func56, by kernel_rfl, by kernel_rfl⟩
theorem H_67 : Holds Try.prog 56 E_67 :=
 holds_of (cx := C_67) (tabOk_ok tabT rfl).1 (allT_ok ⟨⟨H_38, _, _, Q_38⟩, trivial⟩) mixT Q_67.1 Q_67.2.2 (loops_of W_67 trivial) (enc := N_67) (fun _ _ => ⟨rfl, rfl⟩) F_67
theorem F_68 (a : dens [.v (.slice .int), .pz (.fc 56 (.ptr .int)), .bx (.v .int), .bx (.pr (.v .int) (.mv .int 0)), .bx (.v .bool)]) : E_68.run a = funK C_68 Try.f82 [.v (.slice .int), .pz (.fc 56 (.ptr .int)), .bx (.v .int), .bx (.pr (.v .int) (.mv .int 0)), .bx (.v .bool)] [.v .bool] a (fun o r => some (N_68 o r)) := by
 kernel_rfl
theorem W_68 : loopsOf D_68 = [] := by kernel_rfl
theorem Q_68 : Try.prog.funcs[82]? = some Try.f82 ∧ (Try.f82.name == "runtime.NumGoroutine") = false ∧ Try.f82.body = some D_68 := ⟨Try.func82, by kernel_rfl, by kernel_rfl⟩
theorem H_68 : Holds Try.prog 82 E_68 :=
 holds_of (cx := C_68) (tabOk_ok tabT rfl).1 (allT_ok ⟨⟨H_67, _, _, Q_67⟩, ⟨⟨H_39, _, _, Q_39⟩, trivial⟩⟩) mixT Q_68.1 Q_68.2.2 (loops_of W_68 trivial) (enc := N_68) (fun _ _ => ⟨rfl, rfl⟩) F_68
theorem K_69L4 (rec : (Int × (List Int) × ((Bool × Int) × (Int × ((Int × (List Int)) × Bool))) × (Bool × Int × Int × (List (List ((List Int) × (List ByteArray))))) × (List Int) × Unit) → Option ((List Int) × (Unit × (Int × ((Int × (List Int)) × Bool))) × (Bool × Int × Int × (List (List ((List Int) × (List ByteArray))))) × (List Int) × Bool)) (n : Nat) (x) : impl_polySearch_each_c1_impl_firstPoly_c1_impl_IsCore_c1_L4 rec (n + 1) x = roundK (C_69 rec) B_69L4 (S_69L4 rec fuel) x (impl_polySearch_each_c1_impl_firstPoly_c1_impl_IsCore_c1_L4 rec n) := by
 obtain ⟨_, _, _, _, _, _, _⟩ := x
 kernel_rfl
theorem F_69 (rec : (Int × (List Int) × ((Bool × Int) × (Int × ((Int × (List Int)) × Bool))) × (Bool × Int × Int × (List (List ((List Int) × (List ByteArray))))) × (List Int) × Unit) → Option ((List Int) × (Unit × (Int × ((Int × (List Int)) × Bool))) × (Bool × Int × Int × (List (List ((List Int) × (List ByteArray))))) × (List Int) × Bool)) (a : dens [.v .int, .bx (.mv .int 0), .pr (.pz (.fc 56 (.ptr .int))) (.pr (.bx (.v .int)) (.pr (.bx (.pr (.v .int) (.mv .int 0))) (.bx (.v .bool)))), .bx (.v (.ptr (.pair .int (.pair .int (.slice (.slice (.pair (.slice .int) .smap))))))), .bx (.v (.slice .int)), .jk 1]) : impl_polySearch_each_c1_impl_firstPoly_c1_impl_IsCore_c1_body rec a.1 a.2.1 a.2.2.1 a.2.2.2.1 a.2.2.2.2.1 a.2.2.2.2.2 = funK (C_69 rec) Try.f95 [.v .int, .bx (.mv .int 0), .pr (.pz (.fc 56 (.ptr .int))) (.pr (.bx (.v .int)) (.pr (.bx (.pr (.v .int) (.mv .int 0))) (.bx (.v .bool)))), .bx (.v (.ptr (.pair .int (.pair .int (.slice (.slice (.pair (.slice .int) .smap))))))), .bx (.v (.slice .int)), .jk 1] [.v .bool] a (fun o r => some (N_69 o r)) := by
 kernel_rfl
theorem W_69 : loopsOf D_69 = [B_69L4] := by kernel_rfl
theorem R_69L4 : firstReg B_69L4 = 4 := by kernel_rfl
theorem Q_69 : Try.prog.funcs[95]? = some Try.f95 ∧ (Try.f95.name == "runtime.NumGoroutine") = false ∧ Try.f95.body = some D_69 := ⟨Try.func95, by kernel_rfl, by kernel_rfl⟩
theorem H_69 : ∀ d, Holds Try.prog 95 (E_69 d)
 | 0 => fun _ b h => absurd (show (none : Option _) = some b from h) (by simp)
 | d + 1 => holds_of (en := E_69 (d + 1)) (cx := (C_69 (impl_polySearch_each_c1_impl_firstPoly_c1_impl_IsCore_c1 d))) (tabOk_ok tabT rfl).1 (allT_ok ⟨⟨H_68, _, _, Q_68⟩, ⟨⟨H_42, _, _, Q_42⟩, ⟨⟨H_69 d, _, _, Q_69⟩, trivial⟩⟩⟩) mixT Q_69.1 Q_69.2.2 (loops_of W_69 ⟨loop_of (cx := (C_69 (impl_polySearch_each_c1_impl_firstPoly_c1_impl_IsCore_c1 d))) (L := S_69L4 (impl_polySearch_each_c1_impl_firstPoly_c1_impl_IsCore_c1 d) fuel) rfl (by rw [R_69L4]; rfl) ⟨impl_polySearch_each_c1_impl_firstPoly_c1_impl_IsCore_c1_L4 (impl_polySearch_each_c1_impl_firstPoly_c1_impl_IsCore_c1 d), fun _ => rfl, fun n x => K_69L4 (impl_polySearch_each_c1_impl_firstPoly_c1_impl_IsCore_c1 d) n x, fuel, fun _ => rfl⟩, trivial⟩) (enc := N_69) (fun _ _ => ⟨rfl, rfl⟩) (F_69 (impl_polySearch_each_c1_impl_firstPoly_c1_impl_IsCore_c1 d)) rfl
theorem F_70 (a : dens [.v (.ptr (.pair .int (.pair .int (.slice (.slice (.pair (.slice .int) .smap)))))), .v (.slice .int), .pr (.pz (.fc 56 (.ptr .int))) (.pr (.bx (.v .int)) (.pr (.bx (.pr (.v .int) (.mv .int 0))) (.bx (.v .bool))))]) : E_70.run a = funK C_70 Try.f58 [.v (.ptr (.pair .int (.pair .int (.slice (.slice (.pair (.slice .int) .smap)))))), .v (.slice .int), .pr (.pz (.fc 56 (.ptr .int))) (.pr (.bx (.v .int)) (.pr (.bx (.pr (.v .int) (.mv .int 0))) (.bx (.v .bool))))] [] a (fun o r => some (N_70 o r)) := by
 kernel_rfl
theorem W_70 : loopsOf D_70 = [] := by kernel_rfl
theorem Q_70 : Try.prog.funcs[58]? = some Try.f58 ∧ (Try.f58.name == "runtime.NumGoroutine") = false ∧ Try.f58.body = some D_70 := ⟨Try.func58, by kernel_rfl, by kernel_rfl⟩
theorem H_70 : Holds Try.prog 58 E_70 :=
 holds_of (cx := C_70) (tabOk_ok tabT rfl).1 (allT_ok ⟨⟨H_69 fuel, _, _, Q_69⟩, trivial⟩) mixT Q_70.1 Q_70.2.2 (loops_of W_70 trivial) (enc := N_70) (fun _ _ => ⟨rfl, rfl⟩) F_70
theorem F_71 (a : dens [.v .int, .v (.slice (.pair .int (.slice (.slice .int)))), .v .int, .v (.slice .int), .v (.fc 56 (.ptr .int))]) : E_71.run a = funK C_71 Try.f39 [.v .int, .v (.slice (.pair .int (.slice (.slice .int)))), .v .int, .v (.slice .int), .v (.fc 56 (.ptr .int))] [.pr (.v .int) (.mv .int 0), .v .bool] a (fun o r => some (N_71 o r)) := by
 kernel_rfl
theorem W_71 : loopsOf D_71 = [] := by kernel_rfl
theorem Q_71 : Try.prog.funcs[39]? = some Try.f39 ∧ (Try.f39.name == "runtime.NumGoroutine") = false ∧ Try.f39.body = some D_71 := ⟨Try.func39, by kernel_rfl, by kernel_rfl⟩
theorem H_71 : Holds Try.prog 39 E_71 :=
 holds_of (cx := C_71) (tabOk_ok tabT rfl).1 (allT_ok ⟨⟨H_34, _, _, Q_34⟩, ⟨⟨H_70, _, _, Q_70⟩, trivial⟩⟩) mixT Q_71.1 Q_71.2.2 (loops_of W_71 trivial) (enc := N_71) (fun _ _ => ⟨rfl, rfl⟩) F_71
theorem F_72 (a : dens [.v .int, .v (.slice (.pair .int (.slice (.slice .int))))]) : E_72.run a = funK C_72 Try.f19 [.v .int, .v (.slice (.pair .int (.slice (.slice .int))))] [.v .bool, .v .bool] a (fun o r => some (N_72 o r)) := by
 kernel_rfl
theorem W_72 : loopsOf D_72 = [] := by kernel_rfl
theorem Q_72 : Try.prog.funcs[19]? = some Try.f19 ∧ (Try.f19.name == "runtime.NumGoroutine") = false ∧ Try.f19.body = some D_72 := ⟨Try.func19, by kernel_rfl, by kernel_rfl⟩
theorem H_72 : Holds Try.prog 19 E_72 :=
 holds_of (cx := C_72) (tabOk_ok tabT rfl).1 (allT_ok ⟨⟨H_29, _, _, Q_29⟩, ⟨⟨H_35, _, _, Q_35⟩, ⟨⟨H_71, _, _, Q_71⟩, trivial⟩⟩⟩) mixT Q_72.1 Q_72.2.2 (loops_of W_72 trivial) (enc := N_72) (fun _ _ => ⟨rfl, rfl⟩) F_72
theorem F_73 (a : dens [.v .int, .v (.slice (.pair .int (.slice (.slice .int))))]) : E_73.run a = funK C_73 Try.f20 [.v .int, .v (.slice (.pair .int (.slice (.slice .int))))] [.v .bool, .v .bool] a (fun o r => some (N_73 o r)) := by
 kernel_rfl
theorem W_73 : loopsOf D_73 = [] := by kernel_rfl
theorem Q_73 : Try.prog.funcs[20]? = some Try.f20 ∧ (Try.f20.name == "runtime.NumGoroutine") = false ∧ Try.f20.body = some D_73 := ⟨Try.func20, by kernel_rfl, by kernel_rfl⟩
theorem H_73 : Holds Try.prog 20 E_73 :=
 holds_of (cx := C_73) (tabOk_ok tabT rfl).1 (allT_ok ⟨⟨H_52, _, _, Q_52⟩, ⟨⟨H_61, _, _, Q_61⟩, ⟨⟨H_62, _, _, Q_62⟩, trivial⟩⟩⟩) mixT Q_73.1 Q_73.2.2 (loops_of W_73 trivial) (enc := N_73) (fun _ _ => ⟨rfl, rfl⟩) F_73
theorem F_74 (a : dens [.v .int, .v (.slice (.pair .int (.slice (.slice .int))))]) : E_74.run a = funK C_74 Try.f22 [.v .int, .v (.slice (.pair .int (.slice (.slice .int))))] [.pr (.v .int) (.mv .int 0), .v .bool] a (fun o r => some (N_74 o r)) := by
 kernel_rfl
theorem W_74 : loopsOf D_74 = [] := by kernel_rfl
theorem Q_74 : Try.prog.funcs[22]? = some Try.f22 ∧ (Try.f22.name == "runtime.NumGoroutine") = false ∧ Try.f22.body = some D_74 := ⟨Try.func22, by kernel_rfl, by kernel_rfl⟩
theorem H_74 : Holds Try.prog 22 E_74 :=
 holds_of (cx := C_74) (tabOk_ok tabT rfl).1 (allT_ok ⟨⟨H_52, _, _, Q_52⟩, ⟨⟨H_62, _, _, Q_62⟩, ⟨⟨H_6, _, _, Q_6⟩, trivial⟩⟩⟩) mixT Q_74.1 Q_74.2.2 (loops_of W_74 trivial) (enc := N_74) (fun _ _ => ⟨rfl, rfl⟩) F_74
theorem F_75 (a : dens [.v (.pair .int (.slice .int)), .v (.pair .int (.slice .int))]) : E_75.run a = funK C_75 Try.f23 [.v (.pair .int (.slice .int)), .v (.pair .int (.slice .int))] [.v .bool] a (fun o r => some (N_75 o r)) := by
 kernel_rfl
theorem W_75 : loopsOf D_75 = [] := by kernel_rfl
theorem Q_75 : Try.prog.funcs[23]? = some Try.f23 ∧ (Try.f23.name == "runtime.NumGoroutine") = false ∧ Try.f23.body = some D_75 := ⟨Try.func23, by kernel_rfl, by kernel_rfl⟩
theorem H_75 : Holds Try.prog 23 E_75 :=
 holds_of (cx := C_75) (tabOk_ok tabT rfl).1 (allT_ok ⟨⟨H_65, _, _, Q_65⟩, trivial⟩) mixT Q_75.1 Q_75.2.2 (loops_of W_75 trivial) (enc := N_75) (fun _ _ => ⟨rfl, rfl⟩) F_75
theorem F_76 (a : dens [.v (.pair .int (.slice .int)), .v .int]) : E_76.run a = funK C_76 Try.f62 [.v (.pair .int (.slice .int)), .v .int] [.v .bool] a (fun o r => some (N_76 o r)) := by
 kernel_rfl
theorem W_76 : loopsOf D_76 = [] := by kernel_rfl
theorem Q_76 : Try.prog.funcs[62]? = some Try.f62 ∧ (Try.f62.name == "runtime.NumGoroutine") = false ∧ Try.f62.body = some D_76 := ⟨Try.func62, by kernel_rfl, by kernel_rfl⟩
theorem H_76 : Holds Try.prog 62 E_76 :=
 holds_of (cx := C_76) (tabOk_ok tabT rfl).1 (allT_ok ⟨⟨H_25, _, _, Q_25⟩, ⟨⟨H_30, _, _, Q_30⟩, trivial⟩⟩) mixT Q_76.1 Q_76.2.2 (loops_of W_76 trivial) (enc := N_76) (fun _ _ => ⟨rfl, rfl⟩) F_76
theorem K_77L10 (n : Nat) (x) : impl_firstBreak_L10 (n + 1) x = roundK C_77 B_77L10 (S_77L10 fuel) x (impl_firstBreak_L10 n) := by
 obtain ⟨_, _, _, _, _, _, _, _, _, _⟩ := x
 kernel_rfl
theorem K_77L19 (n : Nat) (x) : impl_firstBreak_L19 (n + 1) x = roundK C_77 B_77L19 (S_77L19 fuel) x (impl_firstBreak_L19 n) := by
 obtain ⟨_, _, _, _, _, _, _, _, _, _, _, _, _, _, _⟩ := x
 kernel_rfl
theorem K_77L15 (n : Nat) (x) : impl_firstBreak_L15 (n + 1) x = roundK C_77 B_77L15 (S_77L15 fuel) x (impl_firstBreak_L15 n) := by
 obtain ⟨_, _, _, _, _, _, _, _, _, _⟩ := x
 kernel_rfl
theorem K_77L6 (n : Nat) (x) : impl_firstBreak_L6 (n + 1) x = roundK C_77 B_77L6 (S_77L6 fuel) x (impl_firstBreak_L6 n) := by
 obtain ⟨_, _, _, _, _, _, _, _⟩ := x
 kernel_rfl
theorem F_77 (a : dens [.v .int, .v (.pair .int (.slice .int)), .v (.pair .int (.slice (.slice .int)))]) : E_77.run a = funK C_77 Try.f97 [.v .int, .v (.pair .int (.slice .int)), .v (.pair .int (.slice (.slice .int)))] [.mv .int 0, .mv .int 0, .v .bool] a (fun o r => some (N_77 o r)) := by
 kernel_rfl
theorem W_77 : loopsOf D_77 = [B_77L6, B_77L10, B_77L15, B_77L19] := by kernel_rfl
theorem R_77L10 : firstReg B_77L10 = 10 := by kernel_rfl
theorem R_77L19 : firstReg B_77L19 = 19 := by kernel_rfl
theorem R_77L15 : firstReg B_77L15 = 15 := by kernel_rfl
theorem R_77L6 : firstReg B_77L6 = 6 := by kernel_rfl
theorem Q_77 : Try.prog.funcs[97]? = some Try.f97 ∧ (Try.f97.name == "runtime.NumGoroutine") = false ∧ Try.f97.body = some D_77 := ⟨Try.func97, by kernel_rfl, by kernel_rfl⟩
theorem H_77 : Holds Try.prog 97 E_77 :=
 holds_of (cx := C_77) (tabOk_ok tabT rfl).1 (allT_ok ⟨⟨H_30, _, _, Q_30⟩, ⟨⟨H_32, _, _, Q_32⟩, ⟨⟨H_31, _, _, Q_31⟩, trivial⟩⟩⟩) mixT Q_77.1 Q_77.2.2 (loops_of W_77 ⟨loop_of (cx := C_77) (L := S_77L6 fuel) rfl (by rw [R_77L6]; rfl) ⟨impl_firstBreak_L6, fun _ => rfl, fun n x => K_77L6 n x, fuel, fun _ => rfl⟩, ⟨loop_of (cx := C_77) (L := S_77L10 fuel) rfl (by rw [R_77L10]; rfl) ⟨impl_firstBreak_L10, fun _ => rfl, fun n x => K_77L10 n x, fuel, fun _ => rfl⟩, ⟨loop_of (cx := C_77) (L := S_77L15 fuel) rfl (by rw [R_77L15]; rfl) ⟨impl_firstBreak_L15, fun _ => rfl, fun n x => K_77L15 n x, fuel, fun _ => rfl⟩, ⟨loop_of (cx := C_77) (L := S_77L19 fuel) rfl (by rw [R_77L19]; rfl) ⟨impl_firstBreak_L19, fun _ => rfl, fun n x => K_77L19 n x, fuel, fun _ => rfl⟩, trivial⟩⟩⟩⟩) (enc := N_77) (fun _ _ => ⟨rfl, rfl⟩) F_77
theorem K_78L2 (n : Nat) (x) : impl_keepsAll_L2 (n + 1) x = roundK C_78 B_78L2 (S_78L2 fuel) x (impl_keepsAll_L2 n) := by
 obtain ⟨_, _, _, _, _⟩ := x
 kernel_rfl
theorem F_78 (a : dens [.v .int, .v (.slice (.pair .int (.slice (.slice .int)))), .v (.pair .int (.slice .int))]) : E_78.run a = funK C_78 Try.f63 [.v .int, .v (.slice (.pair .int (.slice (.slice .int)))), .v (.pair .int (.slice .int))] [.v .bool] a (fun o r => some (N_78 o r)) := by
 kernel_rfl
theorem W_78 : loopsOf D_78 = [B_78L2] := by kernel_rfl
theorem R_78L2 : firstReg B_78L2 = 2 := by kernel_rfl
theorem Q_78 : Try.prog.funcs[63]? = some Try.f63 ∧ (Try.f63.name == "runtime.NumGoroutine") = false ∧ Try.f63.body = some D_78 := ⟨Try.func63, by kernel_rfl, by kernel_rfl⟩
theorem H_78 : Holds Try.prog 63 E_78 :=
 holds_of (cx := C_78) (tabOk_ok tabT rfl).1 (allT_ok ⟨⟨H_77, _, _, Q_77⟩, trivial⟩) mixT Q_78.1 Q_78.2.2 (loops_of W_78 ⟨loop_of (cx := C_78) (L := S_78L2 fuel) rfl (by rw [R_78L2]; rfl) ⟨impl_keepsAll_L2, fun _ => rfl, fun n x => K_78L2 n x, fuel, fun _ => rfl⟩, trivial⟩) (enc := N_78) (fun _ _ => ⟨rfl, rfl⟩) F_78
theorem F_79 (a : dens [.v .int, .v (.slice (.pair .int (.slice (.slice .int)))), .v (.pair .int (.slice .int))]) : E_79.run a = funK C_79 Try.f24 [.v .int, .v (.slice (.pair .int (.slice (.slice .int)))), .v (.pair .int (.slice .int))] [.v .bool, .v .bool] a (fun o r => some (N_79 o r)) := by
 kernel_rfl
theorem W_79 : loopsOf D_79 = [] := by kernel_rfl
theorem Q_79 : Try.prog.funcs[24]? = some Try.f24 ∧ (Try.f24.name == "runtime.NumGoroutine") = false ∧ Try.f24.body = some D_79 := ⟨Try.func24, by kernel_rfl, by kernel_rfl⟩
theorem H_79 : Holds Try.prog 24 E_79 :=
 holds_of (cx := C_79) (tabOk_ok tabT rfl).1 (allT_ok ⟨⟨H_29, _, _, Q_29⟩, ⟨⟨H_76, _, _, Q_76⟩, ⟨⟨H_78, _, _, Q_78⟩, trivial⟩⟩⟩) mixT Q_79.1 Q_79.2.2 (loops_of W_79 trivial) (enc := N_79) (fun _ _ => ⟨rfl, rfl⟩) F_79
theorem K_80L9 (n : Nat) (x) : impl_ConstantPolymorphisms_L9 (n + 1) x = roundK C_80 B_80L9 (S_80L9 fuel) x (impl_ConstantPolymorphisms_L9 n) := by
 obtain ⟨_, _, _, _, _, _, _⟩ := x
 kernel_rfl
theorem K_80L5 (n : Nat) (x) : impl_ConstantPolymorphisms_L5 (n + 1) x = roundK C_80 B_80L5 (S_80L5 fuel) x (impl_ConstantPolymorphisms_L5 n) := by
 obtain ⟨_, _, _, _⟩ := x
 kernel_rfl
theorem F_80 (a : dens [.v .int, .v (.slice (.pair .int (.slice (.slice .int))))]) : E_80.run a = funK C_80 Try.f25 [.v .int, .v (.slice (.pair .int (.slice (.slice .int))))] [.mv .int 0, .v .bool] a (fun o r => some (N_80 o r)) := by
 kernel_rfl
theorem W_80 : loopsOf D_80 = [B_80L5, B_80L9] := by kernel_rfl
theorem R_80L9 : firstReg B_80L9 = 9 := by kernel_rfl
theorem R_80L5 : firstReg B_80L5 = 5 := by kernel_rfl
theorem Q_80 : Try.prog.funcs[25]? = some Try.f25 ∧ (Try.f25.name == "runtime.NumGoroutine") = false ∧ Try.f25.body = some D_80 := ⟨Try.func25, by kernel_rfl, by kernel_rfl⟩
theorem H_80 : Holds Try.prog 25 E_80 :=
 holds_of (cx := C_80) (tabOk_ok tabT rfl).1 (allT_ok ⟨⟨H_29, _, _, Q_29⟩, ⟨⟨H_78, _, _, Q_78⟩, trivial⟩⟩) mixT Q_80.1 Q_80.2.2 (loops_of W_80 ⟨loop_of (cx := C_80) (L := S_80L5 fuel) rfl (by rw [R_80L5]; rfl) ⟨impl_ConstantPolymorphisms_L5, fun _ => rfl, fun n x => K_80L5 n x, fuel, fun _ => rfl⟩, ⟨loop_of (cx := C_80) (L := S_80L9 fuel) rfl (by rw [R_80L9]; rfl) ⟨impl_ConstantPolymorphisms_L9, fun _ => rfl, fun n x => K_80L9 n x, fuel, fun _ => rfl⟩, trivial⟩⟩) (enc := N_80) (fun _ _ => ⟨rfl, rfl⟩) F_80
theorem K_81L13 (n : Nat) (x) : spec_ConstantPolymorphisms_L13 (n + 1) x = roundK C_81 B_81L13 (S_81L13 fuel) x (spec_ConstantPolymorphisms_L13 n) := by
 obtain ⟨_, _, _, _, _, _, _, _⟩ := x
 kernel_rfl
theorem K_81L9 (n : Nat) (x) : spec_ConstantPolymorphisms_L9 (n + 1) x = roundK C_81 B_81L9 (S_81L9 fuel) x (spec_ConstantPolymorphisms_L9 n) := by
 obtain ⟨_, _, _, _, _, _⟩ := x
 kernel_rfl
theorem K_81L5 (n : Nat) (x) : spec_ConstantPolymorphisms_L5 (n + 1) x = roundK C_81 B_81L5 (S_81L5 fuel) x (spec_ConstantPolymorphisms_L5 n) := by
 obtain ⟨_, _, _, _⟩ := x
 kernel_rfl
theorem F_81 (a : dens [.v .int, .v (.slice (.pair .int (.slice (.slice .int))))]) : E_81.run a = funK C_81 Try.f26 [.v .int, .v (.slice (.pair .int (.slice (.slice .int))))] [.mv .int 0, .v .bool] a (fun o r => some (N_81 o r)) := by
 kernel_rfl
theorem W_81 : loopsOf D_81 = [B_81L5, B_81L9, B_81L13] := by kernel_rfl
theorem R_81L13 : firstReg B_81L13 = 13 := by kernel_rfl
theorem R_81L9 : firstReg B_81L9 = 9 := by kernel_rfl
theorem R_81L5 : firstReg B_81L5 = 5 := by kernel_rfl
theorem Q_81 : Try.prog.funcs[26]? = some Try.f26 ∧ (Try.f26.name == "runtime.NumGoroutine") = false ∧ Try.f26.body = some D_81 := ⟨Try.func26, by kernel_rfl, by kernel_rfl⟩
theorem H_81 : Holds Try.prog 26 E_81 :=
 holds_of (cx := C_81) (tabOk_ok tabT rfl).1 (allT_ok ⟨⟨H_52, _, _, Q_52⟩, ⟨⟨H_56, _, _, Q_56⟩, trivial⟩⟩) mixT Q_81.1 Q_81.2.2 (loops_of W_81 ⟨loop_of (cx := C_81) (L := S_81L5 fuel) rfl (by rw [R_81L5]; rfl) ⟨spec_ConstantPolymorphisms_L5, fun _ => rfl, fun n x => K_81L5 n x, fuel, fun _ => rfl⟩, ⟨loop_of (cx := C_81) (L := S_81L9 fuel) rfl (by rw [R_81L9]; rfl) ⟨spec_ConstantPolymorphisms_L9, fun _ => rfl, fun n x => K_81L9 n x, fuel, fun _ => rfl⟩, ⟨loop_of (cx := C_81) (L := S_81L13 fuel) rfl (by rw [R_81L13]; rfl) ⟨spec_ConstantPolymorphisms_L13, fun _ => rfl, fun n x => K_81L13 n x, fuel, fun _ => rfl⟩, trivial⟩⟩⟩) (enc := N_81) (fun _ _ => ⟨rfl, rfl⟩) F_81
theorem F_82 (a : dens [.v .int, .v .int]) : E_82.run a = funK C_82 Try.f65 [.v .int, .v .int] [.v .bool] a (fun o r => some (N_82 o r)) := by
 kernel_rfl
theorem W_82 : loopsOf D_82 = [] := by kernel_rfl
theorem Q_82 : Try.prog.funcs[65]? = some Try.f65 ∧ (Try.f65.name == "runtime.NumGoroutine") = false ∧ Try.f65.body = some D_82 := ⟨Try.func65, by kernel_rfl, by kernel_rfl⟩
theorem H_82 : Holds Try.prog 65 E_82 :=
 holds_of (cx := C_82) (tabOk_ok tabT rfl).1 (allT_ok ⟨⟨H_30, _, _, Q_30⟩, trivial⟩) mixT Q_82.1 Q_82.2.2 (loops_of W_82 trivial) (enc := N_82) (fun _ _ => ⟨rfl, rfl⟩) F_82
theorem K_83L7 (n : Nat) (x) : impl_idempotentTable_L7 (n + 1) x = roundK C_83 B_83L7 (S_83L7 fuel) x (impl_idempotentTable_L7 n) := by
 obtain ⟨_, _, _, _, _, _⟩ := x
 kernel_rfl
theorem K_83L3 (n : Nat) (x) : impl_idempotentTable_L3 (n + 1) x = roundK C_83 B_83L3 (S_83L3 fuel) x (impl_idempotentTable_L3 n) := by
 obtain ⟨_, _, _, _⟩ := x
 kernel_rfl
theorem F_83 (a : dens [.v .int, .v .int]) : E_83.run a = funK C_83 Try.f40 [.v .int, .v .int] [.mv .int 0] a (fun o r => some (N_83 o r)) := by
 kernel_rfl
theorem W_83 : loopsOf D_83 = [B_83L3, B_83L7] := by kernel_rfl
theorem R_83L7 : firstReg B_83L7 = 7 := by kernel_rfl
theorem R_83L3 : firstReg B_83L3 = 3 := by kernel_rfl
theorem Q_83 : Try.prog.funcs[40]? = some Try.f40 ∧ (Try.f40.name == "runtime.NumGoroutine") = false ∧ Try.f40.body = some D_83 := ⟨Try.func40, by kernel_rfl, by kernel_rfl⟩
theorem H_83 : Holds Try.prog 40 E_83 :=
 holds_of (cx := C_83) (tabOk_ok tabT rfl).1 (allT_ok ⟨⟨H_35, _, _, Q_35⟩, ⟨⟨H_30, _, _, Q_30⟩, trivial⟩⟩) mixT Q_83.1 Q_83.2.2 (loops_of W_83 ⟨loop_of (cx := C_83) (L := S_83L3 fuel) rfl (by rw [R_83L3]; rfl) ⟨impl_idempotentTable_L3, fun _ => rfl, fun n x => K_83L3 n x, fuel, fun _ => rfl⟩, ⟨loop_of (cx := C_83) (L := S_83L7 fuel) rfl (by rw [R_83L7]; rfl) ⟨impl_idempotentTable_L7, fun _ => rfl, fun n x => K_83L7 n x, fuel, fun _ => rfl⟩, trivial⟩⟩) (enc := N_83) (fun _ _ => ⟨rfl, rfl⟩) F_83
theorem F_84 (a : dens [.v (.slice .int), .bx (.mv (.pair .int (.slice .int)) 1), .bx (.v .int)]) : E_84.run a = funK C_84 Try.f99 [.v (.slice .int), .bx (.mv (.pair .int (.slice .int)) 1), .bx (.v .int)] [.v .bool] a (fun o r => some (N_84 o r)) := by
 kernel_rfl
theorem W_84 : loopsOf D_84 = [] := by kernel_rfl
theorem Q_84 : Try.prog.funcs[99]? = some Try.f99 ∧ (Try.f99.name == "runtime.NumGoroutine") = false ∧ Try.f99.body = some D_84 := ⟨Try.func99, by kernel_rfl, by kernel_rfl⟩
theorem H_84 : Holds Try.prog 99 E_84 :=
 holds_of (cx := C_84) (tabOk_ok tabT rfl).1 (allT_ok ⟨⟨H_39, _, _, Q_39⟩, trivial⟩) mixT Q_84.1 Q_84.2.2 (loops_of W_84 trivial) (enc := N_84) (fun _ _ => ⟨rfl, rfl⟩) F_84
theorem K_85L4 (rec : (Int × (List Int) × ((List (Int × (List Int))) × Int) × (Bool × Int × Int × (List (List ((List Int) × (List ByteArray))))) × (List Int) × Unit) → Option ((List Int) × ((List (Int × (List Int))) × Int) × (Bool × Int × Int × (List (List ((List Int) × (List ByteArray))))) × (List Int) × Bool)) (n : Nat) (x) : impl_polySearch_each_c1_impl_listPolys_c1_L4 rec (n + 1) x = roundK (C_85 rec) B_85L4 (S_85L4 rec fuel) x (impl_polySearch_each_c1_impl_listPolys_c1_L4 rec n) := by
 obtain ⟨_, _, _, _, _, _, _⟩ := x
 kernel_rfl
theorem F_85 (rec : (Int × (List Int) × ((List (Int × (List Int))) × Int) × (Bool × Int × Int × (List (List ((List Int) × (List ByteArray))))) × (List Int) × Unit) → Option ((List Int) × ((List (Int × (List Int))) × Int) × (Bool × Int × Int × (List (List ((List Int) × (List ByteArray))))) × (List Int) × Bool)) (a : dens [.v .int, .bx (.mv .int 0), .pr (.bx (.mv (.pair .int (.slice .int)) 1)) (.bx (.v .int)), .bx (.v (.ptr (.pair .int (.pair .int (.slice (.slice (.pair (.slice .int) .smap))))))), .bx (.v (.slice .int)), .jk 1]) : impl_polySearch_each_c1_impl_listPolys_c1_body rec a.1 a.2.1 a.2.2.1 a.2.2.2.1 a.2.2.2.2.1 a.2.2.2.2.2 = funK (C_85 rec) Try.f95 [.v .int, .bx (.mv .int 0), .pr (.bx (.mv (.pair .int (.slice .int)) 1)) (.bx (.v .int)), .bx (.v (.ptr (.pair .int (.pair .int (.slice (.slice (.pair (.slice .int) .smap))))))), .bx (.v (.slice .int)), .jk 1] [.v .bool] a (fun o r => some (N_85 o r)) := by
 kernel_rfl
theorem W_85 : loopsOf D_85 = [B_85L4] := by kernel_rfl
theorem R_85L4 : firstReg B_85L4 = 4 := by kernel_rfl
theorem Q_85 : Try.prog.funcs[95]? = some Try.f95 ∧ (Try.f95.name == "runtime.NumGoroutine") = false ∧ Try.f95.body = some D_85 := ⟨Try.func95, by kernel_rfl, by kernel_rfl⟩
theorem H_85 : ∀ d, Holds Try.prog 95 (E_85 d)
 | 0 => fun _ b h => absurd (show (none : Option _) = some b from h) (by simp)
 | d + 1 => holds_of (en := E_85 (d + 1)) (cx := (C_85 (impl_polySearch_each_c1_impl_listPolys_c1 d))) (tabOk_ok tabT rfl).1 (allT_ok ⟨⟨H_42, _, _, Q_42⟩, ⟨⟨H_84, _, _, Q_84⟩, ⟨⟨H_85 d, _, _, Q_85⟩, trivial⟩⟩⟩) mixT Q_85.1 Q_85.2.2 (loops_of W_85 ⟨loop_of (cx := (C_85 (impl_polySearch_each_c1_impl_listPolys_c1 d))) (L := S_85L4 (impl_polySearch_each_c1_impl_listPolys_c1 d) fuel) rfl (by rw [R_85L4]; rfl) ⟨impl_polySearch_each_c1_impl_listPolys_c1_L4 (impl_polySearch_each_c1_impl_listPolys_c1 d), fun _ => rfl, fun n x => K_85L4 (impl_polySearch_each_c1_impl_listPolys_c1 d) n x, fuel, fun _ => rfl⟩, trivial⟩) (enc := N_85) (fun _ _ => ⟨rfl, rfl⟩) (F_85 (impl_polySearch_each_c1_impl_listPolys_c1 d)) rfl
theorem F_86 (a : dens [.v (.ptr (.pair .int (.pair .int (.slice (.slice (.pair (.slice .int) .smap)))))), .v (.slice .int), .pr (.bx (.mv (.pair .int (.slice .int)) 1)) (.bx (.v .int))]) : E_86.run a = funK C_86 Try.f58 [.v (.ptr (.pair .int (.pair .int (.slice (.slice (.pair (.slice .int) .smap)))))), .v (.slice .int), .pr (.bx (.mv (.pair .int (.slice .int)) 1)) (.bx (.v .int))] [] a (fun o r => some (N_86 o r)) := by
 kernel_rfl
theorem W_86 : loopsOf D_86 = [] := by kernel_rfl
theorem Q_86 : Try.prog.funcs[58]? = some Try.f58 ∧ (Try.f58.name == "runtime.NumGoroutine") = false ∧ Try.f58.body = some D_86 := ⟨Try.func58, by kernel_rfl, by kernel_rfl⟩
theorem H_86 : Holds Try.prog 58 E_86 :=
 holds_of (cx := C_86) (tabOk_ok tabT rfl).1 (allT_ok ⟨⟨H_85 fuel, _, _, Q_85⟩, trivial⟩) mixT Q_86.1 Q_86.2.2 (loops_of W_86 trivial) (enc := N_86) (fun _ _ => ⟨rfl, rfl⟩) F_86
theorem F_87 (a : dens [.v .int, .v (.slice (.pair .int (.slice (.slice .int)))), .v .int, .v (.slice .int)]) : E_87.run a = funK C_87 Try.f66 [.v .int, .v (.slice (.pair .int (.slice (.slice .int)))), .v .int, .v (.slice .int)] [.mv (.pair .int (.slice .int)) 1, .v .bool] a (fun o r => some (N_87 o r)) := by
 kernel_rfl
theorem W_87 : loopsOf D_87 = [] := by kernel_rfl
theorem Q_87 : Try.prog.funcs[66]? = some Try.f66 ∧ (Try.f66.name == "runtime.NumGoroutine") = false ∧ Try.f66.body = some D_87 := ⟨Try.func66, by kernel_rfl, by kernel_rfl⟩
theorem H_87 : Holds Try.prog 66 E_87 :=
 holds_of (cx := C_87) (tabOk_ok tabT rfl).1 (allT_ok ⟨⟨H_34, _, _, Q_34⟩, ⟨⟨H_86, _, _, Q_86⟩, trivial⟩⟩) mixT Q_87.1 Q_87.2.2 (loops_of W_87 trivial) (enc := N_87) (fun _ _ => ⟨rfl, rfl⟩) F_87
theorem F_88 (a : dens [.v .int, .v (.slice (.pair .int (.slice (.slice .int)))), .v .int]) : E_88.run a = funK C_88 Try.f28 [.v .int, .v (.slice (.pair .int (.slice (.slice .int)))), .v .int] [.mv (.pair .int (.slice .int)) 1, .v .bool] a (fun o r => some (N_88 o r)) := by
 kernel_rfl
theorem W_88 : loopsOf D_88 = [] := by kernel_rfl
theorem Q_88 : Try.prog.funcs[28]? = some Try.f28 ∧ (Try.f28.name == "runtime.NumGoroutine") = false ∧ Try.f28.body = some D_88 := ⟨Try.func28, by kernel_rfl, by kernel_rfl⟩
theorem H_88 : Holds Try.prog 28 E_88 :=
 holds_of (cx := C_88) (tabOk_ok tabT rfl).1 (allT_ok ⟨⟨H_29, _, _, Q_29⟩, ⟨⟨H_83, _, _, Q_83⟩, ⟨⟨H_82, _, _, Q_82⟩, ⟨⟨H_87, _, _, Q_87⟩, trivial⟩⟩⟩⟩) mixT Q_88.1 Q_88.2.2 (loops_of W_88 trivial) (enc := N_88) (fun _ _ => ⟨rfl, rfl⟩) F_88
theorem F_89 (a : dens [.v .int, .v (.slice (.pair .int (.slice (.slice .int)))), .v .int]) : E_89.run a = funK C_89 Try.f67 [.v .int, .v (.slice (.pair .int (.slice (.slice .int)))), .v .int] [.v .bool] a (fun o r => some (N_89 o r)) := by
 kernel_rfl
theorem W_89 : loopsOf D_89 = [] := by kernel_rfl
theorem Q_89 : Try.prog.funcs[67]? = some Try.f67 ∧ (Try.f67.name == "runtime.NumGoroutine") = false ∧ Try.f67.body = some D_89 := ⟨Try.func67, by kernel_rfl, by kernel_rfl⟩
theorem H_89 : Holds Try.prog 67 E_89 :=
 holds_of (cx := C_89) (tabOk_ok tabT rfl).1 (allT_ok ⟨⟨H_52, _, _, Q_52⟩, ⟨⟨H_16, _, _, Q_16⟩, trivial⟩⟩) mixT Q_89.1 Q_89.2.2 (loops_of W_89 trivial) (enc := N_89) (fun _ _ => ⟨rfl, rfl⟩) F_89
theorem K_90L7 (n : Nat) (x) : spec_l14Idempotent_L7 (n + 1) x = roundK C_90 B_90L7 (S_90L7 fuel) x (spec_l14Idempotent_L7 n) := by
 obtain ⟨_, _, _, _, _, _⟩ := x
 kernel_rfl
theorem K_90L3 (n : Nat) (x) : spec_l14Idempotent_L3 (n + 1) x = roundK C_90 B_90L3 (S_90L3 fuel) x (spec_l14Idempotent_L3 n) := by
 obtain ⟨_, _, _, _⟩ := x
 kernel_rfl
theorem F_90 (a : dens [.v .int, .v .int]) : E_90.run a = funK C_90 Try.f34 [.v .int, .v .int] [.mv .int 0] a (fun o r => some (N_90 o r)) := by
 kernel_rfl
theorem W_90 : loopsOf D_90 = [B_90L3, B_90L7] := by kernel_rfl
theorem R_90L7 : firstReg B_90L7 = 7 := by kernel_rfl
theorem R_90L3 : firstReg B_90L3 = 3 := by kernel_rfl
theorem Q_90 : Try.prog.funcs[34]? = some Try.f34 ∧ (Try.f34.name == "runtime.NumGoroutine") = false ∧ Try.f34.body = some D_90 := ⟨Try.func34, by kernel_rfl, by kernel_rfl⟩
theorem H_90 : Holds Try.prog 34 E_90 :=
 holds_of (cx := C_90) (tabOk_ok tabT rfl).1 (allT_ok ⟨⟨H_53, _, _, Q_53⟩, ⟨⟨H_16, _, _, Q_16⟩, trivial⟩⟩) mixT Q_90.1 Q_90.2.2 (loops_of W_90 ⟨loop_of (cx := C_90) (L := S_90L3 fuel) rfl (by rw [R_90L3]; rfl) ⟨spec_l14Idempotent_L3, fun _ => rfl, fun n x => K_90L3 n x, fuel, fun _ => rfl⟩, ⟨loop_of (cx := C_90) (L := S_90L7 fuel) rfl (by rw [R_90L7]; rfl) ⟨spec_l14Idempotent_L7, fun _ => rfl, fun n x => K_90L7 n x, fuel, fun _ => rfl⟩, trivial⟩⟩) (enc := N_90) (fun _ _ => ⟨rfl, rfl⟩) F_90
theorem K_91L3 (n : Nat) (x) : spec_l12Ops_L3 (n + 1) x = roundK C_91 B_91L3 (S_91L3 fuel) x (spec_l12Ops_L3 n) := by
 obtain ⟨_, _, _, _⟩ := x
 kernel_rfl
theorem F_91 (a : dens [.v .int, .v (.slice (.slice .int))]) : E_91.run a = funK C_91 Try.f68 [.v .int, .v (.slice (.slice .int))] [.mv (.pair .int (.slice .int)) 0] a (fun o r => some (N_91 o r)) := by
 kernel_rfl
theorem W_91 : loopsOf D_91 = [B_91L3] := by kernel_rfl
theorem R_91L3 : firstReg B_91L3 = 3 := by kernel_rfl
theorem Q_91 : Try.prog.funcs[68]? = some Try.f68 ∧ (Try.f68.name == "runtime.NumGoroutine") = false ∧ Try.f68.body = some D_91 := ⟨Try.func68, by kernel_rfl, by kernel_rfl⟩
theorem H_91 : Holds Try.prog 68 E_91 :=
 holds_of (cx := C_91) (tabOk_ok tabT rfl).1 (allT_ok ⟨⟨H_6, _, _, Q_6⟩, trivial⟩) mixT Q_91.1 Q_91.2.2 (loops_of W_91 ⟨loop_of (cx := C_91) (L := S_91L3 fuel) rfl (by rw [R_91L3]; rfl) ⟨spec_l12Ops_L3, fun _ => rfl, fun n x => K_91L3 n x, fuel, fun _ => rfl⟩, trivial⟩) (enc := N_91) (fun _ _ => ⟨rfl, rfl⟩) F_91
theorem F_92 (a : dens [.v .int, .v (.slice (.pair .int (.slice (.slice .int)))), .v .int]) : E_92.run a = funK C_92 Try.f29 [.v .int, .v (.slice (.pair .int (.slice (.slice .int)))), .v .int] [.mv (.pair .int (.slice .int)) 0, .v .bool] a (fun o r => some (N_92 o r)) := by
 kernel_rfl
theorem W_92 : loopsOf D_92 = [] := by kernel_rfl
theorem Q_92 : Try.prog.funcs[29]? = some Try.f29 ∧ (Try.f29.name == "runtime.NumGoroutine") = false ∧ Try.f29.body = some D_92 := ⟨Try.func29, by kernel_rfl, by kernel_rfl⟩
theorem H_92 : Holds Try.prog 29 E_92 :=
 holds_of (cx := C_92) (tabOk_ok tabT rfl).1 (allT_ok ⟨⟨H_59, _, _, Q_59⟩, ⟨⟨H_90, _, _, Q_90⟩, ⟨⟨H_89, _, _, Q_89⟩, ⟨⟨H_91, _, _, Q_91⟩, trivial⟩⟩⟩⟩) mixT Q_92.1 Q_92.2.2 (loops_of W_92 trivial) (enc := N_92) (fun _ _ => ⟨rfl, rfl⟩) F_92
theorem K_93L4 (n : Nat) (x) : laws_rOps_L4 (n + 1) x = roundK C_93 B_93L4 (S_93L4 fuel) x (laws_rOps_L4 n) := by
 obtain ⟨_, _, _⟩ := x
 kernel_rfl
theorem F_93 (a : dens [.v (.slice (.pair .int (.slice .int))), .v (.slice (.pair .int (.slice .int)))]) : E_93.run a = funK C_93 Try.f30 [.v (.slice (.pair .int (.slice .int))), .v (.slice (.pair .int (.slice .int)))] [.v .bool] a (fun o r => some (N_93 o r)) := by
 kernel_rfl
theorem W_93 : loopsOf D_93 = [B_93L4] := by kernel_rfl
theorem R_93L4 : firstReg B_93L4 = 4 := by kernel_rfl
theorem Q_93 : Try.prog.funcs[30]? = some Try.f30 ∧ (Try.f30.name == "runtime.NumGoroutine") = false ∧ Try.f30.body = some D_93 := ⟨Try.func30, by kernel_rfl, by kernel_rfl⟩
theorem H_93 : Holds Try.prog 30 E_93 :=
 holds_of (cx := C_93) (tabOk_ok tabT rfl).1 (allT_ok ⟨⟨H_75, _, _, Q_75⟩, trivial⟩) mixT Q_93.1 Q_93.2.2 (loops_of W_93 ⟨loop_of (cx := C_93) (L := S_93L4 fuel) rfl (by rw [R_93L4]; rfl) ⟨laws_rOps_L4, fun _ => rfl, fun n x => K_93L4 n x, fuel, fun _ => rfl⟩, trivial⟩) (enc := N_93) (fun _ _ => ⟨rfl, rfl⟩) F_93
theorem K_94L9 (n : Nat) (x) : laws_FnCores_L9 (n + 1) x = roundK C_94 B_94L9 (S_94L9 fuel) x (laws_FnCores_L9 n) := by
 obtain ⟨_, _, _, _, _, _, _⟩ := x
 kernel_rfl
theorem K_94L43 (n : Nat) (x) : laws_FnCores_L43 (n + 1) x = roundK C_94 B_94L43 (S_94L43 fuel) x (laws_FnCores_L43 n) := by
 obtain ⟨_, _, _, _⟩ := x
 kernel_rfl
theorem K_94L38 (n : Nat) (x) : laws_FnCores_L38 (n + 1) x = roundK C_94 B_94L38 (S_94L38 fuel) x (laws_FnCores_L38 n) := by
 obtain ⟨_, _, _⟩ := x
 kernel_rfl
theorem F_94 (a : dens [.v (.slice (.num .u8))]) : E_94.run a = funK C_94 Try.f4 [.v (.slice (.num .u8))] [.v .bool] a (fun o r => some (N_94 o r)) := by
 kernel_rfl
theorem W_94 : loopsOf D_94 = [B_94L9, B_94L38, B_94L43] := by kernel_rfl
theorem R_94L9 : firstReg B_94L9 = 9 := by kernel_rfl
theorem R_94L43 : firstReg B_94L43 = 43 := by kernel_rfl
theorem R_94L38 : firstReg B_94L38 = 38 := by kernel_rfl
theorem Q_94 : Try.prog.funcs[4]? = some Try.f4 ∧ (Try.f4.name == "runtime.NumGoroutine") = false ∧ Try.f4.body = some D_94 := ⟨Try.func4, by kernel_rfl, by kernel_rfl⟩
theorem H_94 : Holds Try.prog 4 E_94 :=
 holds_of (cx := C_94) (tabOk_ok tabT rfl).1 (allT_ok ⟨⟨H_1, _, _, Q_1⟩, ⟨⟨H_23, _, _, Q_23⟩, ⟨⟨H_46, _, _, Q_46⟩, ⟨⟨H_64, _, _, Q_64⟩, ⟨⟨H_66, _, _, Q_66⟩, ⟨⟨H_72, _, _, Q_72⟩, ⟨⟨H_73, _, _, Q_73⟩, ⟨⟨H_45, _, _, Q_45⟩, ⟨⟨H_74, _, _, Q_74⟩, ⟨⟨H_75, _, _, Q_75⟩, ⟨⟨H_79, _, _, Q_79⟩, ⟨⟨H_80, _, _, Q_80⟩, ⟨⟨H_81, _, _, Q_81⟩, ⟨⟨H_65, _, _, Q_65⟩, ⟨⟨H_88, _, _, Q_88⟩, ⟨⟨H_92, _, _, Q_92⟩, ⟨⟨H_93, _, _, Q_93⟩, trivial⟩⟩⟩⟩⟩⟩⟩⟩⟩⟩⟩⟩⟩⟩⟩⟩⟩) mixT Q_94.1 Q_94.2.2 (loops_of W_94 ⟨loop_of (cx := C_94) (L := S_94L9 fuel) rfl (by rw [R_94L9]; rfl) ⟨laws_FnCores_L9, fun _ => rfl, fun n x => K_94L9 n x, fuel, fun _ => rfl⟩, ⟨loop_of (cx := C_94) (L := S_94L38 fuel) rfl (by rw [R_94L38]; rfl) ⟨laws_FnCores_L38, fun _ => rfl, fun n x => K_94L38 n x, fuel, fun _ => rfl⟩, ⟨loop_of (cx := C_94) (L := S_94L43 fuel) rfl (by rw [R_94L43]; rfl) ⟨laws_FnCores_L43, fun _ => rfl, fun n x => K_94L43 n x, fuel, fun _ => rfl⟩, trivial⟩⟩⟩) (enc := N_94) (fun _ _ => ⟨rfl, rfl⟩) F_94
end T
