/- Each typed function is what the program computes; no conditions. -/
import Derived.Test.YtcdjlpcapanibadCFnExactPairsAssignment
set_option linter.all false
set_option maxRecDepth 10000
open Go Go.Va Go.Proofs
namespace T
theorem F_1 (a : dens [.v (.slice .int), .v .int]) : E_1.run a = funK C_1 Try.f174 [.v (.slice .int), .v .int] [.v .int] a (fun o r => some (N_1 o r)) := by
 kernel_rfl
theorem W_1 : loopsOf D_1 = [] := by kernel_rfl
theorem Q_1 : Try.prog.funcs[174]? = some Try.f174 ∧ (Try.f174.name == "runtime.NumGoroutine") = false ∧ Try.f174.body = some D_1 := ⟨Try.func174, by kernel_rfl, by kernel_rfl⟩
theorem H_1 : Holds Try.prog 174 E_1 :=
 holds_of (cx := C_1) (tabOk_ok tabT rfl).1 (allT_ok trivial) mixT Q_1.1 Q_1.2.2 (loops_of W_1 trivial) (enc := N_1) (fun _ _ => ⟨rfl, rfl⟩) F_1
theorem K_2L5 (n : Nat) (x) : laws_szIntSS_L5 (n + 1) x = roundK C_2 B_2L5 (S_2L5 fuel) x (laws_szIntSS_L5 n) := by
 obtain ⟨_, _, _⟩ := x
 kernel_rfl
theorem F_2 (a : dens [.v (.slice (.slice .int)), .v .int]) : E_2.run a = funK C_2 Try.f192 [.v (.slice (.slice .int)), .v .int] [.v .int] a (fun o r => some (N_2 o r)) := by
 kernel_rfl
theorem W_2 : loopsOf D_2 = [B_2L5] := by kernel_rfl
theorem R_2L5 : firstReg B_2L5 = 5 := by kernel_rfl
theorem Q_2 : Try.prog.funcs[192]? = some Try.f192 ∧ (Try.f192.name == "runtime.NumGoroutine") = false ∧ Try.f192.body = some D_2 := ⟨Try.func192, by kernel_rfl, by kernel_rfl⟩
theorem H_2 : Holds Try.prog 192 E_2 :=
 holds_of (cx := C_2) (tabOk_ok tabT rfl).1 (allT_ok ⟨⟨H_1, _, _, Q_1⟩, trivial⟩) mixT Q_2.1 Q_2.2.2 (loops_of W_2 ⟨loop_of (cx := C_2) (L := S_2L5 fuel) rfl (by rw [R_2L5]; rfl) ⟨laws_szIntSS_L5, fun _ => rfl, fun n x => K_2L5 n x, fuel, fun _ => rfl⟩, trivial⟩) (enc := N_2) (fun _ _ => ⟨rfl, rfl⟩) F_2
theorem F_3 (a : dens [.v (.pair .int (.slice (.slice .int))), .v .int]) : E_3.run a = funK C_3 Try.f175 [.v (.pair .int (.slice (.slice .int))), .v .int] [.v .int] a (fun o r => some (N_3 o r)) := by
 kernel_rfl
theorem W_3 : loopsOf D_3 = [] := by kernel_rfl
theorem Q_3 : Try.prog.funcs[175]? = some Try.f175 ∧ (Try.f175.name == "runtime.NumGoroutine") = false ∧ Try.f175.body = some D_3 := ⟨Try.func175, by kernel_rfl, by kernel_rfl⟩
theorem H_3 : Holds Try.prog 175 E_3 :=
 holds_of (cx := C_3) (tabOk_ok tabT rfl).1 (allT_ok ⟨⟨H_2, _, _, Q_2⟩, trivial⟩) mixT Q_3.1 Q_3.2.2 (loops_of W_3 trivial) (enc := N_3) (fun _ _ => ⟨rfl, rfl⟩) F_3
theorem F_4 (a : dens [.v (.pair (.slice .int) (.pair .int (.slice (.slice .int)))), .v .int]) : E_4.run a = funK C_4 Try.f135 [.v (.pair (.slice .int) (.pair .int (.slice (.slice .int)))), .v .int] [.v .int] a (fun o r => some (N_4 o r)) := by
 kernel_rfl
theorem W_4 : loopsOf D_4 = [] := by kernel_rfl
theorem Q_4 : Try.prog.funcs[135]? = some Try.f135 ∧ (Try.f135.name == "runtime.NumGoroutine") = false ∧ Try.f135.body = some D_4 := ⟨Try.func135, by kernel_rfl, by kernel_rfl⟩
theorem H_4 : Holds Try.prog 135 E_4 :=
 holds_of (cx := C_4) (tabOk_ok tabT rfl).1 (allT_ok ⟨⟨H_1, _, _, Q_1⟩, ⟨⟨H_3, _, _, Q_3⟩, trivial⟩⟩) mixT Q_4.1 Q_4.2.2 (loops_of W_4 trivial) (enc := N_4) (fun _ _ => ⟨rfl, rfl⟩) F_4
theorem K_5L5 (n : Nat) (x) : laws_szConstraintS_L5 (n + 1) x = roundK C_5 B_5L5 (S_5L5 fuel) x (laws_szConstraintS_L5 n) := by
 obtain ⟨_, _, _⟩ := x
 kernel_rfl
theorem F_5 (a : dens [.v (.slice (.pair (.slice .int) (.pair .int (.slice (.slice .int))))), .v .int]) : E_5.run a = funK C_5 Try.f87 [.v (.slice (.pair (.slice .int) (.pair .int (.slice (.slice .int))))), .v .int] [.v .int] a (fun o r => some (N_5 o r)) := by
 kernel_rfl
theorem W_5 : loopsOf D_5 = [B_5L5] := by kernel_rfl
theorem R_5L5 : firstReg B_5L5 = 5 := by kernel_rfl
theorem Q_5 : Try.prog.funcs[87]? = some Try.f87 ∧ (Try.f87.name == "runtime.NumGoroutine") = false ∧ Try.f87.body = some D_5 := ⟨Try.func87, by kernel_rfl, by kernel_rfl⟩
theorem H_5 : Holds Try.prog 87 E_5 :=
 holds_of (cx := C_5) (tabOk_ok tabT rfl).1 (allT_ok ⟨⟨H_4, _, _, Q_4⟩, trivial⟩) mixT Q_5.1 Q_5.2.2 (loops_of W_5 ⟨loop_of (cx := C_5) (L := S_5L5 fuel) rfl (by rw [R_5L5]; rfl) ⟨laws_szConstraintS_L5, fun _ => rfl, fun n x => K_5L5 n x, fuel, fun _ => rfl⟩, trivial⟩) (enc := N_5) (fun _ _ => ⟨rfl, rfl⟩) F_5
theorem F_6 (a : dens [.v (.pair .int (.pair .int (.slice (.pair (.slice .int) (.pair .int (.slice (.slice .int))))))), .v .int]) : E_6.run a = funK C_6 Try.f33 [.v (.pair .int (.pair .int (.slice (.pair (.slice .int) (.pair .int (.slice (.slice .int))))))), .v .int] [.v .int] a (fun o r => some (N_6 o r)) := by
 kernel_rfl
theorem W_6 : loopsOf D_6 = [] := by kernel_rfl
theorem Q_6 : Try.prog.funcs[33]? = some Try.f33 ∧ (Try.f33.name == "runtime.NumGoroutine") = false ∧ Try.f33.body = some D_6 := ⟨Try.func33, by kernel_rfl, by kernel_rfl⟩
theorem H_6 : Holds Try.prog 33 E_6 :=
 holds_of (cx := C_6) (tabOk_ok tabT rfl).1 (allT_ok ⟨⟨H_5, _, _, Q_5⟩, trivial⟩) mixT Q_6.1 Q_6.2.2 (loops_of W_6 trivial) (enc := N_6) (fun _ _ => ⟨rfl, rfl⟩) F_6
theorem K_7L3 (n : Nat) (x) : laws_toIntS_L3 (n + 1) x = roundK C_7 B_7L3 (S_7L3 fuel) x (laws_toIntS_L3 n) := by
 obtain ⟨_, _, _⟩ := x
 kernel_rfl
theorem F_7 (a : dens [.v (.slice .int)]) : E_7.run a = funK C_7 Try.f179 [.v (.slice .int)] [.mv .int 0] a (fun o r => some (N_7 o r)) := by
 kernel_rfl
theorem W_7 : loopsOf D_7 = [B_7L3] := by kernel_rfl
theorem R_7L3 : firstReg B_7L3 = 3 := by kernel_rfl
theorem Q_7 : Try.prog.funcs[179]? = some Try.f179 ∧ (Try.f179.name == "runtime.NumGoroutine") = false ∧ Try.f179.body = some D_7 := ⟨Try.func179, by kernel_rfl, by kernel_rfl⟩
theorem H_7 : Holds Try.prog 179 E_7 :=
 holds_of (cx := C_7) (tabOk_ok tabT rfl).1 (allT_ok trivial) mixT Q_7.1 Q_7.2.2 (loops_of W_7 ⟨loop_of (cx := C_7) (L := S_7L3 fuel) rfl (by rw [R_7L3]; rfl) ⟨laws_toIntS_L3, fun _ => rfl, fun n x => K_7L3 n x, fuel, fun _ => rfl⟩, trivial⟩) (enc := N_7) (fun _ _ => ⟨rfl, rfl⟩) F_7
theorem K_8L3 (n : Nat) (x) : laws_toIntSS_L3 (n + 1) x = roundK C_8 B_8L3 (S_8L3 fuel) x (laws_toIntSS_L3 n) := by
 obtain ⟨_, _, _⟩ := x
 kernel_rfl
theorem F_8 (a : dens [.v (.slice (.slice .int))]) : E_8.run a = funK C_8 Try.f193 [.v (.slice (.slice .int))] [.mv (.slice .int) 1] a (fun o r => some (N_8 o r)) := by
 kernel_rfl
theorem W_8 : loopsOf D_8 = [B_8L3] := by kernel_rfl
theorem R_8L3 : firstReg B_8L3 = 3 := by kernel_rfl
theorem Q_8 : Try.prog.funcs[193]? = some Try.f193 ∧ (Try.f193.name == "runtime.NumGoroutine") = false ∧ Try.f193.body = some D_8 := ⟨Try.func193, by kernel_rfl, by kernel_rfl⟩
theorem H_8 : Holds Try.prog 193 E_8 :=
 holds_of (cx := C_8) (tabOk_ok tabT rfl).1 (allT_ok ⟨⟨H_7, _, _, Q_7⟩, trivial⟩) mixT Q_8.1 Q_8.2.2 (loops_of W_8 ⟨loop_of (cx := C_8) (L := S_8L3 fuel) rfl (by rw [R_8L3]; rfl) ⟨laws_toIntSS_L3, fun _ => rfl, fun n x => K_8L3 n x, fuel, fun _ => rfl⟩, trivial⟩) (enc := N_8) (fun _ _ => ⟨rfl, rfl⟩) F_8
theorem F_9 (a : dens [.v (.pair .int (.slice (.slice .int)))]) : E_9.run a = funK C_9 Try.f180 [.v (.pair .int (.slice (.slice .int)))] [.pr (.v .int) (.mv (.slice .int) 1)] a (fun o r => some (N_9 o r)) := by
 kernel_rfl
theorem W_9 : loopsOf D_9 = [] := by kernel_rfl
theorem Q_9 : Try.prog.funcs[180]? = some Try.f180 ∧ (Try.f180.name == "runtime.NumGoroutine") = false ∧ Try.f180.body = some D_9 := ⟨Try.func180, by kernel_rfl, by kernel_rfl⟩
theorem H_9 : Holds Try.prog 180 E_9 :=
 holds_of (cx := C_9) (tabOk_ok tabT rfl).1 (allT_ok ⟨⟨H_8, _, _, Q_8⟩, trivial⟩) mixT Q_9.1 Q_9.2.2 (loops_of W_9 trivial) (enc := N_9) (fun _ _ => ⟨rfl, rfl⟩) F_9
theorem F_10 (a : dens [.v (.pair (.slice .int) (.pair .int (.slice (.slice .int))))]) : E_10.run a = funK C_10 Try.f143 [.v (.pair (.slice .int) (.pair .int (.slice (.slice .int))))] [.pr (.mv .int 0) (.pr (.v .int) (.mv (.slice .int) 1))] a (fun o r => some (N_10 o r)) := by
 kernel_rfl
theorem W_10 : loopsOf D_10 = [] := by kernel_rfl
theorem Q_10 : Try.prog.funcs[143]? = some Try.f143 ∧ (Try.f143.name == "runtime.NumGoroutine") = false ∧ Try.f143.body = some D_10 := ⟨Try.func143, by kernel_rfl, by kernel_rfl⟩
theorem H_10 : Holds Try.prog 143 E_10 :=
 holds_of (cx := C_10) (tabOk_ok tabT rfl).1 (allT_ok ⟨⟨H_7, _, _, Q_7⟩, ⟨⟨H_9, _, _, Q_9⟩, trivial⟩⟩) mixT Q_10.1 Q_10.2.2 (loops_of W_10 trivial) (enc := N_10) (fun _ _ => ⟨rfl, rfl⟩) F_10
theorem K_11L3 (n : Nat) (x) : laws_toConstraintS_L3 (n + 1) x = roundK C_11 B_11L3 (S_11L3 fuel) x (laws_toConstraintS_L3 n) := by
 obtain ⟨_, _, _⟩ := x
 kernel_rfl
theorem F_11 (a : dens [.v (.slice (.pair (.slice .int) (.pair .int (.slice (.slice .int)))))]) : E_11.run a = funK C_11 Try.f94 [.v (.slice (.pair (.slice .int) (.pair .int (.slice (.slice .int)))))] [.mv (.pair (.slice .int) (.pair .int (.slice (.slice .int)))) 2] a (fun o r => some (N_11 o r)) := by
 kernel_rfl
theorem W_11 : loopsOf D_11 = [B_11L3] := by kernel_rfl
theorem R_11L3 : firstReg B_11L3 = 3 := by kernel_rfl
theorem Q_11 : Try.prog.funcs[94]? = some Try.f94 ∧ (Try.f94.name == "runtime.NumGoroutine") = false ∧ Try.f94.body = some D_11 := ⟨Try.func94, by kernel_rfl, by kernel_rfl⟩
theorem H_11 : Holds Try.prog 94 E_11 :=
 holds_of (cx := C_11) (tabOk_ok tabT rfl).1 (allT_ok ⟨⟨H_10, _, _, Q_10⟩, trivial⟩) mixT Q_11.1 Q_11.2.2 (loops_of W_11 ⟨loop_of (cx := C_11) (L := S_11L3 fuel) rfl (by rw [R_11L3]; rfl) ⟨laws_toConstraintS_L3, fun _ => rfl, fun n x => K_11L3 n x, fuel, fun _ => rfl⟩, trivial⟩) (enc := N_11) (fun _ _ => ⟨rfl, rfl⟩) F_11
theorem F_12 (a : dens [.v (.pair .int (.pair .int (.slice (.pair (.slice .int) (.pair .int (.slice (.slice .int)))))))]) : E_12.run a = funK C_12 Try.f35 [.v (.pair .int (.pair .int (.slice (.pair (.slice .int) (.pair .int (.slice (.slice .int)))))))] [.pr (.v .int) (.pr (.v .int) (.mv (.pair (.slice .int) (.pair .int (.slice (.slice .int)))) 2))] a (fun o r => some (N_12 o r)) := by
 kernel_rfl
theorem W_12 : loopsOf D_12 = [] := by kernel_rfl
theorem Q_12 : Try.prog.funcs[35]? = some Try.f35 ∧ (Try.f35.name == "runtime.NumGoroutine") = false ∧ Try.f35.body = some D_12 := ⟨Try.func35, by kernel_rfl, by kernel_rfl⟩
theorem H_12 : Holds Try.prog 35 E_12 :=
 holds_of (cx := C_12) (tabOk_ok tabT rfl).1 (allT_ok ⟨⟨H_11, _, _, Q_11⟩, trivial⟩) mixT Q_12.1 Q_12.2.2 (loops_of W_12 trivial) (enc := N_12) (fun _ _ => ⟨rfl, rfl⟩) F_12
theorem F_13 (a : dens [.v .int, .v .int, .v .int]) : E_13.run a = funK C_13 Try.f128 [.v .int, .v .int, .v .int] [.v .bool] a (fun o r => some (N_13 o r)) := by
 kernel_rfl
theorem W_13 : loopsOf D_13 = [] := by kernel_rfl
theorem Q_13 : Try.prog.funcs[128]? = some Try.f128 ∧ (Try.f128.name == "runtime.NumGoroutine") = false ∧ Try.f128.body = some D_13 := ⟨Try.func128, by kernel_rfl, by kernel_rfl⟩
theorem H_13 : Holds Try.prog 128 E_13 :=
 holds_of (cx := C_13) (tabOk_ok tabT rfl).1 (allT_ok trivial) mixT Q_13.1 Q_13.2.2 (loops_of W_13 trivial) (enc := N_13) (fun _ _ => ⟨rfl, rfl⟩) F_13
theorem K_14L2 (n : Nat) (x) : spec_l2Pow_L2 (n + 1) x = roundK C_14 B_14L2 (S_14L2 fuel) x (spec_l2Pow_L2 n) := by
 obtain ⟨_, _, _⟩ := x
 kernel_rfl
theorem F_14 (a : dens [.v .int, .v .int]) : E_14.run a = funK C_14 Try.f54 [.v .int, .v .int] [.v .int] a (fun o r => some (N_14 o r)) := by
 kernel_rfl
theorem W_14 : loopsOf D_14 = [B_14L2] := by kernel_rfl
theorem R_14L2 : firstReg B_14L2 = 2 := by kernel_rfl
theorem Q_14 : Try.prog.funcs[54]? = some Try.f54 ∧ (Try.f54.name == "runtime.NumGoroutine") = false ∧ Try.f54.body = some D_14 := ⟨Try.func54, by kernel_rfl, by kernel_rfl⟩
theorem H_14 : Holds Try.prog 54 E_14 :=
 holds_of (cx := C_14) (tabOk_ok tabT rfl).1 (allT_ok trivial) mixT Q_14.1 Q_14.2.2 (loops_of W_14 ⟨loop_of (cx := C_14) (L := S_14L2 fuel) rfl (by rw [R_14L2]; rfl) ⟨spec_l2Pow_L2, fun _ => rfl, fun n x => K_14L2 n x, fuel, fun _ => rfl⟩, trivial⟩) (enc := N_14) (fun _ _ => ⟨rfl, rfl⟩) F_14
theorem K_15L2 (n : Nat) (x) : spec_l2Elements_L2 (n + 1) x = roundK C_15 B_15L2 (S_15L2 fuel) x (spec_l2Elements_L2 n) := by
 obtain ⟨_, _, _⟩ := x
 kernel_rfl
theorem F_15 (a : dens [.v .int, .v (.slice .int)]) : E_15.run a = funK C_15 Try.f176 [.v .int, .v (.slice .int)] [.v .bool] a (fun o r => some (N_15 o r)) := by
 kernel_rfl
theorem W_15 : loopsOf D_15 = [B_15L2] := by kernel_rfl
theorem R_15L2 : firstReg B_15L2 = 2 := by kernel_rfl
theorem Q_15 : Try.prog.funcs[176]? = some Try.f176 ∧ (Try.f176.name == "runtime.NumGoroutine") = false ∧ Try.f176.body = some D_15 := ⟨Try.func176, by kernel_rfl, by kernel_rfl⟩
theorem H_15 : Holds Try.prog 176 E_15 :=
 holds_of (cx := C_15) (tabOk_ok tabT rfl).1 (allT_ok ⟨⟨H_13, _, _, Q_13⟩, trivial⟩) mixT Q_15.1 Q_15.2.2 (loops_of W_15 ⟨loop_of (cx := C_15) (L := S_15L2 fuel) rfl (by rw [R_15L2]; rfl) ⟨spec_l2Elements_L2, fun _ => rfl, fun n x => K_15L2 n x, fuel, fun _ => rfl⟩, trivial⟩) (enc := N_15) (fun _ _ => ⟨rfl, rfl⟩) F_15
theorem F_16 (a : dens [.v .int, .v .int, .v (.slice .int)]) : E_16.run a = funK C_16 Try.f168 [.v .int, .v .int, .v (.slice .int)] [.v .bool] a (fun o r => some (N_16 o r)) := by
 kernel_rfl
theorem W_16 : loopsOf D_16 = [] := by kernel_rfl
theorem Q_16 : Try.prog.funcs[168]? = some Try.f168 ∧ (Try.f168.name == "runtime.NumGoroutine") = false ∧ Try.f168.body = some D_16 := ⟨Try.func168, by kernel_rfl, by kernel_rfl⟩
theorem H_16 : Holds Try.prog 168 E_16 :=
 holds_of (cx := C_16) (tabOk_ok tabT rfl).1 (allT_ok ⟨⟨H_15, _, _, Q_15⟩, trivial⟩) mixT Q_16.1 Q_16.2.2 (loops_of W_16 trivial) (enc := N_16) (fun _ _ => ⟨rfl, rfl⟩) F_16
theorem K_17L2 (n : Nat) (x) : spec_l3Less_L2 (n + 1) x = roundK C_17 B_17L2 (S_17L2 fuel) x (spec_l3Less_L2 n) := by
 obtain ⟨_, _, _⟩ := x
 kernel_rfl
theorem F_17 (a : dens [.v (.slice .int), .v (.slice .int)]) : E_17.run a = funK C_17 Try.f169 [.v (.slice .int), .v (.slice .int)] [.v .bool] a (fun o r => some (N_17 o r)) := by
 kernel_rfl
theorem W_17 : loopsOf D_17 = [B_17L2] := by kernel_rfl
theorem R_17L2 : firstReg B_17L2 = 2 := by kernel_rfl
theorem Q_17 : Try.prog.funcs[169]? = some Try.f169 ∧ (Try.f169.name == "runtime.NumGoroutine") = false ∧ Try.f169.body = some D_17 := ⟨Try.func169, by kernel_rfl, by kernel_rfl⟩
theorem H_17 : Holds Try.prog 169 E_17 :=
 holds_of (cx := C_17) (tabOk_ok tabT rfl).1 (allT_ok trivial) mixT Q_17.1 Q_17.2.2 (loops_of W_17 ⟨loop_of (cx := C_17) (L := S_17L2 fuel) rfl (by rw [R_17L2]; rfl) ⟨spec_l3Less_L2, fun _ => rfl, fun n x => K_17L2 n x, fuel, fun _ => rfl⟩, trivial⟩) (enc := N_17) (fun _ _ => ⟨rfl, rfl⟩) F_17
theorem K_18L4 (n : Nat) (x) : spec_l13Good_L4 (n + 1) x = roundK C_18 B_18L4 (S_18L4 fuel) x (spec_l13Good_L4 n) := by
 obtain ⟨_, _, _⟩ := x
 kernel_rfl
theorem F_18 (a : dens [.v .int, .v (.pair .int (.slice (.slice .int)))]) : E_18.run a = funK C_18 Try.f129 [.v .int, .v (.pair .int (.slice (.slice .int)))] [.v .bool] a (fun o r => some (N_18 o r)) := by
 kernel_rfl
theorem W_18 : loopsOf D_18 = [B_18L4] := by kernel_rfl
theorem R_18L4 : firstReg B_18L4 = 4 := by kernel_rfl
theorem Q_18 : Try.prog.funcs[129]? = some Try.f129 ∧ (Try.f129.name == "runtime.NumGoroutine") = false ∧ Try.f129.body = some D_18 := ⟨Try.func129, by kernel_rfl, by kernel_rfl⟩
theorem H_18 : Holds Try.prog 129 E_18 :=
 holds_of (cx := C_18) (tabOk_ok tabT rfl).1 (allT_ok ⟨⟨H_14, _, _, Q_14⟩, ⟨⟨H_13, _, _, Q_13⟩, ⟨⟨H_16, _, _, Q_16⟩, ⟨⟨H_17, _, _, Q_17⟩, trivial⟩⟩⟩⟩) mixT Q_18.1 Q_18.2.2 (loops_of W_18 ⟨loop_of (cx := C_18) (L := S_18L4 fuel) rfl (by rw [R_18L4]; rfl) ⟨spec_l13Good_L4, fun _ => rfl, fun n x => K_18L4 n x, fuel, fun _ => rfl⟩, trivial⟩) (enc := N_18) (fun _ _ => ⟨rfl, rfl⟩) F_18
theorem F_19 (a : dens [.v .int, .v .int, .v (.pair (.slice .int) (.pair .int (.slice (.slice .int))))]) : E_19.run a = funK C_19 Try.f136 [.v .int, .v .int, .v (.pair (.slice .int) (.pair .int (.slice (.slice .int))))] [.v .bool] a (fun o r => some (N_19 o r)) := by
 kernel_rfl
theorem W_19 : loopsOf D_19 = [] := by kernel_rfl
theorem Q_19 : Try.prog.funcs[136]? = some Try.f136 ∧ (Try.f136.name == "runtime.NumGoroutine") = false ∧ Try.f136.body = some D_19 := ⟨Try.func136, by kernel_rfl, by kernel_rfl⟩
theorem H_19 : Holds Try.prog 136 E_19 :=
 holds_of (cx := C_19) (tabOk_ok tabT rfl).1 (allT_ok ⟨⟨H_18, _, _, Q_18⟩, ⟨⟨H_15, _, _, Q_15⟩, trivial⟩⟩) mixT Q_19.1 Q_19.2.2 (loops_of W_19 trivial) (enc := N_19) (fun _ _ => ⟨rfl, rfl⟩) F_19
theorem K_20L4 (n : Nat) (x) : spec_l19Good_L4 (n + 1) x = roundK C_20 B_20L4 (S_20L4 fuel) x (spec_l19Good_L4 n) := by
 obtain ⟨_, _⟩ := x
 kernel_rfl
theorem F_20 (a : dens [.v (.pair .int (.pair .int (.slice (.pair (.slice .int) (.pair .int (.slice (.slice .int)))))))]) : E_20.run a = funK C_20 Try.f88 [.v (.pair .int (.pair .int (.slice (.pair (.slice .int) (.pair .int (.slice (.slice .int)))))))] [.v .bool] a (fun o r => some (N_20 o r)) := by
 kernel_rfl
theorem W_20 : loopsOf D_20 = [B_20L4] := by kernel_rfl
theorem R_20L4 : firstReg B_20L4 = 4 := by kernel_rfl
theorem Q_20 : Try.prog.funcs[88]? = some Try.f88 ∧ (Try.f88.name == "runtime.NumGoroutine") = false ∧ Try.f88.body = some D_20 := ⟨Try.func88, by kernel_rfl, by kernel_rfl⟩
theorem H_20 : Holds Try.prog 88 E_20 :=
 holds_of (cx := C_20) (tabOk_ok tabT rfl).1 (allT_ok ⟨⟨H_13, _, _, Q_13⟩, ⟨⟨H_19, _, _, Q_19⟩, trivial⟩⟩) mixT Q_20.1 Q_20.2.2 (loops_of W_20 ⟨loop_of (cx := C_20) (L := S_20L4 fuel) rfl (by rw [R_20L4]; rfl) ⟨spec_l19Good_L4, fun _ => rfl, fun n x => K_20L4 n x, fuel, fun _ => rfl⟩, trivial⟩) (enc := N_20) (fun _ _ => ⟨rfl, rfl⟩) F_20
theorem F_21 (a : dens [.v (.pair .int (.pair .int (.slice (.pair (.slice .int) (.pair .int (.slice (.slice .int)))))))]) : E_21.run a = funK C_21 Try.f103 [.v (.pair .int (.pair .int (.slice (.pair (.slice .int) (.pair .int (.slice (.slice .int)))))))] [.v .bool] a (fun o r => some (N_21 o r)) := by
 kernel_rfl
theorem W_21 : loopsOf D_21 = [] := by kernel_rfl
theorem Q_21 : Try.prog.funcs[103]? = some Try.f103 ∧ (Try.f103.name == "runtime.NumGoroutine") = false ∧ Try.f103.body = some D_21 := ⟨Try.func103, by kernel_rfl, by kernel_rfl⟩
theorem H_21 : Holds Try.prog 103 E_21 :=
 holds_of (cx := C_21) (tabOk_ok tabT rfl).1 (allT_ok ⟨⟨H_20, _, _, Q_20⟩, trivial⟩) mixT Q_21.1 Q_21.2.2 (loops_of W_21 trivial) (enc := N_21) (fun _ _ => ⟨rfl, rfl⟩) F_21
theorem K_22L4 (n : Nat) (x) : spec_l1Same_L4 (n + 1) x = roundK C_22 B_22L4 (S_22L4 fuel) x (spec_l1Same_L4 n) := by
 obtain ⟨_, _, _⟩ := x
 kernel_rfl
theorem F_22 (a : dens [.v (.slice .int), .v (.slice .int)]) : E_22.run a = funK C_22 Try.f173 [.v (.slice .int), .v (.slice .int)] [.v .bool] a (fun o r => some (N_22 o r)) := by
 kernel_rfl
theorem W_22 : loopsOf D_22 = [B_22L4] := by kernel_rfl
theorem R_22L4 : firstReg B_22L4 = 4 := by kernel_rfl
theorem Q_22 : Try.prog.funcs[173]? = some Try.f173 ∧ (Try.f173.name == "runtime.NumGoroutine") = false ∧ Try.f173.body = some D_22 := ⟨Try.func173, by kernel_rfl, by kernel_rfl⟩
theorem H_22 : Holds Try.prog 173 E_22 :=
 holds_of (cx := C_22) (tabOk_ok tabT rfl).1 (allT_ok trivial) mixT Q_22.1 Q_22.2.2 (loops_of W_22 ⟨loop_of (cx := C_22) (L := S_22L4 fuel) rfl (by rw [R_22L4]; rfl) ⟨spec_l1Same_L4, fun _ => rfl, fun n x => K_22L4 n x, fuel, fun _ => rfl⟩, trivial⟩) (enc := N_22) (fun _ _ => ⟨rfl, rfl⟩) F_22
theorem K_23L2 (n : Nat) (x) : spec_l8Find_L2 (n + 1) x = roundK C_23 B_23L2 (S_23L2 fuel) x (spec_l8Find_L2 n) := by
 obtain ⟨_, _, _, _⟩ := x
 kernel_rfl
theorem F_23 (a : dens [.v (.slice (.slice .int)), .v (.slice .int)]) : E_23.run a = funK C_23 Try.f134 [.v (.slice (.slice .int)), .v (.slice .int)] [.v .int, .v .bool] a (fun o r => some (N_23 o r)) := by
 kernel_rfl
theorem W_23 : loopsOf D_23 = [B_23L2] := by kernel_rfl
theorem R_23L2 : firstReg B_23L2 = 2 := by kernel_rfl
theorem Q_23 : Try.prog.funcs[134]? = some Try.f134 ∧ (Try.f134.name == "runtime.NumGoroutine") = false ∧ Try.f134.body = some D_23 := ⟨Try.func134, by kernel_rfl, by kernel_rfl⟩
theorem H_23 : Holds Try.prog 134 E_23 :=
 holds_of (cx := C_23) (tabOk_ok tabT rfl).1 (allT_ok ⟨⟨H_17, _, _, Q_17⟩, ⟨⟨H_22, _, _, Q_22⟩, trivial⟩⟩) mixT Q_23.1 Q_23.2.2 (loops_of W_23 ⟨loop_of (cx := C_23) (L := S_23L2 fuel) rfl (by rw [R_23L2]; rfl) ⟨spec_l8Find_L2, fun _ => rfl, fun n x => K_23L2 n x, fuel, fun _ => rfl⟩, trivial⟩) (enc := N_23) (fun _ _ => ⟨rfl, rfl⟩) F_23
theorem F_24 (a : dens [.v (.pair .int (.slice (.slice .int))), .v (.slice .int)]) : E_24.run a = funK C_24 Try.f84 [.v (.pair .int (.slice (.slice .int))), .v (.slice .int)] [.v .bool] a (fun o r => some (N_24 o r)) := by
 kernel_rfl
theorem W_24 : loopsOf D_24 = [] := by kernel_rfl
theorem Q_24 : Try.prog.funcs[84]? = some Try.f84 ∧ (Try.f84.name == "runtime.NumGoroutine") = false ∧ Try.f84.body = some D_24 := ⟨Try.func84, by kernel_rfl, by kernel_rfl⟩
theorem H_24 : Holds Try.prog 84 E_24 :=
 holds_of (cx := C_24) (tabOk_ok tabT rfl).1 (allT_ok ⟨⟨H_23, _, _, Q_23⟩, trivial⟩) mixT Q_24.1 Q_24.2.2 (loops_of W_24 trivial) (enc := N_24) (fun _ _ => ⟨rfl, rfl⟩) F_24
theorem F_25 (a : dens []) : E_25.run a = funK C_25 Try.f184 [] [.mv (.pair .int (.slice .int)) 0] a (fun o r => some (N_25 o r)) := by
 kernel_rfl
theorem W_25 : loopsOf D_25 = [] := by kernel_rfl
theorem Q_25 : Try.prog.funcs[184]? = some Try.f184 ∧ (Try.f184.name == "runtime.NumGoroutine") = false ∧ Try.f184.body = some D_25 := ⟨Try.func184, by kernel_rfl, by kernel_rfl⟩
theorem H_25 : Holds Try.prog 184 E_25 :=
 holds_of (cx := C_25) (tabOk_ok tabT rfl).1 (allT_ok trivial) mixT Q_25.1 Q_25.2.2 (loops_of W_25 trivial) (enc := N_25) (fun _ _ => ⟨rfl, rfl⟩) F_25
theorem K_26L3 (n : Nat) (x) : spec_l8Choose_L3 (n + 1) x = roundK C_26 B_26L3 (S_26L3 fuel) x (spec_l8Choose_L3 n) := by
 obtain ⟨_, _, _, _⟩ := x
 kernel_rfl
theorem F_26 (a : dens [.v (.slice (.slice .int)), .v (.slice .int)]) : E_26.run a = funK C_26 Try.f171 [.v (.slice (.slice .int)), .v (.slice .int)] [.mv (.slice .int) 0] a (fun o r => some (N_26 o r)) := by
 kernel_rfl
theorem W_26 : loopsOf D_26 = [B_26L3] := by kernel_rfl
theorem R_26L3 : firstReg B_26L3 = 3 := by kernel_rfl
theorem Q_26 : Try.prog.funcs[171]? = some Try.f171 ∧ (Try.f171.name == "runtime.NumGoroutine") = false ∧ Try.f171.body = some D_26 := ⟨Try.func171, by kernel_rfl, by kernel_rfl⟩
theorem H_26 : Holds Try.prog 171 E_26 :=
 holds_of (cx := C_26) (tabOk_ok tabT rfl).1 (allT_ok trivial) mixT Q_26.1 Q_26.2.2 (loops_of W_26 ⟨loop_of (cx := C_26) (L := S_26L3 fuel) rfl (by rw [R_26L3]; rfl) ⟨spec_l8Choose_L3, fun _ => rfl, fun n x => K_26L3 n x, fuel, fun _ => rfl⟩, trivial⟩) (enc := N_26) (fun _ _ => ⟨rfl, rfl⟩) F_26
theorem K_27L7 (n : Nat) (x) : spec_l8Apply_L7 (n + 1) x = roundK C_27 B_27L7 (S_27L7 fuel) x (spec_l8Apply_L7 n) := by
 obtain ⟨_, _, _, _, _, _, _, _⟩ := x
 kernel_rfl
theorem K_27L3 (n : Nat) (x) : spec_l8Apply_L3 (n + 1) x = roundK C_27 B_27L3 (S_27L3 fuel) x (spec_l8Apply_L3 n) := by
 obtain ⟨_, _, _, _, _, _⟩ := x
 kernel_rfl
theorem F_27 (a : dens [.v (.pair .int (.slice (.pair .int (.slice .int)))), .v .int, .v (.slice (.slice .int)), .v .int]) : E_27.run a = funK C_27 Try.f191 [.v (.pair .int (.slice (.pair .int (.slice .int)))), .v .int, .v (.slice (.slice .int)), .v .int] [.mv .int 0] a (fun o r => some (N_27 o r)) := by
 kernel_rfl
theorem W_27 : loopsOf D_27 = [B_27L3, B_27L7] := by kernel_rfl
theorem R_27L7 : firstReg B_27L7 = 7 := by kernel_rfl
theorem R_27L3 : firstReg B_27L3 = 3 := by kernel_rfl
theorem Q_27 : Try.prog.funcs[191]? = some Try.f191 ∧ (Try.f191.name == "runtime.NumGoroutine") = false ∧ Try.f191.body = some D_27 := ⟨Try.func191, by kernel_rfl, by kernel_rfl⟩
theorem H_27 : Holds Try.prog 191 E_27 :=
 holds_of (cx := C_27) (tabOk_ok tabT rfl).1 (allT_ok trivial) mixT Q_27.1 Q_27.2.2 (loops_of W_27 ⟨loop_of (cx := C_27) (L := S_27L3 fuel) rfl (by rw [R_27L3]; rfl) ⟨spec_l8Apply_L3, fun _ => rfl, fun n x => K_27L3 n x, fuel, fun _ => rfl⟩, ⟨loop_of (cx := C_27) (L := S_27L7 fuel) rfl (by rw [R_27L7]; rfl) ⟨spec_l8Apply_L7, fun _ => rfl, fun n x => K_27L7 n x, fuel, fun _ => rfl⟩, trivial⟩⟩) (enc := N_27) (fun _ _ => ⟨rfl, rfl⟩) F_27
theorem F_28 (a : dens [.v .int, .v (.pair .int (.slice .int)), .v (.slice (.slice .int)), .v .int]) : E_28.run a = funK C_28 Try.f170 [.v .int, .v (.pair .int (.slice .int)), .v (.slice (.slice .int)), .v .int] [.mv .int 0] a (fun o r => some (N_28 o r)) := by
 kernel_rfl
theorem W_28 : loopsOf D_28 = [] := by kernel_rfl
theorem Q_28 : Try.prog.funcs[170]? = some Try.f170 ∧ (Try.f170.name == "runtime.NumGoroutine") = false ∧ Try.f170.body = some D_28 := ⟨Try.func170, by kernel_rfl, by kernel_rfl⟩
theorem H_28 : Holds Try.prog 170 E_28 :=
 holds_of (cx := C_28) (tabOk_ok tabT rfl).1 (allT_ok ⟨⟨H_27, _, _, Q_27⟩, trivial⟩) mixT Q_28.1 Q_28.2.2 (loops_of W_28 trivial) (enc := N_28) (fun _ _ => ⟨rfl, rfl⟩) F_28
theorem F_29 (a : dens [.v (.slice .int)]) : E_29.run a = funK C_29 Try.f66 [.v (.slice .int)] [.mv .int 0] a (fun o r => some (N_29 o r)) := by
 kernel_rfl
theorem W_29 : loopsOf D_29 = [] := by kernel_rfl
theorem Q_29 : Try.prog.funcs[66]? = some Try.f66 ∧ (Try.f66.name == "runtime.NumGoroutine") = false ∧ Try.f66.body = some D_29 := ⟨Try.func66, by kernel_rfl, by kernel_rfl⟩
theorem H_29 : Holds Try.prog 66 E_29 :=
 holds_of (cx := C_29) (tabOk_ok tabT rfl).1 (allT_ok trivial) mixT Q_29.1 Q_29.2.2 (loops_of W_29 trivial) (enc := N_29) (fun _ _ => ⟨rfl, rfl⟩) F_29
theorem K_30L3 (n : Nat) (x) : spec_l8Next_L3 (n + 1) x = roundK C_30 B_30L3 (S_30L3 fuel) x (spec_l8Next_L3 n) := by
 obtain ⟨_, _, _⟩ := x
 kernel_rfl
theorem F_30 (a : dens [.v (.slice .int), .v .int]) : E_30.run a = funK C_30 Try.f172 [.v (.slice .int), .v .int] [.mv .int 0, .v .bool] a (fun o r => some (N_30 o r)) := by
 kernel_rfl
theorem W_30 : loopsOf D_30 = [B_30L3] := by kernel_rfl
theorem R_30L3 : firstReg B_30L3 = 3 := by kernel_rfl
theorem Q_30 : Try.prog.funcs[172]? = some Try.f172 ∧ (Try.f172.name == "runtime.NumGoroutine") = false ∧ Try.f172.body = some D_30 := ⟨Try.func172, by kernel_rfl, by kernel_rfl⟩
theorem H_30 : Holds Try.prog 172 E_30 :=
 holds_of (cx := C_30) (tabOk_ok tabT rfl).1 (allT_ok ⟨⟨H_29, _, _, Q_29⟩, trivial⟩) mixT Q_30.1 Q_30.2.2 (loops_of W_30 ⟨loop_of (cx := C_30) (L := S_30L3 fuel) rfl (by rw [R_30L3]; rfl) ⟨spec_l8Next_L3, fun _ => rfl, fun n x => K_30L3 n x, fuel, fun _ => rfl⟩, trivial⟩) (enc := N_30) (fun _ _ => ⟨rfl, rfl⟩) F_30
theorem K_31L2 (n : Nat) (x) : spec_l13Break_L2 (n + 1) x = roundK C_31 B_31L2 (S_31L2 fuel) x (spec_l13Break_L2 n) := by
 obtain ⟨_, _, _, _, _⟩ := x
 kernel_rfl
theorem F_31 (a : dens [.v .int, .v (.pair .int (.slice .int)), .v (.pair .int (.slice (.slice .int)))]) : E_31.run a = funK C_31 Try.f130 [.v .int, .v (.pair .int (.slice .int)), .v (.pair .int (.slice (.slice .int)))] [.v (.slice .int), .mv .int 0, .v .bool] a (fun o r => some (N_31 o r)) := by
 kernel_rfl
theorem W_31 : loopsOf D_31 = [B_31L2] := by kernel_rfl
theorem R_31L2 : firstReg B_31L2 = 2 := by kernel_rfl
theorem Q_31 : Try.prog.funcs[130]? = some Try.f130 ∧ (Try.f130.name == "runtime.NumGoroutine") = false ∧ Try.f130.body = some D_31 := ⟨Try.func130, by kernel_rfl, by kernel_rfl⟩
theorem H_31 : Holds Try.prog 130 E_31 :=
 holds_of (cx := C_31) (tabOk_ok tabT rfl).1 (allT_ok ⟨⟨H_24, _, _, Q_24⟩, ⟨⟨H_28, _, _, Q_28⟩, ⟨⟨H_26, _, _, Q_26⟩, ⟨⟨H_30, _, _, Q_30⟩, trivial⟩⟩⟩⟩) mixT Q_31.1 Q_31.2.2 (loops_of W_31 ⟨loop_of (cx := C_31) (L := S_31L2 fuel) rfl (by rw [R_31L2]; rfl) ⟨spec_l13Break_L2, fun _ => rfl, fun n x => K_31L2 n x, fuel, fun _ => rfl⟩, trivial⟩) (enc := N_31) (fun _ _ => ⟨rfl, rfl⟩) F_31
theorem F_32 (a : dens [.v .int, .v (.pair .int (.slice .int)), .v (.pair .int (.slice (.slice .int)))]) : E_32.run a = funK C_32 Try.f73 [.v .int, .v (.pair .int (.slice .int)), .v (.pair .int (.slice (.slice .int)))] [.v .bool] a (fun o r => some (N_32 o r)) := by
 kernel_rfl
theorem W_32 : loopsOf D_32 = [] := by kernel_rfl
theorem Q_32 : Try.prog.funcs[73]? = some Try.f73 ∧ (Try.f73.name == "runtime.NumGoroutine") = false ∧ Try.f73.body = some D_32 := ⟨Try.func73, by kernel_rfl, by kernel_rfl⟩
theorem H_32 : Holds Try.prog 73 E_32 :=
 holds_of (cx := C_32) (tabOk_ok tabT rfl).1 (allT_ok ⟨⟨H_31, _, _, Q_31⟩, trivial⟩) mixT Q_32.1 Q_32.2.2 (loops_of W_32 trivial) (enc := N_32) (fun _ _ => ⟨rfl, rfl⟩) F_32
theorem K_33L4 (n : Nat) (x) : spec_l22In_L4 (n + 1) x = roundK C_33 B_33L4 (S_33L4 fuel) x (spec_l22In_L4 n) := by
 obtain ⟨_, _, _, _⟩ := x
 kernel_rfl
theorem F_33 (a : dens [.v (.pair .int (.slice (.slice .int))), .v .int]) : E_33.run a = funK C_33 Try.f152 [.v (.pair .int (.slice (.slice .int))), .v .int] [.v .bool] a (fun o r => some (N_33 o r)) := by
 kernel_rfl
theorem W_33 : loopsOf D_33 = [B_33L4] := by kernel_rfl
theorem R_33L4 : firstReg B_33L4 = 4 := by kernel_rfl
theorem Q_33 : Try.prog.funcs[152]? = some Try.f152 ∧ (Try.f152.name == "runtime.NumGoroutine") = false ∧ Try.f152.body = some D_33 := ⟨Try.func152, by kernel_rfl, by kernel_rfl⟩
theorem H_33 : Holds Try.prog 152 E_33 :=
 holds_of (cx := C_33) (tabOk_ok tabT rfl).1 (allT_ok ⟨⟨H_32, _, _, Q_32⟩, ⟨⟨H_24, _, _, Q_24⟩, ⟨⟨H_25, _, _, Q_25⟩, trivial⟩⟩⟩) mixT Q_33.1 Q_33.2.2 (loops_of W_33 ⟨loop_of (cx := C_33) (L := S_33L4 fuel) rfl (by rw [R_33L4]; rfl) ⟨spec_l22In_L4, fun _ => rfl, fun n x => K_33L4 n x, fuel, fun _ => rfl⟩, trivial⟩) (enc := N_33) (fun _ _ => ⟨rfl, rfl⟩) F_33
theorem K_34L2 (n : Nat) (x) : spec_l22Is_L2 (n + 1) x = roundK C_34 B_34L2 (S_34L2 fuel) x (spec_l22Is_L2 n) := by
 obtain ⟨_, _, _⟩ := x
 kernel_rfl
theorem F_34 (a : dens [.v (.pair .int (.pair .int (.slice (.pair (.slice .int) (.pair .int (.slice (.slice .int))))))), .v .int]) : E_34.run a = funK C_34 Try.f104 [.v (.pair .int (.pair .int (.slice (.pair (.slice .int) (.pair .int (.slice (.slice .int))))))), .v .int] [.v .bool] a (fun o r => some (N_34 o r)) := by
 kernel_rfl
theorem W_34 : loopsOf D_34 = [B_34L2] := by kernel_rfl
theorem R_34L2 : firstReg B_34L2 = 2 := by kernel_rfl
theorem Q_34 : Try.prog.funcs[104]? = some Try.f104 ∧ (Try.f104.name == "runtime.NumGoroutine") = false ∧ Try.f104.body = some D_34 := ⟨Try.func104, by kernel_rfl, by kernel_rfl⟩
theorem H_34 : Holds Try.prog 104 E_34 :=
 holds_of (cx := C_34) (tabOk_ok tabT rfl).1 (allT_ok ⟨⟨H_33, _, _, Q_33⟩, trivial⟩) mixT Q_34.1 Q_34.2.2 (loops_of W_34 ⟨loop_of (cx := C_34) (L := S_34L2 fuel) rfl (by rw [R_34L2]; rfl) ⟨spec_l22Is_L2, fun _ => rfl, fun n x => K_34L2 n x, fuel, fun _ => rfl⟩, trivial⟩) (enc := N_34) (fun _ _ => ⟨rfl, rfl⟩) F_34
theorem K_35L3 (n : Nat) (x) : spec_l8At_L3 (n + 1) x = roundK C_35 B_35L3 (S_35L3 fuel) x (spec_l8At_L3 n) := by
 obtain ⟨_, _, _, _⟩ := x
 kernel_rfl
theorem F_35 (a : dens [.v (.slice .int), .v (.slice .int)]) : E_35.run a = funK C_35 Try.f196 [.v (.slice .int), .v (.slice .int)] [.mv .int 0] a (fun o r => some (N_35 o r)) := by
 kernel_rfl
theorem W_35 : loopsOf D_35 = [B_35L3] := by kernel_rfl
theorem R_35L3 : firstReg B_35L3 = 3 := by kernel_rfl
theorem Q_35 : Try.prog.funcs[196]? = some Try.f196 ∧ (Try.f196.name == "runtime.NumGoroutine") = false ∧ Try.f196.body = some D_35 := ⟨Try.func196, by kernel_rfl, by kernel_rfl⟩
theorem H_35 : Holds Try.prog 196 E_35 :=
 holds_of (cx := C_35) (tabOk_ok tabT rfl).1 (allT_ok trivial) mixT Q_35.1 Q_35.2.2 (loops_of W_35 ⟨loop_of (cx := C_35) (L := S_35L3 fuel) rfl (by rw [R_35L3]; rfl) ⟨spec_l8At_L3, fun _ => rfl, fun n x => K_35L3 n x, fuel, fun _ => rfl⟩, trivial⟩) (enc := N_35) (fun _ _ => ⟨rfl, rfl⟩) F_35
theorem F_36 (a : dens [.v (.slice (.slice .int)), .v (.slice .int)]) : E_36.run a = funK C_36 Try.f161 [.v (.slice (.slice .int)), .v (.slice .int)] [.v (.slice (.slice .int))] a (fun o r => some (N_36 o r)) := by
 kernel_rfl
theorem W_36 : loopsOf D_36 = [] := by kernel_rfl
theorem Q_36 : Try.prog.funcs[161]? = some Try.f161 ∧ (Try.f161.name == "runtime.NumGoroutine") = false ∧ Try.f161.body = some D_36 := ⟨Try.func161, by kernel_rfl, by kernel_rfl⟩
theorem H_36 : Holds Try.prog 161 E_36 :=
 holds_of (cx := C_36) (tabOk_ok tabT rfl).1 (allT_ok ⟨⟨H_23, _, _, Q_23⟩, trivial⟩) mixT Q_36.1 Q_36.2.2 (loops_of W_36 trivial) (enc := N_36) (fun _ _ => ⟨rfl, rfl⟩) F_36
theorem K_37L3 (n : Nat) (x) : spec_l13Project_L3 (n + 1) x = roundK C_37 B_37L3 (S_37L3 fuel) x (spec_l13Project_L3 n) := by
 obtain ⟨_, _, _, _, _⟩ := x
 kernel_rfl
theorem F_37 (a : dens [.v (.pair .int (.slice (.slice .int))), .v (.slice .int)]) : E_37.run a = funK C_37 Try.f185 [.v (.pair .int (.slice (.slice .int))), .v (.slice .int)] [.v (.pair .int (.slice (.slice .int)))] a (fun o r => some (N_37 o r)) := by
 kernel_rfl
theorem W_37 : loopsOf D_37 = [B_37L3] := by kernel_rfl
theorem R_37L3 : firstReg B_37L3 = 3 := by kernel_rfl
theorem Q_37 : Try.prog.funcs[185]? = some Try.f185 ∧ (Try.f185.name == "runtime.NumGoroutine") = false ∧ Try.f185.body = some D_37 := ⟨Try.func185, by kernel_rfl, by kernel_rfl⟩
theorem H_37 : Holds Try.prog 185 E_37 :=
 holds_of (cx := C_37) (tabOk_ok tabT rfl).1 (allT_ok ⟨⟨H_36, _, _, Q_36⟩, ⟨⟨H_35, _, _, Q_35⟩, trivial⟩⟩) mixT Q_37.1 Q_37.2.2 (loops_of W_37 ⟨loop_of (cx := C_37) (L := S_37L3 fuel) rfl (by rw [R_37L3]; rfl) ⟨spec_l13Project_L3, fun _ => rfl, fun n x => K_37L3 n x, fuel, fun _ => rfl⟩, trivial⟩) (enc := N_37) (fun _ _ => ⟨rfl, rfl⟩) F_37
theorem K_38L3 (n : Nat) (x) : spec_l22Follows_L3 (n + 1) x = roundK C_38 B_38L3 (S_38L3 fuel) x (spec_l22Follows_L3 n) := by
 obtain ⟨_, _, _⟩ := x
 kernel_rfl
theorem K_38L18 (n : Nat) (x) : spec_l22Follows_L18 (n + 1) x = roundK C_38 B_38L18 (S_38L18 fuel) x (spec_l22Follows_L18 n) := by
 obtain ⟨_, _, _, _, _, _, _, _⟩ := x
 kernel_rfl
theorem K_38L14 (n : Nat) (x) : spec_l22Follows_L14 (n + 1) x = roundK C_38 B_38L14 (S_38L14 fuel) x (spec_l22Follows_L14 n) := by
 obtain ⟨_, _, _, _, _, _⟩ := x
 kernel_rfl
theorem K_38L11 (n : Nat) (x) : spec_l22Follows_L11 (n + 1) x = roundK C_38 B_38L11 (S_38L11 fuel) x (spec_l22Follows_L11 n) := by
 obtain ⟨_, _, _, _, _⟩ := x
 kernel_rfl
theorem K_38L7 (n : Nat) (x) : spec_l22Follows_L7 (n + 1) x = roundK C_38 B_38L7 (S_38L7 fuel) x (spec_l22Follows_L7 n) := by
 obtain ⟨_, _, _⟩ := x
 kernel_rfl
theorem F_38 (a : dens [.v (.pair .int (.pair .int (.slice (.pair (.slice .int) (.pair .int (.slice (.slice .int)))))))]) : E_38.run a = funK C_38 Try.f153 [.v (.pair .int (.pair .int (.slice (.pair (.slice .int) (.pair .int (.slice (.slice .int)))))))] [.mv (.slice .bool) 1] a (fun o r => some (N_38 o r)) := by
 kernel_rfl
theorem W_38 : loopsOf D_38 = [B_38L3, B_38L7, B_38L11, B_38L14, B_38L18] := by kernel_rfl
theorem R_38L3 : firstReg B_38L3 = 3 := by kernel_rfl
theorem R_38L18 : firstReg B_38L18 = 18 := by kernel_rfl
theorem R_38L14 : firstReg B_38L14 = 14 := by kernel_rfl
theorem R_38L11 : firstReg B_38L11 = 11 := by kernel_rfl
theorem R_38L7 : firstReg B_38L7 = 7 := by kernel_rfl
theorem Q_38 : Try.prog.funcs[153]? = some Try.f153 ∧ (Try.f153.name == "runtime.NumGoroutine") = false ∧ Try.f153.body = some D_38 := ⟨Try.func153, by kernel_rfl, by kernel_rfl⟩
theorem H_38 : Holds Try.prog 153 E_38 :=
 holds_of (cx := C_38) (tabOk_ok tabT rfl).1 (allT_ok ⟨⟨H_24, _, _, Q_24⟩, ⟨⟨H_37, _, _, Q_37⟩, trivial⟩⟩) mixT Q_38.1 Q_38.2.2 (loops_of W_38 ⟨loop_of (cx := C_38) (L := S_38L3 fuel) rfl (by rw [R_38L3]; rfl) ⟨spec_l22Follows_L3, fun _ => rfl, fun n x => K_38L3 n x, fuel, fun _ => rfl⟩, ⟨loop_of (cx := C_38) (L := S_38L7 fuel) rfl (by rw [R_38L7]; rfl) ⟨spec_l22Follows_L7, fun _ => rfl, fun n x => K_38L7 n x, fuel, fun _ => rfl⟩, ⟨loop_of (cx := C_38) (L := S_38L11 fuel) rfl (by rw [R_38L11]; rfl) ⟨spec_l22Follows_L11, fun _ => rfl, fun n x => K_38L11 n x, fuel, fun _ => rfl⟩, ⟨loop_of (cx := C_38) (L := S_38L14 fuel) rfl (by rw [R_38L14]; rfl) ⟨spec_l22Follows_L14, fun _ => rfl, fun n x => K_38L14 n x, fuel, fun _ => rfl⟩, ⟨loop_of (cx := C_38) (L := S_38L18 fuel) rfl (by rw [R_38L18]; rfl) ⟨spec_l22Follows_L18, fun _ => rfl, fun n x => K_38L18 n x, fuel, fun _ => rfl⟩, trivial⟩⟩⟩⟩⟩) (enc := N_38) (fun _ _ => ⟨rfl, rfl⟩) F_38
theorem K_39L2 (n : Nat) (x) : spec_l1Has_L2 (n + 1) x = roundK C_39 B_39L2 (S_39L2 fuel) x (spec_l1Has_L2 n) := by
 obtain ⟨_, _, _⟩ := x
 kernel_rfl
theorem F_39 (a : dens [.v (.slice .int), .v .int]) : E_39.run a = funK C_39 Try.f154 [.v (.slice .int), .v .int] [.v .bool] a (fun o r => some (N_39 o r)) := by
 kernel_rfl
theorem W_39 : loopsOf D_39 = [B_39L2] := by kernel_rfl
theorem R_39L2 : firstReg B_39L2 = 2 := by kernel_rfl
theorem Q_39 : Try.prog.funcs[154]? = some Try.f154 ∧ (Try.f154.name == "runtime.NumGoroutine") = false ∧ Try.f154.body = some D_39 := ⟨Try.func154, by kernel_rfl, by kernel_rfl⟩
theorem H_39 : Holds Try.prog 154 E_39 :=
 holds_of (cx := C_39) (tabOk_ok tabT rfl).1 (allT_ok trivial) mixT Q_39.1 Q_39.2.2 (loops_of W_39 ⟨loop_of (cx := C_39) (L := S_39L2 fuel) rfl (by rw [R_39L2]; rfl) ⟨spec_l1Has_L2, fun _ => rfl, fun n x => K_39L2 n x, fuel, fun _ => rfl⟩, trivial⟩) (enc := N_39) (fun _ _ => ⟨rfl, rfl⟩) F_39
theorem K_40L6 (n : Nat) (x) : spec_l22Closed_L6 (n + 1) x = roundK C_40 B_40L6 (S_40L6 fuel) x (spec_l22Closed_L6 n) := by
 obtain ⟨_, _, _, _⟩ := x
 kernel_rfl
theorem K_40L3 (n : Nat) (x) : spec_l22Closed_L3 (n + 1) x = roundK C_40 B_40L3 (S_40L3 fuel) x (spec_l22Closed_L3 n) := by
 obtain ⟨_, _, _⟩ := x
 kernel_rfl
theorem K_40L11 (n : Nat) (x) : spec_l22Closed_L11 (n + 1) x = roundK C_40 B_40L11 (S_40L11 fuel) x (spec_l22Closed_L11 n) := by
 obtain ⟨_, _⟩ := x
 kernel_rfl
theorem F_40 (a : dens [.v (.slice (.slice .bool)), .v (.slice .int)]) : E_40.run a = funK C_40 Try.f155 [.v (.slice (.slice .bool)), .v (.slice .int)] [.mv .int 0, .v .bool] a (fun o r => some (N_40 o r)) := by
 kernel_rfl
theorem W_40 : loopsOf D_40 = [B_40L3, B_40L6, B_40L11] := by kernel_rfl
theorem R_40L6 : firstReg B_40L6 = 6 := by kernel_rfl
theorem R_40L3 : firstReg B_40L3 = 3 := by kernel_rfl
theorem R_40L11 : firstReg B_40L11 = 11 := by kernel_rfl
theorem Q_40 : Try.prog.funcs[155]? = some Try.f155 ∧ (Try.f155.name == "runtime.NumGoroutine") = false ∧ Try.f155.body = some D_40 := ⟨Try.func155, by kernel_rfl, by kernel_rfl⟩
theorem H_40 : Holds Try.prog 155 E_40 :=
 holds_of (cx := C_40) (tabOk_ok tabT rfl).1 (allT_ok ⟨⟨H_29, _, _, Q_29⟩, ⟨⟨H_39, _, _, Q_39⟩, trivial⟩⟩) mixT Q_40.1 Q_40.2.2 (loops_of W_40 ⟨loop_of (cx := C_40) (L := S_40L3 fuel) rfl (by rw [R_40L3]; rfl) ⟨spec_l22Closed_L3, fun _ => rfl, fun n x => K_40L3 n x, fuel, fun _ => rfl⟩, ⟨loop_of (cx := C_40) (L := S_40L6 fuel) rfl (by rw [R_40L6]; rfl) ⟨spec_l22Closed_L6, fun _ => rfl, fun n x => K_40L6 n x, fuel, fun _ => rfl⟩, ⟨loop_of (cx := C_40) (L := S_40L11 fuel) rfl (by rw [R_40L11]; rfl) ⟨spec_l22Closed_L11, fun _ => rfl, fun n x => K_40L11 n x, fuel, fun _ => rfl⟩, trivial⟩⟩⟩) (enc := N_40) (fun _ _ => ⟨rfl, rfl⟩) F_40
theorem K_41L2 (n : Nat) (x) : spec_l22Pairs_L2 (n + 1) x = roundK C_41 B_41L2 (S_41L2 fuel) x (spec_l22Pairs_L2 n) := by
 obtain ⟨_, _⟩ := x
 kernel_rfl
theorem K_41L8 (n : Nat) (x) : spec_l22Pairs_L8 (n + 1) x = roundK C_41 B_41L8 (S_41L8 fuel) x (spec_l22Pairs_L8 n) := by
 obtain ⟨_, _, _, _⟩ := x
 kernel_rfl
theorem K_41L19 (n : Nat) (x) : spec_l22Pairs_L19 (n + 1) x = roundK C_41 B_41L19 (S_41L19 fuel) x (spec_l22Pairs_L19 n) := by
 obtain ⟨_, _, _, _⟩ := x
 kernel_rfl
theorem F_41 (a : dens [.v (.pair .int (.pair .int (.slice (.pair (.slice .int) (.pair .int (.slice (.slice .int)))))))]) : E_41.run a = funK C_41 Try.f105 [.v (.pair .int (.pair .int (.slice (.pair (.slice .int) (.pair .int (.slice (.slice .int)))))))] [.mv .int 0, .v .bool] a (fun o r => some (N_41 o r)) := by
 kernel_rfl
theorem W_41 : loopsOf D_41 = [B_41L2, B_41L8, B_41L19] := by kernel_rfl
theorem R_41L2 : firstReg B_41L2 = 2 := by kernel_rfl
theorem R_41L8 : firstReg B_41L8 = 8 := by kernel_rfl
theorem R_41L19 : firstReg B_41L19 = 19 := by kernel_rfl
theorem Q_41 : Try.prog.funcs[105]? = some Try.f105 ∧ (Try.f105.name == "runtime.NumGoroutine") = false ∧ Try.f105.body = some D_41 := ⟨Try.func105, by kernel_rfl, by kernel_rfl⟩
theorem H_41 : Holds Try.prog 105 E_41 :=
 holds_of (cx := C_41) (tabOk_ok tabT rfl).1 (allT_ok ⟨⟨H_29, _, _, Q_29⟩, ⟨⟨H_38, _, _, Q_38⟩, ⟨⟨H_39, _, _, Q_39⟩, ⟨⟨H_40, _, _, Q_40⟩, trivial⟩⟩⟩⟩) mixT Q_41.1 Q_41.2.2 (loops_of W_41 ⟨loop_of (cx := C_41) (L := S_41L2 fuel) rfl (by rw [R_41L2]; rfl) ⟨spec_l22Pairs_L2, fun _ => rfl, fun n x => K_41L2 n x, fuel, fun _ => rfl⟩, ⟨loop_of (cx := C_41) (L := S_41L8 fuel) rfl (by rw [R_41L8]; rfl) ⟨spec_l22Pairs_L8, fun _ => rfl, fun n x => K_41L8 n x, fuel, fun _ => rfl⟩, ⟨loop_of (cx := C_41) (L := S_41L19 fuel) rfl (by rw [R_41L19]; rfl) ⟨spec_l22Pairs_L19, fun _ => rfl, fun n x => K_41L19 n x, fuel, fun _ => rfl⟩, trivial⟩⟩⟩) (enc := N_41) (fun _ _ => ⟨rfl, rfl⟩) F_41
theorem F_42 (a : dens [.v (.pair .int (.pair .int (.slice (.pair (.slice .int) (.pair .int (.slice (.slice .int)))))))]) : E_42.run a = funK C_42 Try.f38 [.v (.pair .int (.pair .int (.slice (.pair (.slice .int) (.pair .int (.slice (.slice .int)))))))] [.mv .int 0, .v .bool, .v .bool] a (fun o r => some (N_42 o r)) := by
 kernel_rfl
theorem W_42 : loopsOf D_42 = [] := by kernel_rfl
theorem Q_42 : Try.prog.funcs[38]? = some Try.f38 ∧ (Try.f38.name == "runtime.NumGoroutine") = false ∧ Try.f38.body = some D_42 := ⟨Try.func38, by kernel_rfl, by kernel_rfl⟩
theorem H_42 : Holds Try.prog 38 E_42 :=
 holds_of (cx := C_42) (tabOk_ok tabT rfl).1 (allT_ok ⟨⟨H_21, _, _, Q_21⟩, ⟨⟨H_34, _, _, Q_34⟩, ⟨⟨H_41, _, _, Q_41⟩, trivial⟩⟩⟩) mixT Q_42.1 Q_42.2.2 (loops_of W_42 trivial) (enc := N_42) (fun _ _ => ⟨rfl, rfl⟩) F_42
theorem F_43 (a : dens [.v .int]) : E_43.run a = funK C_43 Try.f112 [.v .int] [.v .bool] a (fun o r => some (N_43 o r)) := by
 kernel_rfl
theorem W_43 : loopsOf D_43 = [] := by kernel_rfl
theorem Q_43 : Try.prog.funcs[112]? = some Try.f112 ∧ (Try.f112.name == "runtime.NumGoroutine") = false ∧ Try.f112.body = some D_43 := ⟨Try.func112, by kernel_rfl, by kernel_rfl⟩
theorem H_43 : Holds Try.prog 112 E_43 :=
 holds_of (cx := C_43) (tabOk_ok tabT rfl).1 (allT_ok trivial) mixT Q_43.1 Q_43.2.2 (loops_of W_43 trivial) (enc := N_43) (fun _ _ => ⟨rfl, rfl⟩) F_43
theorem K_44L2 (n : Nat) (x) : impl_inSize_L2 (n + 1) x = roundK C_44 B_44L2 (S_44L2 fuel) x (impl_inSize_L2 n) := by
 obtain ⟨_, _, _, _⟩ := x
 kernel_rfl
theorem F_44 (a : dens [.v (.slice .int), .v .int]) : E_44.run a = funK C_44 Try.f77 [.v (.slice .int), .v .int] [.v .bool] a (fun o r => some (N_44 o r)) := by
 kernel_rfl
theorem W_44 : loopsOf D_44 = [B_44L2] := by kernel_rfl
theorem R_44L2 : firstReg B_44L2 = 2 := by kernel_rfl
theorem Q_44 : Try.prog.funcs[77]? = some Try.f77 ∧ (Try.f77.name == "runtime.NumGoroutine") = false ∧ Try.f77.body = some D_44 := ⟨Try.func77, by kernel_rfl, by kernel_rfl⟩
theorem H_44 : Holds Try.prog 77 E_44 :=
 holds_of (cx := C_44) (tabOk_ok tabT rfl).1 (allT_ok trivial) mixT Q_44.1 Q_44.2.2 (loops_of W_44 ⟨loop_of (cx := C_44) (L := S_44L2 fuel) rfl (by rw [R_44L2]; rfl) ⟨impl_inSize_L2, fun _ => rfl, fun n x => K_44L2 n x, fuel, fun _ => rfl⟩, trivial⟩) (enc := N_44) (fun _ _ => ⟨rfl, rfl⟩) F_44
theorem K_45L2 (n : Nat) (x) : impl_compareLists_L2 (n + 1) x = roundK C_45 B_45L2 (S_45L2 fuel) x (impl_compareLists_L2 n) := by
 obtain ⟨_, _, _⟩ := x
 kernel_rfl
theorem F_45 (a : dens [.v (.slice .int), .v (.slice .int)]) : E_45.run a = funK C_45 Try.f190 [.v (.slice .int), .v (.slice .int)] [.v .int] a (fun o r => some (N_45 o r)) := by
 kernel_rfl
theorem W_45 : loopsOf D_45 = [B_45L2] := by kernel_rfl
theorem R_45L2 : firstReg B_45L2 = 2 := by kernel_rfl
theorem Q_45 : Try.prog.funcs[190]? = some Try.f190 ∧ (Try.f190.name == "runtime.NumGoroutine") = false ∧ Try.f190.body = some D_45 := ⟨Try.func190, by kernel_rfl, by kernel_rfl⟩
theorem H_45 : Holds Try.prog 190 E_45 :=
 holds_of (cx := C_45) (tabOk_ok tabT rfl).1 (allT_ok trivial) mixT Q_45.1 Q_45.2.2 (loops_of W_45 ⟨loop_of (cx := C_45) (L := S_45L2 fuel) rfl (by rw [R_45L2]; rfl) ⟨impl_compareLists_L2, fun _ => rfl, fun n x => K_45L2 n x, fuel, fun _ => rfl⟩, trivial⟩) (enc := N_45) (fun _ _ => ⟨rfl, rfl⟩) F_45
theorem K_46L4 (n : Nat) (x) : impl_isRelation_L4 (n + 1) x = roundK C_46 B_46L4 (S_46L4 fuel) x (impl_isRelation_L4 n) := by
 obtain ⟨_, _, _, _, _⟩ := x
 kernel_rfl
theorem F_46 (a : dens [.v .int, .v (.pair .int (.slice (.slice .int)))]) : E_46.run a = funK C_46 Try.f165 [.v .int, .v (.pair .int (.slice (.slice .int)))] [.v .bool] a (fun o r => some (N_46 o r)) := by
 kernel_rfl
theorem W_46 : loopsOf D_46 = [B_46L4] := by kernel_rfl
theorem R_46L4 : firstReg B_46L4 = 4 := by kernel_rfl
theorem Q_46 : Try.prog.funcs[165]? = some Try.f165 ∧ (Try.f165.name == "runtime.NumGoroutine") = false ∧ Try.f165.body = some D_46 := ⟨Try.func165, by kernel_rfl, by kernel_rfl⟩
theorem H_46 : Holds Try.prog 165 E_46 :=
 holds_of (cx := C_46) (tabOk_ok tabT rfl).1 (allT_ok ⟨⟨H_44, _, _, Q_44⟩, ⟨⟨H_45, _, _, Q_45⟩, trivial⟩⟩) mixT Q_46.1 Q_46.2.2 (loops_of W_46 ⟨loop_of (cx := C_46) (L := S_46L4 fuel) rfl (by rw [R_46L4]; rfl) ⟨impl_isRelation_L4, fun _ => rfl, fun n x => K_46L4 n x, fuel, fun _ => rfl⟩, trivial⟩) (enc := N_46) (fun _ _ => ⟨rfl, rfl⟩) F_46
theorem F_47 (a : dens [.v .int, .v .int, .v (.pair (.slice .int) (.pair .int (.slice (.slice .int))))]) : E_47.run a = funK C_47 Try.f144 [.v .int, .v .int, .v (.pair (.slice .int) (.pair .int (.slice (.slice .int))))] [.v .bool] a (fun o r => some (N_47 o r)) := by
 kernel_rfl
theorem W_47 : loopsOf D_47 = [] := by kernel_rfl
theorem Q_47 : Try.prog.funcs[144]? = some Try.f144 ∧ (Try.f144.name == "runtime.NumGoroutine") = false ∧ Try.f144.body = some D_47 := ⟨Try.func144, by kernel_rfl, by kernel_rfl⟩
theorem H_47 : Holds Try.prog 144 E_47 :=
 holds_of (cx := C_47) (tabOk_ok tabT rfl).1 (allT_ok ⟨⟨H_44, _, _, Q_44⟩, ⟨⟨H_46, _, _, Q_46⟩, trivial⟩⟩) mixT Q_47.1 Q_47.2.2 (loops_of W_47 trivial) (enc := N_47) (fun _ _ => ⟨rfl, rfl⟩) F_47
theorem K_48L4 (n : Nat) (x) : impl_IsNetwork_L4 (n + 1) x = roundK C_48 B_48L4 (S_48L4 fuel) x (impl_IsNetwork_L4 n) := by
 obtain ⟨_, _, _, _⟩ := x
 kernel_rfl
theorem F_48 (a : dens [.v (.pair .int (.pair .int (.slice (.pair (.slice .int) (.pair .int (.slice (.slice .int)))))))]) : E_48.run a = funK C_48 Try.f95 [.v (.pair .int (.pair .int (.slice (.pair (.slice .int) (.pair .int (.slice (.slice .int)))))))] [.v .bool] a (fun o r => some (N_48 o r)) := by
 kernel_rfl
theorem W_48 : loopsOf D_48 = [B_48L4] := by kernel_rfl
theorem R_48L4 : firstReg B_48L4 = 4 := by kernel_rfl
theorem Q_48 : Try.prog.funcs[95]? = some Try.f95 ∧ (Try.f95.name == "runtime.NumGoroutine") = false ∧ Try.f95.body = some D_48 := ⟨Try.func95, by kernel_rfl, by kernel_rfl⟩
theorem H_48 : Holds Try.prog 95 E_48 :=
 holds_of (cx := C_48) (tabOk_ok tabT rfl).1 (allT_ok ⟨⟨H_43, _, _, Q_43⟩, ⟨⟨H_47, _, _, Q_47⟩, trivial⟩⟩) mixT Q_48.1 Q_48.2.2 (loops_of W_48 ⟨loop_of (cx := C_48) (L := S_48L4 fuel) rfl (by rw [R_48L4]; rfl) ⟨impl_IsNetwork_L4, fun _ => rfl, fun n x => K_48L4 n x, fuel, fun _ => rfl⟩, trivial⟩) (enc := N_48) (fun _ _ => ⟨rfl, rfl⟩) F_48
theorem F_49 (a : dens [.v (.pair .int (.pair .int (.slice (.pair (.slice .int) (.pair .int (.slice (.slice .int)))))))]) : E_49.run a = funK C_49 Try.f156 [.v (.pair .int (.pair .int (.slice (.pair (.slice .int) (.pair .int (.slice (.slice .int)))))))] [.v .bool] a (fun o r => some (N_49 o r)) := by
 kernel_rfl
theorem W_49 : loopsOf D_49 = [] := by kernel_rfl
theorem Q_49 : Try.prog.funcs[156]? = some Try.f156 ∧ (Try.f156.name == "runtime.NumGoroutine") = false ∧ Try.f156.body = some D_49 := ⟨Try.func156, by kernel_rfl, by kernel_rfl⟩
theorem H_49 : Holds Try.prog 156 E_49 :=
 holds_of (cx := C_49) (tabOk_ok tabT rfl).1 (allT_ok ⟨⟨H_48, _, _, Q_48⟩, trivial⟩) mixT Q_49.1 Q_49.2.2 (loops_of W_49 trivial) (enc := N_49) (fun _ _ => ⟨rfl, rfl⟩) F_49
theorem K_50L3 (n : Nat) (x) : impl_constantTuple_L3 (n + 1) x = roundK C_50 B_50L3 (S_50L3 fuel) x (impl_constantTuple_L3 n) := by
 obtain ⟨_, _, _, _⟩ := x
 kernel_rfl
theorem F_50 (a : dens [.v .int, .v .int]) : E_50.run a = funK C_50 Try.f187 [.v .int, .v .int] [.mv .int 0] a (fun o r => some (N_50 o r)) := by
 kernel_rfl
theorem W_50 : loopsOf D_50 = [B_50L3] := by kernel_rfl
theorem R_50L3 : firstReg B_50L3 = 3 := by kernel_rfl
theorem Q_50 : Try.prog.funcs[187]? = some Try.f187 ∧ (Try.f187.name == "runtime.NumGoroutine") = false ∧ Try.f187.body = some D_50 := ⟨Try.func187, by kernel_rfl, by kernel_rfl⟩
theorem H_50 : Holds Try.prog 187 E_50 :=
 holds_of (cx := C_50) (tabOk_ok tabT rfl).1 (allT_ok trivial) mixT Q_50.1 Q_50.2.2 (loops_of W_50 ⟨loop_of (cx := C_50) (L := S_50L3 fuel) rfl (by rw [R_50L3]; rfl) ⟨impl_constantTuple_L3, fun _ => rfl, fun n x => K_50L3 n x, fuel, fun _ => rfl⟩, trivial⟩) (enc := N_50) (fun _ _ => ⟨rfl, rfl⟩) F_50
theorem K_51L4 (n : Nat) (x) : impl_sameList_L4 (n + 1) x = roundK C_51 B_51L4 (S_51L4 fuel) x (impl_sameList_L4 n) := by
 obtain ⟨_, _, _, _⟩ := x
 kernel_rfl
theorem F_51 (a : dens [.v (.slice .int), .v (.slice .int)]) : E_51.run a = funK C_51 Try.f197 [.v (.slice .int), .v (.slice .int)] [.v .bool] a (fun o r => some (N_51 o r)) := by
 kernel_rfl
theorem W_51 : loopsOf D_51 = [B_51L4] := by kernel_rfl
theorem R_51L4 : firstReg B_51L4 = 4 := by kernel_rfl
theorem Q_51 : Try.prog.funcs[197]? = some Try.f197 ∧ (Try.f197.name == "runtime.NumGoroutine") = false ∧ Try.f197.body = some D_51 := ⟨Try.func197, by kernel_rfl, by kernel_rfl⟩
theorem H_51 : Holds Try.prog 197 E_51 :=
 holds_of (cx := C_51) (tabOk_ok tabT rfl).1 (allT_ok trivial) mixT Q_51.1 Q_51.2.2 (loops_of W_51 ⟨loop_of (cx := C_51) (L := S_51L4 fuel) rfl (by rw [R_51L4]; rfl) ⟨impl_sameList_L4, fun _ => rfl, fun n x => K_51L4 n x, fuel, fun _ => rfl⟩, trivial⟩) (enc := N_51) (fun _ _ => ⟨rfl, rfl⟩) F_51
theorem K_52L2 (n : Nat) (x) : impl_hasRow_L2 (n + 1) x = roundK C_52 B_52L2 (S_52L2 fuel) x (impl_hasRow_L2 n) := by
 obtain ⟨_, _, _, _⟩ := x
 kernel_rfl
theorem F_52 (a : dens [.v (.pair .int (.slice (.slice .int))), .v (.slice .int)]) : E_52.run a = funK C_52 Try.f186 [.v (.pair .int (.slice (.slice .int))), .v (.slice .int)] [.v .bool] a (fun o r => some (N_52 o r)) := by
 kernel_rfl
theorem W_52 : loopsOf D_52 = [B_52L2] := by kernel_rfl
theorem R_52L2 : firstReg B_52L2 = 2 := by kernel_rfl
theorem Q_52 : Try.prog.funcs[186]? = some Try.f186 ∧ (Try.f186.name == "runtime.NumGoroutine") = false ∧ Try.f186.body = some D_52 := ⟨Try.func186, by kernel_rfl, by kernel_rfl⟩
theorem H_52 : Holds Try.prog 186 E_52 :=
 holds_of (cx := C_52) (tabOk_ok tabT rfl).1 (allT_ok ⟨⟨H_51, _, _, Q_51⟩, trivial⟩) mixT Q_52.1 Q_52.2.2 (loops_of W_52 ⟨loop_of (cx := C_52) (L := S_52L2 fuel) rfl (by rw [R_52L2]; rfl) ⟨impl_hasRow_L2, fun _ => rfl, fun n x => K_52L2 n x, fuel, fun _ => rfl⟩, trivial⟩) (enc := N_52) (fun _ _ => ⟨rfl, rfl⟩) F_52
theorem F_53 (a : dens [.v .int, .v .int, .v .int]) : E_53.run a = funK C_53 Try.f199 [.v .int, .v .int, .v .int] [.v .int] a (fun o r => some (N_53 o r)) := by
 kernel_rfl
theorem W_53 : loopsOf D_53 = [] := by kernel_rfl
theorem Q_53 : Try.prog.funcs[199]? = some Try.f199 ∧ (Try.f199.name == "runtime.NumGoroutine") = false ∧ Try.f199.body = some D_53 := ⟨Try.func199, by kernel_rfl, by kernel_rfl⟩
theorem H_53 : Holds Try.prog 199 E_53 :=
 holds_of (cx := C_53) (tabOk_ok tabT rfl).1 (allT_ok trivial) mixT Q_53.1 Q_53.2.2 (loops_of W_53 trivial) (enc := N_53) (fun _ _ => ⟨rfl, rfl⟩) F_53
theorem K_54L3 (n : Nat) (x) : impl_ternary_impl_booleanOps_c1_L3 (n + 1) x = roundK C_54 B_54L3 (S_54L3 fuel) x (impl_ternary_impl_booleanOps_c1_L3 n) := by
 obtain ⟨_, _, _, _, _⟩ := x
 kernel_rfl
theorem F_54 (a : dens [.v .int, .v (.fn 199)]) : E_54.run a = funK C_54 Try.f198 [.v .int, .v (.fn 199)] [.pr (.v .int) (.mv .int 0)] a (fun o r => some (N_54 o r)) := by
 kernel_rfl
theorem W_54 : loopsOf D_54 = [B_54L3] := by kernel_rfl
theorem R_54L3 : firstReg B_54L3 = 3 := by kernel_rfl
theorem Q_54 : Try.prog.funcs[198]? = some Try.f198 ∧ (Try.f198.name == "runtime.NumGoroutine") = false ∧ Try.f198.body = some D_54 := ⟨Try.func198, by kernel_rfl, by kernel_rfl⟩
theorem H_54 : Holds Try.prog 198 E_54 :=
 holds_of (cx := C_54) (tabOk_ok tabT rfl).1 (allT_ok ⟨⟨H_53, _, _, Q_53⟩, trivial⟩) mixT Q_54.1 Q_54.2.2 (loops_of W_54 ⟨loop_of (cx := C_54) (L := S_54L3 fuel) rfl (by rw [R_54L3]; rfl) ⟨impl_ternary_impl_booleanOps_c1_L3, fun _ => rfl, fun n x => K_54L3 n x, fuel, fun _ => rfl⟩, trivial⟩) (enc := N_54) (fun _ _ => ⟨rfl, rfl⟩) F_54
theorem F_55 (a : dens [.v .int, .v .int, .v .int]) : E_55.run a = funK C_55 Try.f200 [.v .int, .v .int, .v .int] [.v .int] a (fun o r => some (N_55 o r)) := by
 kernel_rfl
theorem W_55 : loopsOf D_55 = [] := by kernel_rfl
theorem Q_55 : Try.prog.funcs[200]? = some Try.f200 ∧ (Try.f200.name == "runtime.NumGoroutine") = false ∧ Try.f200.body = some D_55 := ⟨Try.func200, by kernel_rfl, by kernel_rfl⟩
theorem H_55 : Holds Try.prog 200 E_55 :=
 holds_of (cx := C_55) (tabOk_ok tabT rfl).1 (allT_ok trivial) mixT Q_55.1 Q_55.2.2 (loops_of W_55 trivial) (enc := N_55) (fun _ _ => ⟨rfl, rfl⟩) F_55
theorem K_56L3 (n : Nat) (x) : impl_ternary_impl_booleanOps_c2_L3 (n + 1) x = roundK C_56 B_56L3 (S_56L3 fuel) x (impl_ternary_impl_booleanOps_c2_L3 n) := by
 obtain ⟨_, _, _, _, _⟩ := x
 kernel_rfl
theorem F_56 (a : dens [.v .int, .v (.fn 200)]) : E_56.run a = funK C_56 Try.f198 [.v .int, .v (.fn 200)] [.pr (.v .int) (.mv .int 0)] a (fun o r => some (N_56 o r)) := by
 kernel_rfl
theorem W_56 : loopsOf D_56 = [B_56L3] := by kernel_rfl
theorem R_56L3 : firstReg B_56L3 = 3 := by kernel_rfl
theorem Q_56 : Try.prog.funcs[198]? = some Try.f198 ∧ (Try.f198.name == "runtime.NumGoroutine") = false ∧ Try.f198.body = some D_56 := ⟨Try.func198, by kernel_rfl, by kernel_rfl⟩
theorem H_56 : Holds Try.prog 198 E_56 :=
 holds_of (cx := C_56) (tabOk_ok tabT rfl).1 (allT_ok ⟨⟨H_55, _, _, Q_55⟩, trivial⟩) mixT Q_56.1 Q_56.2.2 (loops_of W_56 ⟨loop_of (cx := C_56) (L := S_56L3 fuel) rfl (by rw [R_56L3]; rfl) ⟨impl_ternary_impl_booleanOps_c2_L3, fun _ => rfl, fun n x => K_56L3 n x, fuel, fun _ => rfl⟩, trivial⟩) (enc := N_56) (fun _ _ => ⟨rfl, rfl⟩) F_56
theorem F_57 (a : dens []) : E_57.run a = funK C_57 Try.f188 [] [.mv (.pair .int (.slice .int)) 1] a (fun o r => some (N_57 o r)) := by
 kernel_rfl
theorem W_57 : loopsOf D_57 = [] := by kernel_rfl
theorem Q_57 : Try.prog.funcs[188]? = some Try.f188 ∧ (Try.f188.name == "runtime.NumGoroutine") = false ∧ Try.f188.body = some D_57 := ⟨Try.func188, by kernel_rfl, by kernel_rfl⟩
theorem H_57 : Holds Try.prog 188 E_57 :=
 holds_of (cx := C_57) (tabOk_ok tabT rfl).1 (allT_ok ⟨⟨H_54, _, _, Q_54⟩, ⟨⟨H_56, _, _, Q_56⟩, trivial⟩⟩) mixT Q_57.1 Q_57.2.2 (loops_of W_57 trivial) (enc := N_57) (fun _ _ => ⟨rfl, rfl⟩) F_57
theorem K_58L3 (n : Nat) (x) : impl_keyOf_L3 (n + 1) x = roundK C_58 B_58L3 (S_58L3 fuel) x (impl_keyOf_L3 n) := by
 obtain ⟨_, _, _, _⟩ := x
 kernel_rfl
theorem F_58 (a : dens [.v (.slice .int)]) : E_58.run a = funK C_58 Try.f119 [.v (.slice .int)] [.v .str] a (fun o r => some (N_58 o r)) := by
 kernel_rfl
theorem W_58 : loopsOf D_58 = [B_58L3] := by kernel_rfl
theorem R_58L3 : firstReg B_58L3 = 3 := by kernel_rfl
theorem Q_58 : Try.prog.funcs[119]? = some Try.f119 ∧ (Try.f119.name == "runtime.NumGoroutine") = false ∧ Try.f119.body = some D_58 := ⟨Try.func119, by kernel_rfl, by kernel_rfl⟩
theorem H_58 : Holds Try.prog 119 E_58 :=
 holds_of (cx := C_58) (tabOk_ok tabT rfl).1 (allT_ok trivial) mixT Q_58.1 Q_58.2.2 (loops_of W_58 ⟨loop_of (cx := C_58) (L := S_58L3 fuel) rfl (by rw [R_58L3]; rfl) ⟨impl_keyOf_L3, fun _ => rfl, fun n x => K_58L3 n x, fuel, fun _ => rfl⟩, trivial⟩) (enc := N_58) (fun _ _ => ⟨rfl, rfl⟩) F_58
theorem K_59L3 (n : Nat) (x) : impl_tupleSet_L3 (n + 1) x = roundK C_59 B_59L3 (S_59L3 fuel) x (impl_tupleSet_L3 n) := by
 obtain ⟨_, _, _, _⟩ := x
 kernel_rfl
theorem F_59 (a : dens [.v (.pair .int (.slice (.slice .int)))]) : E_59.run a = funK C_59 Try.f117 [.v (.pair .int (.slice (.slice .int)))] [.v .smap] a (fun o r => some (N_59 o r)) := by
 kernel_rfl
theorem W_59 : loopsOf D_59 = [B_59L3] := by kernel_rfl
theorem R_59L3 : firstReg B_59L3 = 3 := by kernel_rfl
theorem Q_59 : Try.prog.funcs[117]? = some Try.f117 ∧ (Try.f117.name == "runtime.NumGoroutine") = false ∧ Try.f117.body = some D_59 := ⟨Try.func117, by kernel_rfl, by kernel_rfl⟩
theorem H_59 : Holds Try.prog 117 E_59 :=
 holds_of (cx := C_59) (tabOk_ok tabT rfl).1 (allT_ok ⟨⟨H_58, _, _, Q_58⟩, trivial⟩) mixT Q_59.1 Q_59.2.2 (loops_of W_59 ⟨loop_of (cx := C_59) (L := S_59L3 fuel) rfl (by rw [R_59L3]; rfl) ⟨impl_tupleSet_L3, fun _ => rfl, fun n x => K_59L3 n x, fuel, fun _ => rfl⟩, trivial⟩) (enc := N_59) (fun _ _ => ⟨rfl, rfl⟩) F_59
theorem K_60L2 (n : Nat) (x) : impl_power_L2 (n + 1) x = roundK C_60 B_60L2 (S_60L2 fuel) x (impl_power_L2 n) := by
 obtain ⟨_, _, _⟩ := x
 kernel_rfl
theorem F_60 (a : dens [.v .int, .v .int]) : E_60.run a = funK C_60 Try.f50 [.v .int, .v .int] [.v .int] a (fun o r => some (N_60 o r)) := by
 kernel_rfl
theorem W_60 : loopsOf D_60 = [B_60L2] := by kernel_rfl
theorem R_60L2 : firstReg B_60L2 = 2 := by kernel_rfl
theorem Q_60 : Try.prog.funcs[50]? = some Try.f50 ∧ (Try.f50.name == "runtime.NumGoroutine") = false ∧ Try.f50.body = some D_60 := ⟨Try.func50, by kernel_rfl, by kernel_rfl⟩
theorem H_60 : Holds Try.prog 50 E_60 :=
 holds_of (cx := C_60) (tabOk_ok tabT rfl).1 (allT_ok trivial) mixT Q_60.1 Q_60.2.2 (loops_of W_60 ⟨loop_of (cx := C_60) (L := S_60L2 fuel) rfl (by rw [R_60L2]; rfl) ⟨impl_power_L2, fun _ => rfl, fun n x => K_60L2 n x, fuel, fun _ => rfl⟩, trivial⟩) (enc := N_60) (fun _ _ => ⟨rfl, rfl⟩) F_60
theorem K_61L10 (n : Nat) (x) : impl_firstBreak_L10 (n + 1) x = roundK C_61 B_61L10 (S_61L10 fuel) x (impl_firstBreak_L10 n) := by
 obtain ⟨_, _, _, _, _, _, _, _, _, _⟩ := x
 kernel_rfl
theorem K_61L19 (n : Nat) (x) : impl_firstBreak_L19 (n + 1) x = roundK C_61 B_61L19 (S_61L19 fuel) x (impl_firstBreak_L19 n) := by
 obtain ⟨_, _, _, _, _, _, _, _, _, _, _, _, _, _, _⟩ := x
 kernel_rfl
theorem K_61L15 (n : Nat) (x) : impl_firstBreak_L15 (n + 1) x = roundK C_61 B_61L15 (S_61L15 fuel) x (impl_firstBreak_L15 n) := by
 obtain ⟨_, _, _, _, _, _, _, _, _, _⟩ := x
 kernel_rfl
theorem K_61L6 (n : Nat) (x) : impl_firstBreak_L6 (n + 1) x = roundK C_61 B_61L6 (S_61L6 fuel) x (impl_firstBreak_L6 n) := by
 obtain ⟨_, _, _, _, _, _, _, _⟩ := x
 kernel_rfl
theorem F_61 (a : dens [.v .int, .v (.pair .int (.slice .int)), .v (.pair .int (.slice (.slice .int)))]) : E_61.run a = funK C_61 Try.f122 [.v .int, .v (.pair .int (.slice .int)), .v (.pair .int (.slice (.slice .int)))] [.mv .int 0, .mv .int 0, .v .bool] a (fun o r => some (N_61 o r)) := by
 kernel_rfl
theorem W_61 : loopsOf D_61 = [B_61L6, B_61L10, B_61L15, B_61L19] := by kernel_rfl
theorem R_61L10 : firstReg B_61L10 = 10 := by kernel_rfl
theorem R_61L19 : firstReg B_61L19 = 19 := by kernel_rfl
theorem R_61L15 : firstReg B_61L15 = 15 := by kernel_rfl
theorem R_61L6 : firstReg B_61L6 = 6 := by kernel_rfl
theorem Q_61 : Try.prog.funcs[122]? = some Try.f122 ∧ (Try.f122.name == "runtime.NumGoroutine") = false ∧ Try.f122.body = some D_61 := ⟨Try.func122, by kernel_rfl, by kernel_rfl⟩
theorem H_61 : Holds Try.prog 122 E_61 :=
 holds_of (cx := C_61) (tabOk_ok tabT rfl).1 (allT_ok ⟨⟨H_60, _, _, Q_60⟩, ⟨⟨H_59, _, _, Q_59⟩, ⟨⟨H_58, _, _, Q_58⟩, trivial⟩⟩⟩) mixT Q_61.1 Q_61.2.2 (loops_of W_61 ⟨loop_of (cx := C_61) (L := S_61L6 fuel) rfl (by rw [R_61L6]; rfl) ⟨impl_firstBreak_L6, fun _ => rfl, fun n x => K_61L6 n x, fuel, fun _ => rfl⟩, ⟨loop_of (cx := C_61) (L := S_61L10 fuel) rfl (by rw [R_61L10]; rfl) ⟨impl_firstBreak_L10, fun _ => rfl, fun n x => K_61L10 n x, fuel, fun _ => rfl⟩, ⟨loop_of (cx := C_61) (L := S_61L15 fuel) rfl (by rw [R_61L15]; rfl) ⟨impl_firstBreak_L15, fun _ => rfl, fun n x => K_61L15 n x, fuel, fun _ => rfl⟩, ⟨loop_of (cx := C_61) (L := S_61L19 fuel) rfl (by rw [R_61L19]; rfl) ⟨impl_firstBreak_L19, fun _ => rfl, fun n x => K_61L19 n x, fuel, fun _ => rfl⟩, trivial⟩⟩⟩⟩) (enc := N_61) (fun _ _ => ⟨rfl, rfl⟩) F_61
theorem K_62L2 (n : Nat) (x) : impl_keepsAll_L2 (n + 1) x = roundK C_62 B_62L2 (S_62L2 fuel) x (impl_keepsAll_L2 n) := by
 obtain ⟨_, _, _, _, _⟩ := x
 kernel_rfl
theorem F_62 (a : dens [.v .int, .v (.slice (.pair .int (.slice (.slice .int)))), .v (.pair .int (.slice .int))]) : E_62.run a = funK C_62 Try.f60 [.v .int, .v (.slice (.pair .int (.slice (.slice .int)))), .v (.pair .int (.slice .int))] [.v .bool] a (fun o r => some (N_62 o r)) := by
 kernel_rfl
theorem W_62 : loopsOf D_62 = [B_62L2] := by kernel_rfl
theorem R_62L2 : firstReg B_62L2 = 2 := by kernel_rfl
theorem Q_62 : Try.prog.funcs[60]? = some Try.f60 ∧ (Try.f60.name == "runtime.NumGoroutine") = false ∧ Try.f60.body = some D_62 := ⟨Try.func60, by kernel_rfl, by kernel_rfl⟩
theorem H_62 : Holds Try.prog 60 E_62 :=
 holds_of (cx := C_62) (tabOk_ok tabT rfl).1 (allT_ok ⟨⟨H_61, _, _, Q_61⟩, trivial⟩) mixT Q_62.1 Q_62.2.2 (loops_of W_62 ⟨loop_of (cx := C_62) (L := S_62L2 fuel) rfl (by rw [R_62L2]; rfl) ⟨impl_keepsAll_L2, fun _ => rfl, fun n x => K_62L2 n x, fuel, fun _ => rfl⟩, trivial⟩) (enc := N_62) (fun _ _ => ⟨rfl, rfl⟩) F_62
theorem K_63L6 (n : Nat) (x) : impl_booleanClasses_L6 (n + 1) x = roundK C_63 B_63L6 (S_63L6 fuel) x (impl_booleanClasses_L6 n) := by
 obtain ⟨_, _, _, _, _, _⟩ := x
 kernel_rfl
theorem K_63L10 (n : Nat) (x) : impl_booleanClasses_L10 (n + 1) x = roundK C_63 B_63L10 (S_63L10 fuel) x (impl_booleanClasses_L10 n) := by
 obtain ⟨_, _, _, _, _, _, _, _⟩ := x
 kernel_rfl
theorem K_63L3 (n : Nat) (x) : impl_booleanClasses_L3 (n + 1) x = roundK C_63 B_63L3 (S_63L3 fuel) x (impl_booleanClasses_L3 n) := by
 obtain ⟨_, _, _, _⟩ := x
 kernel_rfl
theorem F_63 (a : dens [.v (.slice (.pair (.slice .int) (.pair .int (.slice (.slice .int)))))]) : E_63.run a = funK C_63 Try.f157 [.v (.slice (.pair (.slice .int) (.pair .int (.slice (.slice .int)))))] [.mv .bool 0] a (fun o r => some (N_63 o r)) := by
 kernel_rfl
theorem W_63 : loopsOf D_63 = [B_63L3, B_63L6, B_63L10] := by kernel_rfl
theorem R_63L6 : firstReg B_63L6 = 6 := by kernel_rfl
theorem R_63L10 : firstReg B_63L10 = 10 := by kernel_rfl
theorem R_63L3 : firstReg B_63L3 = 3 := by kernel_rfl
theorem Q_63 : Try.prog.funcs[157]? = some Try.f157 ∧ (Try.f157.name == "runtime.NumGoroutine") = false ∧ Try.f157.body = some D_63 := ⟨Try.func157, by kernel_rfl, by kernel_rfl⟩
theorem H_63 : Holds Try.prog 157 E_63 :=
 holds_of (cx := C_63) (tabOk_ok tabT rfl).1 (allT_ok ⟨⟨H_62, _, _, Q_62⟩, ⟨⟨H_52, _, _, Q_52⟩, ⟨⟨H_50, _, _, Q_50⟩, ⟨⟨H_57, _, _, Q_57⟩, trivial⟩⟩⟩⟩) mixT Q_63.1 Q_63.2.2 (loops_of W_63 ⟨loop_of (cx := C_63) (L := S_63L3 fuel) rfl (by rw [R_63L3]; rfl) ⟨impl_booleanClasses_L3, fun _ => rfl, fun n x => K_63L3 n x, fuel, fun _ => rfl⟩, ⟨loop_of (cx := C_63) (L := S_63L6 fuel) rfl (by rw [R_63L6]; rfl) ⟨impl_booleanClasses_L6, fun _ => rfl, fun n x => K_63L6 n x, fuel, fun _ => rfl⟩, ⟨loop_of (cx := C_63) (L := S_63L10 fuel) rfl (by rw [R_63L10]; rfl) ⟨impl_booleanClasses_L10, fun _ => rfl, fun n x => K_63L10 n x, fuel, fun _ => rfl⟩, trivial⟩⟩⟩) (enc := N_63) (fun _ _ => ⟨rfl, rfl⟩) F_63
theorem F_64 (a : dens [.v (.pair .int (.pair .int (.slice (.pair (.slice .int) (.pair .int (.slice (.slice .int))))))), .v .int]) : E_64.run a = funK C_64 Try.f106 [.v (.pair .int (.pair .int (.slice (.pair (.slice .int) (.pair .int (.slice (.slice .int))))))), .v .int] [.v .bool] a (fun o r => some (N_64 o r)) := by
 kernel_rfl
theorem W_64 : loopsOf D_64 = [] := by kernel_rfl
theorem Q_64 : Try.prog.funcs[106]? = some Try.f106 ∧ (Try.f106.name == "runtime.NumGoroutine") = false ∧ Try.f106.body = some D_64 := ⟨Try.func106, by kernel_rfl, by kernel_rfl⟩
theorem H_64 : Holds Try.prog 106 E_64 :=
 holds_of (cx := C_64) (tabOk_ok tabT rfl).1 (allT_ok ⟨⟨H_49, _, _, Q_49⟩, ⟨⟨H_63, _, _, Q_63⟩, trivial⟩⟩) mixT Q_64.1 Q_64.2.2 (loops_of W_64 trivial) (enc := N_64) (fun _ _ => ⟨rfl, rfl⟩) F_64
theorem K_65L3 (n : Nat) (x) : impl_freeTable_L3 (n + 1) x = roundK C_65 B_65L3 (S_65L3 fuel) x (impl_freeTable_L3 n) := by
 obtain ⟨_, _, _⟩ := x
 kernel_rfl
theorem F_65 (a : dens [.v .int]) : E_65.run a = funK C_65 Try.f49 [.v .int] [.mv .int 0] a (fun o r => some (N_65 o r)) := by
 kernel_rfl
theorem W_65 : loopsOf D_65 = [B_65L3] := by kernel_rfl
theorem R_65L3 : firstReg B_65L3 = 3 := by kernel_rfl
theorem Q_65 : Try.prog.funcs[49]? = some Try.f49 ∧ (Try.f49.name == "runtime.NumGoroutine") = false ∧ Try.f49.body = some D_65 := ⟨Try.func49, by kernel_rfl, by kernel_rfl⟩
theorem H_65 : Holds Try.prog 49 E_65 :=
 holds_of (cx := C_65) (tabOk_ok tabT rfl).1 (allT_ok trivial) mixT Q_65.1 Q_65.2.2 (loops_of W_65 ⟨loop_of (cx := C_65) (L := S_65L3 fuel) rfl (by rw [R_65L3]; rfl) ⟨impl_freeTable_L3, fun _ => rfl, fun n x => K_65L3 n x, fuel, fun _ => rfl⟩, trivial⟩) (enc := N_65) (fun _ _ => ⟨rfl, rfl⟩) F_65
theorem K_66L7 (n : Nat) (x) : impl_newNetSearch_L7 (n + 1) x = roundK C_66 B_66L7 (S_66L7 fuel) x (impl_newNetSearch_L7 n) := by
 obtain ⟨_, _, _, _, _, _, _, _, _⟩ := x
 kernel_rfl
theorem K_66L3 (n : Nat) (x) : impl_newNetSearch_L3 (n + 1) x = roundK C_66 B_66L3 (S_66L3 fuel) x (impl_newNetSearch_L3 n) := by
 obtain ⟨_, _, _, _⟩ := x
 kernel_rfl
theorem F_66 (a : dens [.v (.pair .int (.pair .int (.slice (.pair (.slice .int) (.pair .int (.slice (.slice .int)))))))]) : E_66.run a = funK C_66 Try.f145 [.v (.pair .int (.pair .int (.slice (.pair (.slice .int) (.pair .int (.slice (.slice .int)))))))] [.v (.ptr (.pair .int (.pair (.slice (.slice (.slice .int))) (.slice (.slice .smap)))))] a (fun o r => some (N_66 o r)) := by
 kernel_rfl
theorem W_66 : loopsOf D_66 = [B_66L3, B_66L7] := by kernel_rfl
theorem R_66L7 : firstReg B_66L7 = 7 := by kernel_rfl
theorem R_66L3 : firstReg B_66L3 = 3 := by kernel_rfl
theorem Q_66 : Try.prog.funcs[145]? = some Try.f145 ∧ (Try.f145.name == "runtime.NumGoroutine") = false ∧ Try.f145.body = some D_66 := ⟨Try.func145, by kernel_rfl, by kernel_rfl⟩
theorem H_66 : Holds Try.prog 145 E_66 :=
 holds_of (cx := C_66) (tabOk_ok tabT rfl).1 (allT_ok ⟨⟨H_59, _, _, Q_59⟩, trivial⟩) mixT Q_66.1 Q_66.2.2 (loops_of W_66 ⟨loop_of (cx := C_66) (L := S_66L3 fuel) rfl (by rw [R_66L3]; rfl) ⟨impl_newNetSearch_L3, fun _ => rfl, fun n x => K_66L3 n x, fuel, fun _ => rfl⟩, ⟨loop_of (cx := C_66) (L := S_66L7 fuel) rfl (by rw [R_66L7]; rfl) ⟨impl_newNetSearch_L7, fun _ => rfl, fun n x => K_66L7 n x, fuel, fun _ => rfl⟩, trivial⟩⟩) (enc := N_66) (fun _ _ => ⟨rfl, rfl⟩) F_66
theorem F_67 (a : dens [.v (.slice .int)]) : E_67.run a = funK C_67 Try.f83 [.v (.slice .int)] [.nv .int 0] a (fun o r => some (N_67 o r)) := by
 kernel_rfl
theorem W_67 : loopsOf D_67 = [] := by kernel_rfl
theorem Q_67 : Try.prog.funcs[83]? = some Try.f83 ∧ (Try.f83.name == "runtime.NumGoroutine") = false ∧ Try.f83.body = some D_67 := ⟨Try.func83, by kernel_rfl, by kernel_rfl⟩
theorem H_67 : Holds Try.prog 83 E_67 :=
 holds_of (cx := C_67) (tabOk_ok tabT rfl).1 (allT_ok trivial) mixT Q_67.1 Q_67.2.2 (loops_of W_67 trivial) (enc := N_67) (fun _ _ => ⟨rfl, rfl⟩) F_67
theorem F_68 (a : dens [.v (.slice .int), .bx (.nv .int 0)]) : E_68.run a = funK C_68 Try.f189 [.v (.slice .int), .bx (.nv .int 0)] [.v .bool] a (fun o r => some (N_68 o r)) := by
 kernel_rfl
theorem W_68 : loopsOf D_68 = [] := by kernel_rfl
theorem Q_68 : Try.prog.funcs[189]? = some Try.f189 ∧ (Try.f189.name == "runtime.NumGoroutine") = false ∧ Try.f189.body = some D_68 := ⟨Try.func189, by kernel_rfl, by kernel_rfl⟩
theorem H_68 : Holds Try.prog 189 E_68 :=
 holds_of (cx := C_68) (tabOk_ok tabT rfl).1 (allT_ok ⟨⟨H_67, _, _, Q_67⟩, trivial⟩) mixT Q_68.1 Q_68.2.2 (loops_of W_68 trivial) (enc := N_68) (fun _ _ => ⟨rfl, rfl⟩) F_68
theorem K_69L3 (n : Nat) (x) : impl_compose_L3 (n + 1) x = roundK C_69 B_69L3 (S_69L3 fuel) x (impl_compose_L3 n) := by
 obtain ⟨_, _, _, _, _⟩ := x
 kernel_rfl
theorem F_69 (a : dens [.v (.slice .int), .v (.slice .int)]) : E_69.run a = funK C_69 Try.f76 [.v (.slice .int), .v (.slice .int)] [.mv .int 0] a (fun o r => some (N_69 o r)) := by
 kernel_rfl
theorem W_69 : loopsOf D_69 = [B_69L3] := by kernel_rfl
theorem R_69L3 : firstReg B_69L3 = 3 := by kernel_rfl
theorem Q_69 : Try.prog.funcs[76]? = some Try.f76 ∧ (Try.f76.name == "runtime.NumGoroutine") = false ∧ Try.f76.body = some D_69 := ⟨Try.func76, by kernel_rfl, by kernel_rfl⟩
theorem H_69 : Holds Try.prog 76 E_69 :=
 holds_of (cx := C_69) (tabOk_ok tabT rfl).1 (allT_ok trivial) mixT Q_69.1 Q_69.2.2 (loops_of W_69 ⟨loop_of (cx := C_69) (L := S_69L3 fuel) rfl (by rw [R_69L3]; rfl) ⟨impl_compose_L3, fun _ => rfl, fun n x => K_69L3 n x, fuel, fun _ => rfl⟩, trivial⟩) (enc := N_69) (fun _ _ => ⟨rfl, rfl⟩) F_69
theorem K_70L10 (rec : (Int × (List Int) × (Bool × (List Int)) × (Bool × Int × (List (List (List Int))) × (List (List (List ByteArray)))) × (List Int) × Unit) → Option ((List Int) × (Bool × (List Int)) × (Bool × Int × (List (List (List Int))) × (List (List (List ByteArray)))) × (List Int) × Bool)) (n : Nat) (x) : impl_netSearch_each_c1_impl_firstSolution_c1_L10 rec (n + 1) x = roundK (C_70 rec) B_70L10 (S_70L10 rec fuel) x (impl_netSearch_each_c1_impl_firstSolution_c1_L10 rec n) := by
 obtain ⟨_, _, _, _, _, _, _, _, _, _, _⟩ := x
 kernel_rfl
theorem K_70L4 (rec : (Int × (List Int) × (Bool × (List Int)) × (Bool × Int × (List (List (List Int))) × (List (List (List ByteArray)))) × (List Int) × Unit) → Option ((List Int) × (Bool × (List Int)) × (Bool × Int × (List (List (List Int))) × (List (List (List ByteArray)))) × (List Int) × Bool)) (n : Nat) (x) : impl_netSearch_each_c1_impl_firstSolution_c1_L4 rec (n + 1) x = roundK (C_70 rec) B_70L4 (S_70L4 rec fuel) x (impl_netSearch_each_c1_impl_firstSolution_c1_L4 rec n) := by
 obtain ⟨_, _, _, _, _, _, _⟩ := x
 kernel_rfl
theorem F_70 (rec : (Int × (List Int) × (Bool × (List Int)) × (Bool × Int × (List (List (List Int))) × (List (List (List ByteArray)))) × (List Int) × Unit) → Option ((List Int) × (Bool × (List Int)) × (Bool × Int × (List (List (List Int))) × (List (List (List ByteArray)))) × (List Int) × Bool)) (a : dens [.v .int, .bx (.mv .int 0), .bx (.nv .int 0), .bx (.v (.ptr (.pair .int (.pair (.slice (.slice (.slice .int))) (.slice (.slice .smap)))))), .bx (.v (.slice .int)), .jk 1]) : impl_netSearch_each_c1_impl_firstSolution_c1_body rec a.1 a.2.1 a.2.2.1 a.2.2.2.1 a.2.2.2.2.1 a.2.2.2.2.2 = funK (C_70 rec) Try.f181 [.v .int, .bx (.mv .int 0), .bx (.nv .int 0), .bx (.v (.ptr (.pair .int (.pair (.slice (.slice (.slice .int))) (.slice (.slice .smap)))))), .bx (.v (.slice .int)), .jk 1] [.v .bool] a (fun o r => some (N_70 o r)) := by
 kernel_rfl
theorem W_70 : loopsOf D_70 = [B_70L4, B_70L10] := by kernel_rfl
theorem R_70L10 : firstReg B_70L10 = 10 := by kernel_rfl
theorem R_70L4 : firstReg B_70L4 = 4 := by kernel_rfl
theorem Q_70 : Try.prog.funcs[181]? = some Try.f181 ∧ (Try.f181.name == "runtime.NumGoroutine") = false ∧ Try.f181.body = some D_70 := ⟨Try.func181, by kernel_rfl, by kernel_rfl⟩
theorem H_70 : ∀ d, Holds Try.prog 181 (E_70 d)
 | 0 => fun _ b h => absurd (show (none : Option _) = some b from h) (by simp)
 | d + 1 => holds_of (en := E_70 (d + 1)) (cx := (C_70 (impl_netSearch_each_c1_impl_firstSolution_c1 d))) (tabOk_ok tabT rfl).1 (allT_ok ⟨⟨H_69, _, _, Q_69⟩, ⟨⟨H_58, _, _, Q_58⟩, ⟨⟨H_68, _, _, Q_68⟩, ⟨⟨H_70 d, _, _, Q_70⟩, trivial⟩⟩⟩⟩) mixT Q_70.1 Q_70.2.2 (loops_of W_70 ⟨loop_of (cx := (C_70 (impl_netSearch_each_c1_impl_firstSolution_c1 d))) (L := S_70L4 (impl_netSearch_each_c1_impl_firstSolution_c1 d) fuel) rfl (by rw [R_70L4]; rfl) ⟨impl_netSearch_each_c1_impl_firstSolution_c1_L4 (impl_netSearch_each_c1_impl_firstSolution_c1 d), fun _ => rfl, fun n x => K_70L4 (impl_netSearch_each_c1_impl_firstSolution_c1 d) n x, fuel, fun _ => rfl⟩, ⟨loop_of (cx := (C_70 (impl_netSearch_each_c1_impl_firstSolution_c1 d))) (L := S_70L10 (impl_netSearch_each_c1_impl_firstSolution_c1 d) fuel) rfl (by rw [R_70L10]; rfl) ⟨impl_netSearch_each_c1_impl_firstSolution_c1_L10 (impl_netSearch_each_c1_impl_firstSolution_c1 d), fun _ => rfl, fun n x => K_70L10 (impl_netSearch_each_c1_impl_firstSolution_c1 d) n x, fuel, fun _ => rfl⟩, trivial⟩⟩) (enc := N_70) (fun _ _ => ⟨rfl, rfl⟩) (F_70 (impl_netSearch_each_c1_impl_firstSolution_c1 d)) rfl
theorem F_71 (a : dens [.v (.ptr (.pair .int (.pair (.slice (.slice (.slice .int))) (.slice (.slice .smap))))), .v (.slice .int), .bx (.nv .int 0)]) : E_71.run a = funK C_71 Try.f146 [.v (.ptr (.pair .int (.pair (.slice (.slice (.slice .int))) (.slice (.slice .smap))))), .v (.slice .int), .bx (.nv .int 0)] [] a (fun o r => some (N_71 o r)) := by
 kernel_rfl
theorem W_71 : loopsOf D_71 = [] := by kernel_rfl
theorem Q_71 : Try.prog.funcs[146]? = some Try.f146 ∧ (Try.f146.name == "runtime.NumGoroutine") = false ∧ Try.f146.body = some D_71 := ⟨Try.func146, by kernel_rfl, by kernel_rfl⟩
theorem H_71 : Holds Try.prog 146 E_71 :=
 holds_of (cx := C_71) (tabOk_ok tabT rfl).1 (allT_ok ⟨⟨H_70 fuel, _, _, Q_70⟩, trivial⟩) mixT Q_71.1 Q_71.2.2 (loops_of W_71 trivial) (enc := N_71) (fun _ _ => ⟨rfl, rfl⟩) F_71
theorem F_72 (a : dens [.v (.pair .int (.pair .int (.slice (.pair (.slice .int) (.pair .int (.slice (.slice .int))))))), .v (.slice .int)]) : E_72.run a = funK C_72 Try.f158 [.v (.pair .int (.pair .int (.slice (.pair (.slice .int) (.pair .int (.slice (.slice .int))))))), .v (.slice .int)] [.nv .int 0] a (fun o r => some (N_72 o r)) := by
 kernel_rfl
theorem W_72 : loopsOf D_72 = [] := by kernel_rfl
theorem Q_72 : Try.prog.funcs[158]? = some Try.f158 ∧ (Try.f158.name == "runtime.NumGoroutine") = false ∧ Try.f158.body = some D_72 := ⟨Try.func158, by kernel_rfl, by kernel_rfl⟩
theorem H_72 : Holds Try.prog 158 E_72 :=
 holds_of (cx := C_72) (tabOk_ok tabT rfl).1 (allT_ok ⟨⟨H_66, _, _, Q_66⟩, ⟨⟨H_71, _, _, Q_71⟩, trivial⟩⟩) mixT Q_72.1 Q_72.2.2 (loops_of W_72 trivial) (enc := N_72) (fun _ _ => ⟨rfl, rfl⟩) F_72
theorem F_73 (a : dens [.v (.pair .int (.pair .int (.slice (.pair (.slice .int) (.pair .int (.slice (.slice .int)))))))]) : E_73.run a = funK C_73 Try.f107 [.v (.pair .int (.pair .int (.slice (.pair (.slice .int) (.pair .int (.slice (.slice .int)))))))] [.mv .int 0, .v .bool] a (fun o r => some (N_73 o r)) := by
 kernel_rfl
theorem W_73 : loopsOf D_73 = [] := by kernel_rfl
theorem Q_73 : Try.prog.funcs[107]? = some Try.f107 ∧ (Try.f107.name == "runtime.NumGoroutine") = false ∧ Try.f107.body = some D_73 := ⟨Try.func107, by kernel_rfl, by kernel_rfl⟩
theorem H_73 : Holds Try.prog 107 E_73 :=
 holds_of (cx := C_73) (tabOk_ok tabT rfl).1 (allT_ok ⟨⟨H_65, _, _, Q_65⟩, ⟨⟨H_72, _, _, Q_72⟩, trivial⟩⟩) mixT Q_73.1 Q_73.2.2 (loops_of W_73 trivial) (enc := N_73) (fun _ _ => ⟨rfl, rfl⟩) F_73
theorem F_74 (a : dens [.v (.pair .int (.pair .int (.slice (.pair (.slice .int) (.pair .int (.slice (.slice .int)))))))]) : E_74.run a = funK C_74 Try.f39 [.v (.pair .int (.pair .int (.slice (.pair (.slice .int) (.pair .int (.slice (.slice .int)))))))] [.mv .int 0, .v .bool, .v .bool] a (fun o r => some (N_74 o r)) := by
 kernel_rfl
theorem W_74 : loopsOf D_74 = [] := by kernel_rfl
theorem Q_74 : Try.prog.funcs[39]? = some Try.f39 ∧ (Try.f39.name == "runtime.NumGoroutine") = false ∧ Try.f39.body = some D_74 := ⟨Try.func39, by kernel_rfl, by kernel_rfl⟩
theorem H_74 : Holds Try.prog 39 E_74 :=
 holds_of (cx := C_74) (tabOk_ok tabT rfl).1 (allT_ok ⟨⟨H_64, _, _, Q_64⟩, ⟨⟨H_73, _, _, Q_73⟩, trivial⟩⟩) mixT Q_74.1 Q_74.2.2 (loops_of W_74 trivial) (enc := N_74) (fun _ _ => ⟨rfl, rfl⟩) F_74
theorem K_75L4 (n : Nat) (x) : laws_eqIntS_L4 (n + 1) x = roundK C_75 B_75L4 (S_75L4 fuel) x (laws_eqIntS_L4 n) := by
 obtain ⟨_, _, _⟩ := x
 kernel_rfl
theorem F_75 (a : dens [.v (.slice .int), .v (.slice .int)]) : E_75.run a = funK C_75 Try.f40 [.v (.slice .int), .v (.slice .int)] [.v .bool] a (fun o r => some (N_75 o r)) := by
 kernel_rfl
theorem W_75 : loopsOf D_75 = [B_75L4] := by kernel_rfl
theorem R_75L4 : firstReg B_75L4 = 4 := by kernel_rfl
theorem Q_75 : Try.prog.funcs[40]? = some Try.f40 ∧ (Try.f40.name == "runtime.NumGoroutine") = false ∧ Try.f40.body = some D_75 := ⟨Try.func40, by kernel_rfl, by kernel_rfl⟩
theorem H_75 : Holds Try.prog 40 E_75 :=
 holds_of (cx := C_75) (tabOk_ok tabT rfl).1 (allT_ok trivial) mixT Q_75.1 Q_75.2.2 (loops_of W_75 ⟨loop_of (cx := C_75) (L := S_75L4 fuel) rfl (by rw [R_75L4]; rfl) ⟨laws_eqIntS_L4, fun _ => rfl, fun n x => K_75L4 n x, fuel, fun _ => rfl⟩, trivial⟩) (enc := N_75) (fun _ _ => ⟨rfl, rfl⟩) F_75
theorem K_76L4 (n : Nat) (x) : laws_eqIntSS_L4 (n + 1) x = roundK C_76 B_76L4 (S_76L4 fuel) x (laws_eqIntSS_L4 n) := by
 obtain ⟨_, _, _⟩ := x
 kernel_rfl
theorem F_76 (a : dens [.v (.slice (.slice .int)), .v (.slice (.slice .int))]) : E_76.run a = funK C_76 Try.f195 [.v (.slice (.slice .int)), .v (.slice (.slice .int))] [.v .bool] a (fun o r => some (N_76 o r)) := by
 kernel_rfl
theorem W_76 : loopsOf D_76 = [B_76L4] := by kernel_rfl
theorem R_76L4 : firstReg B_76L4 = 4 := by kernel_rfl
theorem Q_76 : Try.prog.funcs[195]? = some Try.f195 ∧ (Try.f195.name == "runtime.NumGoroutine") = false ∧ Try.f195.body = some D_76 := ⟨Try.func195, by kernel_rfl, by kernel_rfl⟩
theorem H_76 : Holds Try.prog 195 E_76 :=
 holds_of (cx := C_76) (tabOk_ok tabT rfl).1 (allT_ok ⟨⟨H_75, _, _, Q_75⟩, trivial⟩) mixT Q_76.1 Q_76.2.2 (loops_of W_76 ⟨loop_of (cx := C_76) (L := S_76L4 fuel) rfl (by rw [R_76L4]; rfl) ⟨laws_eqIntSS_L4, fun _ => rfl, fun n x => K_76L4 n x, fuel, fun _ => rfl⟩, trivial⟩) (enc := N_76) (fun _ _ => ⟨rfl, rfl⟩) F_76
theorem F_77 (a : dens [.v (.pair .int (.slice (.slice .int))), .v (.pair .int (.slice (.slice .int)))]) : E_77.run a = funK C_77 Try.f183 [.v (.pair .int (.slice (.slice .int))), .v (.pair .int (.slice (.slice .int)))] [.v .bool] a (fun o r => some (N_77 o r)) := by
 kernel_rfl
theorem W_77 : loopsOf D_77 = [] := by kernel_rfl
theorem Q_77 : Try.prog.funcs[183]? = some Try.f183 ∧ (Try.f183.name == "runtime.NumGoroutine") = false ∧ Try.f183.body = some D_77 := ⟨Try.func183, by kernel_rfl, by kernel_rfl⟩
theorem H_77 : Holds Try.prog 183 E_77 :=
 holds_of (cx := C_77) (tabOk_ok tabT rfl).1 (allT_ok ⟨⟨H_76, _, _, Q_76⟩, trivial⟩) mixT Q_77.1 Q_77.2.2 (loops_of W_77 trivial) (enc := N_77) (fun _ _ => ⟨rfl, rfl⟩) F_77
theorem F_78 (a : dens [.v (.pair (.slice .int) (.pair .int (.slice (.slice .int)))), .v (.pair (.slice .int) (.pair .int (.slice (.slice .int))))]) : E_78.run a = funK C_78 Try.f151 [.v (.pair (.slice .int) (.pair .int (.slice (.slice .int)))), .v (.pair (.slice .int) (.pair .int (.slice (.slice .int))))] [.v .bool] a (fun o r => some (N_78 o r)) := by
 kernel_rfl
theorem W_78 : loopsOf D_78 = [] := by kernel_rfl
theorem Q_78 : Try.prog.funcs[151]? = some Try.f151 ∧ (Try.f151.name == "runtime.NumGoroutine") = false ∧ Try.f151.body = some D_78 := ⟨Try.func151, by kernel_rfl, by kernel_rfl⟩
theorem H_78 : Holds Try.prog 151 E_78 :=
 holds_of (cx := C_78) (tabOk_ok tabT rfl).1 (allT_ok ⟨⟨H_75, _, _, Q_75⟩, ⟨⟨H_77, _, _, Q_77⟩, trivial⟩⟩) mixT Q_78.1 Q_78.2.2 (loops_of W_78 trivial) (enc := N_78) (fun _ _ => ⟨rfl, rfl⟩) F_78
theorem K_79L4 (n : Nat) (x) : laws_eqConstraintS_L4 (n + 1) x = roundK C_79 B_79L4 (S_79L4 fuel) x (laws_eqConstraintS_L4 n) := by
 obtain ⟨_, _, _⟩ := x
 kernel_rfl
theorem F_79 (a : dens [.v (.slice (.pair (.slice .int) (.pair .int (.slice (.slice .int))))), .v (.slice (.pair (.slice .int) (.pair .int (.slice (.slice .int)))))]) : E_79.run a = funK C_79 Try.f102 [.v (.slice (.pair (.slice .int) (.pair .int (.slice (.slice .int))))), .v (.slice (.pair (.slice .int) (.pair .int (.slice (.slice .int)))))] [.v .bool] a (fun o r => some (N_79 o r)) := by
 kernel_rfl
theorem W_79 : loopsOf D_79 = [B_79L4] := by kernel_rfl
theorem R_79L4 : firstReg B_79L4 = 4 := by kernel_rfl
theorem Q_79 : Try.prog.funcs[102]? = some Try.f102 ∧ (Try.f102.name == "runtime.NumGoroutine") = false ∧ Try.f102.body = some D_79 := ⟨Try.func102, by kernel_rfl, by kernel_rfl⟩
theorem H_79 : Holds Try.prog 102 E_79 :=
 holds_of (cx := C_79) (tabOk_ok tabT rfl).1 (allT_ok ⟨⟨H_78, _, _, Q_78⟩, trivial⟩) mixT Q_79.1 Q_79.2.2 (loops_of W_79 ⟨loop_of (cx := C_79) (L := S_79L4 fuel) rfl (by rw [R_79L4]; rfl) ⟨laws_eqConstraintS_L4, fun _ => rfl, fun n x => K_79L4 n x, fuel, fun _ => rfl⟩, trivial⟩) (enc := N_79) (fun _ _ => ⟨rfl, rfl⟩) F_79
theorem F_80 (a : dens [.v (.pair .int (.pair .int (.slice (.pair (.slice .int) (.pair .int (.slice (.slice .int))))))), .v (.pair .int (.pair .int (.slice (.pair (.slice .int) (.pair .int (.slice (.slice .int)))))))]) : E_80.run a = funK C_80 Try.f37 [.v (.pair .int (.pair .int (.slice (.pair (.slice .int) (.pair .int (.slice (.slice .int))))))), .v (.pair .int (.pair .int (.slice (.pair (.slice .int) (.pair .int (.slice (.slice .int)))))))] [.v .bool] a (fun o r => some (N_80 o r)) := by
 kernel_rfl
theorem W_80 : loopsOf D_80 = [] := by kernel_rfl
theorem Q_80 : Try.prog.funcs[37]? = some Try.f37 ∧ (Try.f37.name == "runtime.NumGoroutine") = false ∧ Try.f37.body = some D_80 := ⟨Try.func37, by kernel_rfl, by kernel_rfl⟩
theorem H_80 : Holds Try.prog 37 E_80 :=
 holds_of (cx := C_80) (tabOk_ok tabT rfl).1 (allT_ok ⟨⟨H_79, _, _, Q_79⟩, trivial⟩) mixT Q_80.1 Q_80.2.2 (loops_of W_80 trivial) (enc := N_80) (fun _ _ => ⟨rfl, rfl⟩) F_80
theorem K_81L2 (n : Nat) (x) : laws_markIntS_L2 (n + 1) x = roundK C_81 B_81L2 (S_81L2 fuel) x (laws_markIntS_L2 n) := by
 obtain ⟨_, _, _⟩ := x
 kernel_rfl
theorem F_81 (a : dens [.io .int 0, .v .int]) : E_81.run a = funK C_81 Try.f42 [.io .int 0, .v .int] [.v .int] a (fun o r => some (N_81 o r)) := by
 kernel_rfl
theorem W_81 : loopsOf D_81 = [B_81L2] := by kernel_rfl
theorem R_81L2 : firstReg B_81L2 = 2 := by kernel_rfl
theorem Q_81 : Try.prog.funcs[42]? = some Try.f42 ∧ (Try.f42.name == "runtime.NumGoroutine") = false ∧ Try.f42.body = some D_81 := ⟨Try.func42, by kernel_rfl, by kernel_rfl⟩
theorem H_81 : Holds Try.prog 42 E_81 :=
 holds_of (cx := C_81) (tabOk_ok tabT rfl).1 (allT_ok trivial) mixT Q_81.1 Q_81.2.2 (loops_of W_81 ⟨loop_of (cx := C_81) (L := S_81L2 fuel) rfl (by rw [R_81L2]; rfl) ⟨laws_markIntS_L2, fun _ => rfl, fun n x => K_81L2 n x, fuel, fun _ => rfl⟩, trivial⟩) (enc := N_81) (fun _ _ => ⟨rfl, rfl⟩) F_81
theorem K_82L2 (n : Nat) (x) : laws_markIntSS_L2 (n + 1) x = roundK C_82 B_82L2 (S_82L2 fuel) x (laws_markIntSS_L2 n) := by
 obtain ⟨_, _, _⟩ := x
 kernel_rfl
theorem F_82 (a : dens [.io (.slice .int) 1, .v .int]) : E_82.run a = funK C_82 Try.f159 [.io (.slice .int) 1, .v .int] [.v .int] a (fun o r => some (N_82 o r)) := by
 kernel_rfl
theorem W_82 : loopsOf D_82 = [B_82L2] := by kernel_rfl
theorem R_82L2 : firstReg B_82L2 = 2 := by kernel_rfl
theorem Q_82 : Try.prog.funcs[159]? = some Try.f159 ∧ (Try.f159.name == "runtime.NumGoroutine") = false ∧ Try.f159.body = some D_82 := ⟨Try.func159, by kernel_rfl, by kernel_rfl⟩
theorem H_82 : Holds Try.prog 159 E_82 :=
 holds_of (cx := C_82) (tabOk_ok tabT rfl).1 (allT_ok ⟨⟨H_81, _, _, Q_81⟩, trivial⟩) mixT Q_82.1 Q_82.2.2 (loops_of W_82 ⟨loop_of (cx := C_82) (L := S_82L2 fuel) rfl (by rw [R_82L2]; rfl) ⟨laws_markIntSS_L2, fun _ => rfl, fun n x => K_82L2 n x, fuel, fun _ => rfl⟩, trivial⟩) (enc := N_82) (fun _ _ => ⟨rfl, rfl⟩) F_82
theorem K_83L2 (n : Nat) (x) : laws_markConstraintS_L2 (n + 1) x = roundK C_83 B_83L2 (S_83L2 fuel) x (laws_markConstraintS_L2 n) := by
 obtain ⟨_, _, _⟩ := x
 kernel_rfl
theorem F_83 (a : dens [.io (.pair (.slice .int) (.pair .int (.slice (.slice .int)))) 2, .v .int]) : E_83.run a = funK C_83 Try.f108 [.io (.pair (.slice .int) (.pair .int (.slice (.slice .int)))) 2, .v .int] [.v .int] a (fun o r => some (N_83 o r)) := by
 kernel_rfl
theorem W_83 : loopsOf D_83 = [B_83L2] := by kernel_rfl
theorem R_83L2 : firstReg B_83L2 = 2 := by kernel_rfl
theorem Q_83 : Try.prog.funcs[108]? = some Try.f108 ∧ (Try.f108.name == "runtime.NumGoroutine") = false ∧ Try.f108.body = some D_83 := ⟨Try.func108, by kernel_rfl, by kernel_rfl⟩
theorem H_83 : Holds Try.prog 108 E_83 :=
 holds_of (cx := C_83) (tabOk_ok tabT rfl).1 (allT_ok ⟨⟨H_81, _, _, Q_81⟩, ⟨⟨H_82, _, _, Q_82⟩, trivial⟩⟩) mixT Q_83.1 Q_83.2.2 (loops_of W_83 ⟨loop_of (cx := C_83) (L := S_83L2 fuel) rfl (by rw [R_83L2]; rfl) ⟨laws_markConstraintS_L2, fun _ => rfl, fun n x => K_83L2 n x, fuel, fun _ => rfl⟩, trivial⟩) (enc := N_83) (fun _ _ => ⟨rfl, rfl⟩) F_83
theorem F_84 (a : dens [.pr (.v .int) (.pr (.v .int) (.io (.pair (.slice .int) (.pair .int (.slice (.slice .int)))) 2)), .v .int]) : E_84.run a = funK C_84 Try.f41 [.pr (.v .int) (.pr (.v .int) (.io (.pair (.slice .int) (.pair .int (.slice (.slice .int)))) 2)), .v .int] [.v .int] a (fun o r => some (N_84 o r)) := by
 kernel_rfl
theorem W_84 : loopsOf D_84 = [] := by kernel_rfl
theorem Q_84 : Try.prog.funcs[41]? = some Try.f41 ∧ (Try.f41.name == "runtime.NumGoroutine") = false ∧ Try.f41.body = some D_84 := ⟨Try.func41, by kernel_rfl, by kernel_rfl⟩
theorem H_84 : Holds Try.prog 41 E_84 :=
 holds_of (cx := C_84) (tabOk_ok tabT rfl).1 (allT_ok ⟨⟨H_83, _, _, Q_83⟩, trivial⟩) mixT Q_84.1 Q_84.2.2 (loops_of W_84 trivial) (enc := N_84) (fun _ _ => ⟨rfl, rfl⟩) F_84
theorem K_85L2 (n : Nat) (x) : laws_heldIntS_L2 (n + 1) x = roundK C_85 B_85L2 (S_85L2 fuel) x (laws_heldIntS_L2 n) := by
 obtain ⟨_, _, _⟩ := x
 kernel_rfl
theorem F_85 (a : dens [.v (.slice .int), .v .int]) : E_85.run a = funK C_85 Try.f43 [.v (.slice .int), .v .int] [.v .int] a (fun o r => some (N_85 o r)) := by
 kernel_rfl
theorem W_85 : loopsOf D_85 = [B_85L2] := by kernel_rfl
theorem R_85L2 : firstReg B_85L2 = 2 := by kernel_rfl
theorem Q_85 : Try.prog.funcs[43]? = some Try.f43 ∧ (Try.f43.name == "runtime.NumGoroutine") = false ∧ Try.f43.body = some D_85 := ⟨Try.func43, by kernel_rfl, by kernel_rfl⟩
theorem H_85 : Holds Try.prog 43 E_85 :=
 holds_of (cx := C_85) (tabOk_ok tabT rfl).1 (allT_ok trivial) mixT Q_85.1 Q_85.2.2 (loops_of W_85 ⟨loop_of (cx := C_85) (L := S_85L2 fuel) rfl (by rw [R_85L2]; rfl) ⟨laws_heldIntS_L2, fun _ => rfl, fun n x => K_85L2 n x, fuel, fun _ => rfl⟩, trivial⟩) (enc := N_85) (fun _ _ => ⟨rfl, rfl⟩) F_85
theorem F_86 (a : dens [.v (.pair .int (.pair .int (.slice (.pair (.slice .int) (.pair .int (.slice (.slice .int)))))))]) : E_86.run a = funK C_86 Try.f6 [.v (.pair .int (.pair .int (.slice (.pair (.slice .int) (.pair .int (.slice (.slice .int)))))))] [.v .bool] a (fun o r => some (N_86 o r)) := by
 kernel_rfl
theorem W_86 : loopsOf D_86 = [] := by kernel_rfl
theorem Q_86 : Try.prog.funcs[6]? = some Try.f6 ∧ (Try.f6.name == "runtime.NumGoroutine") = false ∧ Try.f6.body = some D_86 := ⟨Try.func6, by kernel_rfl, by kernel_rfl⟩
theorem H_86 : Holds Try.prog 6 E_86 :=
 holds_of (cx := C_86) (tabOk_ok tabT rfl).1 (allT_ok ⟨⟨H_6, _, _, Q_6⟩, ⟨⟨H_12, _, _, Q_12⟩, ⟨⟨H_80, _, _, Q_80⟩, ⟨⟨H_42, _, _, Q_42⟩, ⟨⟨H_74, _, _, Q_74⟩, ⟨⟨H_75, _, _, Q_75⟩, ⟨⟨H_84, _, _, Q_84⟩, ⟨⟨H_81, _, _, Q_81⟩, ⟨⟨H_85, _, _, Q_85⟩, trivial⟩⟩⟩⟩⟩⟩⟩⟩⟩) mixT Q_86.1 Q_86.2.2 (loops_of W_86 trivial) (enc := N_86) (fun _ _ => ⟨rfl, rfl⟩) F_86
end T
