/- Each typed function is what the program computes; no conditions. -/
import Derived.Test.YtcdjlpcapanibadCFnExactRemovedCounts
set_option linter.all false
set_option maxRecDepth 10000
open Go Go.Va Go.Proofs
namespace T
theorem F_1 (a : dens [.v (.slice .int), .v .int]) : E_1.run a = funK C_1 Try.f174 [.v (.slice .int), .v .int] [.v .int] a (fun o r => some (N_1 o r)) := by
 kernel_rfl
theorem W_1 : loopsOf D_1 = [] := by kernel_rfl
theorem Q_1 : Try.prog.funcs[174]? = some Try.f174 ∧ (Try.f174.name == "runtime.NumGoroutine") = false ∧ Try.f174.body = some D_1 := ⟨Try.func174, by kernel_rfl, by kernel_rfl⟩
theorem H_1 : Holds Try.prog 174 E_1 :=
 holds_of (cx := C_1) (tabOk_ok tabT rfl).1 (allT_ok trivial) mixT Q_1.1 Q_1.2.2 (loops_of W_1 trivial) (enc := N_1) (fun _ _ => ⟨rfl, rfl⟩) F_1
theorem K_2L5 (n : Nat) (x) : laws_szIntSS_L5 (n + 1) x = roundK C_2 B_2L5 (S_2L5 fuel) x (laws_szIntSS_L5 n) := by
 obtain ⟨_, _, _⟩ := x
 kernel_rfl
theorem F_2 (a : dens [.v (.slice (.slice .int)), .v .int]) : E_2.run a = funK C_2 Try.f192 [.v (.slice (.slice .int)), .v .int] [.v .int] a (fun o r => some (N_2 o r)) := by
 kernel_rfl
theorem W_2 : loopsOf D_2 = [B_2L5] := by kernel_rfl
theorem R_2L5 : firstReg B_2L5 = 5 := by kernel_rfl
theorem Q_2 : Try.prog.funcs[192]? = some Try.f192 ∧ (Try.f192.name == "runtime.NumGoroutine") = false ∧ Try.f192.body = some D_2 := ⟨Try.func192, by kernel_rfl, by kernel_rfl⟩
theorem H_2 : Holds Try.prog 192 E_2 :=
 holds_of (cx := C_2) (tabOk_ok tabT rfl).1 (allT_ok ⟨⟨H_1, _, _, Q_1⟩, trivial⟩) mixT Q_2.1 Q_2.2.2 (loops_of W_2 ⟨loop_of (cx := C_2) (L := S_2L5 fuel) rfl (by rw [R_2L5]; rfl) ⟨laws_szIntSS_L5, fun _ => rfl, fun n x => K_2L5 n x, fuel, fun _ => rfl⟩, trivial⟩) (enc := N_2) (fun _ _ => ⟨rfl, rfl⟩) F_2
theorem F_3 (a : dens [.v (.pair .int (.slice (.slice .int))), .v .int]) : E_3.run a = funK C_3 Try.f175 [.v (.pair .int (.slice (.slice .int))), .v .int] [.v .int] a (fun o r => some (N_3 o r)) := by
 kernel_rfl
theorem W_3 : loopsOf D_3 = [] := by kernel_rfl
theorem Q_3 : Try.prog.funcs[175]? = some Try.f175 ∧ (Try.f175.name == "runtime.NumGoroutine") = false ∧ Try.f175.body = some D_3 := ⟨Try.func175, by kernel_rfl, by kernel_rfl⟩
theorem H_3 : Holds Try.prog 175 E_3 :=
 holds_of (cx := C_3) (tabOk_ok tabT rfl).1 (allT_ok ⟨⟨H_2, _, _, Q_2⟩, trivial⟩) mixT Q_3.1 Q_3.2.2 (loops_of W_3 trivial) (enc := N_3) (fun _ _ => ⟨rfl, rfl⟩) F_3
theorem F_4 (a : dens [.v (.pair (.slice .int) (.pair .int (.slice (.slice .int)))), .v .int]) : E_4.run a = funK C_4 Try.f135 [.v (.pair (.slice .int) (.pair .int (.slice (.slice .int)))), .v .int] [.v .int] a (fun o r => some (N_4 o r)) := by
 kernel_rfl
theorem W_4 : loopsOf D_4 = [] := by kernel_rfl
theorem Q_4 : Try.prog.funcs[135]? = some Try.f135 ∧ (Try.f135.name == "runtime.NumGoroutine") = false ∧ Try.f135.body = some D_4 := ⟨Try.func135, by kernel_rfl, by kernel_rfl⟩
theorem H_4 : Holds Try.prog 135 E_4 :=
 holds_of (cx := C_4) (tabOk_ok tabT rfl).1 (allT_ok ⟨⟨H_1, _, _, Q_1⟩, ⟨⟨H_3, _, _, Q_3⟩, trivial⟩⟩) mixT Q_4.1 Q_4.2.2 (loops_of W_4 trivial) (enc := N_4) (fun _ _ => ⟨rfl, rfl⟩) F_4
theorem K_5L5 (n : Nat) (x) : laws_szConstraintS_L5 (n + 1) x = roundK C_5 B_5L5 (S_5L5 fuel) x (laws_szConstraintS_L5 n) := by
 obtain ⟨_, _, _⟩ := x
 kernel_rfl
theorem F_5 (a : dens [.v (.slice (.pair (.slice .int) (.pair .int (.slice (.slice .int))))), .v .int]) : E_5.run a = funK C_5 Try.f87 [.v (.slice (.pair (.slice .int) (.pair .int (.slice (.slice .int))))), .v .int] [.v .int] a (fun o r => some (N_5 o r)) := by
 kernel_rfl
theorem W_5 : loopsOf D_5 = [B_5L5] := by kernel_rfl
theorem R_5L5 : firstReg B_5L5 = 5 := by kernel_rfl
theorem Q_5 : Try.prog.funcs[87]? = some Try.f87 ∧ (Try.f87.name == "runtime.NumGoroutine") = false ∧ Try.f87.body = some D_5 := ⟨Try.func87, by kernel_rfl, by kernel_rfl⟩
theorem H_5 : Holds Try.prog 87 E_5 :=
 holds_of (cx := C_5) (tabOk_ok tabT rfl).1 (allT_ok ⟨⟨H_4, _, _, Q_4⟩, trivial⟩) mixT Q_5.1 Q_5.2.2 (loops_of W_5 ⟨loop_of (cx := C_5) (L := S_5L5 fuel) rfl (by rw [R_5L5]; rfl) ⟨laws_szConstraintS_L5, fun _ => rfl, fun n x => K_5L5 n x, fuel, fun _ => rfl⟩, trivial⟩) (enc := N_5) (fun _ _ => ⟨rfl, rfl⟩) F_5
theorem F_6 (a : dens [.v (.pair .int (.pair .int (.slice (.pair (.slice .int) (.pair .int (.slice (.slice .int))))))), .v .int]) : E_6.run a = funK C_6 Try.f33 [.v (.pair .int (.pair .int (.slice (.pair (.slice .int) (.pair .int (.slice (.slice .int))))))), .v .int] [.v .int] a (fun o r => some (N_6 o r)) := by
 kernel_rfl
theorem W_6 : loopsOf D_6 = [] := by kernel_rfl
theorem Q_6 : Try.prog.funcs[33]? = some Try.f33 ∧ (Try.f33.name == "runtime.NumGoroutine") = false ∧ Try.f33.body = some D_6 := ⟨Try.func33, by kernel_rfl, by kernel_rfl⟩
theorem H_6 : Holds Try.prog 33 E_6 :=
 holds_of (cx := C_6) (tabOk_ok tabT rfl).1 (allT_ok ⟨⟨H_5, _, _, Q_5⟩, trivial⟩) mixT Q_6.1 Q_6.2.2 (loops_of W_6 trivial) (enc := N_6) (fun _ _ => ⟨rfl, rfl⟩) F_6
theorem K_7L3 (n : Nat) (x) : laws_toIntS_L3 (n + 1) x = roundK C_7 B_7L3 (S_7L3 fuel) x (laws_toIntS_L3 n) := by
 obtain ⟨_, _, _⟩ := x
 kernel_rfl
theorem F_7 (a : dens [.v (.slice .int)]) : E_7.run a = funK C_7 Try.f179 [.v (.slice .int)] [.mv .int 0] a (fun o r => some (N_7 o r)) := by
 kernel_rfl
theorem W_7 : loopsOf D_7 = [B_7L3] := by kernel_rfl
theorem R_7L3 : firstReg B_7L3 = 3 := by kernel_rfl
theorem Q_7 : Try.prog.funcs[179]? = some Try.f179 ∧ (Try.f179.name == "runtime.NumGoroutine") = false ∧ Try.f179.body = some D_7 := ⟨Try.func179, by kernel_rfl, by kernel_rfl⟩
theorem H_7 : Holds Try.prog 179 E_7 :=
 holds_of (cx := C_7) (tabOk_ok tabT rfl).1 (allT_ok trivial) mixT Q_7.1 Q_7.2.2 (loops_of W_7 ⟨loop_of (cx := C_7) (L := S_7L3 fuel) rfl (by rw [R_7L3]; rfl) ⟨laws_toIntS_L3, fun _ => rfl, fun n x => K_7L3 n x, fuel, fun _ => rfl⟩, trivial⟩) (enc := N_7) (fun _ _ => ⟨rfl, rfl⟩) F_7
theorem K_8L3 (n : Nat) (x) : laws_toIntSS_L3 (n + 1) x = roundK C_8 B_8L3 (S_8L3 fuel) x (laws_toIntSS_L3 n) := by
 obtain ⟨_, _, _⟩ := x
 kernel_rfl
theorem F_8 (a : dens [.v (.slice (.slice .int))]) : E_8.run a = funK C_8 Try.f193 [.v (.slice (.slice .int))] [.mv (.slice .int) 1] a (fun o r => some (N_8 o r)) := by
 kernel_rfl
theorem W_8 : loopsOf D_8 = [B_8L3] := by kernel_rfl
theorem R_8L3 : firstReg B_8L3 = 3 := by kernel_rfl
theorem Q_8 : Try.prog.funcs[193]? = some Try.f193 ∧ (Try.f193.name == "runtime.NumGoroutine") = false ∧ Try.f193.body = some D_8 := ⟨Try.func193, by kernel_rfl, by kernel_rfl⟩
theorem H_8 : Holds Try.prog 193 E_8 :=
 holds_of (cx := C_8) (tabOk_ok tabT rfl).1 (allT_ok ⟨⟨H_7, _, _, Q_7⟩, trivial⟩) mixT Q_8.1 Q_8.2.2 (loops_of W_8 ⟨loop_of (cx := C_8) (L := S_8L3 fuel) rfl (by rw [R_8L3]; rfl) ⟨laws_toIntSS_L3, fun _ => rfl, fun n x => K_8L3 n x, fuel, fun _ => rfl⟩, trivial⟩) (enc := N_8) (fun _ _ => ⟨rfl, rfl⟩) F_8
theorem F_9 (a : dens [.v (.pair .int (.slice (.slice .int)))]) : E_9.run a = funK C_9 Try.f180 [.v (.pair .int (.slice (.slice .int)))] [.pr (.v .int) (.mv (.slice .int) 1)] a (fun o r => some (N_9 o r)) := by
 kernel_rfl
theorem W_9 : loopsOf D_9 = [] := by kernel_rfl
theorem Q_9 : Try.prog.funcs[180]? = some Try.f180 ∧ (Try.f180.name == "runtime.NumGoroutine") = false ∧ Try.f180.body = some D_9 := ⟨Try.func180, by kernel_rfl, by kernel_rfl⟩
theorem H_9 : Holds Try.prog 180 E_9 :=
 holds_of (cx := C_9) (tabOk_ok tabT rfl).1 (allT_ok ⟨⟨H_8, _, _, Q_8⟩, trivial⟩) mixT Q_9.1 Q_9.2.2 (loops_of W_9 trivial) (enc := N_9) (fun _ _ => ⟨rfl, rfl⟩) F_9
theorem F_10 (a : dens [.v (.pair (.slice .int) (.pair .int (.slice (.slice .int))))]) : E_10.run a = funK C_10 Try.f143 [.v (.pair (.slice .int) (.pair .int (.slice (.slice .int))))] [.pr (.mv .int 0) (.pr (.v .int) (.mv (.slice .int) 1))] a (fun o r => some (N_10 o r)) := by
 kernel_rfl
theorem W_10 : loopsOf D_10 = [] := by kernel_rfl
theorem Q_10 : Try.prog.funcs[143]? = some Try.f143 ∧ (Try.f143.name == "runtime.NumGoroutine") = false ∧ Try.f143.body = some D_10 := ⟨Try.func143, by kernel_rfl, by kernel_rfl⟩
theorem H_10 : Holds Try.prog 143 E_10 :=
 holds_of (cx := C_10) (tabOk_ok tabT rfl).1 (allT_ok ⟨⟨H_7, _, _, Q_7⟩, ⟨⟨H_9, _, _, Q_9⟩, trivial⟩⟩) mixT Q_10.1 Q_10.2.2 (loops_of W_10 trivial) (enc := N_10) (fun _ _ => ⟨rfl, rfl⟩) F_10
theorem K_11L3 (n : Nat) (x) : laws_toConstraintS_L3 (n + 1) x = roundK C_11 B_11L3 (S_11L3 fuel) x (laws_toConstraintS_L3 n) := by
 obtain ⟨_, _, _⟩ := x
 kernel_rfl
theorem F_11 (a : dens [.v (.slice (.pair (.slice .int) (.pair .int (.slice (.slice .int)))))]) : E_11.run a = funK C_11 Try.f94 [.v (.slice (.pair (.slice .int) (.pair .int (.slice (.slice .int)))))] [.mv (.pair (.slice .int) (.pair .int (.slice (.slice .int)))) 2] a (fun o r => some (N_11 o r)) := by
 kernel_rfl
theorem W_11 : loopsOf D_11 = [B_11L3] := by kernel_rfl
theorem R_11L3 : firstReg B_11L3 = 3 := by kernel_rfl
theorem Q_11 : Try.prog.funcs[94]? = some Try.f94 ∧ (Try.f94.name == "runtime.NumGoroutine") = false ∧ Try.f94.body = some D_11 := ⟨Try.func94, by kernel_rfl, by kernel_rfl⟩
theorem H_11 : Holds Try.prog 94 E_11 :=
 holds_of (cx := C_11) (tabOk_ok tabT rfl).1 (allT_ok ⟨⟨H_10, _, _, Q_10⟩, trivial⟩) mixT Q_11.1 Q_11.2.2 (loops_of W_11 ⟨loop_of (cx := C_11) (L := S_11L3 fuel) rfl (by rw [R_11L3]; rfl) ⟨laws_toConstraintS_L3, fun _ => rfl, fun n x => K_11L3 n x, fuel, fun _ => rfl⟩, trivial⟩) (enc := N_11) (fun _ _ => ⟨rfl, rfl⟩) F_11
theorem F_12 (a : dens [.v (.pair .int (.pair .int (.slice (.pair (.slice .int) (.pair .int (.slice (.slice .int)))))))]) : E_12.run a = funK C_12 Try.f35 [.v (.pair .int (.pair .int (.slice (.pair (.slice .int) (.pair .int (.slice (.slice .int)))))))] [.pr (.v .int) (.pr (.v .int) (.mv (.pair (.slice .int) (.pair .int (.slice (.slice .int)))) 2))] a (fun o r => some (N_12 o r)) := by
 kernel_rfl
theorem W_12 : loopsOf D_12 = [] := by kernel_rfl
theorem Q_12 : Try.prog.funcs[35]? = some Try.f35 ∧ (Try.f35.name == "runtime.NumGoroutine") = false ∧ Try.f35.body = some D_12 := ⟨Try.func35, by kernel_rfl, by kernel_rfl⟩
theorem H_12 : Holds Try.prog 35 E_12 :=
 holds_of (cx := C_12) (tabOk_ok tabT rfl).1 (allT_ok ⟨⟨H_11, _, _, Q_11⟩, trivial⟩) mixT Q_12.1 Q_12.2.2 (loops_of W_12 trivial) (enc := N_12) (fun _ _ => ⟨rfl, rfl⟩) F_12
theorem F_13 (a : dens [.v .int, .v .int, .v .int]) : E_13.run a = funK C_13 Try.f128 [.v .int, .v .int, .v .int] [.v .bool] a (fun o r => some (N_13 o r)) := by
 kernel_rfl
theorem W_13 : loopsOf D_13 = [] := by kernel_rfl
theorem Q_13 : Try.prog.funcs[128]? = some Try.f128 ∧ (Try.f128.name == "runtime.NumGoroutine") = false ∧ Try.f128.body = some D_13 := ⟨Try.func128, by kernel_rfl, by kernel_rfl⟩
theorem H_13 : Holds Try.prog 128 E_13 :=
 holds_of (cx := C_13) (tabOk_ok tabT rfl).1 (allT_ok trivial) mixT Q_13.1 Q_13.2.2 (loops_of W_13 trivial) (enc := N_13) (fun _ _ => ⟨rfl, rfl⟩) F_13
theorem K_14L2 (n : Nat) (x) : spec_l2Pow_L2 (n + 1) x = roundK C_14 B_14L2 (S_14L2 fuel) x (spec_l2Pow_L2 n) := by
 obtain ⟨_, _, _⟩ := x
 kernel_rfl
theorem F_14 (a : dens [.v .int, .v .int]) : E_14.run a = funK C_14 Try.f54 [.v .int, .v .int] [.v .int] a (fun o r => some (N_14 o r)) := by
 kernel_rfl
theorem W_14 : loopsOf D_14 = [B_14L2] := by kernel_rfl
theorem R_14L2 : firstReg B_14L2 = 2 := by kernel_rfl
theorem Q_14 : Try.prog.funcs[54]? = some Try.f54 ∧ (Try.f54.name == "runtime.NumGoroutine") = false ∧ Try.f54.body = some D_14 := ⟨Try.func54, by kernel_rfl, by kernel_rfl⟩
theorem H_14 : Holds Try.prog 54 E_14 :=
 holds_of (cx := C_14) (tabOk_ok tabT rfl).1 (allT_ok trivial) mixT Q_14.1 Q_14.2.2 (loops_of W_14 ⟨loop_of (cx := C_14) (L := S_14L2 fuel) rfl (by rw [R_14L2]; rfl) ⟨spec_l2Pow_L2, fun _ => rfl, fun n x => K_14L2 n x, fuel, fun _ => rfl⟩, trivial⟩) (enc := N_14) (fun _ _ => ⟨rfl, rfl⟩) F_14
theorem K_15L2 (n : Nat) (x) : spec_l2Elements_L2 (n + 1) x = roundK C_15 B_15L2 (S_15L2 fuel) x (spec_l2Elements_L2 n) := by
 obtain ⟨_, _, _⟩ := x
 kernel_rfl
theorem F_15 (a : dens [.v .int, .v (.slice .int)]) : E_15.run a = funK C_15 Try.f176 [.v .int, .v (.slice .int)] [.v .bool] a (fun o r => some (N_15 o r)) := by
 kernel_rfl
theorem W_15 : loopsOf D_15 = [B_15L2] := by kernel_rfl
theorem R_15L2 : firstReg B_15L2 = 2 := by kernel_rfl
theorem Q_15 : Try.prog.funcs[176]? = some Try.f176 ∧ (Try.f176.name == "runtime.NumGoroutine") = false ∧ Try.f176.body = some D_15 := ⟨Try.func176, by kernel_rfl, by kernel_rfl⟩
theorem H_15 : Holds Try.prog 176 E_15 :=
 holds_of (cx := C_15) (tabOk_ok tabT rfl).1 (allT_ok ⟨⟨H_13, _, _, Q_13⟩, trivial⟩) mixT Q_15.1 Q_15.2.2 (loops_of W_15 ⟨loop_of (cx := C_15) (L := S_15L2 fuel) rfl (by rw [R_15L2]; rfl) ⟨spec_l2Elements_L2, fun _ => rfl, fun n x => K_15L2 n x, fuel, fun _ => rfl⟩, trivial⟩) (enc := N_15) (fun _ _ => ⟨rfl, rfl⟩) F_15
theorem F_16 (a : dens [.v .int, .v .int, .v (.slice .int)]) : E_16.run a = funK C_16 Try.f168 [.v .int, .v .int, .v (.slice .int)] [.v .bool] a (fun o r => some (N_16 o r)) := by
 kernel_rfl
theorem W_16 : loopsOf D_16 = [] := by kernel_rfl
theorem Q_16 : Try.prog.funcs[168]? = some Try.f168 ∧ (Try.f168.name == "runtime.NumGoroutine") = false ∧ Try.f168.body = some D_16 := ⟨Try.func168, by kernel_rfl, by kernel_rfl⟩
theorem H_16 : Holds Try.prog 168 E_16 :=
 holds_of (cx := C_16) (tabOk_ok tabT rfl).1 (allT_ok ⟨⟨H_15, _, _, Q_15⟩, trivial⟩) mixT Q_16.1 Q_16.2.2 (loops_of W_16 trivial) (enc := N_16) (fun _ _ => ⟨rfl, rfl⟩) F_16
theorem K_17L2 (n : Nat) (x) : spec_l3Less_L2 (n + 1) x = roundK C_17 B_17L2 (S_17L2 fuel) x (spec_l3Less_L2 n) := by
 obtain ⟨_, _, _⟩ := x
 kernel_rfl
theorem F_17 (a : dens [.v (.slice .int), .v (.slice .int)]) : E_17.run a = funK C_17 Try.f169 [.v (.slice .int), .v (.slice .int)] [.v .bool] a (fun o r => some (N_17 o r)) := by
 kernel_rfl
theorem W_17 : loopsOf D_17 = [B_17L2] := by kernel_rfl
theorem R_17L2 : firstReg B_17L2 = 2 := by kernel_rfl
theorem Q_17 : Try.prog.funcs[169]? = some Try.f169 ∧ (Try.f169.name == "runtime.NumGoroutine") = false ∧ Try.f169.body = some D_17 := ⟨Try.func169, by kernel_rfl, by kernel_rfl⟩
theorem H_17 : Holds Try.prog 169 E_17 :=
 holds_of (cx := C_17) (tabOk_ok tabT rfl).1 (allT_ok trivial) mixT Q_17.1 Q_17.2.2 (loops_of W_17 ⟨loop_of (cx := C_17) (L := S_17L2 fuel) rfl (by rw [R_17L2]; rfl) ⟨spec_l3Less_L2, fun _ => rfl, fun n x => K_17L2 n x, fuel, fun _ => rfl⟩, trivial⟩) (enc := N_17) (fun _ _ => ⟨rfl, rfl⟩) F_17
theorem K_18L4 (n : Nat) (x) : spec_l13Good_L4 (n + 1) x = roundK C_18 B_18L4 (S_18L4 fuel) x (spec_l13Good_L4 n) := by
 obtain ⟨_, _, _⟩ := x
 kernel_rfl
theorem F_18 (a : dens [.v .int, .v (.pair .int (.slice (.slice .int)))]) : E_18.run a = funK C_18 Try.f129 [.v .int, .v (.pair .int (.slice (.slice .int)))] [.v .bool] a (fun o r => some (N_18 o r)) := by
 kernel_rfl
theorem W_18 : loopsOf D_18 = [B_18L4] := by kernel_rfl
theorem R_18L4 : firstReg B_18L4 = 4 := by kernel_rfl
theorem Q_18 : Try.prog.funcs[129]? = some Try.f129 ∧ (Try.f129.name == "runtime.NumGoroutine") = false ∧ Try.f129.body = some D_18 := ⟨Try.func129, by kernel_rfl, by kernel_rfl⟩
theorem H_18 : Holds Try.prog 129 E_18 :=
 holds_of (cx := C_18) (tabOk_ok tabT rfl).1 (allT_ok ⟨⟨H_14, _, _, Q_14⟩, ⟨⟨H_13, _, _, Q_13⟩, ⟨⟨H_16, _, _, Q_16⟩, ⟨⟨H_17, _, _, Q_17⟩, trivial⟩⟩⟩⟩) mixT Q_18.1 Q_18.2.2 (loops_of W_18 ⟨loop_of (cx := C_18) (L := S_18L4 fuel) rfl (by rw [R_18L4]; rfl) ⟨spec_l13Good_L4, fun _ => rfl, fun n x => K_18L4 n x, fuel, fun _ => rfl⟩, trivial⟩) (enc := N_18) (fun _ _ => ⟨rfl, rfl⟩) F_18
theorem F_19 (a : dens [.v .int, .v .int, .v (.pair (.slice .int) (.pair .int (.slice (.slice .int))))]) : E_19.run a = funK C_19 Try.f136 [.v .int, .v .int, .v (.pair (.slice .int) (.pair .int (.slice (.slice .int))))] [.v .bool] a (fun o r => some (N_19 o r)) := by
 kernel_rfl
theorem W_19 : loopsOf D_19 = [] := by kernel_rfl
theorem Q_19 : Try.prog.funcs[136]? = some Try.f136 ∧ (Try.f136.name == "runtime.NumGoroutine") = false ∧ Try.f136.body = some D_19 := ⟨Try.func136, by kernel_rfl, by kernel_rfl⟩
theorem H_19 : Holds Try.prog 136 E_19 :=
 holds_of (cx := C_19) (tabOk_ok tabT rfl).1 (allT_ok ⟨⟨H_18, _, _, Q_18⟩, ⟨⟨H_15, _, _, Q_15⟩, trivial⟩⟩) mixT Q_19.1 Q_19.2.2 (loops_of W_19 trivial) (enc := N_19) (fun _ _ => ⟨rfl, rfl⟩) F_19
theorem K_20L4 (n : Nat) (x) : spec_l19Good_L4 (n + 1) x = roundK C_20 B_20L4 (S_20L4 fuel) x (spec_l19Good_L4 n) := by
 obtain ⟨_, _⟩ := x
 kernel_rfl
theorem F_20 (a : dens [.v (.pair .int (.pair .int (.slice (.pair (.slice .int) (.pair .int (.slice (.slice .int)))))))]) : E_20.run a = funK C_20 Try.f88 [.v (.pair .int (.pair .int (.slice (.pair (.slice .int) (.pair .int (.slice (.slice .int)))))))] [.v .bool] a (fun o r => some (N_20 o r)) := by
 kernel_rfl
theorem W_20 : loopsOf D_20 = [B_20L4] := by kernel_rfl
theorem R_20L4 : firstReg B_20L4 = 4 := by kernel_rfl
theorem Q_20 : Try.prog.funcs[88]? = some Try.f88 ∧ (Try.f88.name == "runtime.NumGoroutine") = false ∧ Try.f88.body = some D_20 := ⟨Try.func88, by kernel_rfl, by kernel_rfl⟩
theorem H_20 : Holds Try.prog 88 E_20 :=
 holds_of (cx := C_20) (tabOk_ok tabT rfl).1 (allT_ok ⟨⟨H_13, _, _, Q_13⟩, ⟨⟨H_19, _, _, Q_19⟩, trivial⟩⟩) mixT Q_20.1 Q_20.2.2 (loops_of W_20 ⟨loop_of (cx := C_20) (L := S_20L4 fuel) rfl (by rw [R_20L4]; rfl) ⟨spec_l19Good_L4, fun _ => rfl, fun n x => K_20L4 n x, fuel, fun _ => rfl⟩, trivial⟩) (enc := N_20) (fun _ _ => ⟨rfl, rfl⟩) F_20
theorem K_21L3 (n : Nat) (x) : spec_l6Identity_L3 (n + 1) x = roundK C_21 B_21L3 (S_21L3 fuel) x (spec_l6Identity_L3 n) := by
 obtain ⟨_, _, _⟩ := x
 kernel_rfl
theorem F_21 (a : dens [.v .int]) : E_21.run a = funK C_21 Try.f139 [.v .int] [.mv .int 0] a (fun o r => some (N_21 o r)) := by
 kernel_rfl
theorem W_21 : loopsOf D_21 = [B_21L3] := by kernel_rfl
theorem R_21L3 : firstReg B_21L3 = 3 := by kernel_rfl
theorem Q_21 : Try.prog.funcs[139]? = some Try.f139 ∧ (Try.f139.name == "runtime.NumGoroutine") = false ∧ Try.f139.body = some D_21 := ⟨Try.func139, by kernel_rfl, by kernel_rfl⟩
theorem H_21 : Holds Try.prog 139 E_21 :=
 holds_of (cx := C_21) (tabOk_ok tabT rfl).1 (allT_ok trivial) mixT Q_21.1 Q_21.2.2 (loops_of W_21 ⟨loop_of (cx := C_21) (L := S_21L3 fuel) rfl (by rw [R_21L3]; rfl) ⟨spec_l6Identity_L3, fun _ => rfl, fun n x => K_21L3 n x, fuel, fun _ => rfl⟩, trivial⟩) (enc := N_21) (fun _ _ => ⟨rfl, rfl⟩) F_21
theorem K_22L3 (n : Nat) (x) : spec_l20Full_L3 (n + 1) x = roundK C_22 B_22L3 (S_22L3 fuel) x (spec_l20Full_L3 n) := by
 obtain ⟨_, _, _⟩ := x
 kernel_rfl
theorem F_22 (a : dens [.v (.pair .int (.pair .int (.slice (.pair (.slice .int) (.pair .int (.slice (.slice .int)))))))]) : E_22.run a = funK C_22 Try.f90 [.v (.pair .int (.pair .int (.slice (.pair (.slice .int) (.pair .int (.slice (.slice .int)))))))] [.mv (.slice .int) 0] a (fun o r => some (N_22 o r)) := by
 kernel_rfl
theorem W_22 : loopsOf D_22 = [B_22L3] := by kernel_rfl
theorem R_22L3 : firstReg B_22L3 = 3 := by kernel_rfl
theorem Q_22 : Try.prog.funcs[90]? = some Try.f90 ∧ (Try.f90.name == "runtime.NumGoroutine") = false ∧ Try.f90.body = some D_22 := ⟨Try.func90, by kernel_rfl, by kernel_rfl⟩
theorem H_22 : Holds Try.prog 90 E_22 :=
 holds_of (cx := C_22) (tabOk_ok tabT rfl).1 (allT_ok ⟨⟨H_21, _, _, Q_21⟩, trivial⟩) mixT Q_22.1 Q_22.2.2 (loops_of W_22 ⟨loop_of (cx := C_22) (L := S_22L3 fuel) rfl (by rw [R_22L3]; rfl) ⟨spec_l20Full_L3, fun _ => rfl, fun n x => K_22L3 n x, fuel, fun _ => rfl⟩, trivial⟩) (enc := N_22) (fun _ _ => ⟨rfl, rfl⟩) F_22
theorem K_23L2 (n : Nat) (x) : spec_l1Has_L2 (n + 1) x = roundK C_23 B_23L2 (S_23L2 fuel) x (spec_l1Has_L2 n) := by
 obtain ⟨_, _, _⟩ := x
 kernel_rfl
theorem F_23 (a : dens [.v (.slice .int), .v .int]) : E_23.run a = funK C_23 Try.f154 [.v (.slice .int), .v .int] [.v .bool] a (fun o r => some (N_23 o r)) := by
 kernel_rfl
theorem W_23 : loopsOf D_23 = [B_23L2] := by kernel_rfl
theorem R_23L2 : firstReg B_23L2 = 2 := by kernel_rfl
theorem Q_23 : Try.prog.funcs[154]? = some Try.f154 ∧ (Try.f154.name == "runtime.NumGoroutine") = false ∧ Try.f154.body = some D_23 := ⟨Try.func154, by kernel_rfl, by kernel_rfl⟩
theorem H_23 : Holds Try.prog 154 E_23 :=
 holds_of (cx := C_23) (tabOk_ok tabT rfl).1 (allT_ok trivial) mixT Q_23.1 Q_23.2.2 (loops_of W_23 ⟨loop_of (cx := C_23) (L := S_23L2 fuel) rfl (by rw [R_23L2]; rfl) ⟨spec_l1Has_L2, fun _ => rfl, fun n x => K_23L2 n x, fuel, fun _ => rfl⟩, trivial⟩) (enc := N_23) (fun _ _ => ⟨rfl, rfl⟩) F_23
theorem K_24L7 (n : Nat) (x) : spec_l20Fits_L7 (n + 1) x = roundK C_24 B_24L7 (S_24L7 fuel) x (spec_l20Fits_L7 n) := by
 obtain ⟨_, _, _, _, _⟩ := x
 kernel_rfl
theorem K_24L2 (n : Nat) (x) : spec_l20Fits_L2 (n + 1) x = roundK C_24 B_24L2 (S_24L2 fuel) x (spec_l20Fits_L2 n) := by
 obtain ⟨_, _, _, _⟩ := x
 kernel_rfl
theorem F_24 (a : dens [.v (.pair (.slice .int) (.pair .int (.slice (.slice .int)))), .v (.slice .int), .v (.slice (.slice .int))]) : E_24.run a = funK C_24 Try.f177 [.v (.pair (.slice .int) (.pair .int (.slice (.slice .int)))), .v (.slice .int), .v (.slice (.slice .int))] [.v .bool] a (fun o r => some (N_24 o r)) := by
 kernel_rfl
theorem W_24 : loopsOf D_24 = [B_24L2, B_24L7] := by kernel_rfl
theorem R_24L7 : firstReg B_24L7 = 7 := by kernel_rfl
theorem R_24L2 : firstReg B_24L2 = 2 := by kernel_rfl
theorem Q_24 : Try.prog.funcs[177]? = some Try.f177 ∧ (Try.f177.name == "runtime.NumGoroutine") = false ∧ Try.f177.body = some D_24 := ⟨Try.func177, by kernel_rfl, by kernel_rfl⟩
theorem H_24 : Holds Try.prog 177 E_24 :=
 holds_of (cx := C_24) (tabOk_ok tabT rfl).1 (allT_ok ⟨⟨H_23, _, _, Q_23⟩, trivial⟩) mixT Q_24.1 Q_24.2.2 (loops_of W_24 ⟨loop_of (cx := C_24) (L := S_24L2 fuel) rfl (by rw [R_24L2]; rfl) ⟨spec_l20Fits_L2, fun _ => rfl, fun n x => K_24L2 n x, fuel, fun _ => rfl⟩, ⟨loop_of (cx := C_24) (L := S_24L7 fuel) rfl (by rw [R_24L7]; rfl) ⟨spec_l20Fits_L7, fun _ => rfl, fun n x => K_24L7 n x, fuel, fun _ => rfl⟩, trivial⟩⟩) (enc := N_24) (fun _ _ => ⟨rfl, rfl⟩) F_24
theorem K_25L2 (n : Nat) (x) : spec_l20Support_L2 (n + 1) x = roundK C_25 B_25L2 (S_25L2 fuel) x (spec_l20Support_L2 n) := by
 obtain ⟨_, _, _, _, _⟩ := x
 kernel_rfl
theorem F_25 (a : dens [.v (.pair (.slice .int) (.pair .int (.slice (.slice .int)))), .v .int, .v .int, .v (.slice (.slice .int))]) : E_25.run a = funK C_25 Try.f137 [.v (.pair (.slice .int) (.pair .int (.slice (.slice .int)))), .v .int, .v .int, .v (.slice (.slice .int))] [.v .bool] a (fun o r => some (N_25 o r)) := by
 kernel_rfl
theorem W_25 : loopsOf D_25 = [B_25L2] := by kernel_rfl
theorem R_25L2 : firstReg B_25L2 = 2 := by kernel_rfl
theorem Q_25 : Try.prog.funcs[137]? = some Try.f137 ∧ (Try.f137.name == "runtime.NumGoroutine") = false ∧ Try.f137.body = some D_25 := ⟨Try.func137, by kernel_rfl, by kernel_rfl⟩
theorem H_25 : Holds Try.prog 137 E_25 :=
 holds_of (cx := C_25) (tabOk_ok tabT rfl).1 (allT_ok ⟨⟨H_24, _, _, Q_24⟩, trivial⟩) mixT Q_25.1 Q_25.2.2 (loops_of W_25 ⟨loop_of (cx := C_25) (L := S_25L2 fuel) rfl (by rw [R_25L2]; rfl) ⟨spec_l20Support_L2, fun _ => rfl, fun n x => K_25L2 n x, fuel, fun _ => rfl⟩, trivial⟩) (enc := N_25) (fun _ _ => ⟨rfl, rfl⟩) F_25
theorem K_26L3 (n : Nat) (x) : spec_l20Without_L3 (n + 1) x = roundK C_26 B_26L3 (S_26L3 fuel) x (spec_l20Without_L3 n) := by
 obtain ⟨_, _, _, _⟩ := x
 kernel_rfl
theorem F_26 (a : dens [.v (.slice .int), .v .int]) : E_26.run a = funK C_26 Try.f138 [.v (.slice .int), .v .int] [.mv .int 0] a (fun o r => some (N_26 o r)) := by
 kernel_rfl
theorem W_26 : loopsOf D_26 = [B_26L3] := by kernel_rfl
theorem R_26L3 : firstReg B_26L3 = 3 := by kernel_rfl
theorem Q_26 : Try.prog.funcs[138]? = some Try.f138 ∧ (Try.f138.name == "runtime.NumGoroutine") = false ∧ Try.f138.body = some D_26 := ⟨Try.func138, by kernel_rfl, by kernel_rfl⟩
theorem H_26 : Holds Try.prog 138 E_26 :=
 holds_of (cx := C_26) (tabOk_ok tabT rfl).1 (allT_ok trivial) mixT Q_26.1 Q_26.2.2 (loops_of W_26 ⟨loop_of (cx := C_26) (L := S_26L3 fuel) rfl (by rw [R_26L3]; rfl) ⟨spec_l20Without_L3, fun _ => rfl, fun n x => K_26L3 n x, fuel, fun _ => rfl⟩, trivial⟩) (enc := N_26) (fun _ _ => ⟨rfl, rfl⟩) F_26
theorem K_27L15 (n : Nat) (x) : spec_l20Arc_L15 (n + 1) x = roundK C_27 B_27L15 (S_27L15 fuel) x (spec_l20Arc_L15 n) := by
 obtain ⟨_, _, _, _, _, _, _, _, _⟩ := x
 kernel_rfl
theorem K_27L11 (n : Nat) (x) : spec_l20Arc_L11 (n + 1) x = roundK C_27 B_27L11 (S_27L11 fuel) x (spec_l20Arc_L11 n) := by
 obtain ⟨_, _, _, _, _, _, _⟩ := x
 kernel_rfl
theorem K_27L7 (n : Nat) (x) : spec_l20Arc_L7 (n + 1) x = roundK C_27 B_27L7 (S_27L7 fuel) x (spec_l20Arc_L7 n) := by
 obtain ⟨_, _, _, _, _⟩ := x
 kernel_rfl
theorem K_27L4 (n : Nat) (x) : spec_l20Arc_L4 (n + 1) x = roundK C_27 B_27L4 (S_27L4 fuel) x (spec_l20Arc_L4 n) := by
 obtain ⟨_, _, _, _⟩ := x
 kernel_rfl
theorem F_27 (a : dens [.v (.pair .int (.pair .int (.slice (.pair (.slice .int) (.pair .int (.slice (.slice .int))))))), .v (.slice (.slice .int))]) : E_27.run a = funK C_27 Try.f89 [.v (.pair .int (.pair .int (.slice (.pair (.slice .int) (.pair .int (.slice (.slice .int))))))), .v (.slice (.slice .int))] [.mv (.slice .int) 0, .mv (.pair .int (.pair .int .int)) 0] a (fun o r => some (N_27 o r)) := by
 kernel_rfl
theorem W_27 : loopsOf D_27 = [B_27L4, B_27L7, B_27L11, B_27L15] := by kernel_rfl
theorem R_27L15 : firstReg B_27L15 = 15 := by kernel_rfl
theorem R_27L11 : firstReg B_27L11 = 11 := by kernel_rfl
theorem R_27L7 : firstReg B_27L7 = 7 := by kernel_rfl
theorem R_27L4 : firstReg B_27L4 = 4 := by kernel_rfl
theorem Q_27 : Try.prog.funcs[89]? = some Try.f89 ∧ (Try.f89.name == "runtime.NumGoroutine") = false ∧ Try.f89.body = some D_27 := ⟨Try.func89, by kernel_rfl, by kernel_rfl⟩
theorem H_27 : Holds Try.prog 89 E_27 :=
 holds_of (cx := C_27) (tabOk_ok tabT rfl).1 (allT_ok ⟨⟨H_25, _, _, Q_25⟩, ⟨⟨H_26, _, _, Q_26⟩, trivial⟩⟩) mixT Q_27.1 Q_27.2.2 (loops_of W_27 ⟨loop_of (cx := C_27) (L := S_27L4 fuel) rfl (by rw [R_27L4]; rfl) ⟨spec_l20Arc_L4, fun _ => rfl, fun n x => K_27L4 n x, fuel, fun _ => rfl⟩, ⟨loop_of (cx := C_27) (L := S_27L7 fuel) rfl (by rw [R_27L7]; rfl) ⟨spec_l20Arc_L7, fun _ => rfl, fun n x => K_27L7 n x, fuel, fun _ => rfl⟩, ⟨loop_of (cx := C_27) (L := S_27L11 fuel) rfl (by rw [R_27L11]; rfl) ⟨spec_l20Arc_L11, fun _ => rfl, fun n x => K_27L11 n x, fuel, fun _ => rfl⟩, ⟨loop_of (cx := C_27) (L := S_27L15 fuel) rfl (by rw [R_27L15]; rfl) ⟨spec_l20Arc_L15, fun _ => rfl, fun n x => K_27L15 n x, fuel, fun _ => rfl⟩, trivial⟩⟩⟩⟩) (enc := N_27) (fun _ _ => ⟨rfl, rfl⟩) F_27
theorem K_28L3 (n : Nat) (x) : spec_l14Free_L3 (n + 1) x = roundK C_28 B_28L3 (S_28L3 fuel) x (spec_l14Free_L3 n) := by
 obtain ⟨_, _, _⟩ := x
 kernel_rfl
theorem F_28 (a : dens [.v .int]) : E_28.run a = funK C_28 Try.f53 [.v .int] [.mv .int 0] a (fun o r => some (N_28 o r)) := by
 kernel_rfl
theorem W_28 : loopsOf D_28 = [B_28L3] := by kernel_rfl
theorem R_28L3 : firstReg B_28L3 = 3 := by kernel_rfl
theorem Q_28 : Try.prog.funcs[53]? = some Try.f53 ∧ (Try.f53.name == "runtime.NumGoroutine") = false ∧ Try.f53.body = some D_28 := ⟨Try.func53, by kernel_rfl, by kernel_rfl⟩
theorem H_28 : Holds Try.prog 53 E_28 :=
 holds_of (cx := C_28) (tabOk_ok tabT rfl).1 (allT_ok trivial) mixT Q_28.1 Q_28.2.2 (loops_of W_28 ⟨loop_of (cx := C_28) (L := S_28L3 fuel) rfl (by rw [R_28L3]; rfl) ⟨spec_l14Free_L3, fun _ => rfl, fun n x => K_28L3 n x, fuel, fun _ => rfl⟩, trivial⟩) (enc := N_28) (fun _ _ => ⟨rfl, rfl⟩) F_28
theorem F_29 (a : dens [.v .int, .v .int]) : E_29.run a = funK C_29 Try.f126 [.v .int, .v .int] [.v .int] a (fun o r => some (N_29 o r)) := by
 kernel_rfl
theorem W_29 : loopsOf D_29 = [] := by kernel_rfl
theorem Q_29 : Try.prog.funcs[126]? = some Try.f126 ∧ (Try.f126.name == "runtime.NumGoroutine") = false ∧ Try.f126.body = some D_29 := ⟨Try.func126, by kernel_rfl, by kernel_rfl⟩
theorem H_29 : Holds Try.prog 126 E_29 :=
 holds_of (cx := C_29) (tabOk_ok tabT rfl).1 (allT_ok trivial) mixT Q_29.1 Q_29.2.2 (loops_of W_29 trivial) (enc := N_29) (fun _ _ => ⟨rfl, rfl⟩) F_29
theorem K_30L7 (n : Nat) (x) : spec_l19Most_L7 (n + 1) x = roundK C_30 B_30L7 (S_30L7 fuel) x (spec_l19Most_L7 n) := by
 obtain ⟨_, _, _, _, _⟩ := x
 kernel_rfl
theorem K_30L3 (n : Nat) (x) : spec_l19Most_L3 (n + 1) x = roundK C_30 B_30L3 (S_30L3 fuel) x (spec_l19Most_L3 n) := by
 obtain ⟨_, _, _⟩ := x
 kernel_rfl
theorem F_30 (a : dens [.v .int, .v (.slice (.pair (.slice .int) (.pair .int (.slice (.slice .int)))))]) : E_30.run a = funK C_30 Try.f141 [.v .int, .v (.slice (.pair (.slice .int) (.pair .int (.slice (.slice .int)))))] [.mv (.slice (.pair (.slice .int) (.pair .int (.slice (.slice .int))))) 1] a (fun o r => some (N_30 o r)) := by
 kernel_rfl
theorem W_30 : loopsOf D_30 = [B_30L3, B_30L7] := by kernel_rfl
theorem R_30L7 : firstReg B_30L7 = 7 := by kernel_rfl
theorem R_30L3 : firstReg B_30L3 = 3 := by kernel_rfl
theorem Q_30 : Try.prog.funcs[141]? = some Try.f141 ∧ (Try.f141.name == "runtime.NumGoroutine") = false ∧ Try.f141.body = some D_30 := ⟨Try.func141, by kernel_rfl, by kernel_rfl⟩
theorem H_30 : Holds Try.prog 141 E_30 :=
 holds_of (cx := C_30) (tabOk_ok tabT rfl).1 (allT_ok ⟨⟨H_29, _, _, Q_29⟩, trivial⟩) mixT Q_30.1 Q_30.2.2 (loops_of W_30 ⟨loop_of (cx := C_30) (L := S_30L3 fuel) rfl (by rw [R_30L3]; rfl) ⟨spec_l19Most_L3, fun _ => rfl, fun n x => K_30L3 n x, fuel, fun _ => rfl⟩, ⟨loop_of (cx := C_30) (L := S_30L7 fuel) rfl (by rw [R_30L7]; rfl) ⟨spec_l19Most_L7, fun _ => rfl, fun n x => K_30L7 n x, fuel, fun _ => rfl⟩, trivial⟩⟩) (enc := N_30) (fun _ _ => ⟨rfl, rfl⟩) F_30
theorem F_31 (a : dens [.v (.slice .int)]) : E_31.run a = funK C_31 Try.f66 [.v (.slice .int)] [.mv .int 0] a (fun o r => some (N_31 o r)) := by
 kernel_rfl
theorem W_31 : loopsOf D_31 = [] := by kernel_rfl
theorem Q_31 : Try.prog.funcs[66]? = some Try.f66 ∧ (Try.f66.name == "runtime.NumGoroutine") = false ∧ Try.f66.body = some D_31 := ⟨Try.func66, by kernel_rfl, by kernel_rfl⟩
theorem H_31 : Holds Try.prog 66 E_31 :=
 holds_of (cx := C_31) (tabOk_ok tabT rfl).1 (allT_ok trivial) mixT Q_31.1 Q_31.2.2 (loops_of W_31 trivial) (enc := N_31) (fun _ _ => ⟨rfl, rfl⟩) F_31
theorem K_32L4 (n : Nat) (x) : spec_l1Same_L4 (n + 1) x = roundK C_32 B_32L4 (S_32L4 fuel) x (spec_l1Same_L4 n) := by
 obtain ⟨_, _, _⟩ := x
 kernel_rfl
theorem F_32 (a : dens [.v (.slice .int), .v (.slice .int)]) : E_32.run a = funK C_32 Try.f173 [.v (.slice .int), .v (.slice .int)] [.v .bool] a (fun o r => some (N_32 o r)) := by
 kernel_rfl
theorem W_32 : loopsOf D_32 = [B_32L4] := by kernel_rfl
theorem R_32L4 : firstReg B_32L4 = 4 := by kernel_rfl
theorem Q_32 : Try.prog.funcs[173]? = some Try.f173 ∧ (Try.f173.name == "runtime.NumGoroutine") = false ∧ Try.f173.body = some D_32 := ⟨Try.func173, by kernel_rfl, by kernel_rfl⟩
theorem H_32 : Holds Try.prog 173 E_32 :=
 holds_of (cx := C_32) (tabOk_ok tabT rfl).1 (allT_ok trivial) mixT Q_32.1 Q_32.2.2 (loops_of W_32 ⟨loop_of (cx := C_32) (L := S_32L4 fuel) rfl (by rw [R_32L4]; rfl) ⟨spec_l1Same_L4, fun _ => rfl, fun n x => K_32L4 n x, fuel, fun _ => rfl⟩, trivial⟩) (enc := N_32) (fun _ _ => ⟨rfl, rfl⟩) F_32
theorem K_33L2 (n : Nat) (x) : spec_l8Find_L2 (n + 1) x = roundK C_33 B_33L2 (S_33L2 fuel) x (spec_l8Find_L2 n) := by
 obtain ⟨_, _, _, _⟩ := x
 kernel_rfl
theorem F_33 (a : dens [.v (.slice (.slice .int)), .v (.slice .int)]) : E_33.run a = funK C_33 Try.f134 [.v (.slice (.slice .int)), .v (.slice .int)] [.v .int, .v .bool] a (fun o r => some (N_33 o r)) := by
 kernel_rfl
theorem W_33 : loopsOf D_33 = [B_33L2] := by kernel_rfl
theorem R_33L2 : firstReg B_33L2 = 2 := by kernel_rfl
theorem Q_33 : Try.prog.funcs[134]? = some Try.f134 ∧ (Try.f134.name == "runtime.NumGoroutine") = false ∧ Try.f134.body = some D_33 := ⟨Try.func134, by kernel_rfl, by kernel_rfl⟩
theorem H_33 : Holds Try.prog 134 E_33 :=
 holds_of (cx := C_33) (tabOk_ok tabT rfl).1 (allT_ok ⟨⟨H_17, _, _, Q_17⟩, ⟨⟨H_32, _, _, Q_32⟩, trivial⟩⟩) mixT Q_33.1 Q_33.2.2 (loops_of W_33 ⟨loop_of (cx := C_33) (L := S_33L2 fuel) rfl (by rw [R_33L2]; rfl) ⟨spec_l8Find_L2, fun _ => rfl, fun n x => K_33L2 n x, fuel, fun _ => rfl⟩, trivial⟩) (enc := N_33) (fun _ _ => ⟨rfl, rfl⟩) F_33
theorem F_34 (a : dens [.v (.pair .int (.slice (.slice .int))), .v (.slice .int)]) : E_34.run a = funK C_34 Try.f84 [.v (.pair .int (.slice (.slice .int))), .v (.slice .int)] [.v .bool] a (fun o r => some (N_34 o r)) := by
 kernel_rfl
theorem W_34 : loopsOf D_34 = [] := by kernel_rfl
theorem Q_34 : Try.prog.funcs[84]? = some Try.f84 ∧ (Try.f84.name == "runtime.NumGoroutine") = false ∧ Try.f84.body = some D_34 := ⟨Try.func84, by kernel_rfl, by kernel_rfl⟩
theorem H_34 : Holds Try.prog 84 E_34 :=
 holds_of (cx := C_34) (tabOk_ok tabT rfl).1 (allT_ok ⟨⟨H_33, _, _, Q_33⟩, trivial⟩) mixT Q_34.1 Q_34.2.2 (loops_of W_34 trivial) (enc := N_34) (fun _ _ => ⟨rfl, rfl⟩) F_34
theorem K_35L3 (n : Nat) (x) : spec_l19Satisfies_L3 (n + 1) x = roundK C_35 B_35L3 (S_35L3 fuel) x (spec_l19Satisfies_L3 n) := by
 obtain ⟨_, _, _, _⟩ := x
 kernel_rfl
theorem F_35 (a : dens [.v (.pair (.slice .int) (.pair .int (.slice (.slice .int)))), .v (.slice .int)]) : E_35.run a = funK C_35 Try.f178 [.v (.pair (.slice .int) (.pair .int (.slice (.slice .int)))), .v (.slice .int)] [.v .bool] a (fun o r => some (N_35 o r)) := by
 kernel_rfl
theorem W_35 : loopsOf D_35 = [B_35L3] := by kernel_rfl
theorem R_35L3 : firstReg B_35L3 = 3 := by kernel_rfl
theorem Q_35 : Try.prog.funcs[178]? = some Try.f178 ∧ (Try.f178.name == "runtime.NumGoroutine") = false ∧ Try.f178.body = some D_35 := ⟨Try.func178, by kernel_rfl, by kernel_rfl⟩
theorem H_35 : Holds Try.prog 178 E_35 :=
 holds_of (cx := C_35) (tabOk_ok tabT rfl).1 (allT_ok ⟨⟨H_34, _, _, Q_34⟩, trivial⟩) mixT Q_35.1 Q_35.2.2 (loops_of W_35 ⟨loop_of (cx := C_35) (L := S_35L3 fuel) rfl (by rw [R_35L3]; rfl) ⟨spec_l19Satisfies_L3, fun _ => rfl, fun n x => K_35L3 n x, fuel, fun _ => rfl⟩, trivial⟩) (enc := N_35) (fun _ _ => ⟨rfl, rfl⟩) F_35
theorem K_36L14 (rec : (Int × (List (List ((List Int) × Int × (List (List Int))))) × (List Int) × (List Int) × ((List (List Int)) × (Int × Int × Bool))) → Option (((List (List Int)) × (Int × Int × Bool)))) (n : Nat) (x) : spec_l19Go_L14 rec (n + 1) x = roundK (C_36 rec) B_36L14 (S_36L14 rec fuel) x (spec_l19Go_L14 rec n) := by
 obtain ⟨_, _, _, _, _, _, _, _, _, _, _⟩ := x
 kernel_rfl
theorem K_36L8 (rec : (Int × (List (List ((List Int) × Int × (List (List Int))))) × (List Int) × (List Int) × ((List (List Int)) × (Int × Int × Bool))) → Option (((List (List Int)) × (Int × Int × Bool)))) (n : Nat) (x) : spec_l19Go_L8 rec (n + 1) x = roundK (C_36 rec) B_36L8 (S_36L8 rec fuel) x (spec_l19Go_L8 rec n) := by
 obtain ⟨_, _, _, _, _, _, _, _⟩ := x
 kernel_rfl
theorem F_36 (rec : (Int × (List (List ((List Int) × Int × (List (List Int))))) × (List Int) × (List Int) × ((List (List Int)) × (Int × Int × Bool))) → Option (((List (List Int)) × (Int × Int × Bool)))) (a : dens [.v .int, .v (.slice (.slice (.pair (.slice .int) (.pair .int (.slice (.slice .int)))))), .v (.slice .int), .v (.slice .int), .pr (.mv (.slice .int) 1) (.v (.pair .int (.pair .int .bool)))]) : spec_l19Go_body rec a.1 a.2.1 a.2.2.1 a.2.2.2.1 a.2.2.2.2 = funK (C_36 rec) Try.f140 [.v .int, .v (.slice (.slice (.pair (.slice .int) (.pair .int (.slice (.slice .int)))))), .v (.slice .int), .v (.slice .int), .pr (.mv (.slice .int) 1) (.v (.pair .int (.pair .int .bool)))] [.pr (.mv (.slice .int) 1) (.v (.pair .int (.pair .int .bool)))] a (fun o r => some (N_36 o r)) := by
 kernel_rfl
theorem W_36 : loopsOf D_36 = [B_36L8, B_36L14] := by kernel_rfl
theorem R_36L14 : firstReg B_36L14 = 14 := by kernel_rfl
theorem R_36L8 : firstReg B_36L8 = 8 := by kernel_rfl
theorem Q_36 : Try.prog.funcs[140]? = some Try.f140 ∧ (Try.f140.name == "runtime.NumGoroutine") = false ∧ Try.f140.body = some D_36 := ⟨Try.func140, by kernel_rfl, by kernel_rfl⟩
theorem H_36 : ∀ d, Holds Try.prog 140 (E_36 d)
 | 0 => fun _ b h => absurd (show (none : Option _) = some b from h) (by simp)
 | d + 1 => holds_of (en := E_36 (d + 1)) (cx := (C_36 (spec_l19Go d))) (tabOk_ok tabT rfl).1 (allT_ok ⟨⟨H_31, _, _, Q_31⟩, ⟨⟨H_36 d, _, _, Q_36⟩, ⟨⟨H_35, _, _, Q_35⟩, trivial⟩⟩⟩) mixT Q_36.1 Q_36.2.2 (loops_of W_36 ⟨loop_of (cx := (C_36 (spec_l19Go d))) (L := S_36L8 (spec_l19Go d) fuel) rfl (by rw [R_36L8]; rfl) ⟨spec_l19Go_L8 (spec_l19Go d), fun _ => rfl, fun n x => K_36L8 (spec_l19Go d) n x, fuel, fun _ => rfl⟩, ⟨loop_of (cx := (C_36 (spec_l19Go d))) (L := S_36L14 (spec_l19Go d) fuel) rfl (by rw [R_36L14]; rfl) ⟨spec_l19Go_L14 (spec_l19Go d), fun _ => rfl, fun n x => K_36L14 (spec_l19Go d) n x, fuel, fun _ => rfl⟩, trivial⟩⟩) (enc := N_36) (fun _ _ => ⟨rfl, rfl⟩) (F_36 (spec_l19Go d)) rfl
theorem F_37 (a : dens [.v (.pair .int (.pair .int (.slice (.pair (.slice .int) (.pair .int (.slice (.slice .int))))))), .v (.slice (.pair (.slice .int) (.pair .int (.slice (.slice .int))))), .v (.slice .int), .v .int, .v .bool]) : E_37.run a = funK C_37 Try.f91 [.v (.pair .int (.pair .int (.slice (.pair (.slice .int) (.pair .int (.slice (.slice .int))))))), .v (.slice (.pair (.slice .int) (.pair .int (.slice (.slice .int))))), .v (.slice .int), .v .int, .v .bool] [.pr (.mv (.slice .int) 1) (.v (.pair .int (.pair .int .bool)))] a (fun o r => some (N_37 o r)) := by
 kernel_rfl
theorem W_37 : loopsOf D_37 = [] := by kernel_rfl
theorem Q_37 : Try.prog.funcs[91]? = some Try.f91 ∧ (Try.f91.name == "runtime.NumGoroutine") = false ∧ Try.f91.body = some D_37 := ⟨Try.func91, by kernel_rfl, by kernel_rfl⟩
theorem H_37 : Holds Try.prog 91 E_37 :=
 holds_of (cx := C_37) (tabOk_ok tabT rfl).1 (allT_ok ⟨⟨H_36 fuel, _, _, Q_36⟩, ⟨⟨H_30, _, _, Q_30⟩, trivial⟩⟩) mixT Q_37.1 Q_37.2.2 (loops_of W_37 trivial) (enc := N_37) (fun _ _ => ⟨rfl, rfl⟩) F_37
theorem K_38L3 (n : Nat) (x) : spec_l20Kept_L3 (n + 1) x = roundK C_38 B_38L3 (S_38L3 fuel) x (spec_l20Kept_L3 n) := by
 obtain ⟨_, _, _⟩ := x
 kernel_rfl
theorem F_38 (a : dens [.v (.slice (.slice .int))]) : E_38.run a = funK C_38 Try.f92 [.v (.slice (.slice .int))] [.v .int] a (fun o r => some (N_38 o r)) := by
 kernel_rfl
theorem W_38 : loopsOf D_38 = [B_38L3] := by kernel_rfl
theorem R_38L3 : firstReg B_38L3 = 3 := by kernel_rfl
theorem Q_38 : Try.prog.funcs[92]? = some Try.f92 ∧ (Try.f92.name == "runtime.NumGoroutine") = false ∧ Try.f92.body = some D_38 := ⟨Try.func92, by kernel_rfl, by kernel_rfl⟩
theorem H_38 : Holds Try.prog 92 E_38 :=
 holds_of (cx := C_38) (tabOk_ok tabT rfl).1 (allT_ok trivial) mixT Q_38.1 Q_38.2.2 (loops_of W_38 ⟨loop_of (cx := C_38) (L := S_38L3 fuel) rfl (by rw [R_38L3]; rfl) ⟨spec_l20Kept_L3, fun _ => rfl, fun n x => K_38L3 n x, fuel, fun _ => rfl⟩, trivial⟩) (enc := N_38) (fun _ _ => ⟨rfl, rfl⟩) F_38
theorem K_39L2 (n : Nat) (x) : spec_l20Empty_L2 (n + 1) x = roundK C_39 B_39L2 (S_39L2 fuel) x (spec_l20Empty_L2 n) := by
 obtain ⟨_, _⟩ := x
 kernel_rfl
theorem F_39 (a : dens [.v (.slice (.slice .int))]) : E_39.run a = funK C_39 Try.f142 [.v (.slice (.slice .int))] [.v .bool] a (fun o r => some (N_39 o r)) := by
 kernel_rfl
theorem W_39 : loopsOf D_39 = [B_39L2] := by kernel_rfl
theorem R_39L2 : firstReg B_39L2 = 2 := by kernel_rfl
theorem Q_39 : Try.prog.funcs[142]? = some Try.f142 ∧ (Try.f142.name == "runtime.NumGoroutine") = false ∧ Try.f142.body = some D_39 := ⟨Try.func142, by kernel_rfl, by kernel_rfl⟩
theorem H_39 : Holds Try.prog 142 E_39 :=
 holds_of (cx := C_39) (tabOk_ok tabT rfl).1 (allT_ok trivial) mixT Q_39.1 Q_39.2.2 (loops_of W_39 ⟨loop_of (cx := C_39) (L := S_39L2 fuel) rfl (by rw [R_39L2]; rfl) ⟨spec_l20Empty_L2, fun _ => rfl, fun n x => K_39L2 n x, fuel, fun _ => rfl⟩, trivial⟩) (enc := N_39) (fun _ _ => ⟨rfl, rfl⟩) F_39
theorem K_40L10 (n : Nat) (x) : spec_l20Single_L10 (n + 1) x = roundK C_40 B_40L10 (S_40L10 fuel) x (spec_l20Single_L10 n) := by
 obtain ⟨_, _, _, _, _, _⟩ := x
 kernel_rfl
theorem K_40L6 (n : Nat) (x) : spec_l20Single_L6 (n + 1) x = roundK C_40 B_40L6 (S_40L6 fuel) x (spec_l20Single_L6 n) := by
 obtain ⟨_, _, _, _⟩ := x
 kernel_rfl
theorem K_40L3 (n : Nat) (x) : spec_l20Single_L3 (n + 1) x = roundK C_40 B_40L3 (S_40L3 fuel) x (spec_l20Single_L3 n) := by
 obtain ⟨_, _, _⟩ := x
 kernel_rfl
theorem F_40 (a : dens [.v (.pair .int (.pair .int (.slice (.pair (.slice .int) (.pair .int (.slice (.slice .int)))))))]) : E_40.run a = funK C_40 Try.f93 [.v (.pair .int (.pair .int (.slice (.pair (.slice .int) (.pair .int (.slice (.slice .int)))))))] [.mv (.slice .int) 0] a (fun o r => some (N_40 o r)) := by
 kernel_rfl
theorem W_40 : loopsOf D_40 = [B_40L3, B_40L6, B_40L10] := by kernel_rfl
theorem R_40L10 : firstReg B_40L10 = 10 := by kernel_rfl
theorem R_40L6 : firstReg B_40L6 = 6 := by kernel_rfl
theorem R_40L3 : firstReg B_40L3 = 3 := by kernel_rfl
theorem Q_40 : Try.prog.funcs[93]? = some Try.f93 ∧ (Try.f93.name == "runtime.NumGoroutine") = false ∧ Try.f93.body = some D_40 := ⟨Try.func93, by kernel_rfl, by kernel_rfl⟩
theorem H_40 : Holds Try.prog 93 E_40 :=
 holds_of (cx := C_40) (tabOk_ok tabT rfl).1 (allT_ok ⟨⟨H_27, _, _, Q_27⟩, ⟨⟨H_22, _, _, Q_22⟩, ⟨⟨H_26, _, _, Q_26⟩, ⟨⟨H_39, _, _, Q_39⟩, trivial⟩⟩⟩⟩) mixT Q_40.1 Q_40.2.2 (loops_of W_40 ⟨loop_of (cx := C_40) (L := S_40L3 fuel) rfl (by rw [R_40L3]; rfl) ⟨spec_l20Single_L3, fun _ => rfl, fun n x => K_40L3 n x, fuel, fun _ => rfl⟩, ⟨loop_of (cx := C_40) (L := S_40L6 fuel) rfl (by rw [R_40L6]; rfl) ⟨spec_l20Single_L6, fun _ => rfl, fun n x => K_40L6 n x, fuel, fun _ => rfl⟩, ⟨loop_of (cx := C_40) (L := S_40L10 fuel) rfl (by rw [R_40L10]; rfl) ⟨spec_l20Single_L10, fun _ => rfl, fun n x => K_40L10 n x, fuel, fun _ => rfl⟩, trivial⟩⟩⟩) (enc := N_40) (fun _ _ => ⟨rfl, rfl⟩) F_40
theorem K_41L10 (n : Nat) (x) : spec_RemovedCounts_L10 (n + 1) x = roundK C_41 B_41L10 (S_41L10 fuel) x (spec_RemovedCounts_L10 n) := by
 obtain ⟨_, _, _, _, _, _⟩ := x
 kernel_rfl
theorem K_41L7 (n : Nat) (x) : spec_RemovedCounts_L7 (n + 1) x = roundK C_41 B_41L7 (S_41L7 fuel) x (spec_RemovedCounts_L7 n) := by
 obtain ⟨_, _, _, _, _⟩ := x
 kernel_rfl
theorem F_41 (a : dens [.v (.pair .int (.pair .int (.slice (.pair (.slice .int) (.pair .int (.slice (.slice .int)))))))]) : E_41.run a = funK C_41 Try.f34 [.v (.pair .int (.pair .int (.slice (.pair (.slice .int) (.pair .int (.slice (.slice .int)))))))] [.v .int, .v .int, .v .int, .v .bool] a (fun o r => some (N_41 o r)) := by
 kernel_rfl
theorem W_41 : loopsOf D_41 = [B_41L7, B_41L10] := by kernel_rfl
theorem R_41L10 : firstReg B_41L10 = 10 := by kernel_rfl
theorem R_41L7 : firstReg B_41L7 = 7 := by kernel_rfl
theorem Q_41 : Try.prog.funcs[34]? = some Try.f34 ∧ (Try.f34.name == "runtime.NumGoroutine") = false ∧ Try.f34.body = some D_41 := ⟨Try.func34, by kernel_rfl, by kernel_rfl⟩
theorem H_41 : Holds Try.prog 34 E_41 :=
 holds_of (cx := C_41) (tabOk_ok tabT rfl).1 (allT_ok ⟨⟨H_28, _, _, Q_28⟩, ⟨⟨H_20, _, _, Q_20⟩, ⟨⟨H_27, _, _, Q_27⟩, ⟨⟨H_22, _, _, Q_22⟩, ⟨⟨H_37, _, _, Q_37⟩, ⟨⟨H_38, _, _, Q_38⟩, ⟨⟨H_40, _, _, Q_40⟩, trivial⟩⟩⟩⟩⟩⟩⟩) mixT Q_41.1 Q_41.2.2 (loops_of W_41 ⟨loop_of (cx := C_41) (L := S_41L7 fuel) rfl (by rw [R_41L7]; rfl) ⟨spec_RemovedCounts_L7, fun _ => rfl, fun n x => K_41L7 n x, fuel, fun _ => rfl⟩, ⟨loop_of (cx := C_41) (L := S_41L10 fuel) rfl (by rw [R_41L10]; rfl) ⟨spec_RemovedCounts_L10, fun _ => rfl, fun n x => K_41L10 n x, fuel, fun _ => rfl⟩, trivial⟩⟩) (enc := N_41) (fun _ _ => ⟨rfl, rfl⟩) F_41
theorem F_42 (a : dens [.v .int]) : E_42.run a = funK C_42 Try.f112 [.v .int] [.v .bool] a (fun o r => some (N_42 o r)) := by
 kernel_rfl
theorem W_42 : loopsOf D_42 = [] := by kernel_rfl
theorem Q_42 : Try.prog.funcs[112]? = some Try.f112 ∧ (Try.f112.name == "runtime.NumGoroutine") = false ∧ Try.f112.body = some D_42 := ⟨Try.func112, by kernel_rfl, by kernel_rfl⟩
theorem H_42 : Holds Try.prog 112 E_42 :=
 holds_of (cx := C_42) (tabOk_ok tabT rfl).1 (allT_ok trivial) mixT Q_42.1 Q_42.2.2 (loops_of W_42 trivial) (enc := N_42) (fun _ _ => ⟨rfl, rfl⟩) F_42
theorem K_43L2 (n : Nat) (x) : impl_inSize_L2 (n + 1) x = roundK C_43 B_43L2 (S_43L2 fuel) x (impl_inSize_L2 n) := by
 obtain ⟨_, _, _, _⟩ := x
 kernel_rfl
theorem F_43 (a : dens [.v (.slice .int), .v .int]) : E_43.run a = funK C_43 Try.f77 [.v (.slice .int), .v .int] [.v .bool] a (fun o r => some (N_43 o r)) := by
 kernel_rfl
theorem W_43 : loopsOf D_43 = [B_43L2] := by kernel_rfl
theorem R_43L2 : firstReg B_43L2 = 2 := by kernel_rfl
theorem Q_43 : Try.prog.funcs[77]? = some Try.f77 ∧ (Try.f77.name == "runtime.NumGoroutine") = false ∧ Try.f77.body = some D_43 := ⟨Try.func77, by kernel_rfl, by kernel_rfl⟩
theorem H_43 : Holds Try.prog 77 E_43 :=
 holds_of (cx := C_43) (tabOk_ok tabT rfl).1 (allT_ok trivial) mixT Q_43.1 Q_43.2.2 (loops_of W_43 ⟨loop_of (cx := C_43) (L := S_43L2 fuel) rfl (by rw [R_43L2]; rfl) ⟨impl_inSize_L2, fun _ => rfl, fun n x => K_43L2 n x, fuel, fun _ => rfl⟩, trivial⟩) (enc := N_43) (fun _ _ => ⟨rfl, rfl⟩) F_43
theorem K_44L2 (n : Nat) (x) : impl_compareLists_L2 (n + 1) x = roundK C_44 B_44L2 (S_44L2 fuel) x (impl_compareLists_L2 n) := by
 obtain ⟨_, _, _⟩ := x
 kernel_rfl
theorem F_44 (a : dens [.v (.slice .int), .v (.slice .int)]) : E_44.run a = funK C_44 Try.f190 [.v (.slice .int), .v (.slice .int)] [.v .int] a (fun o r => some (N_44 o r)) := by
 kernel_rfl
theorem W_44 : loopsOf D_44 = [B_44L2] := by kernel_rfl
theorem R_44L2 : firstReg B_44L2 = 2 := by kernel_rfl
theorem Q_44 : Try.prog.funcs[190]? = some Try.f190 ∧ (Try.f190.name == "runtime.NumGoroutine") = false ∧ Try.f190.body = some D_44 := ⟨Try.func190, by kernel_rfl, by kernel_rfl⟩
theorem H_44 : Holds Try.prog 190 E_44 :=
 holds_of (cx := C_44) (tabOk_ok tabT rfl).1 (allT_ok trivial) mixT Q_44.1 Q_44.2.2 (loops_of W_44 ⟨loop_of (cx := C_44) (L := S_44L2 fuel) rfl (by rw [R_44L2]; rfl) ⟨impl_compareLists_L2, fun _ => rfl, fun n x => K_44L2 n x, fuel, fun _ => rfl⟩, trivial⟩) (enc := N_44) (fun _ _ => ⟨rfl, rfl⟩) F_44
theorem K_45L4 (n : Nat) (x) : impl_isRelation_L4 (n + 1) x = roundK C_45 B_45L4 (S_45L4 fuel) x (impl_isRelation_L4 n) := by
 obtain ⟨_, _, _, _, _⟩ := x
 kernel_rfl
theorem F_45 (a : dens [.v .int, .v (.pair .int (.slice (.slice .int)))]) : E_45.run a = funK C_45 Try.f165 [.v .int, .v (.pair .int (.slice (.slice .int)))] [.v .bool] a (fun o r => some (N_45 o r)) := by
 kernel_rfl
theorem W_45 : loopsOf D_45 = [B_45L4] := by kernel_rfl
theorem R_45L4 : firstReg B_45L4 = 4 := by kernel_rfl
theorem Q_45 : Try.prog.funcs[165]? = some Try.f165 ∧ (Try.f165.name == "runtime.NumGoroutine") = false ∧ Try.f165.body = some D_45 := ⟨Try.func165, by kernel_rfl, by kernel_rfl⟩
theorem H_45 : Holds Try.prog 165 E_45 :=
 holds_of (cx := C_45) (tabOk_ok tabT rfl).1 (allT_ok ⟨⟨H_43, _, _, Q_43⟩, ⟨⟨H_44, _, _, Q_44⟩, trivial⟩⟩) mixT Q_45.1 Q_45.2.2 (loops_of W_45 ⟨loop_of (cx := C_45) (L := S_45L4 fuel) rfl (by rw [R_45L4]; rfl) ⟨impl_isRelation_L4, fun _ => rfl, fun n x => K_45L4 n x, fuel, fun _ => rfl⟩, trivial⟩) (enc := N_45) (fun _ _ => ⟨rfl, rfl⟩) F_45
theorem F_46 (a : dens [.v .int, .v .int, .v (.pair (.slice .int) (.pair .int (.slice (.slice .int))))]) : E_46.run a = funK C_46 Try.f144 [.v .int, .v .int, .v (.pair (.slice .int) (.pair .int (.slice (.slice .int))))] [.v .bool] a (fun o r => some (N_46 o r)) := by
 kernel_rfl
theorem W_46 : loopsOf D_46 = [] := by kernel_rfl
theorem Q_46 : Try.prog.funcs[144]? = some Try.f144 ∧ (Try.f144.name == "runtime.NumGoroutine") = false ∧ Try.f144.body = some D_46 := ⟨Try.func144, by kernel_rfl, by kernel_rfl⟩
theorem H_46 : Holds Try.prog 144 E_46 :=
 holds_of (cx := C_46) (tabOk_ok tabT rfl).1 (allT_ok ⟨⟨H_43, _, _, Q_43⟩, ⟨⟨H_45, _, _, Q_45⟩, trivial⟩⟩) mixT Q_46.1 Q_46.2.2 (loops_of W_46 trivial) (enc := N_46) (fun _ _ => ⟨rfl, rfl⟩) F_46
theorem K_47L4 (n : Nat) (x) : impl_IsNetwork_L4 (n + 1) x = roundK C_47 B_47L4 (S_47L4 fuel) x (impl_IsNetwork_L4 n) := by
 obtain ⟨_, _, _, _⟩ := x
 kernel_rfl
theorem F_47 (a : dens [.v (.pair .int (.pair .int (.slice (.pair (.slice .int) (.pair .int (.slice (.slice .int)))))))]) : E_47.run a = funK C_47 Try.f95 [.v (.pair .int (.pair .int (.slice (.pair (.slice .int) (.pair .int (.slice (.slice .int)))))))] [.v .bool] a (fun o r => some (N_47 o r)) := by
 kernel_rfl
theorem W_47 : loopsOf D_47 = [B_47L4] := by kernel_rfl
theorem R_47L4 : firstReg B_47L4 = 4 := by kernel_rfl
theorem Q_47 : Try.prog.funcs[95]? = some Try.f95 ∧ (Try.f95.name == "runtime.NumGoroutine") = false ∧ Try.f95.body = some D_47 := ⟨Try.func95, by kernel_rfl, by kernel_rfl⟩
theorem H_47 : Holds Try.prog 95 E_47 :=
 holds_of (cx := C_47) (tabOk_ok tabT rfl).1 (allT_ok ⟨⟨H_42, _, _, Q_42⟩, ⟨⟨H_46, _, _, Q_46⟩, trivial⟩⟩) mixT Q_47.1 Q_47.2.2 (loops_of W_47 ⟨loop_of (cx := C_47) (L := S_47L4 fuel) rfl (by rw [R_47L4]; rfl) ⟨impl_IsNetwork_L4, fun _ => rfl, fun n x => K_47L4 n x, fuel, fun _ => rfl⟩, trivial⟩) (enc := N_47) (fun _ _ => ⟨rfl, rfl⟩) F_47
theorem K_48L7 (n : Nat) (x) : impl_wholeDomains_L7 (n + 1) x = roundK C_48 B_48L7 (S_48L7 fuel) x (impl_wholeDomains_L7 n) := by
 obtain ⟨_, _, _, _, _, _, _⟩ := x
 kernel_rfl
theorem K_48L3 (n : Nat) (x) : impl_wholeDomains_L3 (n + 1) x = roundK C_48 B_48L3 (S_48L3 fuel) x (impl_wholeDomains_L3 n) := by
 obtain ⟨_, _, _, _⟩ := x
 kernel_rfl
theorem F_48 (a : dens [.v (.pair .int (.pair .int (.slice (.pair (.slice .int) (.pair .int (.slice (.slice .int)))))))]) : E_48.run a = funK C_48 Try.f96 [.v (.pair .int (.pair .int (.slice (.pair (.slice .int) (.pair .int (.slice (.slice .int)))))))] [.mv (.slice .bool) 1] a (fun o r => some (N_48 o r)) := by
 kernel_rfl
theorem W_48 : loopsOf D_48 = [B_48L3, B_48L7] := by kernel_rfl
theorem R_48L7 : firstReg B_48L7 = 7 := by kernel_rfl
theorem R_48L3 : firstReg B_48L3 = 3 := by kernel_rfl
theorem Q_48 : Try.prog.funcs[96]? = some Try.f96 ∧ (Try.f96.name == "runtime.NumGoroutine") = false ∧ Try.f96.body = some D_48 := ⟨Try.func96, by kernel_rfl, by kernel_rfl⟩
theorem H_48 : Holds Try.prog 96 E_48 :=
 holds_of (cx := C_48) (tabOk_ok tabT rfl).1 (allT_ok trivial) mixT Q_48.1 Q_48.2.2 (loops_of W_48 ⟨loop_of (cx := C_48) (L := S_48L3 fuel) rfl (by rw [R_48L3]; rfl) ⟨impl_wholeDomains_L3, fun _ => rfl, fun n x => K_48L3 n x, fuel, fun _ => rfl⟩, ⟨loop_of (cx := C_48) (L := S_48L7 fuel) rfl (by rw [R_48L7]; rfl) ⟨impl_wholeDomains_L7, fun _ => rfl, fun n x => K_48L7 n x, fuel, fun _ => rfl⟩, trivial⟩⟩) (enc := N_48) (fun _ _ => ⟨rfl, rfl⟩) F_48
theorem K_49L3 (n : Nat) (x) : impl_keyOf_L3 (n + 1) x = roundK C_49 B_49L3 (S_49L3 fuel) x (impl_keyOf_L3 n) := by
 obtain ⟨_, _, _, _⟩ := x
 kernel_rfl
theorem F_49 (a : dens [.v (.slice .int)]) : E_49.run a = funK C_49 Try.f119 [.v (.slice .int)] [.v .str] a (fun o r => some (N_49 o r)) := by
 kernel_rfl
theorem W_49 : loopsOf D_49 = [B_49L3] := by kernel_rfl
theorem R_49L3 : firstReg B_49L3 = 3 := by kernel_rfl
theorem Q_49 : Try.prog.funcs[119]? = some Try.f119 ∧ (Try.f119.name == "runtime.NumGoroutine") = false ∧ Try.f119.body = some D_49 := ⟨Try.func119, by kernel_rfl, by kernel_rfl⟩
theorem H_49 : Holds Try.prog 119 E_49 :=
 holds_of (cx := C_49) (tabOk_ok tabT rfl).1 (allT_ok trivial) mixT Q_49.1 Q_49.2.2 (loops_of W_49 ⟨loop_of (cx := C_49) (L := S_49L3 fuel) rfl (by rw [R_49L3]; rfl) ⟨impl_keyOf_L3, fun _ => rfl, fun n x => K_49L3 n x, fuel, fun _ => rfl⟩, trivial⟩) (enc := N_49) (fun _ _ => ⟨rfl, rfl⟩) F_49
theorem K_50L3 (n : Nat) (x) : impl_tupleSet_L3 (n + 1) x = roundK C_50 B_50L3 (S_50L3 fuel) x (impl_tupleSet_L3 n) := by
 obtain ⟨_, _, _, _⟩ := x
 kernel_rfl
theorem F_50 (a : dens [.v (.pair .int (.slice (.slice .int)))]) : E_50.run a = funK C_50 Try.f117 [.v (.pair .int (.slice (.slice .int)))] [.v .smap] a (fun o r => some (N_50 o r)) := by
 kernel_rfl
theorem W_50 : loopsOf D_50 = [B_50L3] := by kernel_rfl
theorem R_50L3 : firstReg B_50L3 = 3 := by kernel_rfl
theorem Q_50 : Try.prog.funcs[117]? = some Try.f117 ∧ (Try.f117.name == "runtime.NumGoroutine") = false ∧ Try.f117.body = some D_50 := ⟨Try.func117, by kernel_rfl, by kernel_rfl⟩
theorem H_50 : Holds Try.prog 117 E_50 :=
 holds_of (cx := C_50) (tabOk_ok tabT rfl).1 (allT_ok ⟨⟨H_49, _, _, Q_49⟩, trivial⟩) mixT Q_50.1 Q_50.2.2 (loops_of W_50 ⟨loop_of (cx := C_50) (L := S_50L3 fuel) rfl (by rw [R_50L3]; rfl) ⟨impl_tupleSet_L3, fun _ => rfl, fun n x => K_50L3 n x, fuel, fun _ => rfl⟩, trivial⟩) (enc := N_50) (fun _ _ => ⟨rfl, rfl⟩) F_50
theorem K_51L7 (n : Nat) (x) : impl_newNetSearch_L7 (n + 1) x = roundK C_51 B_51L7 (S_51L7 fuel) x (impl_newNetSearch_L7 n) := by
 obtain ⟨_, _, _, _, _, _, _, _, _⟩ := x
 kernel_rfl
theorem K_51L3 (n : Nat) (x) : impl_newNetSearch_L3 (n + 1) x = roundK C_51 B_51L3 (S_51L3 fuel) x (impl_newNetSearch_L3 n) := by
 obtain ⟨_, _, _, _⟩ := x
 kernel_rfl
theorem F_51 (a : dens [.v (.pair .int (.pair .int (.slice (.pair (.slice .int) (.pair .int (.slice (.slice .int)))))))]) : E_51.run a = funK C_51 Try.f145 [.v (.pair .int (.pair .int (.slice (.pair (.slice .int) (.pair .int (.slice (.slice .int)))))))] [.v (.ptr (.pair .int (.pair (.slice (.slice (.slice .int))) (.slice (.slice .smap)))))] a (fun o r => some (N_51 o r)) := by
 kernel_rfl
theorem W_51 : loopsOf D_51 = [B_51L3, B_51L7] := by kernel_rfl
theorem R_51L7 : firstReg B_51L7 = 7 := by kernel_rfl
theorem R_51L3 : firstReg B_51L3 = 3 := by kernel_rfl
theorem Q_51 : Try.prog.funcs[145]? = some Try.f145 ∧ (Try.f145.name == "runtime.NumGoroutine") = false ∧ Try.f145.body = some D_51 := ⟨Try.func145, by kernel_rfl, by kernel_rfl⟩
theorem H_51 : Holds Try.prog 145 E_51 :=
 holds_of (cx := C_51) (tabOk_ok tabT rfl).1 (allT_ok ⟨⟨H_50, _, _, Q_50⟩, trivial⟩) mixT Q_51.1 Q_51.2.2 (loops_of W_51 ⟨loop_of (cx := C_51) (L := S_51L3 fuel) rfl (by rw [R_51L3]; rfl) ⟨impl_newNetSearch_L3, fun _ => rfl, fun n x => K_51L3 n x, fuel, fun _ => rfl⟩, ⟨loop_of (cx := C_51) (L := S_51L7 fuel) rfl (by rw [R_51L7]; rfl) ⟨impl_newNetSearch_L7, fun _ => rfl, fun n x => K_51L7 n x, fuel, fun _ => rfl⟩, trivial⟩⟩) (enc := N_51) (fun _ _ => ⟨rfl, rfl⟩) F_51
theorem K_52L3 (n : Nat) (x) : impl_freeTable_L3 (n + 1) x = roundK C_52 B_52L3 (S_52L3 fuel) x (impl_freeTable_L3 n) := by
 obtain ⟨_, _, _⟩ := x
 kernel_rfl
theorem F_52 (a : dens [.v .int]) : E_52.run a = funK C_52 Try.f49 [.v .int] [.mv .int 0] a (fun o r => some (N_52 o r)) := by
 kernel_rfl
theorem W_52 : loopsOf D_52 = [B_52L3] := by kernel_rfl
theorem R_52L3 : firstReg B_52L3 = 3 := by kernel_rfl
theorem Q_52 : Try.prog.funcs[49]? = some Try.f49 ∧ (Try.f49.name == "runtime.NumGoroutine") = false ∧ Try.f49.body = some D_52 := ⟨Try.func49, by kernel_rfl, by kernel_rfl⟩
theorem H_52 : Holds Try.prog 49 E_52 :=
 holds_of (cx := C_52) (tabOk_ok tabT rfl).1 (allT_ok trivial) mixT Q_52.1 Q_52.2.2 (loops_of W_52 ⟨loop_of (cx := C_52) (L := S_52L3 fuel) rfl (by rw [R_52L3]; rfl) ⟨impl_freeTable_L3, fun _ => rfl, fun n x => K_52L3 n x, fuel, fun _ => rfl⟩, trivial⟩) (enc := N_52) (fun _ _ => ⟨rfl, rfl⟩) F_52
theorem K_53L5 (n : Nat) (x) : impl_agrees_L5 (n + 1) x = roundK C_53 B_53L5 (S_53L5 fuel) x (impl_agrees_L5 n) := by
 obtain ⟨_, _, _, _, _, _, _, _, _, _⟩ := x
 kernel_rfl
theorem K_53L2 (n : Nat) (x) : impl_agrees_L2 (n + 1) x = roundK C_53 B_53L2 (S_53L2 fuel) x (impl_agrees_L2 n) := by
 obtain ⟨_, _, _, _, _⟩ := x
 kernel_rfl
theorem F_53 (a : dens [.v (.slice .int), .v (.slice .int)]) : E_53.run a = funK C_53 Try.f194 [.v (.slice .int), .v (.slice .int)] [.v .bool] a (fun o r => some (N_53 o r)) := by
 kernel_rfl
theorem W_53 : loopsOf D_53 = [B_53L2, B_53L5] := by kernel_rfl
theorem R_53L5 : firstReg B_53L5 = 5 := by kernel_rfl
theorem R_53L2 : firstReg B_53L2 = 2 := by kernel_rfl
theorem Q_53 : Try.prog.funcs[194]? = some Try.f194 ∧ (Try.f194.name == "runtime.NumGoroutine") = false ∧ Try.f194.body = some D_53 := ⟨Try.func194, by kernel_rfl, by kernel_rfl⟩
theorem H_53 : Holds Try.prog 194 E_53 :=
 holds_of (cx := C_53) (tabOk_ok tabT rfl).1 (allT_ok trivial) mixT Q_53.1 Q_53.2.2 (loops_of W_53 ⟨loop_of (cx := C_53) (L := S_53L2 fuel) rfl (by rw [R_53L2]; rfl) ⟨impl_agrees_L2, fun _ => rfl, fun n x => K_53L2 n x, fuel, fun _ => rfl⟩, ⟨loop_of (cx := C_53) (L := S_53L5 fuel) rfl (by rw [R_53L5]; rfl) ⟨impl_agrees_L5, fun _ => rfl, fun n x => K_53L5 n x, fuel, fun _ => rfl⟩, trivial⟩⟩) (enc := N_53) (fun _ _ => ⟨rfl, rfl⟩) F_53
theorem K_54L7 (n : Nat) (x) : impl_domains_supports_L7 (n + 1) x = roundK C_54 B_54L7 (S_54L7 fuel) x (impl_domains_supports_L7 n) := by
 obtain ⟨_, _, _, _, _, _, _, _, _, _, _⟩ := x
 kernel_rfl
theorem K_54L2 (n : Nat) (x) : impl_domains_supports_L2 (n + 1) x = roundK C_54 B_54L2 (S_54L2 fuel) x (impl_domains_supports_L2 n) := by
 obtain ⟨_, _, _, _, _, _, _⟩ := x
 kernel_rfl
theorem F_54 (a : dens [.v (.slice (.slice .bool)), .v (.pair (.slice .int) (.pair .int (.slice (.slice .int)))), .v .int, .v .int]) : E_54.run a = funK C_54 Try.f182 [.v (.slice (.slice .bool)), .v (.pair (.slice .int) (.pair .int (.slice (.slice .int)))), .v .int, .v .int] [.v .bool] a (fun o r => some (N_54 o r)) := by
 kernel_rfl
theorem W_54 : loopsOf D_54 = [B_54L2, B_54L7] := by kernel_rfl
theorem R_54L7 : firstReg B_54L7 = 7 := by kernel_rfl
theorem R_54L2 : firstReg B_54L2 = 2 := by kernel_rfl
theorem Q_54 : Try.prog.funcs[182]? = some Try.f182 ∧ (Try.f182.name == "runtime.NumGoroutine") = false ∧ Try.f182.body = some D_54 := ⟨Try.func182, by kernel_rfl, by kernel_rfl⟩
theorem H_54 : Holds Try.prog 182 E_54 :=
 holds_of (cx := C_54) (tabOk_ok tabT rfl).1 (allT_ok ⟨⟨H_53, _, _, Q_53⟩, trivial⟩) mixT Q_54.1 Q_54.2.2 (loops_of W_54 ⟨loop_of (cx := C_54) (L := S_54L2 fuel) rfl (by rw [R_54L2]; rfl) ⟨impl_domains_supports_L2, fun _ => rfl, fun n x => K_54L2 n x, fuel, fun _ => rfl⟩, ⟨loop_of (cx := C_54) (L := S_54L7 fuel) rfl (by rw [R_54L7]; rfl) ⟨impl_domains_supports_L7, fun _ => rfl, fun n x => K_54L7 n x, fuel, fun _ => rfl⟩, trivial⟩⟩) (enc := N_54) (fun _ _ => ⟨rfl, rfl⟩) F_54
theorem K_55L12 (n : Nat) (x) : impl_domains_reduce_L12 (n + 1) x = roundK C_55 B_55L12 (S_55L12 fuel) x (impl_domains_reduce_L12 n) := by
 obtain ⟨_, _, _, _, _, _, _, _, _, _, _, _, _, _, _, _⟩ := x
 kernel_rfl
theorem K_55L9 (n : Nat) (x) : impl_domains_reduce_L9 (n + 1) x = roundK C_55 B_55L9 (S_55L9 fuel) x (impl_domains_reduce_L9 n) := by
 obtain ⟨_, _, _, _, _, _, _, _, _, _, _, _⟩ := x
 kernel_rfl
theorem K_55L6 (n : Nat) (x) : impl_domains_reduce_L6 (n + 1) x = roundK C_55 B_55L6 (S_55L6 fuel) x (impl_domains_reduce_L6 n) := by
 obtain ⟨_, _, _, _, _, _, _⟩ := x
 kernel_rfl
theorem K_55L3 (n : Nat) (x) : impl_domains_reduce_L3 (n + 1) x = roundK C_55 B_55L3 (S_55L3 fuel) x (impl_domains_reduce_L3 n) := by
 obtain ⟨_, _, _, _⟩ := x
 kernel_rfl
theorem F_55 (a : dens [.io (.slice .bool) 1, .v (.pair .int (.pair .int (.slice (.pair (.slice .int) (.pair .int (.slice (.slice .int)))))))]) : E_55.run a = funK C_55 Try.f147 [.io (.slice .bool) 1, .v (.pair .int (.pair .int (.slice (.pair (.slice .int) (.pair .int (.slice (.slice .int)))))))] [.mv (.pair .int (.pair .int .int)) 0] a (fun o r => some (N_55 o r)) := by
 kernel_rfl
theorem W_55 : loopsOf D_55 = [B_55L3, B_55L6, B_55L9, B_55L12] := by kernel_rfl
theorem R_55L12 : firstReg B_55L12 = 12 := by kernel_rfl
theorem R_55L9 : firstReg B_55L9 = 9 := by kernel_rfl
theorem R_55L6 : firstReg B_55L6 = 6 := by kernel_rfl
theorem R_55L3 : firstReg B_55L3 = 3 := by kernel_rfl
theorem Q_55 : Try.prog.funcs[147]? = some Try.f147 ∧ (Try.f147.name == "runtime.NumGoroutine") = false ∧ Try.f147.body = some D_55 := ⟨Try.func147, by kernel_rfl, by kernel_rfl⟩
theorem H_55 : Holds Try.prog 147 E_55 :=
 holds_of (cx := C_55) (tabOk_ok tabT rfl).1 (allT_ok ⟨⟨H_54, _, _, Q_54⟩, trivial⟩) mixT Q_55.1 Q_55.2.2 (loops_of W_55 ⟨loop_of (cx := C_55) (L := S_55L3 fuel) rfl (by rw [R_55L3]; rfl) ⟨impl_domains_reduce_L3, fun _ => rfl, fun n x => K_55L3 n x, fuel, fun _ => rfl⟩, ⟨loop_of (cx := C_55) (L := S_55L6 fuel) rfl (by rw [R_55L6]; rfl) ⟨impl_domains_reduce_L6, fun _ => rfl, fun n x => K_55L6 n x, fuel, fun _ => rfl⟩, ⟨loop_of (cx := C_55) (L := S_55L9 fuel) rfl (by rw [R_55L9]; rfl) ⟨impl_domains_reduce_L9, fun _ => rfl, fun n x => K_55L9 n x, fuel, fun _ => rfl⟩, ⟨loop_of (cx := C_55) (L := S_55L12 fuel) rfl (by rw [R_55L12]; rfl) ⟨impl_domains_reduce_L12, fun _ => rfl, fun n x => K_55L12 n x, fuel, fun _ => rfl⟩, trivial⟩⟩⟩⟩) (enc := N_55) (fun _ _ => ⟨rfl, rfl⟩) F_55
theorem F_56 (a : dens [.v (.pair .int (.pair .int (.slice (.pair (.slice .int) (.pair .int (.slice (.slice .int)))))))]) : E_56.run a = funK C_56 Try.f99 [.v (.pair .int (.pair .int (.slice (.pair (.slice .int) (.pair .int (.slice (.slice .int)))))))] [.mv (.slice .bool) 1] a (fun o r => some (N_56 o r)) := by
 kernel_rfl
theorem W_56 : loopsOf D_56 = [] := by kernel_rfl
theorem Q_56 : Try.prog.funcs[99]? = some Try.f99 ∧ (Try.f99.name == "runtime.NumGoroutine") = false ∧ Try.f99.body = some D_56 := ⟨Try.func99, by kernel_rfl, by kernel_rfl⟩
theorem H_56 : Holds Try.prog 99 E_56 :=
 holds_of (cx := C_56) (tabOk_ok tabT rfl).1 (allT_ok ⟨⟨H_48, _, _, Q_48⟩, ⟨⟨H_55, _, _, Q_55⟩, trivial⟩⟩) mixT Q_56.1 Q_56.2.2 (loops_of W_56 trivial) (enc := N_56) (fun _ _ => ⟨rfl, rfl⟩) F_56
theorem K_57L3 (n : Nat) (x) : impl_marked_L3 (n + 1) x = roundK C_57 B_57L3 (S_57L3 fuel) x (impl_marked_L3 n) := by
 obtain ⟨_, _, _, _⟩ := x
 kernel_rfl
theorem F_57 (a : dens [.v (.slice .bool)]) : E_57.run a = funK C_57 Try.f131 [.v (.slice .bool)] [.mv .int 0] a (fun o r => some (N_57 o r)) := by
 kernel_rfl
theorem W_57 : loopsOf D_57 = [B_57L3] := by kernel_rfl
theorem R_57L3 : firstReg B_57L3 = 3 := by kernel_rfl
theorem Q_57 : Try.prog.funcs[131]? = some Try.f131 ∧ (Try.f131.name == "runtime.NumGoroutine") = false ∧ Try.f131.body = some D_57 := ⟨Try.func131, by kernel_rfl, by kernel_rfl⟩
theorem H_57 : Holds Try.prog 131 E_57 :=
 holds_of (cx := C_57) (tabOk_ok tabT rfl).1 (allT_ok trivial) mixT Q_57.1 Q_57.2.2 (loops_of W_57 ⟨loop_of (cx := C_57) (L := S_57L3 fuel) rfl (by rw [R_57L3]; rfl) ⟨impl_marked_L3, fun _ => rfl, fun n x => K_57L3 n x, fuel, fun _ => rfl⟩, trivial⟩) (enc := N_57) (fun _ _ => ⟨rfl, rfl⟩) F_57
theorem K_58L3 (n : Nat) (x) : impl_domains_missing_L3 (n + 1) x = roundK C_58 B_58L3 (S_58L3 fuel) x (impl_domains_missing_L3 n) := by
 obtain ⟨_, _, _, _⟩ := x
 kernel_rfl
theorem F_58 (a : dens [.v (.slice (.slice .bool))]) : E_58.run a = funK C_58 Try.f100 [.v (.slice (.slice .bool))] [.v .int] a (fun o r => some (N_58 o r)) := by
 kernel_rfl
theorem W_58 : loopsOf D_58 = [B_58L3] := by kernel_rfl
theorem R_58L3 : firstReg B_58L3 = 3 := by kernel_rfl
theorem Q_58 : Try.prog.funcs[100]? = some Try.f100 ∧ (Try.f100.name == "runtime.NumGoroutine") = false ∧ Try.f100.body = some D_58 := ⟨Try.func100, by kernel_rfl, by kernel_rfl⟩
theorem H_58 : Holds Try.prog 100 E_58 :=
 holds_of (cx := C_58) (tabOk_ok tabT rfl).1 (allT_ok ⟨⟨H_57, _, _, Q_57⟩, trivial⟩) mixT Q_58.1 Q_58.2.2 (loops_of W_58 ⟨loop_of (cx := C_58) (L := S_58L3 fuel) rfl (by rw [R_58L3]; rfl) ⟨impl_domains_missing_L3, fun _ => rfl, fun n x => K_58L3 n x, fuel, fun _ => rfl⟩, trivial⟩) (enc := N_58) (fun _ _ => ⟨rfl, rfl⟩) F_58
theorem K_59L3 (n : Nat) (x) : impl_domains_copyOf_L3 (n + 1) x = roundK C_59 B_59L3 (S_59L3 fuel) x (impl_domains_copyOf_L3 n) := by
 obtain ⟨_, _, _, _⟩ := x
 kernel_rfl
theorem F_59 (a : dens [.v (.slice (.slice .bool))]) : E_59.run a = funK C_59 Try.f148 [.v (.slice (.slice .bool))] [.mv (.slice .bool) 1] a (fun o r => some (N_59 o r)) := by
 kernel_rfl
theorem W_59 : loopsOf D_59 = [B_59L3] := by kernel_rfl
theorem R_59L3 : firstReg B_59L3 = 3 := by kernel_rfl
theorem Q_59 : Try.prog.funcs[148]? = some Try.f148 ∧ (Try.f148.name == "runtime.NumGoroutine") = false ∧ Try.f148.body = some D_59 := ⟨Try.func148, by kernel_rfl, by kernel_rfl⟩
theorem H_59 : Holds Try.prog 148 E_59 :=
 holds_of (cx := C_59) (tabOk_ok tabT rfl).1 (allT_ok trivial) mixT Q_59.1 Q_59.2.2 (loops_of W_59 ⟨loop_of (cx := C_59) (L := S_59L3 fuel) rfl (by rw [R_59L3]; rfl) ⟨impl_domains_copyOf_L3, fun _ => rfl, fun n x => K_59L3 n x, fuel, fun _ => rfl⟩, trivial⟩) (enc := N_59) (fun _ _ => ⟨rfl, rfl⟩) F_59
theorem K_60L1 (n : Nat) (x) : impl_domains_fix_L1 (n + 1) x = roundK C_60 B_60L1 (S_60L1 fuel) x (impl_domains_fix_L1 n) := by
 obtain ⟨_, _, _, _, _⟩ := x
 kernel_rfl
theorem F_60 (a : dens [.io (.slice .bool) 1, .v .int, .v .int]) : E_60.run a = funK C_60 Try.f149 [.io (.slice .bool) 1, .v .int, .v .int] [] a (fun o r => some (N_60 o r)) := by
 kernel_rfl
theorem W_60 : loopsOf D_60 = [B_60L1] := by kernel_rfl
theorem R_60L1 : firstReg B_60L1 = 1 := by kernel_rfl
theorem Q_60 : Try.prog.funcs[149]? = some Try.f149 ∧ (Try.f149.name == "runtime.NumGoroutine") = false ∧ Try.f149.body = some D_60 := ⟨Try.func149, by kernel_rfl, by kernel_rfl⟩
theorem H_60 : Holds Try.prog 149 E_60 :=
 holds_of (cx := C_60) (tabOk_ok tabT rfl).1 (allT_ok trivial) mixT Q_60.1 Q_60.2.2 (loops_of W_60 ⟨loop_of (cx := C_60) (L := S_60L1 fuel) rfl (by rw [R_60L1]; rfl) ⟨impl_domains_fix_L1, fun _ => rfl, fun n x => K_60L1 n x, fuel, fun _ => rfl⟩, trivial⟩) (enc := N_60) (fun _ _ => ⟨rfl, rfl⟩) F_60
theorem K_61L2 (n : Nat) (x) : impl_domains_hasEmpty_L2 (n + 1) x = roundK C_61 B_61L2 (S_61L2 fuel) x (impl_domains_hasEmpty_L2 n) := by
 obtain ⟨_, _, _⟩ := x
 kernel_rfl
theorem F_61 (a : dens [.v (.slice (.slice .bool))]) : E_61.run a = funK C_61 Try.f150 [.v (.slice (.slice .bool))] [.v .bool] a (fun o r => some (N_61 o r)) := by
 kernel_rfl
theorem W_61 : loopsOf D_61 = [B_61L2] := by kernel_rfl
theorem R_61L2 : firstReg B_61L2 = 2 := by kernel_rfl
theorem Q_61 : Try.prog.funcs[150]? = some Try.f150 ∧ (Try.f150.name == "runtime.NumGoroutine") = false ∧ Try.f150.body = some D_61 := ⟨Try.func150, by kernel_rfl, by kernel_rfl⟩
theorem H_61 : Holds Try.prog 150 E_61 :=
 holds_of (cx := C_61) (tabOk_ok tabT rfl).1 (allT_ok ⟨⟨H_57, _, _, Q_57⟩, trivial⟩) mixT Q_61.1 Q_61.2.2 (loops_of W_61 ⟨loop_of (cx := C_61) (L := S_61L2 fuel) rfl (by rw [R_61L2]; rfl) ⟨impl_domains_hasEmpty_L2, fun _ => rfl, fun n x => K_61L2 n x, fuel, fun _ => rfl⟩, trivial⟩) (enc := N_61) (fun _ _ => ⟨rfl, rfl⟩) F_61
theorem K_62L9 (n : Nat) (x) : impl_singleDomains_L9 (n + 1) x = roundK C_62 B_62L9 (S_62L9 fuel) x (impl_singleDomains_L9 n) := by
 obtain ⟨_, _, _, _, _, _, _, _⟩ := x
 kernel_rfl
theorem K_62L6 (n : Nat) (x) : impl_singleDomains_L6 (n + 1) x = roundK C_62 B_62L6 (S_62L6 fuel) x (impl_singleDomains_L6 n) := by
 obtain ⟨_, _, _, _, _⟩ := x
 kernel_rfl
theorem K_62L3 (n : Nat) (x) : impl_singleDomains_L3 (n + 1) x = roundK C_62 B_62L3 (S_62L3 fuel) x (impl_singleDomains_L3 n) := by
 obtain ⟨_, _, _⟩ := x
 kernel_rfl
theorem F_62 (a : dens [.v (.pair .int (.pair .int (.slice (.pair (.slice .int) (.pair .int (.slice (.slice .int)))))))]) : E_62.run a = funK C_62 Try.f101 [.v (.pair .int (.pair .int (.slice (.pair (.slice .int) (.pair .int (.slice (.slice .int)))))))] [.mv (.slice .bool) 1] a (fun o r => some (N_62 o r)) := by
 kernel_rfl
theorem W_62 : loopsOf D_62 = [B_62L3, B_62L6, B_62L9] := by kernel_rfl
theorem R_62L9 : firstReg B_62L9 = 9 := by kernel_rfl
theorem R_62L6 : firstReg B_62L6 = 6 := by kernel_rfl
theorem R_62L3 : firstReg B_62L3 = 3 := by kernel_rfl
theorem Q_62 : Try.prog.funcs[101]? = some Try.f101 ∧ (Try.f101.name == "runtime.NumGoroutine") = false ∧ Try.f101.body = some D_62 := ⟨Try.func101, by kernel_rfl, by kernel_rfl⟩
theorem H_62 : Holds Try.prog 101 E_62 :=
 holds_of (cx := C_62) (tabOk_ok tabT rfl).1 (allT_ok ⟨⟨H_48, _, _, Q_48⟩, ⟨⟨H_55, _, _, Q_55⟩, ⟨⟨H_59, _, _, Q_59⟩, ⟨⟨H_60, _, _, Q_60⟩, ⟨⟨H_61, _, _, Q_61⟩, trivial⟩⟩⟩⟩⟩) mixT Q_62.1 Q_62.2.2 (loops_of W_62 ⟨loop_of (cx := C_62) (L := S_62L3 fuel) rfl (by rw [R_62L3]; rfl) ⟨impl_singleDomains_L3, fun _ => rfl, fun n x => K_62L3 n x, fuel, fun _ => rfl⟩, ⟨loop_of (cx := C_62) (L := S_62L6 fuel) rfl (by rw [R_62L6]; rfl) ⟨impl_singleDomains_L6, fun _ => rfl, fun n x => K_62L6 n x, fuel, fun _ => rfl⟩, ⟨loop_of (cx := C_62) (L := S_62L9 fuel) rfl (by rw [R_62L9]; rfl) ⟨impl_singleDomains_L9, fun _ => rfl, fun n x => K_62L9 n x, fuel, fun _ => rfl⟩, trivial⟩⟩⟩) (enc := N_62) (fun _ _ => ⟨rfl, rfl⟩) F_62
theorem K_63L2 (n : Nat) (x) : impl_RemovedCounts_c1_L2 (n + 1) x = roundK C_63 B_63L2 (S_63L2 fuel) x (impl_RemovedCounts_c1_L2 n) := by
 obtain ⟨_, _, _, _⟩ := x
 kernel_rfl
theorem F_63 (a : dens [.v (.slice .int), .bx (.mv (.slice .bool) 1)]) : E_63.run a = funK C_63 Try.f98 [.v (.slice .int), .bx (.mv (.slice .bool) 1)] [.v .bool] a (fun o r => some (N_63 o r)) := by
 kernel_rfl
theorem W_63 : loopsOf D_63 = [B_63L2] := by kernel_rfl
theorem R_63L2 : firstReg B_63L2 = 2 := by kernel_rfl
theorem Q_63 : Try.prog.funcs[98]? = some Try.f98 ∧ (Try.f98.name == "runtime.NumGoroutine") = false ∧ Try.f98.body = some D_63 := ⟨Try.func98, by kernel_rfl, by kernel_rfl⟩
theorem H_63 : Holds Try.prog 98 E_63 :=
 holds_of (cx := C_63) (tabOk_ok tabT rfl).1 (allT_ok trivial) mixT Q_63.1 Q_63.2.2 (loops_of W_63 ⟨loop_of (cx := C_63) (L := S_63L2 fuel) rfl (by rw [R_63L2]; rfl) ⟨impl_RemovedCounts_c1_L2, fun _ => rfl, fun n x => K_63L2 n x, fuel, fun _ => rfl⟩, trivial⟩) (enc := N_63) (fun _ _ => ⟨rfl, rfl⟩) F_63
theorem K_64L3 (n : Nat) (x) : impl_compose_L3 (n + 1) x = roundK C_64 B_64L3 (S_64L3 fuel) x (impl_compose_L3 n) := by
 obtain ⟨_, _, _, _, _⟩ := x
 kernel_rfl
theorem F_64 (a : dens [.v (.slice .int), .v (.slice .int)]) : E_64.run a = funK C_64 Try.f76 [.v (.slice .int), .v (.slice .int)] [.mv .int 0] a (fun o r => some (N_64 o r)) := by
 kernel_rfl
theorem W_64 : loopsOf D_64 = [B_64L3] := by kernel_rfl
theorem R_64L3 : firstReg B_64L3 = 3 := by kernel_rfl
theorem Q_64 : Try.prog.funcs[76]? = some Try.f76 ∧ (Try.f76.name == "runtime.NumGoroutine") = false ∧ Try.f76.body = some D_64 := ⟨Try.func76, by kernel_rfl, by kernel_rfl⟩
theorem H_64 : Holds Try.prog 76 E_64 :=
 holds_of (cx := C_64) (tabOk_ok tabT rfl).1 (allT_ok trivial) mixT Q_64.1 Q_64.2.2 (loops_of W_64 ⟨loop_of (cx := C_64) (L := S_64L3 fuel) rfl (by rw [R_64L3]; rfl) ⟨impl_compose_L3, fun _ => rfl, fun n x => K_64L3 n x, fuel, fun _ => rfl⟩, trivial⟩) (enc := N_64) (fun _ _ => ⟨rfl, rfl⟩) F_64
theorem K_65L10 (rec : (Int × (List Int) × (List (List Bool)) × (Bool × Int × (List (List (List Int))) × (List (List (List ByteArray)))) × (List Int) × Unit) → Option ((List Int) × (List (List Bool)) × (Bool × Int × (List (List (List Int))) × (List (List (List ByteArray)))) × (List Int) × Bool)) (n : Nat) (x) : impl_netSearch_each_c1_impl_RemovedCounts_c1_L10 rec (n + 1) x = roundK (C_65 rec) B_65L10 (S_65L10 rec fuel) x (impl_netSearch_each_c1_impl_RemovedCounts_c1_L10 rec n) := by
 obtain ⟨_, _, _, _, _, _, _, _, _, _, _⟩ := x
 kernel_rfl
theorem K_65L4 (rec : (Int × (List Int) × (List (List Bool)) × (Bool × Int × (List (List (List Int))) × (List (List (List ByteArray)))) × (List Int) × Unit) → Option ((List Int) × (List (List Bool)) × (Bool × Int × (List (List (List Int))) × (List (List (List ByteArray)))) × (List Int) × Bool)) (n : Nat) (x) : impl_netSearch_each_c1_impl_RemovedCounts_c1_L4 rec (n + 1) x = roundK (C_65 rec) B_65L4 (S_65L4 rec fuel) x (impl_netSearch_each_c1_impl_RemovedCounts_c1_L4 rec n) := by
 obtain ⟨_, _, _, _, _, _, _⟩ := x
 kernel_rfl
theorem F_65 (rec : (Int × (List Int) × (List (List Bool)) × (Bool × Int × (List (List (List Int))) × (List (List (List ByteArray)))) × (List Int) × Unit) → Option ((List Int) × (List (List Bool)) × (Bool × Int × (List (List (List Int))) × (List (List (List ByteArray)))) × (List Int) × Bool)) (a : dens [.v .int, .bx (.mv .int 0), .bx (.mv (.slice .bool) 1), .bx (.v (.ptr (.pair .int (.pair (.slice (.slice (.slice .int))) (.slice (.slice .smap)))))), .bx (.v (.slice .int)), .jk 1]) : impl_netSearch_each_c1_impl_RemovedCounts_c1_body rec a.1 a.2.1 a.2.2.1 a.2.2.2.1 a.2.2.2.2.1 a.2.2.2.2.2 = funK (C_65 rec) Try.f181 [.v .int, .bx (.mv .int 0), .bx (.mv (.slice .bool) 1), .bx (.v (.ptr (.pair .int (.pair (.slice (.slice (.slice .int))) (.slice (.slice .smap)))))), .bx (.v (.slice .int)), .jk 1] [.v .bool] a (fun o r => some (N_65 o r)) := by
 kernel_rfl
theorem W_65 : loopsOf D_65 = [B_65L4, B_65L10] := by kernel_rfl
theorem R_65L10 : firstReg B_65L10 = 10 := by kernel_rfl
theorem R_65L4 : firstReg B_65L4 = 4 := by kernel_rfl
theorem Q_65 : Try.prog.funcs[181]? = some Try.f181 ∧ (Try.f181.name == "runtime.NumGoroutine") = false ∧ Try.f181.body = some D_65 := ⟨Try.func181, by kernel_rfl, by kernel_rfl⟩
theorem H_65 : ∀ d, Holds Try.prog 181 (E_65 d)
 | 0 => fun _ b h => absurd (show (none : Option _) = some b from h) (by simp)
 | d + 1 => holds_of (en := E_65 (d + 1)) (cx := (C_65 (impl_netSearch_each_c1_impl_RemovedCounts_c1 d))) (tabOk_ok tabT rfl).1 (allT_ok ⟨⟨H_64, _, _, Q_64⟩, ⟨⟨H_63, _, _, Q_63⟩, ⟨⟨H_49, _, _, Q_49⟩, ⟨⟨H_65 d, _, _, Q_65⟩, trivial⟩⟩⟩⟩) mixT Q_65.1 Q_65.2.2 (loops_of W_65 ⟨loop_of (cx := (C_65 (impl_netSearch_each_c1_impl_RemovedCounts_c1 d))) (L := S_65L4 (impl_netSearch_each_c1_impl_RemovedCounts_c1 d) fuel) rfl (by rw [R_65L4]; rfl) ⟨impl_netSearch_each_c1_impl_RemovedCounts_c1_L4 (impl_netSearch_each_c1_impl_RemovedCounts_c1 d), fun _ => rfl, fun n x => K_65L4 (impl_netSearch_each_c1_impl_RemovedCounts_c1 d) n x, fuel, fun _ => rfl⟩, ⟨loop_of (cx := (C_65 (impl_netSearch_each_c1_impl_RemovedCounts_c1 d))) (L := S_65L10 (impl_netSearch_each_c1_impl_RemovedCounts_c1 d) fuel) rfl (by rw [R_65L10]; rfl) ⟨impl_netSearch_each_c1_impl_RemovedCounts_c1_L10 (impl_netSearch_each_c1_impl_RemovedCounts_c1 d), fun _ => rfl, fun n x => K_65L10 (impl_netSearch_each_c1_impl_RemovedCounts_c1 d) n x, fuel, fun _ => rfl⟩, trivial⟩⟩) (enc := N_65) (fun _ _ => ⟨rfl, rfl⟩) (F_65 (impl_netSearch_each_c1_impl_RemovedCounts_c1 d)) rfl
theorem F_66 (a : dens [.v (.ptr (.pair .int (.pair (.slice (.slice (.slice .int))) (.slice (.slice .smap))))), .v (.slice .int), .bx (.mv (.slice .bool) 1)]) : E_66.run a = funK C_66 Try.f146 [.v (.ptr (.pair .int (.pair (.slice (.slice (.slice .int))) (.slice (.slice .smap))))), .v (.slice .int), .bx (.mv (.slice .bool) 1)] [] a (fun o r => some (N_66 o r)) := by
 kernel_rfl
theorem W_66 : loopsOf D_66 = [] := by kernel_rfl
theorem Q_66 : Try.prog.funcs[146]? = some Try.f146 ∧ (Try.f146.name == "runtime.NumGoroutine") = false ∧ Try.f146.body = some D_66 := ⟨Try.func146, by kernel_rfl, by kernel_rfl⟩
theorem H_66 : Holds Try.prog 146 E_66 :=
 holds_of (cx := C_66) (tabOk_ok tabT rfl).1 (allT_ok ⟨⟨H_65 fuel, _, _, Q_65⟩, trivial⟩) mixT Q_66.1 Q_66.2.2 (loops_of W_66 trivial) (enc := N_66) (fun _ _ => ⟨rfl, rfl⟩) F_66
theorem F_67 (a : dens [.v (.pair .int (.pair .int (.slice (.pair (.slice .int) (.pair .int (.slice (.slice .int))))))), .bx (.mv (.slice .bool) 1)]) : E_67.run a = funK C_67 Try.f97 [.v (.pair .int (.pair .int (.slice (.pair (.slice .int) (.pair .int (.slice (.slice .int))))))), .bx (.mv (.slice .bool) 1)] [] a (fun o r => some (N_67 o r)) := by
 kernel_rfl
theorem W_67 : loopsOf D_67 = [] := by kernel_rfl
theorem Q_67 : Try.prog.funcs[97]? = some Try.f97 ∧ (Try.f97.name == "runtime.NumGoroutine") = false ∧ Try.f97.body = some D_67 := ⟨Try.func97, by kernel_rfl, by kernel_rfl⟩
theorem H_67 : Holds Try.prog 97 E_67 :=
 holds_of (cx := C_67) (tabOk_ok tabT rfl).1 (allT_ok ⟨⟨H_52, _, _, Q_52⟩, ⟨⟨H_51, _, _, Q_51⟩, ⟨⟨H_66, _, _, Q_66⟩, trivial⟩⟩⟩) mixT Q_67.1 Q_67.2.2 (loops_of W_67 trivial) (enc := N_67) (fun _ _ => ⟨rfl, rfl⟩) F_67
theorem K_68L5 (n : Nat) (x) : impl_RemovedCounts_L5 (n + 1) x = roundK C_68 B_68L5 (S_68L5 fuel) x (impl_RemovedCounts_L5 n) := by
 obtain ⟨_, _, _, _⟩ := x
 kernel_rfl
theorem F_68 (a : dens [.v (.pair .int (.pair .int (.slice (.pair (.slice .int) (.pair .int (.slice (.slice .int)))))))]) : E_68.run a = funK C_68 Try.f36 [.v (.pair .int (.pair .int (.slice (.pair (.slice .int) (.pair .int (.slice (.slice .int)))))))] [.v .int, .v .int, .v .int, .v .bool] a (fun o r => some (N_68 o r)) := by
 kernel_rfl
theorem W_68 : loopsOf D_68 = [B_68L5] := by kernel_rfl
theorem R_68L5 : firstReg B_68L5 = 5 := by kernel_rfl
theorem Q_68 : Try.prog.funcs[36]? = some Try.f36 ∧ (Try.f36.name == "runtime.NumGoroutine") = false ∧ Try.f36.body = some D_68 := ⟨Try.func36, by kernel_rfl, by kernel_rfl⟩
theorem H_68 : Holds Try.prog 36 E_68 :=
 holds_of (cx := C_68) (tabOk_ok tabT rfl).1 (allT_ok ⟨⟨H_47, _, _, Q_47⟩, ⟨⟨H_48, _, _, Q_48⟩, ⟨⟨H_56, _, _, Q_56⟩, ⟨⟨H_58, _, _, Q_58⟩, ⟨⟨H_62, _, _, Q_62⟩, ⟨⟨H_67, _, _, Q_67⟩, trivial⟩⟩⟩⟩⟩⟩) mixT Q_68.1 Q_68.2.2 (loops_of W_68 ⟨loop_of (cx := C_68) (L := S_68L5 fuel) rfl (by rw [R_68L5]; rfl) ⟨impl_RemovedCounts_L5, fun _ => rfl, fun n x => K_68L5 n x, fuel, fun _ => rfl⟩, trivial⟩) (enc := N_68) (fun _ _ => ⟨rfl, rfl⟩) F_68
theorem K_69L4 (n : Nat) (x) : laws_eqIntS_L4 (n + 1) x = roundK C_69 B_69L4 (S_69L4 fuel) x (laws_eqIntS_L4 n) := by
 obtain ⟨_, _, _⟩ := x
 kernel_rfl
theorem F_69 (a : dens [.v (.slice .int), .v (.slice .int)]) : E_69.run a = funK C_69 Try.f40 [.v (.slice .int), .v (.slice .int)] [.v .bool] a (fun o r => some (N_69 o r)) := by
 kernel_rfl
theorem W_69 : loopsOf D_69 = [B_69L4] := by kernel_rfl
theorem R_69L4 : firstReg B_69L4 = 4 := by kernel_rfl
theorem Q_69 : Try.prog.funcs[40]? = some Try.f40 ∧ (Try.f40.name == "runtime.NumGoroutine") = false ∧ Try.f40.body = some D_69 := ⟨Try.func40, by kernel_rfl, by kernel_rfl⟩
theorem H_69 : Holds Try.prog 40 E_69 :=
 holds_of (cx := C_69) (tabOk_ok tabT rfl).1 (allT_ok trivial) mixT Q_69.1 Q_69.2.2 (loops_of W_69 ⟨loop_of (cx := C_69) (L := S_69L4 fuel) rfl (by rw [R_69L4]; rfl) ⟨laws_eqIntS_L4, fun _ => rfl, fun n x => K_69L4 n x, fuel, fun _ => rfl⟩, trivial⟩) (enc := N_69) (fun _ _ => ⟨rfl, rfl⟩) F_69
theorem K_70L4 (n : Nat) (x) : laws_eqIntSS_L4 (n + 1) x = roundK C_70 B_70L4 (S_70L4 fuel) x (laws_eqIntSS_L4 n) := by
 obtain ⟨_, _, _⟩ := x
 kernel_rfl
theorem F_70 (a : dens [.v (.slice (.slice .int)), .v (.slice (.slice .int))]) : E_70.run a = funK C_70 Try.f195 [.v (.slice (.slice .int)), .v (.slice (.slice .int))] [.v .bool] a (fun o r => some (N_70 o r)) := by
 kernel_rfl
theorem W_70 : loopsOf D_70 = [B_70L4] := by kernel_rfl
theorem R_70L4 : firstReg B_70L4 = 4 := by kernel_rfl
theorem Q_70 : Try.prog.funcs[195]? = some Try.f195 ∧ (Try.f195.name == "runtime.NumGoroutine") = false ∧ Try.f195.body = some D_70 := ⟨Try.func195, by kernel_rfl, by kernel_rfl⟩
theorem H_70 : Holds Try.prog 195 E_70 :=
 holds_of (cx := C_70) (tabOk_ok tabT rfl).1 (allT_ok ⟨⟨H_69, _, _, Q_69⟩, trivial⟩) mixT Q_70.1 Q_70.2.2 (loops_of W_70 ⟨loop_of (cx := C_70) (L := S_70L4 fuel) rfl (by rw [R_70L4]; rfl) ⟨laws_eqIntSS_L4, fun _ => rfl, fun n x => K_70L4 n x, fuel, fun _ => rfl⟩, trivial⟩) (enc := N_70) (fun _ _ => ⟨rfl, rfl⟩) F_70
theorem F_71 (a : dens [.v (.pair .int (.slice (.slice .int))), .v (.pair .int (.slice (.slice .int)))]) : E_71.run a = funK C_71 Try.f183 [.v (.pair .int (.slice (.slice .int))), .v (.pair .int (.slice (.slice .int)))] [.v .bool] a (fun o r => some (N_71 o r)) := by
 kernel_rfl
theorem W_71 : loopsOf D_71 = [] := by kernel_rfl
theorem Q_71 : Try.prog.funcs[183]? = some Try.f183 ∧ (Try.f183.name == "runtime.NumGoroutine") = false ∧ Try.f183.body = some D_71 := ⟨Try.func183, by kernel_rfl, by kernel_rfl⟩
theorem H_71 : Holds Try.prog 183 E_71 :=
 holds_of (cx := C_71) (tabOk_ok tabT rfl).1 (allT_ok ⟨⟨H_70, _, _, Q_70⟩, trivial⟩) mixT Q_71.1 Q_71.2.2 (loops_of W_71 trivial) (enc := N_71) (fun _ _ => ⟨rfl, rfl⟩) F_71
theorem F_72 (a : dens [.v (.pair (.slice .int) (.pair .int (.slice (.slice .int)))), .v (.pair (.slice .int) (.pair .int (.slice (.slice .int))))]) : E_72.run a = funK C_72 Try.f151 [.v (.pair (.slice .int) (.pair .int (.slice (.slice .int)))), .v (.pair (.slice .int) (.pair .int (.slice (.slice .int))))] [.v .bool] a (fun o r => some (N_72 o r)) := by
 kernel_rfl
theorem W_72 : loopsOf D_72 = [] := by kernel_rfl
theorem Q_72 : Try.prog.funcs[151]? = some Try.f151 ∧ (Try.f151.name == "runtime.NumGoroutine") = false ∧ Try.f151.body = some D_72 := ⟨Try.func151, by kernel_rfl, by kernel_rfl⟩
theorem H_72 : Holds Try.prog 151 E_72 :=
 holds_of (cx := C_72) (tabOk_ok tabT rfl).1 (allT_ok ⟨⟨H_69, _, _, Q_69⟩, ⟨⟨H_71, _, _, Q_71⟩, trivial⟩⟩) mixT Q_72.1 Q_72.2.2 (loops_of W_72 trivial) (enc := N_72) (fun _ _ => ⟨rfl, rfl⟩) F_72
theorem K_73L4 (n : Nat) (x) : laws_eqConstraintS_L4 (n + 1) x = roundK C_73 B_73L4 (S_73L4 fuel) x (laws_eqConstraintS_L4 n) := by
 obtain ⟨_, _, _⟩ := x
 kernel_rfl
theorem F_73 (a : dens [.v (.slice (.pair (.slice .int) (.pair .int (.slice (.slice .int))))), .v (.slice (.pair (.slice .int) (.pair .int (.slice (.slice .int)))))]) : E_73.run a = funK C_73 Try.f102 [.v (.slice (.pair (.slice .int) (.pair .int (.slice (.slice .int))))), .v (.slice (.pair (.slice .int) (.pair .int (.slice (.slice .int)))))] [.v .bool] a (fun o r => some (N_73 o r)) := by
 kernel_rfl
theorem W_73 : loopsOf D_73 = [B_73L4] := by kernel_rfl
theorem R_73L4 : firstReg B_73L4 = 4 := by kernel_rfl
theorem Q_73 : Try.prog.funcs[102]? = some Try.f102 ∧ (Try.f102.name == "runtime.NumGoroutine") = false ∧ Try.f102.body = some D_73 := ⟨Try.func102, by kernel_rfl, by kernel_rfl⟩
theorem H_73 : Holds Try.prog 102 E_73 :=
 holds_of (cx := C_73) (tabOk_ok tabT rfl).1 (allT_ok ⟨⟨H_72, _, _, Q_72⟩, trivial⟩) mixT Q_73.1 Q_73.2.2 (loops_of W_73 ⟨loop_of (cx := C_73) (L := S_73L4 fuel) rfl (by rw [R_73L4]; rfl) ⟨laws_eqConstraintS_L4, fun _ => rfl, fun n x => K_73L4 n x, fuel, fun _ => rfl⟩, trivial⟩) (enc := N_73) (fun _ _ => ⟨rfl, rfl⟩) F_73
theorem F_74 (a : dens [.v (.pair .int (.pair .int (.slice (.pair (.slice .int) (.pair .int (.slice (.slice .int))))))), .v (.pair .int (.pair .int (.slice (.pair (.slice .int) (.pair .int (.slice (.slice .int)))))))]) : E_74.run a = funK C_74 Try.f37 [.v (.pair .int (.pair .int (.slice (.pair (.slice .int) (.pair .int (.slice (.slice .int))))))), .v (.pair .int (.pair .int (.slice (.pair (.slice .int) (.pair .int (.slice (.slice .int)))))))] [.v .bool] a (fun o r => some (N_74 o r)) := by
 kernel_rfl
theorem W_74 : loopsOf D_74 = [] := by kernel_rfl
theorem Q_74 : Try.prog.funcs[37]? = some Try.f37 ∧ (Try.f37.name == "runtime.NumGoroutine") = false ∧ Try.f37.body = some D_74 := ⟨Try.func37, by kernel_rfl, by kernel_rfl⟩
theorem H_74 : Holds Try.prog 37 E_74 :=
 holds_of (cx := C_74) (tabOk_ok tabT rfl).1 (allT_ok ⟨⟨H_73, _, _, Q_73⟩, trivial⟩) mixT Q_74.1 Q_74.2.2 (loops_of W_74 trivial) (enc := N_74) (fun _ _ => ⟨rfl, rfl⟩) F_74
theorem F_75 (a : dens [.v (.pair .int (.pair .int (.slice (.pair (.slice .int) (.pair .int (.slice (.slice .int)))))))]) : E_75.run a = funK C_75 Try.f5 [.v (.pair .int (.pair .int (.slice (.pair (.slice .int) (.pair .int (.slice (.slice .int)))))))] [.v .bool] a (fun o r => some (N_75 o r)) := by
 kernel_rfl
theorem W_75 : loopsOf D_75 = [] := by kernel_rfl
theorem Q_75 : Try.prog.funcs[5]? = some Try.f5 ∧ (Try.f5.name == "runtime.NumGoroutine") = false ∧ Try.f5.body = some D_75 := ⟨Try.func5, by kernel_rfl, by kernel_rfl⟩
theorem H_75 : Holds Try.prog 5 E_75 :=
 holds_of (cx := C_75) (tabOk_ok tabT rfl).1 (allT_ok ⟨⟨H_6, _, _, Q_6⟩, ⟨⟨H_41, _, _, Q_41⟩, ⟨⟨H_12, _, _, Q_12⟩, ⟨⟨H_68, _, _, Q_68⟩, ⟨⟨H_74, _, _, Q_74⟩, trivial⟩⟩⟩⟩⟩) mixT Q_75.1 Q_75.2.2 (loops_of W_75 trivial) (enc := N_75) (fun _ _ => ⟨rfl, rfl⟩) F_75
end T
