/- Each typed function is what the program computes; no conditions. -/
import Derived.Test.YtcnlpelkabjfaaaCFnExactSemilatticePolymorphism
set_option linter.all false
set_option maxRecDepth 10000
open Go Go.Va Go.Proofs
namespace T
theorem F_1 (a : dens [.v (.slice .int), .v .int]) : E_1.run a = funK C_1 Try.f100 [.v (.slice .int), .v .int] [.v .int] a (fun o r => some (N_1 o r)) := by
 kernel_rfl
theorem W_1 : loopsOf D_1 = [] := by kernel_rfl
theorem Q_1 : Try.prog.funcs[100]? = some Try.f100 ∧ (Try.f100.name == "runtime.NumGoroutine") = false ∧ Try.f100.body = some D_1 := ⟨Try.func100, by kernel_rfl, by kernel_rfl⟩
theorem H_1 : Holds Try.prog 100 E_1 :=
 holds_of (cx := C_1) (tabOk_ok tabT rfl).1 (allT_ok trivial) mixT Q_1.1 Q_1.2.2 (loops_of W_1 trivial) (enc := N_1) (fun _ _ => ⟨rfl, rfl⟩) F_1
theorem K_2L5 (n : Nat) (x) : laws_szIntSS_L5 (n + 1) x = roundK C_2 B_2L5 (S_2L5 fuel) x (laws_szIntSS_L5 n) := by
 obtain ⟨_, _, _⟩ := x
 kernel_rfl
theorem F_2 (a : dens [.v (.slice (.slice .int)), .v .int]) : E_2.run a = funK C_2 Try.f69 [.v (.slice (.slice .int)), .v .int] [.v .int] a (fun o r => some (N_2 o r)) := by
 kernel_rfl
theorem W_2 : loopsOf D_2 = [B_2L5] := by kernel_rfl
theorem R_2L5 : firstReg B_2L5 = 5 := by kernel_rfl
theorem Q_2 : Try.prog.funcs[69]? = some Try.f69 ∧ (Try.f69.name == "runtime.NumGoroutine") = false ∧ Try.f69.body = some D_2 := ⟨Try.func69, by kernel_rfl, by kernel_rfl⟩
theorem H_2 : Holds Try.prog 69 E_2 :=
 holds_of (cx := C_2) (tabOk_ok tabT rfl).1 (allT_ok ⟨⟨H_1, _, _, Q_1⟩, trivial⟩) mixT Q_2.1 Q_2.2.2 (loops_of W_2 ⟨loop_of (cx := C_2) (L := S_2L5 fuel) rfl (by rw [R_2L5]; rfl) ⟨laws_szIntSS_L5, fun _ => rfl, fun n x => K_2L5 n x, fuel, fun _ => rfl⟩, trivial⟩) (enc := N_2) (fun _ _ => ⟨rfl, rfl⟩) F_2
theorem F_3 (a : dens [.v (.pair .int (.slice (.slice .int))), .v .int]) : E_3.run a = funK C_3 Try.f31 [.v (.pair .int (.slice (.slice .int))), .v .int] [.v .int] a (fun o r => some (N_3 o r)) := by
 kernel_rfl
theorem W_3 : loopsOf D_3 = [] := by kernel_rfl
theorem Q_3 : Try.prog.funcs[31]? = some Try.f31 ∧ (Try.f31.name == "runtime.NumGoroutine") = false ∧ Try.f31.body = some D_3 := ⟨Try.func31, by kernel_rfl, by kernel_rfl⟩
theorem H_3 : Holds Try.prog 31 E_3 :=
 holds_of (cx := C_3) (tabOk_ok tabT rfl).1 (allT_ok ⟨⟨H_2, _, _, Q_2⟩, trivial⟩) mixT Q_3.1 Q_3.2.2 (loops_of W_3 trivial) (enc := N_3) (fun _ _ => ⟨rfl, rfl⟩) F_3
theorem K_4L5 (n : Nat) (x) : laws_szRelationS_L5 (n + 1) x = roundK C_4 B_4L5 (S_4L5 fuel) x (laws_szRelationS_L5 n) := by
 obtain ⟨_, _, _⟩ := x
 kernel_rfl
theorem F_4 (a : dens [.v (.slice (.pair .int (.slice (.slice .int)))), .v .int]) : E_4.run a = funK C_4 Try.f5 [.v (.slice (.pair .int (.slice (.slice .int)))), .v .int] [.v .int] a (fun o r => some (N_4 o r)) := by
 kernel_rfl
theorem W_4 : loopsOf D_4 = [B_4L5] := by kernel_rfl
theorem R_4L5 : firstReg B_4L5 = 5 := by kernel_rfl
theorem Q_4 : Try.prog.funcs[5]? = some Try.f5 ∧ (Try.f5.name == "runtime.NumGoroutine") = false ∧ Try.f5.body = some D_4 := ⟨Try.func5, by kernel_rfl, by kernel_rfl⟩
theorem H_4 : Holds Try.prog 5 E_4 :=
 holds_of (cx := C_4) (tabOk_ok tabT rfl).1 (allT_ok ⟨⟨H_3, _, _, Q_3⟩, trivial⟩) mixT Q_4.1 Q_4.2.2 (loops_of W_4 ⟨loop_of (cx := C_4) (L := S_4L5 fuel) rfl (by rw [R_4L5]; rfl) ⟨laws_szRelationS_L5, fun _ => rfl, fun n x => K_4L5 n x, fuel, fun _ => rfl⟩, trivial⟩) (enc := N_4) (fun _ _ => ⟨rfl, rfl⟩) F_4
theorem K_5L3 (n : Nat) (x) : laws_toIntS_L3 (n + 1) x = roundK C_5 B_5L3 (S_5L3 fuel) x (laws_toIntS_L3 n) := by
 obtain ⟨_, _, _⟩ := x
 kernel_rfl
theorem F_5 (a : dens [.v (.slice .int)]) : E_5.run a = funK C_5 Try.f106 [.v (.slice .int)] [.mv .int 0] a (fun o r => some (N_5 o r)) := by
 kernel_rfl
theorem W_5 : loopsOf D_5 = [B_5L3] := by kernel_rfl
theorem R_5L3 : firstReg B_5L3 = 3 := by kernel_rfl
theorem Q_5 : Try.prog.funcs[106]? = some Try.f106 ∧ (Try.f106.name == "runtime.NumGoroutine") = false ∧ Try.f106.body = some D_5 := ⟨Try.func106, by kernel_rfl, by kernel_rfl⟩
theorem H_5 : Holds Try.prog 106 E_5 :=
 holds_of (cx := C_5) (tabOk_ok tabT rfl).1 (allT_ok trivial) mixT Q_5.1 Q_5.2.2 (loops_of W_5 ⟨loop_of (cx := C_5) (L := S_5L3 fuel) rfl (by rw [R_5L3]; rfl) ⟨laws_toIntS_L3, fun _ => rfl, fun n x => K_5L3 n x, fuel, fun _ => rfl⟩, trivial⟩) (enc := N_5) (fun _ _ => ⟨rfl, rfl⟩) F_5
theorem K_6L3 (n : Nat) (x) : laws_toIntSS_L3 (n + 1) x = roundK C_6 B_6L3 (S_6L3 fuel) x (laws_toIntSS_L3 n) := by
 obtain ⟨_, _, _⟩ := x
 kernel_rfl
theorem F_6 (a : dens [.v (.slice (.slice .int))]) : E_6.run a = funK C_6 Try.f79 [.v (.slice (.slice .int))] [.mv (.slice .int) 1] a (fun o r => some (N_6 o r)) := by
 kernel_rfl
theorem W_6 : loopsOf D_6 = [B_6L3] := by kernel_rfl
theorem R_6L3 : firstReg B_6L3 = 3 := by kernel_rfl
theorem Q_6 : Try.prog.funcs[79]? = some Try.f79 ∧ (Try.f79.name == "runtime.NumGoroutine") = false ∧ Try.f79.body = some D_6 := ⟨Try.func79, by kernel_rfl, by kernel_rfl⟩
theorem H_6 : Holds Try.prog 79 E_6 :=
 holds_of (cx := C_6) (tabOk_ok tabT rfl).1 (allT_ok ⟨⟨H_5, _, _, Q_5⟩, trivial⟩) mixT Q_6.1 Q_6.2.2 (loops_of W_6 ⟨loop_of (cx := C_6) (L := S_6L3 fuel) rfl (by rw [R_6L3]; rfl) ⟨laws_toIntSS_L3, fun _ => rfl, fun n x => K_6L3 n x, fuel, fun _ => rfl⟩, trivial⟩) (enc := N_6) (fun _ _ => ⟨rfl, rfl⟩) F_6
theorem F_7 (a : dens [.v (.pair .int (.slice (.slice .int)))]) : E_7.run a = funK C_7 Try.f37 [.v (.pair .int (.slice (.slice .int)))] [.pr (.v .int) (.mv (.slice .int) 1)] a (fun o r => some (N_7 o r)) := by
 kernel_rfl
theorem W_7 : loopsOf D_7 = [] := by kernel_rfl
theorem Q_7 : Try.prog.funcs[37]? = some Try.f37 ∧ (Try.f37.name == "runtime.NumGoroutine") = false ∧ Try.f37.body = some D_7 := ⟨Try.func37, by kernel_rfl, by kernel_rfl⟩
theorem H_7 : Holds Try.prog 37 E_7 :=
 holds_of (cx := C_7) (tabOk_ok tabT rfl).1 (allT_ok ⟨⟨H_6, _, _, Q_6⟩, trivial⟩) mixT Q_7.1 Q_7.2.2 (loops_of W_7 trivial) (enc := N_7) (fun _ _ => ⟨rfl, rfl⟩) F_7
theorem K_8L3 (n : Nat) (x) : laws_toRelationS_L3 (n + 1) x = roundK C_8 B_8L3 (S_8L3 fuel) x (laws_toRelationS_L3 n) := by
 obtain ⟨_, _, _⟩ := x
 kernel_rfl
theorem F_8 (a : dens [.v (.slice (.pair .int (.slice (.slice .int))))]) : E_8.run a = funK C_8 Try.f7 [.v (.slice (.pair .int (.slice (.slice .int))))] [.mv (.pair .int (.slice (.slice .int))) 2] a (fun o r => some (N_8 o r)) := by
 kernel_rfl
theorem W_8 : loopsOf D_8 = [B_8L3] := by kernel_rfl
theorem R_8L3 : firstReg B_8L3 = 3 := by kernel_rfl
theorem Q_8 : Try.prog.funcs[7]? = some Try.f7 ∧ (Try.f7.name == "runtime.NumGoroutine") = false ∧ Try.f7.body = some D_8 := ⟨Try.func7, by kernel_rfl, by kernel_rfl⟩
theorem H_8 : Holds Try.prog 7 E_8 :=
 holds_of (cx := C_8) (tabOk_ok tabT rfl).1 (allT_ok ⟨⟨H_7, _, _, Q_7⟩, trivial⟩) mixT Q_8.1 Q_8.2.2 (loops_of W_8 ⟨loop_of (cx := C_8) (L := S_8L3 fuel) rfl (by rw [R_8L3]; rfl) ⟨laws_toRelationS_L3, fun _ => rfl, fun n x => K_8L3 n x, fuel, fun _ => rfl⟩, trivial⟩) (enc := N_8) (fun _ _ => ⟨rfl, rfl⟩) F_8
theorem F_9 (a : dens [.v .int, .v .int, .v .int]) : E_9.run a = funK C_9 Try.f72 [.v .int, .v .int, .v .int] [.v .bool] a (fun o r => some (N_9 o r)) := by
 kernel_rfl
theorem W_9 : loopsOf D_9 = [] := by kernel_rfl
theorem Q_9 : Try.prog.funcs[72]? = some Try.f72 ∧ (Try.f72.name == "runtime.NumGoroutine") = false ∧ Try.f72.body = some D_9 := ⟨Try.func72, by kernel_rfl, by kernel_rfl⟩
theorem H_9 : Holds Try.prog 72 E_9 :=
 holds_of (cx := C_9) (tabOk_ok tabT rfl).1 (allT_ok trivial) mixT Q_9.1 Q_9.2.2 (loops_of W_9 trivial) (enc := N_9) (fun _ _ => ⟨rfl, rfl⟩) F_9
theorem F_10 (a : dens [.v .int]) : E_10.run a = funK C_10 Try.f70 [.v .int] [.v .bool] a (fun o r => some (N_10 o r)) := by
 kernel_rfl
theorem W_10 : loopsOf D_10 = [] := by kernel_rfl
theorem Q_10 : Try.prog.funcs[70]? = some Try.f70 ∧ (Try.f70.name == "runtime.NumGoroutine") = false ∧ Try.f70.body = some D_10 := ⟨Try.func70, by kernel_rfl, by kernel_rfl⟩
theorem H_10 : Holds Try.prog 70 E_10 :=
 holds_of (cx := C_10) (tabOk_ok tabT rfl).1 (allT_ok ⟨⟨H_9, _, _, Q_9⟩, trivial⟩) mixT Q_10.1 Q_10.2.2 (loops_of W_10 trivial) (enc := N_10) (fun _ _ => ⟨rfl, rfl⟩) F_10
theorem K_11L2 (n : Nat) (x) : spec_l2Pow_L2 (n + 1) x = roundK C_11 B_11L2 (S_11L2 fuel) x (spec_l2Pow_L2 n) := by
 obtain ⟨_, _, _⟩ := x
 kernel_rfl
theorem F_11 (a : dens [.v .int, .v .int]) : E_11.run a = funK C_11 Try.f76 [.v .int, .v .int] [.v .int] a (fun o r => some (N_11 o r)) := by
 kernel_rfl
theorem W_11 : loopsOf D_11 = [B_11L2] := by kernel_rfl
theorem R_11L2 : firstReg B_11L2 = 2 := by kernel_rfl
theorem Q_11 : Try.prog.funcs[76]? = some Try.f76 ∧ (Try.f76.name == "runtime.NumGoroutine") = false ∧ Try.f76.body = some D_11 := ⟨Try.func76, by kernel_rfl, by kernel_rfl⟩
theorem H_11 : Holds Try.prog 76 E_11 :=
 holds_of (cx := C_11) (tabOk_ok tabT rfl).1 (allT_ok trivial) mixT Q_11.1 Q_11.2.2 (loops_of W_11 ⟨loop_of (cx := C_11) (L := S_11L2 fuel) rfl (by rw [R_11L2]; rfl) ⟨spec_l2Pow_L2, fun _ => rfl, fun n x => K_11L2 n x, fuel, fun _ => rfl⟩, trivial⟩) (enc := N_11) (fun _ _ => ⟨rfl, rfl⟩) F_11
theorem K_12L2 (n : Nat) (x) : spec_l2Elements_L2 (n + 1) x = roundK C_12 B_12L2 (S_12L2 fuel) x (spec_l2Elements_L2 n) := by
 obtain ⟨_, _, _⟩ := x
 kernel_rfl
theorem F_12 (a : dens [.v .int, .v (.slice .int)]) : E_12.run a = funK C_12 Try.f127 [.v .int, .v (.slice .int)] [.v .bool] a (fun o r => some (N_12 o r)) := by
 kernel_rfl
theorem W_12 : loopsOf D_12 = [B_12L2] := by kernel_rfl
theorem R_12L2 : firstReg B_12L2 = 2 := by kernel_rfl
theorem Q_12 : Try.prog.funcs[127]? = some Try.f127 ∧ (Try.f127.name == "runtime.NumGoroutine") = false ∧ Try.f127.body = some D_12 := ⟨Try.func127, by kernel_rfl, by kernel_rfl⟩
theorem H_12 : Holds Try.prog 127 E_12 :=
 holds_of (cx := C_12) (tabOk_ok tabT rfl).1 (allT_ok ⟨⟨H_9, _, _, Q_9⟩, trivial⟩) mixT Q_12.1 Q_12.2.2 (loops_of W_12 ⟨loop_of (cx := C_12) (L := S_12L2 fuel) rfl (by rw [R_12L2]; rfl) ⟨spec_l2Elements_L2, fun _ => rfl, fun n x => K_12L2 n x, fuel, fun _ => rfl⟩, trivial⟩) (enc := N_12) (fun _ _ => ⟨rfl, rfl⟩) F_12
theorem F_13 (a : dens [.v .int, .v .int, .v (.slice .int)]) : E_13.run a = funK C_13 Try.f117 [.v .int, .v .int, .v (.slice .int)] [.v .bool] a (fun o r => some (N_13 o r)) := by
 kernel_rfl
theorem W_13 : loopsOf D_13 = [] := by kernel_rfl
theorem Q_13 : Try.prog.funcs[117]? = some Try.f117 ∧ (Try.f117.name == "runtime.NumGoroutine") = false ∧ Try.f117.body = some D_13 := ⟨Try.func117, by kernel_rfl, by kernel_rfl⟩
theorem H_13 : Holds Try.prog 117 E_13 :=
 holds_of (cx := C_13) (tabOk_ok tabT rfl).1 (allT_ok ⟨⟨H_12, _, _, Q_12⟩, trivial⟩) mixT Q_13.1 Q_13.2.2 (loops_of W_13 trivial) (enc := N_13) (fun _ _ => ⟨rfl, rfl⟩) F_13
theorem K_14L2 (n : Nat) (x) : spec_l3Less_L2 (n + 1) x = roundK C_14 B_14L2 (S_14L2 fuel) x (spec_l3Less_L2 n) := by
 obtain ⟨_, _, _⟩ := x
 kernel_rfl
theorem F_14 (a : dens [.v (.slice .int), .v (.slice .int)]) : E_14.run a = funK C_14 Try.f115 [.v (.slice .int), .v (.slice .int)] [.v .bool] a (fun o r => some (N_14 o r)) := by
 kernel_rfl
theorem W_14 : loopsOf D_14 = [B_14L2] := by kernel_rfl
theorem R_14L2 : firstReg B_14L2 = 2 := by kernel_rfl
theorem Q_14 : Try.prog.funcs[115]? = some Try.f115 ∧ (Try.f115.name == "runtime.NumGoroutine") = false ∧ Try.f115.body = some D_14 := ⟨Try.func115, by kernel_rfl, by kernel_rfl⟩
theorem H_14 : Holds Try.prog 115 E_14 :=
 holds_of (cx := C_14) (tabOk_ok tabT rfl).1 (allT_ok trivial) mixT Q_14.1 Q_14.2.2 (loops_of W_14 ⟨loop_of (cx := C_14) (L := S_14L2 fuel) rfl (by rw [R_14L2]; rfl) ⟨spec_l3Less_L2, fun _ => rfl, fun n x => K_14L2 n x, fuel, fun _ => rfl⟩, trivial⟩) (enc := N_14) (fun _ _ => ⟨rfl, rfl⟩) F_14
theorem K_15L4 (n : Nat) (x) : spec_l13Good_L4 (n + 1) x = roundK C_15 B_15L4 (S_15L4 fuel) x (spec_l13Good_L4 n) := by
 obtain ⟨_, _, _⟩ := x
 kernel_rfl
theorem F_15 (a : dens [.v .int, .v (.pair .int (.slice (.slice .int)))]) : E_15.run a = funK C_15 Try.f101 [.v .int, .v (.pair .int (.slice (.slice .int)))] [.v .bool] a (fun o r => some (N_15 o r)) := by
 kernel_rfl
theorem W_15 : loopsOf D_15 = [B_15L4] := by kernel_rfl
theorem R_15L4 : firstReg B_15L4 = 4 := by kernel_rfl
theorem Q_15 : Try.prog.funcs[101]? = some Try.f101 ∧ (Try.f101.name == "runtime.NumGoroutine") = false ∧ Try.f101.body = some D_15 := ⟨Try.func101, by kernel_rfl, by kernel_rfl⟩
theorem H_15 : Holds Try.prog 101 E_15 :=
 holds_of (cx := C_15) (tabOk_ok tabT rfl).1 (allT_ok ⟨⟨H_9, _, _, Q_9⟩, ⟨⟨H_11, _, _, Q_11⟩, ⟨⟨H_14, _, _, Q_14⟩, ⟨⟨H_13, _, _, Q_13⟩, trivial⟩⟩⟩⟩) mixT Q_15.1 Q_15.2.2 (loops_of W_15 ⟨loop_of (cx := C_15) (L := S_15L4 fuel) rfl (by rw [R_15L4]; rfl) ⟨spec_l13Good_L4, fun _ => rfl, fun n x => K_15L4 n x, fuel, fun _ => rfl⟩, trivial⟩) (enc := N_15) (fun _ _ => ⟨rfl, rfl⟩) F_15
theorem K_16L4 (n : Nat) (x) : spec_l14Rels_L4 (n + 1) x = roundK C_16 B_16L4 (S_16L4 fuel) x (spec_l14Rels_L4 n) := by
 obtain ⟨_, _, _⟩ := x
 kernel_rfl
theorem F_16 (a : dens [.v .int, .v (.slice (.pair .int (.slice (.slice .int))))]) : E_16.run a = funK C_16 Try.f71 [.v .int, .v (.slice (.pair .int (.slice (.slice .int))))] [.v .bool] a (fun o r => some (N_16 o r)) := by
 kernel_rfl
theorem W_16 : loopsOf D_16 = [B_16L4] := by kernel_rfl
theorem R_16L4 : firstReg B_16L4 = 4 := by kernel_rfl
theorem Q_16 : Try.prog.funcs[71]? = some Try.f71 ∧ (Try.f71.name == "runtime.NumGoroutine") = false ∧ Try.f71.body = some D_16 := ⟨Try.func71, by kernel_rfl, by kernel_rfl⟩
theorem H_16 : Holds Try.prog 71 E_16 :=
 holds_of (cx := C_16) (tabOk_ok tabT rfl).1 (allT_ok ⟨⟨H_15, _, _, Q_15⟩, trivial⟩) mixT Q_16.1 Q_16.2.2 (loops_of W_16 ⟨loop_of (cx := C_16) (L := S_16L4 fuel) rfl (by rw [R_16L4]; rfl) ⟨spec_l14Rels_L4, fun _ => rfl, fun n x => K_16L4 n x, fuel, fun _ => rfl⟩, trivial⟩) (enc := N_16) (fun _ _ => ⟨rfl, rfl⟩) F_16
theorem K_17L4 (n : Nat) (x) : spec_l14Takes_L4 (n + 1) x = roundK C_17 B_17L4 (S_17L4 fuel) x (spec_l14Takes_L4 n) := by
 obtain ⟨_, _, _⟩ := x
 kernel_rfl
theorem F_17 (a : dens [.v .int, .v (.slice (.pair .int (.slice (.slice .int)))), .v .int]) : E_17.run a = funK C_17 Try.f32 [.v .int, .v (.slice (.pair .int (.slice (.slice .int)))), .v .int] [.v .bool] a (fun o r => some (N_17 o r)) := by
 kernel_rfl
theorem W_17 : loopsOf D_17 = [B_17L4] := by kernel_rfl
theorem R_17L4 : firstReg B_17L4 = 4 := by kernel_rfl
theorem Q_17 : Try.prog.funcs[32]? = some Try.f32 ∧ (Try.f32.name == "runtime.NumGoroutine") = false ∧ Try.f32.body = some D_17 := ⟨Try.func32, by kernel_rfl, by kernel_rfl⟩
theorem H_17 : Holds Try.prog 32 E_17 :=
 holds_of (cx := C_17) (tabOk_ok tabT rfl).1 (allT_ok ⟨⟨H_10, _, _, Q_10⟩, ⟨⟨H_16, _, _, Q_16⟩, ⟨⟨H_9, _, _, Q_9⟩, trivial⟩⟩⟩) mixT Q_17.1 Q_17.2.2 (loops_of W_17 ⟨loop_of (cx := C_17) (L := S_17L4 fuel) rfl (by rw [R_17L4]; rfl) ⟨spec_l14Takes_L4, fun _ => rfl, fun n x => K_17L4 n x, fuel, fun _ => rfl⟩, trivial⟩) (enc := N_17) (fun _ _ => ⟨rfl, rfl⟩) F_17
theorem K_18L3 (n : Nat) (x) : spec_l14Free_L3 (n + 1) x = roundK C_18 B_18L3 (S_18L3 fuel) x (spec_l14Free_L3 n) := by
 obtain ⟨_, _, _⟩ := x
 kernel_rfl
theorem F_18 (a : dens [.v .int]) : E_18.run a = funK C_18 Try.f75 [.v .int] [.mv .int 0] a (fun o r => some (N_18 o r)) := by
 kernel_rfl
theorem W_18 : loopsOf D_18 = [B_18L3] := by kernel_rfl
theorem R_18L3 : firstReg B_18L3 = 3 := by kernel_rfl
theorem Q_18 : Try.prog.funcs[75]? = some Try.f75 ∧ (Try.f75.name == "runtime.NumGoroutine") = false ∧ Try.f75.body = some D_18 := ⟨Try.func75, by kernel_rfl, by kernel_rfl⟩
theorem H_18 : Holds Try.prog 75 E_18 :=
 holds_of (cx := C_18) (tabOk_ok tabT rfl).1 (allT_ok trivial) mixT Q_18.1 Q_18.2.2 (loops_of W_18 ⟨loop_of (cx := C_18) (L := S_18L3 fuel) rfl (by rw [R_18L3]; rfl) ⟨spec_l14Free_L3, fun _ => rfl, fun n x => K_18L3 n x, fuel, fun _ => rfl⟩, trivial⟩) (enc := N_18) (fun _ _ => ⟨rfl, rfl⟩) F_18
theorem K_19L7 (n : Nat) (x) : spec_l14Idempotent_L7 (n + 1) x = roundK C_19 B_19L7 (S_19L7 fuel) x (spec_l14Idempotent_L7 n) := by
 obtain ⟨_, _, _, _, _, _⟩ := x
 kernel_rfl
theorem K_19L3 (n : Nat) (x) : spec_l14Idempotent_L3 (n + 1) x = roundK C_19 B_19L3 (S_19L3 fuel) x (spec_l14Idempotent_L3 n) := by
 obtain ⟨_, _, _, _⟩ := x
 kernel_rfl
theorem F_19 (a : dens [.v .int, .v .int]) : E_19.run a = funK C_19 Try.f34 [.v .int, .v .int] [.mv .int 0] a (fun o r => some (N_19 o r)) := by
 kernel_rfl
theorem W_19 : loopsOf D_19 = [B_19L3, B_19L7] := by kernel_rfl
theorem R_19L7 : firstReg B_19L7 = 7 := by kernel_rfl
theorem R_19L3 : firstReg B_19L3 = 3 := by kernel_rfl
theorem Q_19 : Try.prog.funcs[34]? = some Try.f34 ∧ (Try.f34.name == "runtime.NumGoroutine") = false ∧ Try.f34.body = some D_19 := ⟨Try.func34, by kernel_rfl, by kernel_rfl⟩
theorem H_19 : Holds Try.prog 34 E_19 :=
 holds_of (cx := C_19) (tabOk_ok tabT rfl).1 (allT_ok ⟨⟨H_18, _, _, Q_18⟩, ⟨⟨H_11, _, _, Q_11⟩, trivial⟩⟩) mixT Q_19.1 Q_19.2.2 (loops_of W_19 ⟨loop_of (cx := C_19) (L := S_19L3 fuel) rfl (by rw [R_19L3]; rfl) ⟨spec_l14Idempotent_L3, fun _ => rfl, fun n x => K_19L3 n x, fuel, fun _ => rfl⟩, ⟨loop_of (cx := C_19) (L := S_19L7 fuel) rfl (by rw [R_19L7]; rfl) ⟨spec_l14Idempotent_L7, fun _ => rfl, fun n x => K_19L7 n x, fuel, fun _ => rfl⟩, trivial⟩⟩) (enc := N_19) (fun _ _ => ⟨rfl, rfl⟩) F_19
theorem K_20L3 (n : Nat) (x) : spec_l2Args_L3 (n + 1) x = roundK C_20 B_20L3 (S_20L3 fuel) x (spec_l2Args_L3 n) := by
 obtain ⟨_, _, _, _⟩ := x
 kernel_rfl
theorem F_20 (a : dens [.v .int, .v .int, .v .int]) : E_20.run a = funK C_20 Try.f103 [.v .int, .v .int, .v .int] [.mv .int 0] a (fun o r => some (N_20 o r)) := by
 kernel_rfl
theorem W_20 : loopsOf D_20 = [B_20L3] := by kernel_rfl
theorem R_20L3 : firstReg B_20L3 = 3 := by kernel_rfl
theorem Q_20 : Try.prog.funcs[103]? = some Try.f103 ∧ (Try.f103.name == "runtime.NumGoroutine") = false ∧ Try.f103.body = some D_20 := ⟨Try.func103, by kernel_rfl, by kernel_rfl⟩
theorem H_20 : Holds Try.prog 103 E_20 :=
 holds_of (cx := C_20) (tabOk_ok tabT rfl).1 (allT_ok trivial) mixT Q_20.1 Q_20.2.2 (loops_of W_20 ⟨loop_of (cx := C_20) (L := S_20L3 fuel) rfl (by rw [R_20L3]; rfl) ⟨spec_l2Args_L3, fun _ => rfl, fun n x => K_20L3 n x, fuel, fun _ => rfl⟩, trivial⟩) (enc := N_20) (fun _ _ => ⟨rfl, rfl⟩) F_20
theorem F_21 (a : dens [.v .int, .v .int]) : E_21.run a = funK C_21 Try.f104 [.v .int, .v .int] [.v .int] a (fun o r => some (N_21 o r)) := by
 kernel_rfl
theorem W_21 : loopsOf D_21 = [] := by kernel_rfl
theorem Q_21 : Try.prog.funcs[104]? = some Try.f104 ∧ (Try.f104.name == "runtime.NumGoroutine") = false ∧ Try.f104.body = some D_21 := ⟨Try.func104, by kernel_rfl, by kernel_rfl⟩
theorem H_21 : Holds Try.prog 104 E_21 :=
 holds_of (cx := C_21) (tabOk_ok tabT rfl).1 (allT_ok trivial) mixT Q_21.1 Q_21.2.2 (loops_of W_21 trivial) (enc := N_21) (fun _ _ => ⟨rfl, rfl⟩) F_21
theorem K_22L3 (n : Nat) (x) : spec_l14Needs_L3 (n + 1) x = roundK C_22 B_22L3 (S_22L3 fuel) x (spec_l14Needs_L3 n) := by
 obtain ⟨_, _, _, _, _⟩ := x
 kernel_rfl
theorem K_22L21 (n : Nat) (x) : spec_l14Needs_L21 (n + 1) x = roundK C_22 B_22L21 (S_22L21 fuel) x (spec_l14Needs_L21 n) := by
 obtain ⟨_, _, _, _, _, _, _, _, _, _, _, _, _⟩ := x
 kernel_rfl
theorem K_22L17 (n : Nat) (x) : spec_l14Needs_L17 (n + 1) x = roundK C_22 B_22L17 (S_22L17 fuel) x (spec_l14Needs_L17 n) := by
 obtain ⟨_, _, _, _, _, _, _, _, _, _, _⟩ := x
 kernel_rfl
theorem K_22L11 (n : Nat) (x) : spec_l14Needs_L11 (n + 1) x = roundK C_22 B_22L11 (S_22L11 fuel) x (spec_l14Needs_L11 n) := by
 obtain ⟨_, _, _, _, _, _, _⟩ := x
 kernel_rfl
theorem K_22L7 (n : Nat) (x) : spec_l14Needs_L7 (n + 1) x = roundK C_22 B_22L7 (S_22L7 fuel) x (spec_l14Needs_L7 n) := by
 obtain ⟨_, _, _, _, _⟩ := x
 kernel_rfl
theorem F_22 (a : dens [.v .int, .v (.slice (.pair .int (.slice (.slice .int)))), .v .int]) : E_22.run a = funK C_22 Try.f74 [.v .int, .v (.slice (.pair .int (.slice (.slice .int)))), .v .int] [.mv (.slice (.pair (.slice .int) (.pair .int (.slice (.slice .int))))) 1] a (fun o r => some (N_22 o r)) := by
 kernel_rfl
theorem W_22 : loopsOf D_22 = [B_22L3, B_22L7, B_22L11, B_22L17, B_22L21] := by kernel_rfl
theorem R_22L3 : firstReg B_22L3 = 3 := by kernel_rfl
theorem R_22L21 : firstReg B_22L21 = 21 := by kernel_rfl
theorem R_22L17 : firstReg B_22L17 = 17 := by kernel_rfl
theorem R_22L11 : firstReg B_22L11 = 11 := by kernel_rfl
theorem R_22L7 : firstReg B_22L7 = 7 := by kernel_rfl
theorem Q_22 : Try.prog.funcs[74]? = some Try.f74 ∧ (Try.f74.name == "runtime.NumGoroutine") = false ∧ Try.f74.body = some D_22 := ⟨Try.func74, by kernel_rfl, by kernel_rfl⟩
theorem H_22 : Holds Try.prog 74 E_22 :=
 holds_of (cx := C_22) (tabOk_ok tabT rfl).1 (allT_ok ⟨⟨H_11, _, _, Q_11⟩, ⟨⟨H_20, _, _, Q_20⟩, ⟨⟨H_21, _, _, Q_21⟩, trivial⟩⟩⟩) mixT Q_22.1 Q_22.2.2 (loops_of W_22 ⟨loop_of (cx := C_22) (L := S_22L3 fuel) rfl (by rw [R_22L3]; rfl) ⟨spec_l14Needs_L3, fun _ => rfl, fun n x => K_22L3 n x, fuel, fun _ => rfl⟩, ⟨loop_of (cx := C_22) (L := S_22L7 fuel) rfl (by rw [R_22L7]; rfl) ⟨spec_l14Needs_L7, fun _ => rfl, fun n x => K_22L7 n x, fuel, fun _ => rfl⟩, ⟨loop_of (cx := C_22) (L := S_22L11 fuel) rfl (by rw [R_22L11]; rfl) ⟨spec_l14Needs_L11, fun _ => rfl, fun n x => K_22L11 n x, fuel, fun _ => rfl⟩, ⟨loop_of (cx := C_22) (L := S_22L17 fuel) rfl (by rw [R_22L17]; rfl) ⟨spec_l14Needs_L17, fun _ => rfl, fun n x => K_22L17 n x, fuel, fun _ => rfl⟩, ⟨loop_of (cx := C_22) (L := S_22L21 fuel) rfl (by rw [R_22L21]; rfl) ⟨spec_l14Needs_L21, fun _ => rfl, fun n x => K_22L21 n x, fuel, fun _ => rfl⟩, trivial⟩⟩⟩⟩⟩) (enc := N_22) (fun _ _ => ⟨rfl, rfl⟩) F_22
theorem F_23 (a : dens [.v (.slice .int)]) : E_23.run a = funK C_23 Try.f61 [.v (.slice .int)] [.mv .int 0] a (fun o r => some (N_23 o r)) := by
 kernel_rfl
theorem W_23 : loopsOf D_23 = [] := by kernel_rfl
theorem Q_23 : Try.prog.funcs[61]? = some Try.f61 ∧ (Try.f61.name == "runtime.NumGoroutine") = false ∧ Try.f61.body = some D_23 := ⟨Try.func61, by kernel_rfl, by kernel_rfl⟩
theorem H_23 : Holds Try.prog 61 E_23 :=
 holds_of (cx := C_23) (tabOk_ok tabT rfl).1 (allT_ok trivial) mixT Q_23.1 Q_23.2.2 (loops_of W_23 trivial) (enc := N_23) (fun _ _ => ⟨rfl, rfl⟩) F_23
theorem K_24L4 (n : Nat) (x) : spec_l1Same_L4 (n + 1) x = roundK C_24 B_24L4 (S_24L4 fuel) x (spec_l1Same_L4 n) := by
 obtain ⟨_, _, _⟩ := x
 kernel_rfl
theorem F_24 (a : dens [.v (.slice .int), .v (.slice .int)]) : E_24.run a = funK C_24 Try.f116 [.v (.slice .int), .v (.slice .int)] [.v .bool] a (fun o r => some (N_24 o r)) := by
 kernel_rfl
theorem W_24 : loopsOf D_24 = [B_24L4] := by kernel_rfl
theorem R_24L4 : firstReg B_24L4 = 4 := by kernel_rfl
theorem Q_24 : Try.prog.funcs[116]? = some Try.f116 ∧ (Try.f116.name == "runtime.NumGoroutine") = false ∧ Try.f116.body = some D_24 := ⟨Try.func116, by kernel_rfl, by kernel_rfl⟩
theorem H_24 : Holds Try.prog 116 E_24 :=
 holds_of (cx := C_24) (tabOk_ok tabT rfl).1 (allT_ok trivial) mixT Q_24.1 Q_24.2.2 (loops_of W_24 ⟨loop_of (cx := C_24) (L := S_24L4 fuel) rfl (by rw [R_24L4]; rfl) ⟨spec_l1Same_L4, fun _ => rfl, fun n x => K_24L4 n x, fuel, fun _ => rfl⟩, trivial⟩) (enc := N_24) (fun _ _ => ⟨rfl, rfl⟩) F_24
theorem K_25L2 (n : Nat) (x) : spec_l8Find_L2 (n + 1) x = roundK C_25 B_25L2 (S_25L2 fuel) x (spec_l8Find_L2 n) := by
 obtain ⟨_, _, _, _⟩ := x
 kernel_rfl
theorem F_25 (a : dens [.v (.slice (.slice .int)), .v (.slice .int)]) : E_25.run a = funK C_25 Try.f98 [.v (.slice (.slice .int)), .v (.slice .int)] [.v .int, .v .bool] a (fun o r => some (N_25 o r)) := by
 kernel_rfl
theorem W_25 : loopsOf D_25 = [B_25L2] := by kernel_rfl
theorem R_25L2 : firstReg B_25L2 = 2 := by kernel_rfl
theorem Q_25 : Try.prog.funcs[98]? = some Try.f98 ∧ (Try.f98.name == "runtime.NumGoroutine") = false ∧ Try.f98.body = some D_25 := ⟨Try.func98, by kernel_rfl, by kernel_rfl⟩
theorem H_25 : Holds Try.prog 98 E_25 :=
 holds_of (cx := C_25) (tabOk_ok tabT rfl).1 (allT_ok ⟨⟨H_14, _, _, Q_14⟩, ⟨⟨H_24, _, _, Q_24⟩, trivial⟩⟩) mixT Q_25.1 Q_25.2.2 (loops_of W_25 ⟨loop_of (cx := C_25) (L := S_25L2 fuel) rfl (by rw [R_25L2]; rfl) ⟨spec_l8Find_L2, fun _ => rfl, fun n x => K_25L2 n x, fuel, fun _ => rfl⟩, trivial⟩) (enc := N_25) (fun _ _ => ⟨rfl, rfl⟩) F_25
theorem F_26 (a : dens [.v (.pair .int (.slice (.slice .int))), .v (.slice .int)]) : E_26.run a = funK C_26 Try.f64 [.v (.pair .int (.slice (.slice .int))), .v (.slice .int)] [.v .bool] a (fun o r => some (N_26 o r)) := by
 kernel_rfl
theorem W_26 : loopsOf D_26 = [] := by kernel_rfl
theorem Q_26 : Try.prog.funcs[64]? = some Try.f64 ∧ (Try.f64.name == "runtime.NumGoroutine") = false ∧ Try.f64.body = some D_26 := ⟨Try.func64, by kernel_rfl, by kernel_rfl⟩
theorem H_26 : Holds Try.prog 64 E_26 :=
 holds_of (cx := C_26) (tabOk_ok tabT rfl).1 (allT_ok ⟨⟨H_25, _, _, Q_25⟩, trivial⟩) mixT Q_26.1 Q_26.2.2 (loops_of W_26 trivial) (enc := N_26) (fun _ _ => ⟨rfl, rfl⟩) F_26
theorem K_27L6 (n : Nat) (x) : spec_l14Holds_L6 (n + 1) x = roundK C_27 B_27L6 (S_27L6 fuel) x (spec_l14Holds_L6 n) := by
 obtain ⟨_, _, _, _, _⟩ := x
 kernel_rfl
theorem K_27L2 (n : Nat) (x) : spec_l14Holds_L2 (n + 1) x = roundK C_27 B_27L2 (S_27L2 fuel) x (spec_l14Holds_L2 n) := by
 obtain ⟨_, _, _⟩ := x
 kernel_rfl
theorem F_27 (a : dens [.v (.slice (.pair (.slice .int) (.pair .int (.slice (.slice .int))))), .v (.slice .int)]) : E_27.run a = funK C_27 Try.f102 [.v (.slice (.pair (.slice .int) (.pair .int (.slice (.slice .int))))), .v (.slice .int)] [.v .bool] a (fun o r => some (N_27 o r)) := by
 kernel_rfl
theorem W_27 : loopsOf D_27 = [B_27L2, B_27L6] := by kernel_rfl
theorem R_27L6 : firstReg B_27L6 = 6 := by kernel_rfl
theorem R_27L2 : firstReg B_27L2 = 2 := by kernel_rfl
theorem Q_27 : Try.prog.funcs[102]? = some Try.f102 ∧ (Try.f102.name == "runtime.NumGoroutine") = false ∧ Try.f102.body = some D_27 := ⟨Try.func102, by kernel_rfl, by kernel_rfl⟩
theorem H_27 : Holds Try.prog 102 E_27 :=
 holds_of (cx := C_27) (tabOk_ok tabT rfl).1 (allT_ok ⟨⟨H_26, _, _, Q_26⟩, trivial⟩) mixT Q_27.1 Q_27.2.2 (loops_of W_27 ⟨loop_of (cx := C_27) (L := S_27L2 fuel) rfl (by rw [R_27L2]; rfl) ⟨spec_l14Holds_L2, fun _ => rfl, fun n x => K_27L2 n x, fuel, fun _ => rfl⟩, ⟨loop_of (cx := C_27) (L := S_27L6 fuel) rfl (by rw [R_27L6]; rfl) ⟨spec_l14Holds_L6, fun _ => rfl, fun n x => K_27L6 n x, fuel, fun _ => rfl⟩, trivial⟩⟩) (enc := N_27) (fun _ _ => ⟨rfl, rfl⟩) F_27
theorem K_28L8 (rec : (Int × (List (List ((List Int) × Int × (List (List Int))))) × (List Int) × (List Int) × ((List (List Int)) × (Int × Int))) → Option (((List (List Int)) × (Int × Int)))) (n : Nat) (x) : spec_l14Go_L8 rec (n + 1) x = roundK (C_28 rec) B_28L8 (S_28L8 rec fuel) x (spec_l14Go_L8 rec n) := by
 obtain ⟨_, _, _, _, _, _, _, _⟩ := x
 kernel_rfl
theorem F_28 (rec : (Int × (List (List ((List Int) × Int × (List (List Int))))) × (List Int) × (List Int) × ((List (List Int)) × (Int × Int))) → Option (((List (List Int)) × (Int × Int)))) (a : dens [.v .int, .v (.slice (.slice (.pair (.slice .int) (.pair .int (.slice (.slice .int)))))), .v (.slice .int), .v (.slice .int), .pr (.mv (.slice .int) 1) (.v (.pair .int .int))]) : spec_l14Go_body rec a.1 a.2.1 a.2.2.1 a.2.2.2.1 a.2.2.2.2 = funK (C_28 rec) Try.f73 [.v .int, .v (.slice (.slice (.pair (.slice .int) (.pair .int (.slice (.slice .int)))))), .v (.slice .int), .v (.slice .int), .pr (.mv (.slice .int) 1) (.v (.pair .int .int))] [.pr (.mv (.slice .int) 1) (.v (.pair .int .int))] a (fun o r => some (N_28 o r)) := by
 kernel_rfl
theorem W_28 : loopsOf D_28 = [B_28L8] := by kernel_rfl
theorem R_28L8 : firstReg B_28L8 = 8 := by kernel_rfl
theorem Q_28 : Try.prog.funcs[73]? = some Try.f73 ∧ (Try.f73.name == "runtime.NumGoroutine") = false ∧ Try.f73.body = some D_28 := ⟨Try.func73, by kernel_rfl, by kernel_rfl⟩
theorem H_28 : ∀ d, Holds Try.prog 73 (E_28 d)
 | 0 => fun _ b h => absurd (show (none : Option _) = some b from h) (by simp)
 | d + 1 => holds_of (en := E_28 (d + 1)) (cx := (C_28 (spec_l14Go d))) (tabOk_ok tabT rfl).1 (allT_ok ⟨⟨H_23, _, _, Q_23⟩, ⟨⟨H_28 d, _, _, Q_28⟩, ⟨⟨H_27, _, _, Q_27⟩, trivial⟩⟩⟩) mixT Q_28.1 Q_28.2.2 (loops_of W_28 ⟨loop_of (cx := (C_28 (spec_l14Go d))) (L := S_28L8 (spec_l14Go d) fuel) rfl (by rw [R_28L8]; rfl) ⟨spec_l14Go_L8 (spec_l14Go d), fun _ => rfl, fun n x => K_28L8 (spec_l14Go d) n x, fuel, fun _ => rfl⟩, trivial⟩) (enc := N_28) (fun _ _ => ⟨rfl, rfl⟩) (F_28 (spec_l14Go d)) rfl
theorem F_29 (a : dens [.v .int, .v (.slice (.pair .int (.slice (.slice .int)))), .v .int, .v (.slice .int), .v .int]) : E_29.run a = funK C_29 Try.f33 [.v .int, .v (.slice (.pair .int (.slice (.slice .int)))), .v .int, .v (.slice .int), .v .int] [.pr (.mv (.slice .int) 1) (.v (.pair .int .int))] a (fun o r => some (N_29 o r)) := by
 kernel_rfl
theorem W_29 : loopsOf D_29 = [] := by kernel_rfl
theorem Q_29 : Try.prog.funcs[33]? = some Try.f33 ∧ (Try.f33.name == "runtime.NumGoroutine") = false ∧ Try.f33.body = some D_29 := ⟨Try.func33, by kernel_rfl, by kernel_rfl⟩
theorem H_29 : Holds Try.prog 33 E_29 :=
 holds_of (cx := C_29) (tabOk_ok tabT rfl).1 (allT_ok ⟨⟨H_28 fuel, _, _, Q_28⟩, ⟨⟨H_22, _, _, Q_22⟩, trivial⟩⟩) mixT Q_29.1 Q_29.2.2 (loops_of W_29 trivial) (enc := N_29) (fun _ _ => ⟨rfl, rfl⟩) F_29
theorem K_30L4 (n : Nat) (x) : spec_l2Op_L4 (n + 1) x = roundK C_30 B_30L4 (S_30L4 fuel) x (spec_l2Op_L4 n) := by
 obtain ⟨_, _, _⟩ := x
 kernel_rfl
theorem F_30 (a : dens [.v .int, .v (.pair .int (.slice .int))]) : E_30.run a = funK C_30 Try.f118 [.v .int, .v (.pair .int (.slice .int))] [.v .bool] a (fun o r => some (N_30 o r)) := by
 kernel_rfl
theorem W_30 : loopsOf D_30 = [B_30L4] := by kernel_rfl
theorem R_30L4 : firstReg B_30L4 = 4 := by kernel_rfl
theorem Q_30 : Try.prog.funcs[118]? = some Try.f118 ∧ (Try.f118.name == "runtime.NumGoroutine") = false ∧ Try.f118.body = some D_30 := ⟨Try.func118, by kernel_rfl, by kernel_rfl⟩
theorem H_30 : Holds Try.prog 118 E_30 :=
 holds_of (cx := C_30) (tabOk_ok tabT rfl).1 (allT_ok ⟨⟨H_9, _, _, Q_9⟩, ⟨⟨H_11, _, _, Q_11⟩, trivial⟩⟩) mixT Q_30.1 Q_30.2.2 (loops_of W_30 ⟨loop_of (cx := C_30) (L := S_30L4 fuel) rfl (by rw [R_30L4]; rfl) ⟨spec_l2Op_L4, fun _ => rfl, fun n x => K_30L4 n x, fuel, fun _ => rfl⟩, trivial⟩) (enc := N_30) (fun _ _ => ⟨rfl, rfl⟩) F_30
theorem K_31L4 (n : Nat) (x) : spec_l2Good_L4 (n + 1) x = roundK C_31 B_31L4 (S_31L4 fuel) x (spec_l2Good_L4 n) := by
 obtain ⟨_, _⟩ := x
 kernel_rfl
theorem F_31 (a : dens [.v (.pair .int (.slice (.pair .int (.slice .int))))]) : E_31.run a = funK C_31 Try.f105 [.v (.pair .int (.slice (.pair .int (.slice .int))))] [.v .bool] a (fun o r => some (N_31 o r)) := by
 kernel_rfl
theorem W_31 : loopsOf D_31 = [B_31L4] := by kernel_rfl
theorem R_31L4 : firstReg B_31L4 = 4 := by kernel_rfl
theorem Q_31 : Try.prog.funcs[105]? = some Try.f105 ∧ (Try.f105.name == "runtime.NumGoroutine") = false ∧ Try.f105.body = some D_31 := ⟨Try.func105, by kernel_rfl, by kernel_rfl⟩
theorem H_31 : Holds Try.prog 105 E_31 :=
 holds_of (cx := C_31) (tabOk_ok tabT rfl).1 (allT_ok ⟨⟨H_9, _, _, Q_9⟩, ⟨⟨H_30, _, _, Q_30⟩, trivial⟩⟩) mixT Q_31.1 Q_31.2.2 (loops_of W_31 ⟨loop_of (cx := C_31) (L := S_31L4 fuel) rfl (by rw [R_31L4]; rfl) ⟨spec_l2Good_L4, fun _ => rfl, fun n x => K_31L4 n x, fuel, fun _ => rfl⟩, trivial⟩) (enc := N_31) (fun _ _ => ⟨rfl, rfl⟩) F_31
theorem F_32 (a : dens [.v (.pair .int (.slice (.pair .int (.slice .int)))), .v .int]) : E_32.run a = funK C_32 Try.f77 [.v (.pair .int (.slice (.pair .int (.slice .int)))), .v .int] [.v .bool] a (fun o r => some (N_32 o r)) := by
 kernel_rfl
theorem W_32 : loopsOf D_32 = [] := by kernel_rfl
theorem Q_32 : Try.prog.funcs[77]? = some Try.f77 ∧ (Try.f77.name == "runtime.NumGoroutine") = false ∧ Try.f77.body = some D_32 := ⟨Try.func77, by kernel_rfl, by kernel_rfl⟩
theorem H_32 : Holds Try.prog 77 E_32 :=
 holds_of (cx := C_32) (tabOk_ok tabT rfl).1 (allT_ok ⟨⟨H_9, _, _, Q_9⟩, ⟨⟨H_31, _, _, Q_31⟩, trivial⟩⟩) mixT Q_32.1 Q_32.2.2 (loops_of W_32 trivial) (enc := N_32) (fun _ _ => ⟨rfl, rfl⟩) F_32
theorem K_33L3 (n : Nat) (x) : spec_l2Value_L3 (n + 1) x = roundK C_33 B_33L3 (S_33L3 fuel) x (spec_l2Value_L3 n) := by
 obtain ⟨_, _, _, _, _⟩ := x
 kernel_rfl
theorem F_33 (a : dens [.v (.pair .int (.slice (.pair .int (.slice .int)))), .v .int, .v (.slice .int)]) : E_33.run a = funK C_33 Try.f78 [.v (.pair .int (.slice (.pair .int (.slice .int)))), .v .int, .v (.slice .int)] [.v .int] a (fun o r => some (N_33 o r)) := by
 kernel_rfl
theorem W_33 : loopsOf D_33 = [B_33L3] := by kernel_rfl
theorem R_33L3 : firstReg B_33L3 = 3 := by kernel_rfl
theorem Q_33 : Try.prog.funcs[78]? = some Try.f78 ∧ (Try.f78.name == "runtime.NumGoroutine") = false ∧ Try.f78.body = some D_33 := ⟨Try.func78, by kernel_rfl, by kernel_rfl⟩
theorem H_33 : Holds Try.prog 78 E_33 :=
 holds_of (cx := C_33) (tabOk_ok tabT rfl).1 (allT_ok trivial) mixT Q_33.1 Q_33.2.2 (loops_of W_33 ⟨loop_of (cx := C_33) (L := S_33L3 fuel) rfl (by rw [R_33L3]; rfl) ⟨spec_l2Value_L3, fun _ => rfl, fun n x => K_33L3 n x, fuel, fun _ => rfl⟩, trivial⟩) (enc := N_33) (fun _ _ => ⟨rfl, rfl⟩) F_33
theorem K_34L7 (n : Nat) (x) : spec_IsCommutative_L7 (n + 1) x = roundK C_34 B_34L7 (S_34L7 fuel) x (spec_IsCommutative_L7 n) := by
 obtain ⟨_, _, _, _⟩ := x
 kernel_rfl
theorem K_34L4 (n : Nat) (x) : spec_IsCommutative_L4 (n + 1) x = roundK C_34 B_34L4 (S_34L4 fuel) x (spec_IsCommutative_L4 n) := by
 obtain ⟨_, _, _⟩ := x
 kernel_rfl
theorem F_34 (a : dens [.v (.pair .int (.slice (.pair .int (.slice .int)))), .v .int]) : E_34.run a = funK C_34 Try.f35 [.v (.pair .int (.slice (.pair .int (.slice .int)))), .v .int] [.v .bool, .v .bool] a (fun o r => some (N_34 o r)) := by
 kernel_rfl
theorem W_34 : loopsOf D_34 = [B_34L4, B_34L7] := by kernel_rfl
theorem R_34L7 : firstReg B_34L7 = 7 := by kernel_rfl
theorem R_34L4 : firstReg B_34L4 = 4 := by kernel_rfl
theorem Q_34 : Try.prog.funcs[35]? = some Try.f35 ∧ (Try.f35.name == "runtime.NumGoroutine") = false ∧ Try.f35.body = some D_34 := ⟨Try.func35, by kernel_rfl, by kernel_rfl⟩
theorem H_34 : Holds Try.prog 35 E_34 :=
 holds_of (cx := C_34) (tabOk_ok tabT rfl).1 (allT_ok ⟨⟨H_32, _, _, Q_32⟩, ⟨⟨H_33, _, _, Q_33⟩, trivial⟩⟩) mixT Q_34.1 Q_34.2.2 (loops_of W_34 ⟨loop_of (cx := C_34) (L := S_34L4 fuel) rfl (by rw [R_34L4]; rfl) ⟨spec_IsCommutative_L4, fun _ => rfl, fun n x => K_34L4 n x, fuel, fun _ => rfl⟩, ⟨loop_of (cx := C_34) (L := S_34L7 fuel) rfl (by rw [R_34L7]; rfl) ⟨spec_IsCommutative_L7, fun _ => rfl, fun n x => K_34L7 n x, fuel, fun _ => rfl⟩, trivial⟩⟩) (enc := N_34) (fun _ _ => ⟨rfl, rfl⟩) F_34
theorem K_35L10 (n : Nat) (x) : spec_IsAssociative_L10 (n + 1) x = roundK C_35 B_35L10 (S_35L10 fuel) x (spec_IsAssociative_L10 n) := by
 obtain ⟨_, _, _, _, _⟩ := x
 kernel_rfl
theorem K_35L7 (n : Nat) (x) : spec_IsAssociative_L7 (n + 1) x = roundK C_35 B_35L7 (S_35L7 fuel) x (spec_IsAssociative_L7 n) := by
 obtain ⟨_, _, _, _⟩ := x
 kernel_rfl
theorem K_35L4 (n : Nat) (x) : spec_IsAssociative_L4 (n + 1) x = roundK C_35 B_35L4 (S_35L4 fuel) x (spec_IsAssociative_L4 n) := by
 obtain ⟨_, _, _⟩ := x
 kernel_rfl
theorem F_35 (a : dens [.v (.pair .int (.slice (.pair .int (.slice .int)))), .v .int]) : E_35.run a = funK C_35 Try.f36 [.v (.pair .int (.slice (.pair .int (.slice .int)))), .v .int] [.v .bool, .v .bool] a (fun o r => some (N_35 o r)) := by
 kernel_rfl
theorem W_35 : loopsOf D_35 = [B_35L4, B_35L7, B_35L10] := by kernel_rfl
theorem R_35L10 : firstReg B_35L10 = 10 := by kernel_rfl
theorem R_35L7 : firstReg B_35L7 = 7 := by kernel_rfl
theorem R_35L4 : firstReg B_35L4 = 4 := by kernel_rfl
theorem Q_35 : Try.prog.funcs[36]? = some Try.f36 ∧ (Try.f36.name == "runtime.NumGoroutine") = false ∧ Try.f36.body = some D_35 := ⟨Try.func36, by kernel_rfl, by kernel_rfl⟩
theorem H_35 : Holds Try.prog 36 E_35 :=
 holds_of (cx := C_35) (tabOk_ok tabT rfl).1 (allT_ok ⟨⟨H_32, _, _, Q_32⟩, ⟨⟨H_33, _, _, Q_33⟩, trivial⟩⟩) mixT Q_35.1 Q_35.2.2 (loops_of W_35 ⟨loop_of (cx := C_35) (L := S_35L4 fuel) rfl (by rw [R_35L4]; rfl) ⟨spec_IsAssociative_L4, fun _ => rfl, fun n x => K_35L4 n x, fuel, fun _ => rfl⟩, ⟨loop_of (cx := C_35) (L := S_35L7 fuel) rfl (by rw [R_35L7]; rfl) ⟨spec_IsAssociative_L7, fun _ => rfl, fun n x => K_35L7 n x, fuel, fun _ => rfl⟩, ⟨loop_of (cx := C_35) (L := S_35L10 fuel) rfl (by rw [R_35L10]; rfl) ⟨spec_IsAssociative_L10, fun _ => rfl, fun n x => K_35L10 n x, fuel, fun _ => rfl⟩, trivial⟩⟩⟩) (enc := N_35) (fun _ _ => ⟨rfl, rfl⟩) F_35
theorem K_36L5 (n : Nat) (x) : spec_SemilatticePolymorphism_L5 (n + 1) x = roundK C_36 B_36L5 (S_36L5 fuel) x (spec_SemilatticePolymorphism_L5 n) := by
 obtain ⟨_, _, _, _⟩ := x
 kernel_rfl
theorem F_36 (a : dens [.v .int, .v (.slice (.pair .int (.slice (.slice .int))))]) : E_36.run a = funK C_36 Try.f6 [.v .int, .v (.slice (.pair .int (.slice (.slice .int))))] [.v (.pair .int (.slice .int)), .v .bool] a (fun o r => some (N_36 o r)) := by
 kernel_rfl
theorem W_36 : loopsOf D_36 = [B_36L5] := by kernel_rfl
theorem R_36L5 : firstReg B_36L5 = 5 := by kernel_rfl
theorem Q_36 : Try.prog.funcs[6]? = some Try.f6 ∧ (Try.f6.name == "runtime.NumGoroutine") = false ∧ Try.f6.body = some D_36 := ⟨Try.func6, by kernel_rfl, by kernel_rfl⟩
theorem H_36 : Holds Try.prog 6 E_36 :=
 holds_of (cx := C_36) (tabOk_ok tabT rfl).1 (allT_ok ⟨⟨H_17, _, _, Q_17⟩, ⟨⟨H_29, _, _, Q_29⟩, ⟨⟨H_19, _, _, Q_19⟩, ⟨⟨H_34, _, _, Q_34⟩, ⟨⟨H_35, _, _, Q_35⟩, trivial⟩⟩⟩⟩⟩) mixT Q_36.1 Q_36.2.2 (loops_of W_36 ⟨loop_of (cx := C_36) (L := S_36L5 fuel) rfl (by rw [R_36L5]; rfl) ⟨spec_SemilatticePolymorphism_L5, fun _ => rfl, fun n x => K_36L5 n x, fuel, fun _ => rfl⟩, trivial⟩) (enc := N_36) (fun _ _ => ⟨rfl, rfl⟩) F_36
theorem F_37 (a : dens [.v .int]) : E_37.run a = funK C_37 Try.f80 [.v .int] [.v .bool] a (fun o r => some (N_37 o r)) := by
 kernel_rfl
theorem W_37 : loopsOf D_37 = [] := by kernel_rfl
theorem Q_37 : Try.prog.funcs[80]? = some Try.f80 ∧ (Try.f80.name == "runtime.NumGoroutine") = false ∧ Try.f80.body = some D_37 := ⟨Try.func80, by kernel_rfl, by kernel_rfl⟩
theorem H_37 : Holds Try.prog 80 E_37 :=
 holds_of (cx := C_37) (tabOk_ok tabT rfl).1 (allT_ok trivial) mixT Q_37.1 Q_37.2.2 (loops_of W_37 trivial) (enc := N_37) (fun _ _ => ⟨rfl, rfl⟩) F_37
theorem K_38L2 (n : Nat) (x) : impl_inSize_L2 (n + 1) x = roundK C_38 B_38L2 (S_38L2 fuel) x (impl_inSize_L2 n) := by
 obtain ⟨_, _, _, _⟩ := x
 kernel_rfl
theorem F_38 (a : dens [.v (.slice .int), .v .int]) : E_38.run a = funK C_38 Try.f51 [.v (.slice .int), .v .int] [.v .bool] a (fun o r => some (N_38 o r)) := by
 kernel_rfl
theorem W_38 : loopsOf D_38 = [B_38L2] := by kernel_rfl
theorem R_38L2 : firstReg B_38L2 = 2 := by kernel_rfl
theorem Q_38 : Try.prog.funcs[51]? = some Try.f51 ∧ (Try.f51.name == "runtime.NumGoroutine") = false ∧ Try.f51.body = some D_38 := ⟨Try.func51, by kernel_rfl, by kernel_rfl⟩
theorem H_38 : Holds Try.prog 51 E_38 :=
 holds_of (cx := C_38) (tabOk_ok tabT rfl).1 (allT_ok trivial) mixT Q_38.1 Q_38.2.2 (loops_of W_38 ⟨loop_of (cx := C_38) (L := S_38L2 fuel) rfl (by rw [R_38L2]; rfl) ⟨impl_inSize_L2, fun _ => rfl, fun n x => K_38L2 n x, fuel, fun _ => rfl⟩, trivial⟩) (enc := N_38) (fun _ _ => ⟨rfl, rfl⟩) F_38
theorem K_39L2 (n : Nat) (x) : impl_compareLists_L2 (n + 1) x = roundK C_39 B_39L2 (S_39L2 fuel) x (impl_compareLists_L2 n) := by
 obtain ⟨_, _, _⟩ := x
 kernel_rfl
theorem F_39 (a : dens [.v (.slice .int), .v (.slice .int)]) : E_39.run a = funK C_39 Try.f119 [.v (.slice .int), .v (.slice .int)] [.v .int] a (fun o r => some (N_39 o r)) := by
 kernel_rfl
theorem W_39 : loopsOf D_39 = [B_39L2] := by kernel_rfl
theorem R_39L2 : firstReg B_39L2 = 2 := by kernel_rfl
theorem Q_39 : Try.prog.funcs[119]? = some Try.f119 ∧ (Try.f119.name == "runtime.NumGoroutine") = false ∧ Try.f119.body = some D_39 := ⟨Try.func119, by kernel_rfl, by kernel_rfl⟩
theorem H_39 : Holds Try.prog 119 E_39 :=
 holds_of (cx := C_39) (tabOk_ok tabT rfl).1 (allT_ok trivial) mixT Q_39.1 Q_39.2.2 (loops_of W_39 ⟨loop_of (cx := C_39) (L := S_39L2 fuel) rfl (by rw [R_39L2]; rfl) ⟨impl_compareLists_L2, fun _ => rfl, fun n x => K_39L2 n x, fuel, fun _ => rfl⟩, trivial⟩) (enc := N_39) (fun _ _ => ⟨rfl, rfl⟩) F_39
theorem K_40L4 (n : Nat) (x) : impl_isRelation_L4 (n + 1) x = roundK C_40 B_40L4 (S_40L4 fuel) x (impl_isRelation_L4 n) := by
 obtain ⟨_, _, _, _, _⟩ := x
 kernel_rfl
theorem F_40 (a : dens [.v .int, .v (.pair .int (.slice (.slice .int)))]) : E_40.run a = funK C_40 Try.f107 [.v .int, .v (.pair .int (.slice (.slice .int)))] [.v .bool] a (fun o r => some (N_40 o r)) := by
 kernel_rfl
theorem W_40 : loopsOf D_40 = [B_40L4] := by kernel_rfl
theorem R_40L4 : firstReg B_40L4 = 4 := by kernel_rfl
theorem Q_40 : Try.prog.funcs[107]? = some Try.f107 ∧ (Try.f107.name == "runtime.NumGoroutine") = false ∧ Try.f107.body = some D_40 := ⟨Try.func107, by kernel_rfl, by kernel_rfl⟩
theorem H_40 : Holds Try.prog 107 E_40 :=
 holds_of (cx := C_40) (tabOk_ok tabT rfl).1 (allT_ok ⟨⟨H_38, _, _, Q_38⟩, ⟨⟨H_39, _, _, Q_39⟩, trivial⟩⟩) mixT Q_40.1 Q_40.2.2 (loops_of W_40 ⟨loop_of (cx := C_40) (L := S_40L4 fuel) rfl (by rw [R_40L4]; rfl) ⟨impl_isRelation_L4, fun _ => rfl, fun n x => K_40L4 n x, fuel, fun _ => rfl⟩, trivial⟩) (enc := N_40) (fun _ _ => ⟨rfl, rfl⟩) F_40
theorem K_41L4 (n : Nat) (x) : impl_isTemplate_L4 (n + 1) x = roundK C_41 B_41L4 (S_41L4 fuel) x (impl_isTemplate_L4 n) := by
 obtain ⟨_, _, _, _⟩ := x
 kernel_rfl
theorem F_41 (a : dens [.v .int, .v (.slice (.pair .int (.slice (.slice .int))))]) : E_41.run a = funK C_41 Try.f81 [.v .int, .v (.slice (.pair .int (.slice (.slice .int))))] [.v .bool] a (fun o r => some (N_41 o r)) := by
 kernel_rfl
theorem W_41 : loopsOf D_41 = [B_41L4] := by kernel_rfl
theorem R_41L4 : firstReg B_41L4 = 4 := by kernel_rfl
theorem Q_41 : Try.prog.funcs[81]? = some Try.f81 ∧ (Try.f81.name == "runtime.NumGoroutine") = false ∧ Try.f81.body = some D_41 := ⟨Try.func81, by kernel_rfl, by kernel_rfl⟩
theorem H_41 : Holds Try.prog 81 E_41 :=
 holds_of (cx := C_41) (tabOk_ok tabT rfl).1 (allT_ok ⟨⟨H_40, _, _, Q_40⟩, trivial⟩) mixT Q_41.1 Q_41.2.2 (loops_of W_41 ⟨loop_of (cx := C_41) (L := S_41L4 fuel) rfl (by rw [R_41L4]; rfl) ⟨impl_isTemplate_L4, fun _ => rfl, fun n x => K_41L4 n x, fuel, fun _ => rfl⟩, trivial⟩) (enc := N_41) (fun _ _ => ⟨rfl, rfl⟩) F_41
theorem K_42L4 (n : Nat) (x) : impl_canAsk_L4 (n + 1) x = roundK C_42 B_42L4 (S_42L4 fuel) x (impl_canAsk_L4 n) := by
 obtain ⟨_, _, _, _⟩ := x
 kernel_rfl
theorem F_42 (a : dens [.v .int, .v (.slice (.pair .int (.slice (.slice .int)))), .v .int]) : E_42.run a = funK C_42 Try.f38 [.v .int, .v (.slice (.pair .int (.slice (.slice .int)))), .v .int] [.v .bool] a (fun o r => some (N_42 o r)) := by
 kernel_rfl
theorem W_42 : loopsOf D_42 = [B_42L4] := by kernel_rfl
theorem R_42L4 : firstReg B_42L4 = 4 := by kernel_rfl
theorem Q_42 : Try.prog.funcs[38]? = some Try.f38 ∧ (Try.f38.name == "runtime.NumGoroutine") = false ∧ Try.f38.body = some D_42 := ⟨Try.func38, by kernel_rfl, by kernel_rfl⟩
theorem H_42 : Holds Try.prog 38 E_42 :=
 holds_of (cx := C_42) (tabOk_ok tabT rfl).1 (allT_ok ⟨⟨H_37, _, _, Q_37⟩, ⟨⟨H_41, _, _, Q_41⟩, trivial⟩⟩) mixT Q_42.1 Q_42.2.2 (loops_of W_42 ⟨loop_of (cx := C_42) (L := S_42L4 fuel) rfl (by rw [R_42L4]; rfl) ⟨impl_canAsk_L4, fun _ => rfl, fun n x => K_42L4 n x, fuel, fun _ => rfl⟩, trivial⟩) (enc := N_42) (fun _ _ => ⟨rfl, rfl⟩) F_42
theorem K_43L2 (n : Nat) (x) : impl_power_L2 (n + 1) x = roundK C_43 B_43L2 (S_43L2 fuel) x (impl_power_L2 n) := by
 obtain ⟨_, _, _⟩ := x
 kernel_rfl
theorem F_43 (a : dens [.v .int, .v .int]) : E_43.run a = funK C_43 Try.f83 [.v .int, .v .int] [.v .int] a (fun o r => some (N_43 o r)) := by
 kernel_rfl
theorem W_43 : loopsOf D_43 = [B_43L2] := by kernel_rfl
theorem R_43L2 : firstReg B_43L2 = 2 := by kernel_rfl
theorem Q_43 : Try.prog.funcs[83]? = some Try.f83 ∧ (Try.f83.name == "runtime.NumGoroutine") = false ∧ Try.f83.body = some D_43 := ⟨Try.func83, by kernel_rfl, by kernel_rfl⟩
theorem H_43 : Holds Try.prog 83 E_43 :=
 holds_of (cx := C_43) (tabOk_ok tabT rfl).1 (allT_ok trivial) mixT Q_43.1 Q_43.2.2 (loops_of W_43 ⟨loop_of (cx := C_43) (L := S_43L2 fuel) rfl (by rw [R_43L2]; rfl) ⟨impl_power_L2, fun _ => rfl, fun n x => K_43L2 n x, fuel, fun _ => rfl⟩, trivial⟩) (enc := N_43) (fun _ _ => ⟨rfl, rfl⟩) F_43
theorem K_44L3 (n : Nat) (x) : impl_freeTable_L3 (n + 1) x = roundK C_44 B_44L3 (S_44L3 fuel) x (impl_freeTable_L3 n) := by
 obtain ⟨_, _, _⟩ := x
 kernel_rfl
theorem F_44 (a : dens [.v .int]) : E_44.run a = funK C_44 Try.f55 [.v .int] [.mv .int 0] a (fun o r => some (N_44 o r)) := by
 kernel_rfl
theorem W_44 : loopsOf D_44 = [B_44L3] := by kernel_rfl
theorem R_44L3 : firstReg B_44L3 = 3 := by kernel_rfl
theorem Q_44 : Try.prog.funcs[55]? = some Try.f55 ∧ (Try.f55.name == "runtime.NumGoroutine") = false ∧ Try.f55.body = some D_44 := ⟨Try.func55, by kernel_rfl, by kernel_rfl⟩
theorem H_44 : Holds Try.prog 55 E_44 :=
 holds_of (cx := C_44) (tabOk_ok tabT rfl).1 (allT_ok trivial) mixT Q_44.1 Q_44.2.2 (loops_of W_44 ⟨loop_of (cx := C_44) (L := S_44L3 fuel) rfl (by rw [R_44L3]; rfl) ⟨impl_freeTable_L3, fun _ => rfl, fun n x => K_44L3 n x, fuel, fun _ => rfl⟩, trivial⟩) (enc := N_44) (fun _ _ => ⟨rfl, rfl⟩) F_44
theorem K_45L7 (n : Nat) (x) : impl_idempotentTable_L7 (n + 1) x = roundK C_45 B_45L7 (S_45L7 fuel) x (impl_idempotentTable_L7 n) := by
 obtain ⟨_, _, _, _, _, _⟩ := x
 kernel_rfl
theorem K_45L3 (n : Nat) (x) : impl_idempotentTable_L3 (n + 1) x = roundK C_45 B_45L3 (S_45L3 fuel) x (impl_idempotentTable_L3 n) := by
 obtain ⟨_, _, _, _⟩ := x
 kernel_rfl
theorem F_45 (a : dens [.v .int, .v .int]) : E_45.run a = funK C_45 Try.f40 [.v .int, .v .int] [.mv .int 0] a (fun o r => some (N_45 o r)) := by
 kernel_rfl
theorem W_45 : loopsOf D_45 = [B_45L3, B_45L7] := by kernel_rfl
theorem R_45L7 : firstReg B_45L7 = 7 := by kernel_rfl
theorem R_45L3 : firstReg B_45L3 = 3 := by kernel_rfl
theorem Q_45 : Try.prog.funcs[40]? = some Try.f40 ∧ (Try.f40.name == "runtime.NumGoroutine") = false ∧ Try.f40.body = some D_45 := ⟨Try.func40, by kernel_rfl, by kernel_rfl⟩
theorem H_45 : Holds Try.prog 40 E_45 :=
 holds_of (cx := C_45) (tabOk_ok tabT rfl).1 (allT_ok ⟨⟨H_44, _, _, Q_44⟩, ⟨⟨H_43, _, _, Q_43⟩, trivial⟩⟩) mixT Q_45.1 Q_45.2.2 (loops_of W_45 ⟨loop_of (cx := C_45) (L := S_45L3 fuel) rfl (by rw [R_45L3]; rfl) ⟨impl_idempotentTable_L3, fun _ => rfl, fun n x => K_45L3 n x, fuel, fun _ => rfl⟩, ⟨loop_of (cx := C_45) (L := S_45L7 fuel) rfl (by rw [R_45L7]; rfl) ⟨impl_idempotentTable_L7, fun _ => rfl, fun n x => K_45L7 n x, fuel, fun _ => rfl⟩, trivial⟩⟩) (enc := N_45) (fun _ _ => ⟨rfl, rfl⟩) F_45
theorem K_46L3 (n : Nat) (x) : impl_keyOf_L3 (n + 1) x = roundK C_46 B_46L3 (S_46L3 fuel) x (impl_keyOf_L3 n) := by
 obtain ⟨_, _, _, _⟩ := x
 kernel_rfl
theorem F_46 (a : dens [.v (.slice .int)]) : E_46.run a = funK C_46 Try.f94 [.v (.slice .int)] [.v .str] a (fun o r => some (N_46 o r)) := by
 kernel_rfl
theorem W_46 : loopsOf D_46 = [B_46L3] := by kernel_rfl
theorem R_46L3 : firstReg B_46L3 = 3 := by kernel_rfl
theorem Q_46 : Try.prog.funcs[94]? = some Try.f94 ∧ (Try.f94.name == "runtime.NumGoroutine") = false ∧ Try.f94.body = some D_46 := ⟨Try.func94, by kernel_rfl, by kernel_rfl⟩
theorem H_46 : Holds Try.prog 94 E_46 :=
 holds_of (cx := C_46) (tabOk_ok tabT rfl).1 (allT_ok trivial) mixT Q_46.1 Q_46.2.2 (loops_of W_46 ⟨loop_of (cx := C_46) (L := S_46L3 fuel) rfl (by rw [R_46L3]; rfl) ⟨impl_keyOf_L3, fun _ => rfl, fun n x => K_46L3 n x, fuel, fun _ => rfl⟩, trivial⟩) (enc := N_46) (fun _ _ => ⟨rfl, rfl⟩) F_46
theorem K_47L3 (n : Nat) (x) : impl_tupleSet_L3 (n + 1) x = roundK C_47 B_47L3 (S_47L3 fuel) x (impl_tupleSet_L3 n) := by
 obtain ⟨_, _, _, _⟩ := x
 kernel_rfl
theorem F_47 (a : dens [.v (.pair .int (.slice (.slice .int)))]) : E_47.run a = funK C_47 Try.f92 [.v (.pair .int (.slice (.slice .int)))] [.v .smap] a (fun o r => some (N_47 o r)) := by
 kernel_rfl
theorem W_47 : loopsOf D_47 = [B_47L3] := by kernel_rfl
theorem R_47L3 : firstReg B_47L3 = 3 := by kernel_rfl
theorem Q_47 : Try.prog.funcs[92]? = some Try.f92 ∧ (Try.f92.name == "runtime.NumGoroutine") = false ∧ Try.f92.body = some D_47 := ⟨Try.func92, by kernel_rfl, by kernel_rfl⟩
theorem H_47 : Holds Try.prog 92 E_47 :=
 holds_of (cx := C_47) (tabOk_ok tabT rfl).1 (allT_ok ⟨⟨H_46, _, _, Q_46⟩, trivial⟩) mixT Q_47.1 Q_47.2.2 (loops_of W_47 ⟨loop_of (cx := C_47) (L := S_47L3 fuel) rfl (by rw [R_47L3]; rfl) ⟨impl_tupleSet_L3, fun _ => rfl, fun n x => K_47L3 n x, fuel, fun _ => rfl⟩, trivial⟩) (enc := N_47) (fun _ _ => ⟨rfl, rfl⟩) F_47
theorem K_48L3 (n : Nat) (x) : impl_argsAt_L3 (n + 1) x = roundK C_48 B_48L3 (S_48L3 fuel) x (impl_argsAt_L3 n) := by
 obtain ⟨_, _, _, _⟩ := x
 kernel_rfl
theorem F_48 (a : dens [.v .int, .v .int, .v .int]) : E_48.run a = funK C_48 Try.f93 [.v .int, .v .int, .v .int] [.mv .int 0] a (fun o r => some (N_48 o r)) := by
 kernel_rfl
theorem W_48 : loopsOf D_48 = [B_48L3] := by kernel_rfl
theorem R_48L3 : firstReg B_48L3 = 3 := by kernel_rfl
theorem Q_48 : Try.prog.funcs[93]? = some Try.f93 ∧ (Try.f93.name == "runtime.NumGoroutine") = false ∧ Try.f93.body = some D_48 := ⟨Try.func93, by kernel_rfl, by kernel_rfl⟩
theorem H_48 : Holds Try.prog 93 E_48 :=
 holds_of (cx := C_48) (tabOk_ok tabT rfl).1 (allT_ok trivial) mixT Q_48.1 Q_48.2.2 (loops_of W_48 ⟨loop_of (cx := C_48) (L := S_48L3 fuel) rfl (by rw [R_48L3]; rfl) ⟨impl_argsAt_L3, fun _ => rfl, fun n x => K_48L3 n x, fuel, fun _ => rfl⟩, trivial⟩) (enc := N_48) (fun _ _ => ⟨rfl, rfl⟩) F_48
theorem K_49L17 (n : Nat) (x) : impl_newPolySearch_L17 (n + 1) x = roundK C_49 B_49L17 (S_49L17 fuel) x (impl_newPolySearch_L17 n) := by
 obtain ⟨_, _, _, _, _, _, _, _, _, _, _, _, _, _, _, _, _, _, _⟩ := x
 kernel_rfl
theorem K_49L14 (n : Nat) (x) : impl_newPolySearch_L14 (n + 1) x = roundK C_49 B_49L14 (S_49L14 fuel) x (impl_newPolySearch_L14 n) := by
 obtain ⟨_, _, _, _, _, _, _, _, _, _, _, _, _, _, _⟩ := x
 kernel_rfl
theorem K_49L8 (n : Nat) (x) : impl_newPolySearch_L8 (n + 1) x = roundK C_49 B_49L8 (S_49L8 fuel) x (impl_newPolySearch_L8 n) := by
 obtain ⟨_, _, _, _, _, _, _, _, _, _⟩ := x
 kernel_rfl
theorem K_49L3 (n : Nat) (x) : impl_newPolySearch_L3 (n + 1) x = roundK C_49 B_49L3 (S_49L3 fuel) x (impl_newPolySearch_L3 n) := by
 obtain ⟨_, _, _, _, _, _⟩ := x
 kernel_rfl
theorem F_49 (a : dens [.v .int, .v (.slice (.pair .int (.slice (.slice .int)))), .v .int]) : E_49.run a = funK C_49 Try.f57 [.v .int, .v (.slice (.pair .int (.slice (.slice .int)))), .v .int] [.v (.ptr (.pair .int (.pair .int (.slice (.slice (.pair (.slice .int) .smap))))))] a (fun o r => some (N_49 o r)) := by
 kernel_rfl
theorem W_49 : loopsOf D_49 = [B_49L3, B_49L8, B_49L14, B_49L17] := by kernel_rfl
theorem R_49L17 : firstReg B_49L17 = 17 := by kernel_rfl
theorem R_49L14 : firstReg B_49L14 = 14 := by kernel_rfl
theorem R_49L8 : firstReg B_49L8 = 8 := by kernel_rfl
theorem R_49L3 : firstReg B_49L3 = 3 := by kernel_rfl
theorem Q_49 : Try.prog.funcs[57]? = some Try.f57 ∧ (Try.f57.name == "runtime.NumGoroutine") = false ∧ Try.f57.body = some D_49 := ⟨Try.func57, by kernel_rfl, by kernel_rfl⟩
theorem H_49 : Holds Try.prog 57 E_49 :=
 holds_of (cx := C_49) (tabOk_ok tabT rfl).1 (allT_ok ⟨⟨H_43, _, _, Q_43⟩, ⟨⟨H_47, _, _, Q_47⟩, ⟨⟨H_48, _, _, Q_48⟩, ⟨⟨H_46, _, _, Q_46⟩, trivial⟩⟩⟩⟩) mixT Q_49.1 Q_49.2.2 (loops_of W_49 ⟨loop_of (cx := C_49) (L := S_49L3 fuel) rfl (by rw [R_49L3]; rfl) ⟨impl_newPolySearch_L3, fun _ => rfl, fun n x => K_49L3 n x, fuel, fun _ => rfl⟩, ⟨loop_of (cx := C_49) (L := S_49L8 fuel) rfl (by rw [R_49L8]; rfl) ⟨impl_newPolySearch_L8, fun _ => rfl, fun n x => K_49L8 n x, fuel, fun _ => rfl⟩, ⟨loop_of (cx := C_49) (L := S_49L14 fuel) rfl (by rw [R_49L14]; rfl) ⟨impl_newPolySearch_L14, fun _ => rfl, fun n x => K_49L14 n x, fuel, fun _ => rfl⟩, ⟨loop_of (cx := C_49) (L := S_49L17 fuel) rfl (by rw [R_49L17]; rfl) ⟨impl_newPolySearch_L17, fun _ => rfl, fun n x => K_49L17 n x, fuel, fun _ => rfl⟩, trivial⟩⟩⟩⟩) (enc := N_49) (fun _ _ => ⟨rfl, rfl⟩) F_49
theorem F_50 (a : dens [.v (.pair .int (.slice .int)), .v .int]) : E_50.run a = funK C_50 Try.f62 [.v (.pair .int (.slice .int)), .v .int] [.v .bool] a (fun o r => some (N_50 o r)) := by
 kernel_rfl
theorem W_50 : loopsOf D_50 = [] := by kernel_rfl
theorem Q_50 : Try.prog.funcs[62]? = some Try.f62 ∧ (Try.f62.name == "runtime.NumGoroutine") = false ∧ Try.f62.body = some D_50 := ⟨Try.func62, by kernel_rfl, by kernel_rfl⟩
theorem H_50 : Holds Try.prog 62 E_50 :=
 holds_of (cx := C_50) (tabOk_ok tabT rfl).1 (allT_ok ⟨⟨H_38, _, _, Q_38⟩, ⟨⟨H_43, _, _, Q_43⟩, trivial⟩⟩) mixT Q_50.1 Q_50.2.2 (loops_of W_50 trivial) (enc := N_50) (fun _ _ => ⟨rfl, rfl⟩) F_50
theorem K_51L4 (n : Nat) (x) : impl_IsAlgebra_L4 (n + 1) x = roundK C_51 B_51L4 (S_51L4 fuel) x (impl_IsAlgebra_L4 n) := by
 obtain ⟨_, _, _, _⟩ := x
 kernel_rfl
theorem F_51 (a : dens [.v (.pair .int (.slice (.pair .int (.slice .int))))]) : E_51.run a = funK C_51 Try.f120 [.v (.pair .int (.slice (.pair .int (.slice .int))))] [.v .bool] a (fun o r => some (N_51 o r)) := by
 kernel_rfl
theorem W_51 : loopsOf D_51 = [B_51L4] := by kernel_rfl
theorem R_51L4 : firstReg B_51L4 = 4 := by kernel_rfl
theorem Q_51 : Try.prog.funcs[120]? = some Try.f120 ∧ (Try.f120.name == "runtime.NumGoroutine") = false ∧ Try.f120.body = some D_51 := ⟨Try.func120, by kernel_rfl, by kernel_rfl⟩
theorem H_51 : Holds Try.prog 120 E_51 :=
 holds_of (cx := C_51) (tabOk_ok tabT rfl).1 (allT_ok ⟨⟨H_50, _, _, Q_50⟩, trivial⟩) mixT Q_51.1 Q_51.2.2 (loops_of W_51 ⟨loop_of (cx := C_51) (L := S_51L4 fuel) rfl (by rw [R_51L4]; rfl) ⟨impl_IsAlgebra_L4, fun _ => rfl, fun n x => K_51L4 n x, fuel, fun _ => rfl⟩, trivial⟩) (enc := N_51) (fun _ _ => ⟨rfl, rfl⟩) F_51
theorem F_52 (a : dens [.v (.pair .int (.slice (.pair .int (.slice .int)))), .v .int]) : E_52.run a = funK C_52 Try.f108 [.v (.pair .int (.slice (.pair .int (.slice .int)))), .v .int] [.v .bool] a (fun o r => some (N_52 o r)) := by
 kernel_rfl
theorem W_52 : loopsOf D_52 = [] := by kernel_rfl
theorem Q_52 : Try.prog.funcs[108]? = some Try.f108 ∧ (Try.f108.name == "runtime.NumGoroutine") = false ∧ Try.f108.body = some D_52 := ⟨Try.func108, by kernel_rfl, by kernel_rfl⟩
theorem H_52 : Holds Try.prog 108 E_52 :=
 holds_of (cx := C_52) (tabOk_ok tabT rfl).1 (allT_ok ⟨⟨H_51, _, _, Q_51⟩, trivial⟩) mixT Q_52.1 Q_52.2.2 (loops_of W_52 trivial) (enc := N_52) (fun _ _ => ⟨rfl, rfl⟩) F_52
theorem K_53L11 (n : Nat) (x) : impl_IsIdempotent_L11 (n + 1) x = roundK C_53 B_53L11 (S_53L11 fuel) x (impl_IsIdempotent_L11 n) := by
 obtain ⟨_, _, _, _, _⟩ := x
 kernel_rfl
theorem K_53L7 (n : Nat) (x) : impl_IsIdempotent_L7 (n + 1) x = roundK C_53 B_53L7 (S_53L7 fuel) x (impl_IsIdempotent_L7 n) := by
 obtain ⟨_, _, _⟩ := x
 kernel_rfl
theorem F_53 (a : dens [.v (.pair .int (.slice (.pair .int (.slice .int)))), .v .int]) : E_53.run a = funK C_53 Try.f84 [.v (.pair .int (.slice (.pair .int (.slice .int)))), .v .int] [.v .bool, .v .bool] a (fun o r => some (N_53 o r)) := by
 kernel_rfl
theorem W_53 : loopsOf D_53 = [B_53L7, B_53L11] := by kernel_rfl
theorem R_53L11 : firstReg B_53L11 = 11 := by kernel_rfl
theorem R_53L7 : firstReg B_53L7 = 7 := by kernel_rfl
theorem Q_53 : Try.prog.funcs[84]? = some Try.f84 ∧ (Try.f84.name == "runtime.NumGoroutine") = false ∧ Try.f84.body = some D_53 := ⟨Try.func84, by kernel_rfl, by kernel_rfl⟩
theorem H_53 : Holds Try.prog 84 E_53 :=
 holds_of (cx := C_53) (tabOk_ok tabT rfl).1 (allT_ok ⟨⟨H_52, _, _, Q_52⟩, trivial⟩) mixT Q_53.1 Q_53.2.2 (loops_of W_53 ⟨loop_of (cx := C_53) (L := S_53L7 fuel) rfl (by rw [R_53L7]; rfl) ⟨impl_IsIdempotent_L7, fun _ => rfl, fun n x => K_53L7 n x, fuel, fun _ => rfl⟩, ⟨loop_of (cx := C_53) (L := S_53L11 fuel) rfl (by rw [R_53L11]; rfl) ⟨impl_IsIdempotent_L11, fun _ => rfl, fun n x => K_53L11 n x, fuel, fun _ => rfl⟩, trivial⟩⟩) (enc := N_53) (fun _ _ => ⟨rfl, rfl⟩) F_53
theorem F_54 (a : dens [.v (.pair .int (.slice (.pair .int (.slice .int)))), .v .int]) : E_54.run a = funK C_54 Try.f109 [.v (.pair .int (.slice (.pair .int (.slice .int)))), .v .int] [.v .bool] a (fun o r => some (N_54 o r)) := by
 kernel_rfl
theorem W_54 : loopsOf D_54 = [] := by kernel_rfl
theorem Q_54 : Try.prog.funcs[109]? = some Try.f109 ∧ (Try.f109.name == "runtime.NumGoroutine") = false ∧ Try.f109.body = some D_54 := ⟨Try.func109, by kernel_rfl, by kernel_rfl⟩
theorem H_54 : Holds Try.prog 109 E_54 :=
 holds_of (cx := C_54) (tabOk_ok tabT rfl).1 (allT_ok ⟨⟨H_52, _, _, Q_52⟩, trivial⟩) mixT Q_54.1 Q_54.2.2 (loops_of W_54 trivial) (enc := N_54) (fun _ _ => ⟨rfl, rfl⟩) F_54
theorem K_55L8 (n : Nat) (x) : impl_IsCommutative_L8 (n + 1) x = roundK C_55 B_55L8 (S_55L8 fuel) x (impl_IsCommutative_L8 n) := by
 obtain ⟨_, _, _, _⟩ := x
 kernel_rfl
theorem K_55L5 (n : Nat) (x) : impl_IsCommutative_L5 (n + 1) x = roundK C_55 B_55L5 (S_55L5 fuel) x (impl_IsCommutative_L5 n) := by
 obtain ⟨_, _, _⟩ := x
 kernel_rfl
theorem F_55 (a : dens [.v (.pair .int (.slice (.pair .int (.slice .int)))), .v .int]) : E_55.run a = funK C_55 Try.f85 [.v (.pair .int (.slice (.pair .int (.slice .int)))), .v .int] [.v .bool, .v .bool] a (fun o r => some (N_55 o r)) := by
 kernel_rfl
theorem W_55 : loopsOf D_55 = [B_55L5, B_55L8] := by kernel_rfl
theorem R_55L8 : firstReg B_55L8 = 8 := by kernel_rfl
theorem R_55L5 : firstReg B_55L5 = 5 := by kernel_rfl
theorem Q_55 : Try.prog.funcs[85]? = some Try.f85 ∧ (Try.f85.name == "runtime.NumGoroutine") = false ∧ Try.f85.body = some D_55 := ⟨Try.func85, by kernel_rfl, by kernel_rfl⟩
theorem H_55 : Holds Try.prog 85 E_55 :=
 holds_of (cx := C_55) (tabOk_ok tabT rfl).1 (allT_ok ⟨⟨H_54, _, _, Q_54⟩, trivial⟩) mixT Q_55.1 Q_55.2.2 (loops_of W_55 ⟨loop_of (cx := C_55) (L := S_55L5 fuel) rfl (by rw [R_55L5]; rfl) ⟨impl_IsCommutative_L5, fun _ => rfl, fun n x => K_55L5 n x, fuel, fun _ => rfl⟩, ⟨loop_of (cx := C_55) (L := S_55L8 fuel) rfl (by rw [R_55L8]; rfl) ⟨impl_IsCommutative_L8, fun _ => rfl, fun n x => K_55L8 n x, fuel, fun _ => rfl⟩, trivial⟩⟩) (enc := N_55) (fun _ _ => ⟨rfl, rfl⟩) F_55
theorem K_56L11 (n : Nat) (x) : impl_IsAssociative_L11 (n + 1) x = roundK C_56 B_56L11 (S_56L11 fuel) x (impl_IsAssociative_L11 n) := by
 obtain ⟨_, _, _, _, _⟩ := x
 kernel_rfl
theorem K_56L8 (n : Nat) (x) : impl_IsAssociative_L8 (n + 1) x = roundK C_56 B_56L8 (S_56L8 fuel) x (impl_IsAssociative_L8 n) := by
 obtain ⟨_, _, _, _⟩ := x
 kernel_rfl
theorem K_56L5 (n : Nat) (x) : impl_IsAssociative_L5 (n + 1) x = roundK C_56 B_56L5 (S_56L5 fuel) x (impl_IsAssociative_L5 n) := by
 obtain ⟨_, _, _⟩ := x
 kernel_rfl
theorem F_56 (a : dens [.v (.pair .int (.slice (.pair .int (.slice .int)))), .v .int]) : E_56.run a = funK C_56 Try.f86 [.v (.pair .int (.slice (.pair .int (.slice .int)))), .v .int] [.v .bool, .v .bool] a (fun o r => some (N_56 o r)) := by
 kernel_rfl
theorem W_56 : loopsOf D_56 = [B_56L5, B_56L8, B_56L11] := by kernel_rfl
theorem R_56L11 : firstReg B_56L11 = 11 := by kernel_rfl
theorem R_56L8 : firstReg B_56L8 = 8 := by kernel_rfl
theorem R_56L5 : firstReg B_56L5 = 5 := by kernel_rfl
theorem Q_56 : Try.prog.funcs[86]? = some Try.f86 ∧ (Try.f86.name == "runtime.NumGoroutine") = false ∧ Try.f86.body = some D_56 := ⟨Try.func86, by kernel_rfl, by kernel_rfl⟩
theorem H_56 : Holds Try.prog 86 E_56 :=
 holds_of (cx := C_56) (tabOk_ok tabT rfl).1 (allT_ok ⟨⟨H_54, _, _, Q_54⟩, trivial⟩) mixT Q_56.1 Q_56.2.2 (loops_of W_56 ⟨loop_of (cx := C_56) (L := S_56L5 fuel) rfl (by rw [R_56L5]; rfl) ⟨impl_IsAssociative_L5, fun _ => rfl, fun n x => K_56L5 n x, fuel, fun _ => rfl⟩, ⟨loop_of (cx := C_56) (L := S_56L8 fuel) rfl (by rw [R_56L8]; rfl) ⟨impl_IsAssociative_L8, fun _ => rfl, fun n x => K_56L8 n x, fuel, fun _ => rfl⟩, ⟨loop_of (cx := C_56) (L := S_56L11 fuel) rfl (by rw [R_56L11]; rfl) ⟨impl_IsAssociative_L11, fun _ => rfl, fun n x => K_56L11 n x, fuel, fun _ => rfl⟩, trivial⟩⟩⟩) (enc := N_56) (fun _ _ => ⟨rfl, rfl⟩) F_56
theorem F_57 (a : dens [.v .int, .v (.slice .int)]) : E_57.run a = funK C_57 Try.f42 [.v .int, .v (.slice .int)] [.v .bool] a (fun o r => some (N_57 o r)) := by
 kernel_rfl
theorem W_57 : loopsOf D_57 = [] := by kernel_rfl
theorem Q_57 : Try.prog.funcs[42]? = some Try.f42 ∧ (Try.f42.name == "runtime.NumGoroutine") = false ∧ Try.f42.body = some D_57 := ⟨Try.func42, by kernel_rfl, by kernel_rfl⟩
theorem H_57 : Holds Try.prog 42 E_57 :=
 holds_of (cx := C_57) (tabOk_ok tabT rfl).1 (allT_ok ⟨⟨H_53, _, _, Q_53⟩, ⟨⟨H_55, _, _, Q_55⟩, ⟨⟨H_56, _, _, Q_56⟩, trivial⟩⟩⟩) mixT Q_57.1 Q_57.2.2 (loops_of W_57 trivial) (enc := N_57) (fun _ _ => ⟨rfl, rfl⟩) F_57
theorem F_58 (a : dens [.v (.slice .int), .v (.ptr .int)]) : E_58.run a = funK C_58 Try.f41 [.v (.slice .int), .v (.ptr .int)] [.v .bool] a (fun o r => some (N_58 o r)) := by
 kernel_rfl
theorem W_58 : loopsOf D_58 = [] := by kernel_rfl
theorem Q_58 : Try.prog.funcs[41]? = some Try.f41 ∧ (Try.f41.name == "runtime.NumGoroutine") = false ∧ Try.f41.body = some D_58 := ⟨Try.func41, by kernel_rfl, by kernel_rfl⟩
theorem H_58 : Holds Try.prog 41 E_58 :=
 holds_of (cx := C_58) (tabOk_ok tabT rfl).1 (allT_ok ⟨⟨H_57, _, _, Q_57⟩, trivial⟩) mixT Q_58.1 Q_58.2.2 (loops_of W_58 trivial) (enc := N_58) (fun _ _ => ⟨rfl, rfl⟩) F_58
theorem F_59 (a : dens [.v (.slice .int)]) : E_59.run a = funK C_59 Try.f60 [.v (.slice .int)] [.mv .int 0] a (fun o r => some (N_59 o r)) := by
 kernel_rfl
theorem W_59 : loopsOf D_59 = [] := by kernel_rfl
theorem Q_59 : Try.prog.funcs[60]? = some Try.f60 ∧ (Try.f60.name == "runtime.NumGoroutine") = false ∧ Try.f60.body = some D_59 := ⟨Try.func60, by kernel_rfl, by kernel_rfl⟩
theorem H_59 : Holds Try.prog 60 E_59 :=
 holds_of (cx := C_59) (tabOk_ok tabT rfl).1 (allT_ok trivial) mixT Q_59.1 Q_59.2.2 (loops_of W_59 trivial) (enc := N_59) (fun _ _ => ⟨rfl, rfl⟩) F_59
theorem F_60 (a : dens [.v (.slice .int), .pz (.fc 41 (.ptr .int)), .bx (.v .int), .bx (.pr (.v .int) (.mv .int 0)), .bx (.v .bool)]) : E_60.run a = funK C_60 Try.f82 [.v (.slice .int), .pz (.fc 41 (.ptr .int)), .bx (.v .int), .bx (.pr (.v .int) (.mv .int 0)), .bx (.v .bool)] [.v .bool] a (fun o r => some (N_60 o r)) := by
 kernel_rfl
theorem W_60 : loopsOf D_60 = [] := by kernel_rfl
theorem Q_60 : Try.prog.funcs[82]? = some Try.f82 ∧ (Try.f82.name == "runtime.NumGoroutine") = false ∧ Try.f82.body = some D_60 := ⟨Try.func82, by kernel_rfl, by kernel_rfl⟩
theorem H_60 : Holds Try.prog 82 E_60 :=
 holds_of (cx := C_60) (tabOk_ok tabT rfl).1 (allT_ok ⟨⟨H_58, _, _, Q_58⟩, ⟨⟨H_59, _, _, Q_59⟩, trivial⟩⟩) mixT Q_60.1 Q_60.2.2 (loops_of W_60 trivial) (enc := N_60) (fun _ _ => ⟨rfl, rfl⟩) F_60
theorem K_61L3 (n : Nat) (x) : impl_compose_L3 (n + 1) x = roundK C_61 B_61L3 (S_61L3 fuel) x (impl_compose_L3 n) := by
 obtain ⟨_, _, _, _, _⟩ := x
 kernel_rfl
theorem F_61 (a : dens [.v (.slice .int), .v (.slice .int)]) : E_61.run a = funK C_61 Try.f50 [.v (.slice .int), .v (.slice .int)] [.mv .int 0] a (fun o r => some (N_61 o r)) := by
 kernel_rfl
theorem W_61 : loopsOf D_61 = [B_61L3] := by kernel_rfl
theorem R_61L3 : firstReg B_61L3 = 3 := by kernel_rfl
theorem Q_61 : Try.prog.funcs[50]? = some Try.f50 ∧ (Try.f50.name == "runtime.NumGoroutine") = false ∧ Try.f50.body = some D_61 := ⟨Try.func50, by kernel_rfl, by kernel_rfl⟩
theorem H_61 : Holds Try.prog 50 E_61 :=
 holds_of (cx := C_61) (tabOk_ok tabT rfl).1 (allT_ok trivial) mixT Q_61.1 Q_61.2.2 (loops_of W_61 ⟨loop_of (cx := C_61) (L := S_61L3 fuel) rfl (by rw [R_61L3]; rfl) ⟨impl_compose_L3, fun _ => rfl, fun n x => K_61L3 n x, fuel, fun _ => rfl⟩, trivial⟩) (enc := N_61) (fun _ _ => ⟨rfl, rfl⟩) F_61
theorem K_62L2 (n : Nat) (x) : impl_polySearch_fits_p_L2 (n + 1) x = roundK C_62 B_62L2 (S_62L2 fuel) x (impl_polySearch_fits_p_L2 n) := by
 obtain ⟨_, _, _, _⟩ := x
 kernel_rfl
theorem F_62 (a : dens [.v (.ptr (.pair .int (.pair .int (.slice (.slice (.pair (.slice .int) .smap)))))), .v (.slice .int), .v .int]) : E_62.run a = funK C_62 Try.f96 [.v (.ptr (.pair .int (.pair .int (.slice (.slice (.pair (.slice .int) .smap)))))), .v (.slice .int), .v .int] [.v .bool] a (fun o r => some (N_62 o r)) := by
 kernel_rfl
theorem W_62 : loopsOf D_62 = [B_62L2] := by kernel_rfl
theorem R_62L2 : firstReg B_62L2 = 2 := by kernel_rfl
theorem Q_62 : Try.prog.funcs[96]? = some Try.f96 ∧ (Try.f96.name == "runtime.NumGoroutine") = false ∧ Try.f96.body = some D_62 := ⟨Try.func96, by kernel_rfl, by kernel_rfl⟩
theorem H_62 : Holds Try.prog 96 E_62 :=
 holds_of (cx := C_62) (tabOk_ok tabT rfl).1 (allT_ok ⟨⟨H_61, _, _, Q_61⟩, ⟨⟨H_46, _, _, Q_46⟩, trivial⟩⟩) mixT Q_62.1 Q_62.2.2 (loops_of W_62 ⟨loop_of (cx := C_62) (L := S_62L2 fuel) rfl (by rw [R_62L2]; rfl) ⟨impl_polySearch_fits_p_L2, fun _ => rfl, fun n x => K_62L2 n x, fuel, fun _ => rfl⟩, trivial⟩) (enc := N_62) (fun _ _ => ⟨rfl, rfl⟩) F_62
theorem K_63L4 (rec : (Int × (List Int) × ((Bool × Int) × (Int × ((Int × (List Int)) × Bool))) × (Bool × Int × Int × (List (List ((List Int) × (List ByteArray))))) × (List Int) × Unit) → Option ((List Int) × (Unit × (Int × ((Int × (List Int)) × Bool))) × (Bool × Int × Int × (List (List ((List Int) × (List ByteArray))))) × (List Int) × Bool)) (n : Nat) (x) : impl_polySearch_each_c1_impl_firstPoly_c1_impl_SemilatticePolymorphism_c1_L4 rec (n + 1) x = roundK (C_63 rec) B_63L4 (S_63L4 rec fuel) x (impl_polySearch_each_c1_impl_firstPoly_c1_impl_SemilatticePolymorphism_c1_L4 rec n) := by
 obtain ⟨_, _, _, _, _, _, _⟩ := x
 kernel_rfl
theorem F_63 (rec : (Int × (List Int) × ((Bool × Int) × (Int × ((Int × (List Int)) × Bool))) × (Bool × Int × Int × (List (List ((List Int) × (List ByteArray))))) × (List Int) × Unit) → Option ((List Int) × (Unit × (Int × ((Int × (List Int)) × Bool))) × (Bool × Int × Int × (List (List ((List Int) × (List ByteArray))))) × (List Int) × Bool)) (a : dens [.v .int, .bx (.mv .int 0), .pr (.pz (.fc 41 (.ptr .int))) (.pr (.bx (.v .int)) (.pr (.bx (.pr (.v .int) (.mv .int 0))) (.bx (.v .bool)))), .bx (.v (.ptr (.pair .int (.pair .int (.slice (.slice (.pair (.slice .int) .smap))))))), .bx (.v (.slice .int)), .jk 1]) : impl_polySearch_each_c1_impl_firstPoly_c1_impl_SemilatticePolymorphism_c1_body rec a.1 a.2.1 a.2.2.1 a.2.2.2.1 a.2.2.2.2.1 a.2.2.2.2.2 = funK (C_63 rec) Try.f95 [.v .int, .bx (.mv .int 0), .pr (.pz (.fc 41 (.ptr .int))) (.pr (.bx (.v .int)) (.pr (.bx (.pr (.v .int) (.mv .int 0))) (.bx (.v .bool)))), .bx (.v (.ptr (.pair .int (.pair .int (.slice (.slice (.pair (.slice .int) .smap))))))), .bx (.v (.slice .int)), .jk 1] [.v .bool] a (fun o r => some (N_63 o r)) := by
 kernel_rfl
theorem W_63 : loopsOf D_63 = [B_63L4] := by kernel_rfl
theorem R_63L4 : firstReg B_63L4 = 4 := by kernel_rfl
theorem Q_63 : Try.prog.funcs[95]? = some Try.f95 ∧ (Try.f95.name == "runtime.NumGoroutine") = false ∧ Try.f95.body = some D_63 := ⟨Try.func95, by kernel_rfl, by kernel_rfl⟩
theorem H_63 : ∀ d, Holds Try.prog 95 (E_63 d)
 | 0 => fun _ b h => absurd (show (none : Option _) = some b from h) (by simp)
 | d + 1 => holds_of (en := E_63 (d + 1)) (cx := (C_63 (impl_polySearch_each_c1_impl_firstPoly_c1_impl_SemilatticePolymorphism_c1 d))) (tabOk_ok tabT rfl).1 (allT_ok ⟨⟨H_60, _, _, Q_60⟩, ⟨⟨H_62, _, _, Q_62⟩, ⟨⟨H_63 d, _, _, Q_63⟩, trivial⟩⟩⟩) mixT Q_63.1 Q_63.2.2 (loops_of W_63 ⟨loop_of (cx := (C_63 (impl_polySearch_each_c1_impl_firstPoly_c1_impl_SemilatticePolymorphism_c1 d))) (L := S_63L4 (impl_polySearch_each_c1_impl_firstPoly_c1_impl_SemilatticePolymorphism_c1 d) fuel) rfl (by rw [R_63L4]; rfl) ⟨impl_polySearch_each_c1_impl_firstPoly_c1_impl_SemilatticePolymorphism_c1_L4 (impl_polySearch_each_c1_impl_firstPoly_c1_impl_SemilatticePolymorphism_c1 d), fun _ => rfl, fun n x => K_63L4 (impl_polySearch_each_c1_impl_firstPoly_c1_impl_SemilatticePolymorphism_c1 d) n x, fuel, fun _ => rfl⟩, trivial⟩) (enc := N_63) (fun _ _ => ⟨rfl, rfl⟩) (F_63 (impl_polySearch_each_c1_impl_firstPoly_c1_impl_SemilatticePolymorphism_c1 d)) rfl
theorem F_64 (a : dens [.v (.ptr (.pair .int (.pair .int (.slice (.slice (.pair (.slice .int) .smap)))))), .v (.slice .int), .pr (.pz (.fc 41 (.ptr .int))) (.pr (.bx (.v .int)) (.pr (.bx (.pr (.v .int) (.mv .int 0))) (.bx (.v .bool))))]) : E_64.run a = funK C_64 Try.f58 [.v (.ptr (.pair .int (.pair .int (.slice (.slice (.pair (.slice .int) .smap)))))), .v (.slice .int), .pr (.pz (.fc 41 (.ptr .int))) (.pr (.bx (.v .int)) (.pr (.bx (.pr (.v .int) (.mv .int 0))) (.bx (.v .bool))))] [] a (fun o r => some (N_64 o r)) := by
 kernel_rfl
theorem W_64 : loopsOf D_64 = [] := by kernel_rfl
theorem Q_64 : Try.prog.funcs[58]? = some Try.f58 ∧ (Try.f58.name == "runtime.NumGoroutine") = false ∧ Try.f58.body = some D_64 := ⟨Try.func58, by kernel_rfl, by kernel_rfl⟩
theorem H_64 : Holds Try.prog 58 E_64 :=
 holds_of (cx := C_64) (tabOk_ok tabT rfl).1 (allT_ok ⟨⟨H_63 fuel, _, _, Q_63⟩, trivial⟩) mixT Q_64.1 Q_64.2.2 (loops_of W_64 trivial) (enc := N_64) (fun _ _ => ⟨rfl, rfl⟩) F_64
theorem F_65 (a : dens [.v .int, .v (.slice (.pair .int (.slice (.slice .int)))), .v .int, .v (.slice .int), .v (.fc 41 (.ptr .int))]) : E_65.run a = funK C_65 Try.f39 [.v .int, .v (.slice (.pair .int (.slice (.slice .int)))), .v .int, .v (.slice .int), .v (.fc 41 (.ptr .int))] [.pr (.v .int) (.mv .int 0), .v .bool] a (fun o r => some (N_65 o r)) := by
 kernel_rfl
theorem W_65 : loopsOf D_65 = [] := by kernel_rfl
theorem Q_65 : Try.prog.funcs[39]? = some Try.f39 ∧ (Try.f39.name == "runtime.NumGoroutine") = false ∧ Try.f39.body = some D_65 := ⟨Try.func39, by kernel_rfl, by kernel_rfl⟩
theorem H_65 : Holds Try.prog 39 E_65 :=
 holds_of (cx := C_65) (tabOk_ok tabT rfl).1 (allT_ok ⟨⟨H_49, _, _, Q_49⟩, ⟨⟨H_64, _, _, Q_64⟩, trivial⟩⟩) mixT Q_65.1 Q_65.2.2 (loops_of W_65 trivial) (enc := N_65) (fun _ _ => ⟨rfl, rfl⟩) F_65
theorem F_66 (a : dens [.v .int, .v (.slice (.pair .int (.slice (.slice .int))))]) : E_66.run a = funK C_66 Try.f8 [.v .int, .v (.slice (.pair .int (.slice (.slice .int))))] [.pr (.v .int) (.mv .int 0), .v .bool] a (fun o r => some (N_66 o r)) := by
 kernel_rfl
theorem W_66 : loopsOf D_66 = [] := by kernel_rfl
theorem Q_66 : Try.prog.funcs[8]? = some Try.f8 ∧ (Try.f8.name == "runtime.NumGoroutine") = false ∧ Try.f8.body = some D_66 := ⟨Try.func8, by kernel_rfl, by kernel_rfl⟩
theorem H_66 : Holds Try.prog 8 E_66 :=
 holds_of (cx := C_66) (tabOk_ok tabT rfl).1 (allT_ok ⟨⟨H_42, _, _, Q_42⟩, ⟨⟨H_45, _, _, Q_45⟩, ⟨⟨H_65, _, _, Q_65⟩, trivial⟩⟩⟩) mixT Q_66.1 Q_66.2.2 (loops_of W_66 trivial) (enc := N_66) (fun _ _ => ⟨rfl, rfl⟩) F_66
theorem K_67L4 (n : Nat) (x) : laws_eqIntS_L4 (n + 1) x = roundK C_67 B_67L4 (S_67L4 fuel) x (laws_eqIntS_L4 n) := by
 obtain ⟨_, _, _⟩ := x
 kernel_rfl
theorem F_67 (a : dens [.v (.slice .int), .v (.slice .int)]) : E_67.run a = funK C_67 Try.f43 [.v (.slice .int), .v (.slice .int)] [.v .bool] a (fun o r => some (N_67 o r)) := by
 kernel_rfl
theorem W_67 : loopsOf D_67 = [B_67L4] := by kernel_rfl
theorem R_67L4 : firstReg B_67L4 = 4 := by kernel_rfl
theorem Q_67 : Try.prog.funcs[43]? = some Try.f43 ∧ (Try.f43.name == "runtime.NumGoroutine") = false ∧ Try.f43.body = some D_67 := ⟨Try.func43, by kernel_rfl, by kernel_rfl⟩
theorem H_67 : Holds Try.prog 43 E_67 :=
 holds_of (cx := C_67) (tabOk_ok tabT rfl).1 (allT_ok trivial) mixT Q_67.1 Q_67.2.2 (loops_of W_67 ⟨loop_of (cx := C_67) (L := S_67L4 fuel) rfl (by rw [R_67L4]; rfl) ⟨laws_eqIntS_L4, fun _ => rfl, fun n x => K_67L4 n x, fuel, fun _ => rfl⟩, trivial⟩) (enc := N_67) (fun _ _ => ⟨rfl, rfl⟩) F_67
theorem F_68 (a : dens [.v (.pair .int (.slice .int)), .v (.pair .int (.slice .int))]) : E_68.run a = funK C_68 Try.f9 [.v (.pair .int (.slice .int)), .v (.pair .int (.slice .int))] [.v .bool] a (fun o r => some (N_68 o r)) := by
 kernel_rfl
theorem W_68 : loopsOf D_68 = [] := by kernel_rfl
theorem Q_68 : Try.prog.funcs[9]? = some Try.f9 ∧ (Try.f9.name == "runtime.NumGoroutine") = false ∧ Try.f9.body = some D_68 := ⟨Try.func9, by kernel_rfl, by kernel_rfl⟩
theorem H_68 : Holds Try.prog 9 E_68 :=
 holds_of (cx := C_68) (tabOk_ok tabT rfl).1 (allT_ok ⟨⟨H_67, _, _, Q_67⟩, trivial⟩) mixT Q_68.1 Q_68.2.2 (loops_of W_68 trivial) (enc := N_68) (fun _ _ => ⟨rfl, rfl⟩) F_68
theorem K_69L4 (n : Nat) (x) : laws_eqIntSS_L4 (n + 1) x = roundK C_69 B_69L4 (S_69L4 fuel) x (laws_eqIntSS_L4 n) := by
 obtain ⟨_, _, _⟩ := x
 kernel_rfl
theorem F_69 (a : dens [.v (.slice (.slice .int)), .v (.slice (.slice .int))]) : E_69.run a = funK C_69 Try.f87 [.v (.slice (.slice .int)), .v (.slice (.slice .int))] [.v .bool] a (fun o r => some (N_69 o r)) := by
 kernel_rfl
theorem W_69 : loopsOf D_69 = [B_69L4] := by kernel_rfl
theorem R_69L4 : firstReg B_69L4 = 4 := by kernel_rfl
theorem Q_69 : Try.prog.funcs[87]? = some Try.f87 ∧ (Try.f87.name == "runtime.NumGoroutine") = false ∧ Try.f87.body = some D_69 := ⟨Try.func87, by kernel_rfl, by kernel_rfl⟩
theorem H_69 : Holds Try.prog 87 E_69 :=
 holds_of (cx := C_69) (tabOk_ok tabT rfl).1 (allT_ok ⟨⟨H_67, _, _, Q_67⟩, trivial⟩) mixT Q_69.1 Q_69.2.2 (loops_of W_69 ⟨loop_of (cx := C_69) (L := S_69L4 fuel) rfl (by rw [R_69L4]; rfl) ⟨laws_eqIntSS_L4, fun _ => rfl, fun n x => K_69L4 n x, fuel, fun _ => rfl⟩, trivial⟩) (enc := N_69) (fun _ _ => ⟨rfl, rfl⟩) F_69
theorem F_70 (a : dens [.v (.pair .int (.slice (.slice .int))), .v (.pair .int (.slice (.slice .int)))]) : E_70.run a = funK C_70 Try.f44 [.v (.pair .int (.slice (.slice .int))), .v (.pair .int (.slice (.slice .int)))] [.v .bool] a (fun o r => some (N_70 o r)) := by
 kernel_rfl
theorem W_70 : loopsOf D_70 = [] := by kernel_rfl
theorem Q_70 : Try.prog.funcs[44]? = some Try.f44 ∧ (Try.f44.name == "runtime.NumGoroutine") = false ∧ Try.f44.body = some D_70 := ⟨Try.func44, by kernel_rfl, by kernel_rfl⟩
theorem H_70 : Holds Try.prog 44 E_70 :=
 holds_of (cx := C_70) (tabOk_ok tabT rfl).1 (allT_ok ⟨⟨H_69, _, _, Q_69⟩, trivial⟩) mixT Q_70.1 Q_70.2.2 (loops_of W_70 trivial) (enc := N_70) (fun _ _ => ⟨rfl, rfl⟩) F_70
theorem K_71L4 (n : Nat) (x) : laws_eqRelationS_L4 (n + 1) x = roundK C_71 B_71L4 (S_71L4 fuel) x (laws_eqRelationS_L4 n) := by
 obtain ⟨_, _, _⟩ := x
 kernel_rfl
theorem F_71 (a : dens [.v (.slice (.pair .int (.slice (.slice .int)))), .v (.slice (.pair .int (.slice (.slice .int))))]) : E_71.run a = funK C_71 Try.f10 [.v (.slice (.pair .int (.slice (.slice .int)))), .v (.slice (.pair .int (.slice (.slice .int))))] [.v .bool] a (fun o r => some (N_71 o r)) := by
 kernel_rfl
theorem W_71 : loopsOf D_71 = [B_71L4] := by kernel_rfl
theorem R_71L4 : firstReg B_71L4 = 4 := by kernel_rfl
theorem Q_71 : Try.prog.funcs[10]? = some Try.f10 ∧ (Try.f10.name == "runtime.NumGoroutine") = false ∧ Try.f10.body = some D_71 := ⟨Try.func10, by kernel_rfl, by kernel_rfl⟩
theorem H_71 : Holds Try.prog 10 E_71 :=
 holds_of (cx := C_71) (tabOk_ok tabT rfl).1 (allT_ok ⟨⟨H_70, _, _, Q_70⟩, trivial⟩) mixT Q_71.1 Q_71.2.2 (loops_of W_71 ⟨loop_of (cx := C_71) (L := S_71L4 fuel) rfl (by rw [R_71L4]; rfl) ⟨laws_eqRelationS_L4, fun _ => rfl, fun n x => K_71L4 n x, fuel, fun _ => rfl⟩, trivial⟩) (enc := N_71) (fun _ _ => ⟨rfl, rfl⟩) F_71
theorem K_72L2 (n : Nat) (x) : laws_markIntS_L2 (n + 1) x = roundK C_72 B_72L2 (S_72L2 fuel) x (laws_markIntS_L2 n) := by
 obtain ⟨_, _, _⟩ := x
 kernel_rfl
theorem F_72 (a : dens [.io .int 0, .v .int]) : E_72.run a = funK C_72 Try.f46 [.io .int 0, .v .int] [.v .int] a (fun o r => some (N_72 o r)) := by
 kernel_rfl
theorem W_72 : loopsOf D_72 = [B_72L2] := by kernel_rfl
theorem R_72L2 : firstReg B_72L2 = 2 := by kernel_rfl
theorem Q_72 : Try.prog.funcs[46]? = some Try.f46 ∧ (Try.f46.name == "runtime.NumGoroutine") = false ∧ Try.f46.body = some D_72 := ⟨Try.func46, by kernel_rfl, by kernel_rfl⟩
theorem H_72 : Holds Try.prog 46 E_72 :=
 holds_of (cx := C_72) (tabOk_ok tabT rfl).1 (allT_ok trivial) mixT Q_72.1 Q_72.2.2 (loops_of W_72 ⟨loop_of (cx := C_72) (L := S_72L2 fuel) rfl (by rw [R_72L2]; rfl) ⟨laws_markIntS_L2, fun _ => rfl, fun n x => K_72L2 n x, fuel, fun _ => rfl⟩, trivial⟩) (enc := N_72) (fun _ _ => ⟨rfl, rfl⟩) F_72
theorem K_73L2 (n : Nat) (x) : laws_markIntSS_L2 (n + 1) x = roundK C_73 B_73L2 (S_73L2 fuel) x (laws_markIntSS_L2 n) := by
 obtain ⟨_, _, _⟩ := x
 kernel_rfl
theorem F_73 (a : dens [.io (.slice .int) 1, .v .int]) : E_73.run a = funK C_73 Try.f45 [.io (.slice .int) 1, .v .int] [.v .int] a (fun o r => some (N_73 o r)) := by
 kernel_rfl
theorem W_73 : loopsOf D_73 = [B_73L2] := by kernel_rfl
theorem R_73L2 : firstReg B_73L2 = 2 := by kernel_rfl
theorem Q_73 : Try.prog.funcs[45]? = some Try.f45 ∧ (Try.f45.name == "runtime.NumGoroutine") = false ∧ Try.f45.body = some D_73 := ⟨Try.func45, by kernel_rfl, by kernel_rfl⟩
theorem H_73 : Holds Try.prog 45 E_73 :=
 holds_of (cx := C_73) (tabOk_ok tabT rfl).1 (allT_ok ⟨⟨H_72, _, _, Q_72⟩, trivial⟩) mixT Q_73.1 Q_73.2.2 (loops_of W_73 ⟨loop_of (cx := C_73) (L := S_73L2 fuel) rfl (by rw [R_73L2]; rfl) ⟨laws_markIntSS_L2, fun _ => rfl, fun n x => K_73L2 n x, fuel, fun _ => rfl⟩, trivial⟩) (enc := N_73) (fun _ _ => ⟨rfl, rfl⟩) F_73
theorem K_74L2 (n : Nat) (x) : laws_markRelationS_L2 (n + 1) x = roundK C_74 B_74L2 (S_74L2 fuel) x (laws_markRelationS_L2 n) := by
 obtain ⟨_, _, _⟩ := x
 kernel_rfl
theorem F_74 (a : dens [.io (.pair .int (.slice (.slice .int))) 2, .v .int]) : E_74.run a = funK C_74 Try.f11 [.io (.pair .int (.slice (.slice .int))) 2, .v .int] [.v .int] a (fun o r => some (N_74 o r)) := by
 kernel_rfl
theorem W_74 : loopsOf D_74 = [B_74L2] := by kernel_rfl
theorem R_74L2 : firstReg B_74L2 = 2 := by kernel_rfl
theorem Q_74 : Try.prog.funcs[11]? = some Try.f11 ∧ (Try.f11.name == "runtime.NumGoroutine") = false ∧ Try.f11.body = some D_74 := ⟨Try.func11, by kernel_rfl, by kernel_rfl⟩
theorem H_74 : Holds Try.prog 11 E_74 :=
 holds_of (cx := C_74) (tabOk_ok tabT rfl).1 (allT_ok ⟨⟨H_73, _, _, Q_73⟩, trivial⟩) mixT Q_74.1 Q_74.2.2 (loops_of W_74 ⟨loop_of (cx := C_74) (L := S_74L2 fuel) rfl (by rw [R_74L2]; rfl) ⟨laws_markRelationS_L2, fun _ => rfl, fun n x => K_74L2 n x, fuel, fun _ => rfl⟩, trivial⟩) (enc := N_74) (fun _ _ => ⟨rfl, rfl⟩) F_74
theorem F_75 (a : dens [.pr (.v .int) (.io .int 0), .v .int]) : E_75.run a = funK C_75 Try.f12 [.pr (.v .int) (.io .int 0), .v .int] [.v .int] a (fun o r => some (N_75 o r)) := by
 kernel_rfl
theorem W_75 : loopsOf D_75 = [] := by kernel_rfl
theorem Q_75 : Try.prog.funcs[12]? = some Try.f12 ∧ (Try.f12.name == "runtime.NumGoroutine") = false ∧ Try.f12.body = some D_75 := ⟨Try.func12, by kernel_rfl, by kernel_rfl⟩
theorem H_75 : Holds Try.prog 12 E_75 :=
 holds_of (cx := C_75) (tabOk_ok tabT rfl).1 (allT_ok ⟨⟨H_72, _, _, Q_72⟩, trivial⟩) mixT Q_75.1 Q_75.2.2 (loops_of W_75 trivial) (enc := N_75) (fun _ _ => ⟨rfl, rfl⟩) F_75
theorem K_76L2 (n : Nat) (x) : laws_heldIntS_L2 (n + 1) x = roundK C_76 B_76L2 (S_76L2 fuel) x (laws_heldIntS_L2 n) := by
 obtain ⟨_, _, _⟩ := x
 kernel_rfl
theorem F_76 (a : dens [.v (.slice .int), .v .int]) : E_76.run a = funK C_76 Try.f47 [.v (.slice .int), .v .int] [.v .int] a (fun o r => some (N_76 o r)) := by
 kernel_rfl
theorem W_76 : loopsOf D_76 = [B_76L2] := by kernel_rfl
theorem R_76L2 : firstReg B_76L2 = 2 := by kernel_rfl
theorem Q_76 : Try.prog.funcs[47]? = some Try.f47 ∧ (Try.f47.name == "runtime.NumGoroutine") = false ∧ Try.f47.body = some D_76 := ⟨Try.func47, by kernel_rfl, by kernel_rfl⟩
theorem H_76 : Holds Try.prog 47 E_76 :=
 holds_of (cx := C_76) (tabOk_ok tabT rfl).1 (allT_ok trivial) mixT Q_76.1 Q_76.2.2 (loops_of W_76 ⟨loop_of (cx := C_76) (L := S_76L2 fuel) rfl (by rw [R_76L2]; rfl) ⟨laws_heldIntS_L2, fun _ => rfl, fun n x => K_76L2 n x, fuel, fun _ => rfl⟩, trivial⟩) (enc := N_76) (fun _ _ => ⟨rfl, rfl⟩) F_76
theorem F_77 (a : dens [.v (.pair .int (.slice .int)), .v .int]) : E_77.run a = funK C_77 Try.f13 [.v (.pair .int (.slice .int)), .v .int] [.v .int] a (fun o r => some (N_77 o r)) := by
 kernel_rfl
theorem W_77 : loopsOf D_77 = [] := by kernel_rfl
theorem Q_77 : Try.prog.funcs[13]? = some Try.f13 ∧ (Try.f13.name == "runtime.NumGoroutine") = false ∧ Try.f13.body = some D_77 := ⟨Try.func13, by kernel_rfl, by kernel_rfl⟩
theorem H_77 : Holds Try.prog 13 E_77 :=
 holds_of (cx := C_77) (tabOk_ok tabT rfl).1 (allT_ok ⟨⟨H_76, _, _, Q_76⟩, trivial⟩) mixT Q_77.1 Q_77.2.2 (loops_of W_77 trivial) (enc := N_77) (fun _ _ => ⟨rfl, rfl⟩) F_77
theorem F_78 (a : dens [.v .int, .v (.slice (.pair .int (.slice (.slice .int))))]) : E_78.run a = funK C_78 Try.f3 [.v .int, .v (.slice (.pair .int (.slice (.slice .int))))] [.v .bool] a (fun o r => some (N_78 o r)) := by
 kernel_rfl
theorem W_78 : loopsOf D_78 = [] := by kernel_rfl
theorem Q_78 : Try.prog.funcs[3]? = some Try.f3 ∧ (Try.f3.name == "runtime.NumGoroutine") = false ∧ Try.f3.body = some D_78 := ⟨Try.func3, by kernel_rfl, by kernel_rfl⟩
theorem H_78 : Holds Try.prog 3 E_78 :=
 holds_of (cx := C_78) (tabOk_ok tabT rfl).1 (allT_ok ⟨⟨H_4, _, _, Q_4⟩, ⟨⟨H_36, _, _, Q_36⟩, ⟨⟨H_8, _, _, Q_8⟩, ⟨⟨H_66, _, _, Q_66⟩, ⟨⟨H_68, _, _, Q_68⟩, ⟨⟨H_71, _, _, Q_71⟩, ⟨⟨H_74, _, _, Q_74⟩, ⟨⟨H_75, _, _, Q_75⟩, ⟨⟨H_77, _, _, Q_77⟩, trivial⟩⟩⟩⟩⟩⟩⟩⟩⟩) mixT Q_78.1 Q_78.2.2 (loops_of W_78 trivial) (enc := N_78) (fun _ _ => ⟨rfl, rfl⟩) F_78
end T
