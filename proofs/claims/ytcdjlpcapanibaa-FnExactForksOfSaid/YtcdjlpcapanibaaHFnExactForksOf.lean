/- Each typed function is what the program computes; no conditions. -/
import Derived.Test.YtcdjlpcapanibaaSFnExactForksOf
import Derived.Test.YtcdjlpcapanibaaCFnExactForksOf
set_option linter.all false
set_option maxRecDepth 10000
open Go Go.Va Go.Proofs
namespace T
theorem F_1 (a : dens [.v (.slice .int), .v .int]) : E_1.run a = funK C_1 Try.f29 [.v (.slice .int), .v .int] [.v .int] a (fun o r => some (N_1 o r)) := by
 kernel_rfl
theorem W_1 : loopsOf D_1 = [] := by kernel_rfl
theorem Q_1 : Try.prog.funcs[29]? = some Try.f29 ∧ (Try.f29.name == "runtime.NumGoroutine") = false ∧ Try.f29.body = some D_1 := ⟨Try.func29, by kernel_rfl, by kernel_rfl⟩
theorem H_1 : Holds Try.prog 29 E_1 :=
 holds_of (cx := C_1) (tabOk_ok tabT rfl).1 (allT_ok trivial) mixT Q_1.1 Q_1.2.2 (loops_of W_1 trivial) (enc := N_1) (fun _ _ => ⟨rfl, rfl⟩) F_1
theorem K_2L5 (n : Nat) (x) : laws_szIntSS_L5 (n + 1) x = roundK C_2 B_2L5 (S_2L5 fuel) x (laws_szIntSS_L5 n) := by
 obtain ⟨_, _, _⟩ := x
 kernel_rfl
theorem F_2 (a : dens [.v (.slice (.slice .int)), .v .int]) : E_2.run a = funK C_2 Try.f7 [.v (.slice (.slice .int)), .v .int] [.v .int] a (fun o r => some (N_2 o r)) := by
 kernel_rfl
theorem W_2 : loopsOf D_2 = [B_2L5] := by kernel_rfl
theorem R_2L5 : firstReg B_2L5 = 5 := by kernel_rfl
theorem Q_2 : Try.prog.funcs[7]? = some Try.f7 ∧ (Try.f7.name == "runtime.NumGoroutine") = false ∧ Try.f7.body = some D_2 := ⟨Try.func7, by kernel_rfl, by kernel_rfl⟩
theorem H_2 : Holds Try.prog 7 E_2 :=
 holds_of (cx := C_2) (tabOk_ok tabT rfl).1 (allT_ok ⟨⟨H_1, _, _, Q_1⟩, trivial⟩) mixT Q_2.1 Q_2.2.2 (loops_of W_2 ⟨loop_of (cx := C_2) (L := S_2L5 fuel) rfl (by rw [R_2L5]; rfl) ⟨laws_szIntSS_L5, fun _ => rfl, fun n x => K_2L5 n x, fuel, fun _ => rfl⟩, trivial⟩) (enc := N_2) (fun _ _ => ⟨rfl, rfl⟩) F_2
theorem K_3L3 (n : Nat) (x) : laws_toIntS_L3 (n + 1) x = roundK C_3 B_3L3 (S_3L3 fuel) x (laws_toIntS_L3 n) := by
 obtain ⟨_, _, _⟩ := x
 kernel_rfl
theorem F_3 (a : dens [.v (.slice .int)]) : E_3.run a = funK C_3 Try.f32 [.v (.slice .int)] [.mv .int 0] a (fun o r => some (N_3 o r)) := by
 kernel_rfl
theorem W_3 : loopsOf D_3 = [B_3L3] := by kernel_rfl
theorem R_3L3 : firstReg B_3L3 = 3 := by kernel_rfl
theorem Q_3 : Try.prog.funcs[32]? = some Try.f32 ∧ (Try.f32.name == "runtime.NumGoroutine") = false ∧ Try.f32.body = some D_3 := ⟨Try.func32, by kernel_rfl, by kernel_rfl⟩
theorem H_3 : Holds Try.prog 32 E_3 :=
 holds_of (cx := C_3) (tabOk_ok tabT rfl).1 (allT_ok trivial) mixT Q_3.1 Q_3.2.2 (loops_of W_3 ⟨loop_of (cx := C_3) (L := S_3L3 fuel) rfl (by rw [R_3L3]; rfl) ⟨laws_toIntS_L3, fun _ => rfl, fun n x => K_3L3 n x, fuel, fun _ => rfl⟩, trivial⟩) (enc := N_3) (fun _ _ => ⟨rfl, rfl⟩) F_3
theorem K_4L3 (n : Nat) (x) : laws_toIntSS_L3 (n + 1) x = roundK C_4 B_4L3 (S_4L3 fuel) x (laws_toIntSS_L3 n) := by
 obtain ⟨_, _, _⟩ := x
 kernel_rfl
theorem F_4 (a : dens [.v (.slice (.slice .int))]) : E_4.run a = funK C_4 Try.f9 [.v (.slice (.slice .int))] [.mv (.slice .int) 1] a (fun o r => some (N_4 o r)) := by
 kernel_rfl
theorem W_4 : loopsOf D_4 = [B_4L3] := by kernel_rfl
theorem R_4L3 : firstReg B_4L3 = 3 := by kernel_rfl
theorem Q_4 : Try.prog.funcs[9]? = some Try.f9 ∧ (Try.f9.name == "runtime.NumGoroutine") = false ∧ Try.f9.body = some D_4 := ⟨Try.func9, by kernel_rfl, by kernel_rfl⟩
theorem H_4 : Holds Try.prog 9 E_4 :=
 holds_of (cx := C_4) (tabOk_ok tabT rfl).1 (allT_ok ⟨⟨H_3, _, _, Q_3⟩, trivial⟩) mixT Q_4.1 Q_4.2.2 (loops_of W_4 ⟨loop_of (cx := C_4) (L := S_4L3 fuel) rfl (by rw [R_4L3]; rfl) ⟨laws_toIntSS_L3, fun _ => rfl, fun n x => K_4L3 n x, fuel, fun _ => rfl⟩, trivial⟩) (enc := N_4) (fun _ _ => ⟨rfl, rfl⟩) F_4
theorem F_5 (a : dens [.v .int, .v .int, .v .int]) : E_5.run a = funK C_5 Try.f60 [.v .int, .v .int, .v .int] [.v .bool] a (fun o r => some (N_5 o r)) := by
 kernel_rfl
theorem W_5 : loopsOf D_5 = [] := by kernel_rfl
theorem Q_5 : Try.prog.funcs[60]? = some Try.f60 ∧ (Try.f60.name == "runtime.NumGoroutine") = false ∧ Try.f60.body = some D_5 := ⟨Try.func60, by kernel_rfl, by kernel_rfl⟩
theorem H_5 : Holds Try.prog 60 E_5 :=
 holds_of (cx := C_5) (tabOk_ok tabT rfl).1 (allT_ok trivial) mixT Q_5.1 Q_5.2.2 (loops_of W_5 trivial) (enc := N_5) (fun _ _ => ⟨rfl, rfl⟩) F_5
theorem F_6 (a : dens [.v .int]) : E_6.run a = funK C_6 Try.f56 [.v .int] [.v .bool] a (fun o r => some (N_6 o r)) := by
 kernel_rfl
theorem W_6 : loopsOf D_6 = [] := by kernel_rfl
theorem Q_6 : Try.prog.funcs[56]? = some Try.f56 ∧ (Try.f56.name == "runtime.NumGoroutine") = false ∧ Try.f56.body = some D_6 := ⟨Try.func56, by kernel_rfl, by kernel_rfl⟩
theorem H_6 : Holds Try.prog 56 E_6 :=
 holds_of (cx := C_6) (tabOk_ok tabT rfl).1 (allT_ok ⟨⟨H_5, _, _, Q_5⟩, trivial⟩) mixT Q_6.1 Q_6.2.2 (loops_of W_6 trivial) (enc := N_6) (fun _ _ => ⟨rfl, rfl⟩) F_6
theorem K_7L2 (n : Nat) (x) : spec_l2Pow_L2 (n + 1) x = roundK C_7 B_7L2 (S_7L2 fuel) x (spec_l2Pow_L2 n) := by
 obtain ⟨_, _, _⟩ := x
 kernel_rfl
theorem F_7 (a : dens [.v .int, .v .int]) : E_7.run a = funK C_7 Try.f61 [.v .int, .v .int] [.v .int] a (fun o r => some (N_7 o r)) := by
 kernel_rfl
theorem W_7 : loopsOf D_7 = [B_7L2] := by kernel_rfl
theorem R_7L2 : firstReg B_7L2 = 2 := by kernel_rfl
theorem Q_7 : Try.prog.funcs[61]? = some Try.f61 ∧ (Try.f61.name == "runtime.NumGoroutine") = false ∧ Try.f61.body = some D_7 := ⟨Try.func61, by kernel_rfl, by kernel_rfl⟩
theorem H_7 : Holds Try.prog 61 E_7 :=
 holds_of (cx := C_7) (tabOk_ok tabT rfl).1 (allT_ok trivial) mixT Q_7.1 Q_7.2.2 (loops_of W_7 ⟨loop_of (cx := C_7) (L := S_7L2 fuel) rfl (by rw [R_7L2]; rfl) ⟨spec_l2Pow_L2, fun _ => rfl, fun n x => K_7L2 n x, fuel, fun _ => rfl⟩, trivial⟩) (enc := N_7) (fun _ _ => ⟨rfl, rfl⟩) F_7
theorem K_8L2 (n : Nat) (x) : spec_l2Elements_L2 (n + 1) x = roundK C_8 B_8L2 (S_8L2 fuel) x (spec_l2Elements_L2 n) := by
 obtain ⟨_, _, _⟩ := x
 kernel_rfl
theorem F_8 (a : dens [.v .int, .v (.slice .int)]) : E_8.run a = funK C_8 Try.f92 [.v .int, .v (.slice .int)] [.v .bool] a (fun o r => some (N_8 o r)) := by
 kernel_rfl
theorem W_8 : loopsOf D_8 = [B_8L2] := by kernel_rfl
theorem R_8L2 : firstReg B_8L2 = 2 := by kernel_rfl
theorem Q_8 : Try.prog.funcs[92]? = some Try.f92 ∧ (Try.f92.name == "runtime.NumGoroutine") = false ∧ Try.f92.body = some D_8 := ⟨Try.func92, by kernel_rfl, by kernel_rfl⟩
theorem H_8 : Holds Try.prog 92 E_8 :=
 holds_of (cx := C_8) (tabOk_ok tabT rfl).1 (allT_ok ⟨⟨H_5, _, _, Q_5⟩, trivial⟩) mixT Q_8.1 Q_8.2.2 (loops_of W_8 ⟨loop_of (cx := C_8) (L := S_8L2 fuel) rfl (by rw [R_8L2]; rfl) ⟨spec_l2Elements_L2, fun _ => rfl, fun n x => K_8L2 n x, fuel, fun _ => rfl⟩, trivial⟩) (enc := N_8) (fun _ _ => ⟨rfl, rfl⟩) F_8
theorem F_9 (a : dens [.v .int, .v .int, .v (.slice .int)]) : E_9.run a = funK C_9 Try.f62 [.v .int, .v .int, .v (.slice .int)] [.v .bool] a (fun o r => some (N_9 o r)) := by
 kernel_rfl
theorem W_9 : loopsOf D_9 = [] := by kernel_rfl
theorem Q_9 : Try.prog.funcs[62]? = some Try.f62 ∧ (Try.f62.name == "runtime.NumGoroutine") = false ∧ Try.f62.body = some D_9 := ⟨Try.func62, by kernel_rfl, by kernel_rfl⟩
theorem H_9 : Holds Try.prog 62 E_9 :=
 holds_of (cx := C_9) (tabOk_ok tabT rfl).1 (allT_ok ⟨⟨H_8, _, _, Q_8⟩, trivial⟩) mixT Q_9.1 Q_9.2.2 (loops_of W_9 trivial) (enc := N_9) (fun _ _ => ⟨rfl, rfl⟩) F_9
theorem K_10L2 (n : Nat) (x) : spec_l3Less_L2 (n + 1) x = roundK C_10 B_10L2 (S_10L2 fuel) x (spec_l3Less_L2 n) := by
 obtain ⟨_, _, _⟩ := x
 kernel_rfl
theorem F_10 (a : dens [.v (.slice .int), .v (.slice .int)]) : E_10.run a = funK C_10 Try.f63 [.v (.slice .int), .v (.slice .int)] [.v .bool] a (fun o r => some (N_10 o r)) := by
 kernel_rfl
theorem W_10 : loopsOf D_10 = [B_10L2] := by kernel_rfl
theorem R_10L2 : firstReg B_10L2 = 2 := by kernel_rfl
theorem Q_10 : Try.prog.funcs[63]? = some Try.f63 ∧ (Try.f63.name == "runtime.NumGoroutine") = false ∧ Try.f63.body = some D_10 := ⟨Try.func63, by kernel_rfl, by kernel_rfl⟩
theorem H_10 : Holds Try.prog 63 E_10 :=
 holds_of (cx := C_10) (tabOk_ok tabT rfl).1 (allT_ok trivial) mixT Q_10.1 Q_10.2.2 (loops_of W_10 ⟨loop_of (cx := C_10) (L := S_10L2 fuel) rfl (by rw [R_10L2]; rfl) ⟨spec_l3Less_L2, fun _ => rfl, fun n x => K_10L2 n x, fuel, fun _ => rfl⟩, trivial⟩) (enc := N_10) (fun _ _ => ⟨rfl, rfl⟩) F_10
theorem K_11L4 (n : Nat) (x) : spec_l21Set_L4 (n + 1) x = roundK C_11 B_11L4 (S_11L4 fuel) x (spec_l21Set_L4 n) := by
 obtain ⟨_, _, _, _⟩ := x
 kernel_rfl
theorem F_11 (a : dens [.v .int, .v .int, .v (.slice (.slice .int))]) : E_11.run a = funK C_11 Try.f30 [.v .int, .v .int, .v (.slice (.slice .int))] [.v .bool] a (fun o r => some (N_11 o r)) := by
 kernel_rfl
theorem W_11 : loopsOf D_11 = [B_11L4] := by kernel_rfl
theorem R_11L4 : firstReg B_11L4 = 4 := by kernel_rfl
theorem Q_11 : Try.prog.funcs[30]? = some Try.f30 ∧ (Try.f30.name == "runtime.NumGoroutine") = false ∧ Try.f30.body = some D_11 := ⟨Try.func30, by kernel_rfl, by kernel_rfl⟩
theorem H_11 : Holds Try.prog 30 E_11 :=
 holds_of (cx := C_11) (tabOk_ok tabT rfl).1 (allT_ok ⟨⟨H_6, _, _, Q_6⟩, ⟨⟨H_5, _, _, Q_5⟩, ⟨⟨H_7, _, _, Q_7⟩, ⟨⟨H_9, _, _, Q_9⟩, ⟨⟨H_10, _, _, Q_10⟩, trivial⟩⟩⟩⟩⟩) mixT Q_11.1 Q_11.2.2 (loops_of W_11 ⟨loop_of (cx := C_11) (L := S_11L4 fuel) rfl (by rw [R_11L4]; rfl) ⟨spec_l21Set_L4, fun _ => rfl, fun n x => K_11L4 n x, fuel, fun _ => rfl⟩, trivial⟩) (enc := N_11) (fun _ _ => ⟨rfl, rfl⟩) F_11
theorem K_12L4 (n : Nat) (x) : spec_l1Same_L4 (n + 1) x = roundK C_12 B_12L4 (S_12L4 fuel) x (spec_l1Same_L4 n) := by
 obtain ⟨_, _, _⟩ := x
 kernel_rfl
theorem F_12 (a : dens [.v (.slice .int), .v (.slice .int)]) : E_12.run a = funK C_12 Try.f93 [.v (.slice .int), .v (.slice .int)] [.v .bool] a (fun o r => some (N_12 o r)) := by
 kernel_rfl
theorem W_12 : loopsOf D_12 = [B_12L4] := by kernel_rfl
theorem R_12L4 : firstReg B_12L4 = 4 := by kernel_rfl
theorem Q_12 : Try.prog.funcs[93]? = some Try.f93 ∧ (Try.f93.name == "runtime.NumGoroutine") = false ∧ Try.f93.body = some D_12 := ⟨Try.func93, by kernel_rfl, by kernel_rfl⟩
theorem H_12 : Holds Try.prog 93 E_12 :=
 holds_of (cx := C_12) (tabOk_ok tabT rfl).1 (allT_ok trivial) mixT Q_12.1 Q_12.2.2 (loops_of W_12 ⟨loop_of (cx := C_12) (L := S_12L4 fuel) rfl (by rw [R_12L4]; rfl) ⟨spec_l1Same_L4, fun _ => rfl, fun n x => K_12L4 n x, fuel, fun _ => rfl⟩, trivial⟩) (enc := N_12) (fun _ _ => ⟨rfl, rfl⟩) F_12
theorem K_13L5 (n : Nat) (x) : spec_l21Pair_L5 (n + 1) x = roundK C_13 B_13L5 (S_13L5 fuel) x (spec_l21Pair_L5 n) := by
 obtain ⟨_, _, _, _, _, _⟩ := x
 kernel_rfl
theorem K_13L2 (n : Nat) (x) : spec_l21Pair_L2 (n + 1) x = roundK C_13 B_13L2 (S_13L2 fuel) x (spec_l21Pair_L2 n) := by
 obtain ⟨_, _, _, _, _⟩ := x
 kernel_rfl
theorem F_13 (a : dens [.v (.slice (.slice .int)), .v .int, .v .int, .v .int]) : E_13.run a = funK C_13 Try.f64 [.v (.slice (.slice .int)), .v .int, .v .int, .v .int] [.v .int, .v .int, .v .bool] a (fun o r => some (N_13 o r)) := by
 kernel_rfl
theorem W_13 : loopsOf D_13 = [B_13L2, B_13L5] := by kernel_rfl
theorem R_13L5 : firstReg B_13L5 = 5 := by kernel_rfl
theorem R_13L2 : firstReg B_13L2 = 2 := by kernel_rfl
theorem Q_13 : Try.prog.funcs[64]? = some Try.f64 ∧ (Try.f64.name == "runtime.NumGoroutine") = false ∧ Try.f64.body = some D_13 := ⟨Try.func64, by kernel_rfl, by kernel_rfl⟩
theorem H_13 : Holds Try.prog 64 E_13 :=
 holds_of (cx := C_13) (tabOk_ok tabT rfl).1 (allT_ok ⟨⟨H_12, _, _, Q_12⟩, trivial⟩) mixT Q_13.1 Q_13.2.2 (loops_of W_13 ⟨loop_of (cx := C_13) (L := S_13L2 fuel) rfl (by rw [R_13L2]; rfl) ⟨spec_l21Pair_L2, fun _ => rfl, fun n x => K_13L2 n x, fuel, fun _ => rfl⟩, ⟨loop_of (cx := C_13) (L := S_13L5 fuel) rfl (by rw [R_13L5]; rfl) ⟨spec_l21Pair_L5, fun _ => rfl, fun n x => K_13L5 n x, fuel, fun _ => rfl⟩, trivial⟩⟩) (enc := N_13) (fun _ _ => ⟨rfl, rfl⟩) F_13
theorem F_14 (a : dens [.v (.slice .int)]) : E_14.run a = funK C_14 Try.f66 [.v (.slice .int)] [.mv .int 0] a (fun o r => some (N_14 o r)) := by
 kernel_rfl
theorem W_14 : loopsOf D_14 = [] := by kernel_rfl
theorem Q_14 : Try.prog.funcs[66]? = some Try.f66 ∧ (Try.f66.name == "runtime.NumGoroutine") = false ∧ Try.f66.body = some D_14 := ⟨Try.func66, by kernel_rfl, by kernel_rfl⟩
theorem H_14 : Holds Try.prog 66 E_14 :=
 holds_of (cx := C_14) (tabOk_ok tabT rfl).1 (allT_ok trivial) mixT Q_14.1 Q_14.2.2 (loops_of W_14 trivial) (enc := N_14) (fun _ _ => ⟨rfl, rfl⟩) F_14
theorem K_15L2 (n : Nat) (x) : spec_l8Find_L2 (n + 1) x = roundK C_15 B_15L2 (S_15L2 fuel) x (spec_l8Find_L2 n) := by
 obtain ⟨_, _, _, _⟩ := x
 kernel_rfl
theorem F_15 (a : dens [.v (.slice (.slice .int)), .v (.slice .int)]) : E_15.run a = funK C_15 Try.f74 [.v (.slice (.slice .int)), .v (.slice .int)] [.v .int, .v .bool] a (fun o r => some (N_15 o r)) := by
 kernel_rfl
theorem W_15 : loopsOf D_15 = [B_15L2] := by kernel_rfl
theorem R_15L2 : firstReg B_15L2 = 2 := by kernel_rfl
theorem Q_15 : Try.prog.funcs[74]? = some Try.f74 ∧ (Try.f74.name == "runtime.NumGoroutine") = false ∧ Try.f74.body = some D_15 := ⟨Try.func74, by kernel_rfl, by kernel_rfl⟩
theorem H_15 : Holds Try.prog 74 E_15 :=
 holds_of (cx := C_15) (tabOk_ok tabT rfl).1 (allT_ok ⟨⟨H_10, _, _, Q_10⟩, ⟨⟨H_12, _, _, Q_12⟩, trivial⟩⟩) mixT Q_15.1 Q_15.2.2 (loops_of W_15 ⟨loop_of (cx := C_15) (L := S_15L2 fuel) rfl (by rw [R_15L2]; rfl) ⟨spec_l8Find_L2, fun _ => rfl, fun n x => K_15L2 n x, fuel, fun _ => rfl⟩, trivial⟩) (enc := N_15) (fun _ _ => ⟨rfl, rfl⟩) F_15
theorem F_16 (a : dens [.v (.slice (.slice .int)), .v (.slice .int)]) : E_16.run a = funK C_16 Try.f65 [.v (.slice (.slice .int)), .v (.slice .int)] [.v (.slice (.slice .int))] a (fun o r => some (N_16 o r)) := by
 kernel_rfl
theorem W_16 : loopsOf D_16 = [] := by kernel_rfl
theorem Q_16 : Try.prog.funcs[65]? = some Try.f65 ∧ (Try.f65.name == "runtime.NumGoroutine") = false ∧ Try.f65.body = some D_16 := ⟨Try.func65, by kernel_rfl, by kernel_rfl⟩
theorem H_16 : Holds Try.prog 65 E_16 :=
 holds_of (cx := C_16) (tabOk_ok tabT rfl).1 (allT_ok ⟨⟨H_15, _, _, Q_15⟩, trivial⟩) mixT Q_16.1 Q_16.2.2 (loops_of W_16 trivial) (enc := N_16) (fun _ _ => ⟨rfl, rfl⟩) F_16
theorem K_17L9 (n : Nat) (x) : spec_l21Forks_L9 (n + 1) x = roundK C_17 B_17L9 (S_17L9 fuel) x (spec_l21Forks_L9 n) := by
 obtain ⟨_, _, _, _, _, _, _, _⟩ := x
 kernel_rfl
theorem K_17L6 (n : Nat) (x) : spec_l21Forks_L6 (n + 1) x = roundK C_17 B_17L6 (S_17L6 fuel) x (spec_l21Forks_L6 n) := by
 obtain ⟨_, _, _, _, _, _, _⟩ := x
 kernel_rfl
theorem K_17L3 (n : Nat) (x) : spec_l21Forks_L3 (n + 1) x = roundK C_17 B_17L3 (S_17L3 fuel) x (spec_l21Forks_L3 n) := by
 obtain ⟨_, _, _, _, _, _⟩ := x
 kernel_rfl
theorem F_17 (a : dens [.v .int, .v .int, .v (.slice (.slice .int))]) : E_17.run a = funK C_17 Try.f31 [.v .int, .v .int, .v (.slice (.slice .int))] [.mv (.slice .int) 0, .v (.slice (.slice .int))] a (fun o r => some (N_17 o r)) := by
 kernel_rfl
theorem W_17 : loopsOf D_17 = [B_17L3, B_17L6, B_17L9] := by kernel_rfl
theorem R_17L9 : firstReg B_17L9 = 9 := by kernel_rfl
theorem R_17L6 : firstReg B_17L6 = 6 := by kernel_rfl
theorem R_17L3 : firstReg B_17L3 = 3 := by kernel_rfl
theorem Q_17 : Try.prog.funcs[31]? = some Try.f31 ∧ (Try.f31.name == "runtime.NumGoroutine") = false ∧ Try.f31.body = some D_17 := ⟨Try.func31, by kernel_rfl, by kernel_rfl⟩
theorem H_17 : Holds Try.prog 31 E_17 :=
 holds_of (cx := C_17) (tabOk_ok tabT rfl).1 (allT_ok ⟨⟨H_13, _, _, Q_13⟩, ⟨⟨H_16, _, _, Q_16⟩, ⟨⟨H_14, _, _, Q_14⟩, trivial⟩⟩⟩) mixT Q_17.1 Q_17.2.2 (loops_of W_17 ⟨loop_of (cx := C_17) (L := S_17L3 fuel) rfl (by rw [R_17L3]; rfl) ⟨spec_l21Forks_L3, fun _ => rfl, fun n x => K_17L3 n x, fuel, fun _ => rfl⟩, ⟨loop_of (cx := C_17) (L := S_17L6 fuel) rfl (by rw [R_17L6]; rfl) ⟨spec_l21Forks_L6, fun _ => rfl, fun n x => K_17L6 n x, fuel, fun _ => rfl⟩, ⟨loop_of (cx := C_17) (L := S_17L9 fuel) rfl (by rw [R_17L9]; rfl) ⟨spec_l21Forks_L9, fun _ => rfl, fun n x => K_17L9 n x, fuel, fun _ => rfl⟩, trivial⟩⟩⟩) (enc := N_17) (fun _ _ => ⟨rfl, rfl⟩) F_17
theorem F_18 (a : dens [.v .int, .v .int, .v (.slice (.slice .int))]) : E_18.run a = funK C_18 Try.f8 [.v .int, .v .int, .v (.slice (.slice .int))] [.mv (.slice .int) 0, .v .bool] a (fun o r => some (N_18 o r)) := by
 kernel_rfl
theorem W_18 : loopsOf D_18 = [] := by kernel_rfl
theorem Q_18 : Try.prog.funcs[8]? = some Try.f8 ∧ (Try.f8.name == "runtime.NumGoroutine") = false ∧ Try.f8.body = some D_18 := ⟨Try.func8, by kernel_rfl, by kernel_rfl⟩
theorem H_18 : Holds Try.prog 8 E_18 :=
 holds_of (cx := C_18) (tabOk_ok tabT rfl).1 (allT_ok ⟨⟨H_11, _, _, Q_11⟩, ⟨⟨H_17, _, _, Q_17⟩, trivial⟩⟩) mixT Q_18.1 Q_18.2.2 (loops_of W_18 trivial) (enc := N_18) (fun _ _ => ⟨rfl, rfl⟩) F_18
theorem F_19 (a : dens [.v .int]) : E_19.run a = funK C_19 Try.f49 [.v .int] [.v .bool] a (fun o r => some (N_19 o r)) := by
 kernel_rfl
theorem W_19 : loopsOf D_19 = [] := by kernel_rfl
theorem Q_19 : Try.prog.funcs[49]? = some Try.f49 ∧ (Try.f49.name == "runtime.NumGoroutine") = false ∧ Try.f49.body = some D_19 := ⟨Try.func49, by kernel_rfl, by kernel_rfl⟩
theorem H_19 : Holds Try.prog 49 E_19 :=
 holds_of (cx := C_19) (tabOk_ok tabT rfl).1 (allT_ok trivial) mixT Q_19.1 Q_19.2.2 (loops_of W_19 trivial) (enc := N_19) (fun _ _ => ⟨rfl, rfl⟩) F_19
theorem K_20L2 (n : Nat) (x) : impl_inSize_L2 (n + 1) x = roundK C_20 B_20L2 (S_20L2 fuel) x (impl_inSize_L2 n) := by
 obtain ⟨_, _, _, _⟩ := x
 kernel_rfl
theorem F_20 (a : dens [.v (.slice .int), .v .int]) : E_20.run a = funK C_20 Try.f67 [.v (.slice .int), .v .int] [.v .bool] a (fun o r => some (N_20 o r)) := by
 kernel_rfl
theorem W_20 : loopsOf D_20 = [B_20L2] := by kernel_rfl
theorem R_20L2 : firstReg B_20L2 = 2 := by kernel_rfl
theorem Q_20 : Try.prog.funcs[67]? = some Try.f67 ∧ (Try.f67.name == "runtime.NumGoroutine") = false ∧ Try.f67.body = some D_20 := ⟨Try.func67, by kernel_rfl, by kernel_rfl⟩
theorem H_20 : Holds Try.prog 67 E_20 :=
 holds_of (cx := C_20) (tabOk_ok tabT rfl).1 (allT_ok trivial) mixT Q_20.1 Q_20.2.2 (loops_of W_20 ⟨loop_of (cx := C_20) (L := S_20L2 fuel) rfl (by rw [R_20L2]; rfl) ⟨impl_inSize_L2, fun _ => rfl, fun n x => K_20L2 n x, fuel, fun _ => rfl⟩, trivial⟩) (enc := N_20) (fun _ _ => ⟨rfl, rfl⟩) F_20
theorem K_21L2 (n : Nat) (x) : impl_compareLists_L2 (n + 1) x = roundK C_21 B_21L2 (S_21L2 fuel) x (impl_compareLists_L2 n) := by
 obtain ⟨_, _, _⟩ := x
 kernel_rfl
theorem F_21 (a : dens [.v (.slice .int), .v (.slice .int)]) : E_21.run a = funK C_21 Try.f37 [.v (.slice .int), .v (.slice .int)] [.v .int] a (fun o r => some (N_21 o r)) := by
 kernel_rfl
theorem W_21 : loopsOf D_21 = [B_21L2] := by kernel_rfl
theorem R_21L2 : firstReg B_21L2 = 2 := by kernel_rfl
theorem Q_21 : Try.prog.funcs[37]? = some Try.f37 ∧ (Try.f37.name == "runtime.NumGoroutine") = false ∧ Try.f37.body = some D_21 := ⟨Try.func37, by kernel_rfl, by kernel_rfl⟩
theorem H_21 : Holds Try.prog 37 E_21 :=
 holds_of (cx := C_21) (tabOk_ok tabT rfl).1 (allT_ok trivial) mixT Q_21.1 Q_21.2.2 (loops_of W_21 ⟨loop_of (cx := C_21) (L := S_21L2 fuel) rfl (by rw [R_21L2]; rfl) ⟨impl_compareLists_L2, fun _ => rfl, fun n x => K_21L2 n x, fuel, fun _ => rfl⟩, trivial⟩) (enc := N_21) (fun _ _ => ⟨rfl, rfl⟩) F_21
theorem K_22L4 (n : Nat) (x) : impl_isTupleSet_L4 (n + 1) x = roundK C_22 B_22L4 (S_22L4 fuel) x (impl_isTupleSet_L4 n) := by
 obtain ⟨_, _, _, _, _, _⟩ := x
 kernel_rfl
theorem F_22 (a : dens [.v .int, .v .int, .v (.slice (.slice .int))]) : E_22.run a = funK C_22 Try.f33 [.v .int, .v .int, .v (.slice (.slice .int))] [.v .bool] a (fun o r => some (N_22 o r)) := by
 kernel_rfl
theorem W_22 : loopsOf D_22 = [B_22L4] := by kernel_rfl
theorem R_22L4 : firstReg B_22L4 = 4 := by kernel_rfl
theorem Q_22 : Try.prog.funcs[33]? = some Try.f33 ∧ (Try.f33.name == "runtime.NumGoroutine") = false ∧ Try.f33.body = some D_22 := ⟨Try.func33, by kernel_rfl, by kernel_rfl⟩
theorem H_22 : Holds Try.prog 33 E_22 :=
 holds_of (cx := C_22) (tabOk_ok tabT rfl).1 (allT_ok ⟨⟨H_21, _, _, Q_21⟩, ⟨⟨H_19, _, _, Q_19⟩, ⟨⟨H_20, _, _, Q_20⟩, trivial⟩⟩⟩) mixT Q_22.1 Q_22.2.2 (loops_of W_22 ⟨loop_of (cx := C_22) (L := S_22L4 fuel) rfl (by rw [R_22L4]; rfl) ⟨impl_isTupleSet_L4, fun _ => rfl, fun n x => K_22L4 n x, fuel, fun _ => rfl⟩, trivial⟩) (enc := N_22) (fun _ _ => ⟨rfl, rfl⟩) F_22
theorem K_23L4 (n : Nat) (x) : impl_sameList_L4 (n + 1) x = roundK C_23 B_23L4 (S_23L4 fuel) x (impl_sameList_L4 n) := by
 obtain ⟨_, _, _, _⟩ := x
 kernel_rfl
theorem F_23 (a : dens [.v (.slice .int), .v (.slice .int)]) : E_23.run a = funK C_23 Try.f68 [.v (.slice .int), .v (.slice .int)] [.v .bool] a (fun o r => some (N_23 o r)) := by
 kernel_rfl
theorem W_23 : loopsOf D_23 = [B_23L4] := by kernel_rfl
theorem R_23L4 : firstReg B_23L4 = 4 := by kernel_rfl
theorem Q_23 : Try.prog.funcs[68]? = some Try.f68 ∧ (Try.f68.name == "runtime.NumGoroutine") = false ∧ Try.f68.body = some D_23 := ⟨Try.func68, by kernel_rfl, by kernel_rfl⟩
theorem H_23 : Holds Try.prog 68 E_23 :=
 holds_of (cx := C_23) (tabOk_ok tabT rfl).1 (allT_ok trivial) mixT Q_23.1 Q_23.2.2 (loops_of W_23 ⟨loop_of (cx := C_23) (L := S_23L4 fuel) rfl (by rw [R_23L4]; rfl) ⟨impl_sameList_L4, fun _ => rfl, fun n x => K_23L4 n x, fuel, fun _ => rfl⟩, trivial⟩) (enc := N_23) (fun _ _ => ⟨rfl, rfl⟩) F_23
theorem Q_24 : Try.prog.funcs[38]? = some Try.f38 ∧ (Try.f38.name == "runtime.NumGoroutine") = false ∧ Try.f38.body = some D_24 := ⟨Try.func38, by kernel_rfl, by kernel_rfl⟩
theorem H_24 : Holds Try.prog 38 E_24 := Go.Proofs.H_diff 1
theorem F_25 (a : dens [.v .int, .v (.slice .int), .v (.slice .int), .bx (.mv (.slice .int) 1)]) : E_25.run a = funK C_25 Try.f35 [.v .int, .v (.slice .int), .v (.slice .int), .bx (.mv (.slice .int) 1)] [] a (fun o r => some (N_25 o r)) := by
 kernel_rfl
theorem W_25 : loopsOf D_25 = [] := by kernel_rfl
theorem Q_25 : Try.prog.funcs[35]? = some Try.f35 ∧ (Try.f35.name == "runtime.NumGoroutine") = false ∧ Try.f35.body = some D_25 := ⟨Try.func35, by kernel_rfl, by kernel_rfl⟩
theorem H_25 : Holds Try.prog 35 E_25 :=
 holds_of (cx := C_25) (tabOk_ok tabT rfl).1 (allT_ok trivial) mixT Q_25.1 Q_25.2.2 (loops_of W_25 trivial) (enc := N_25) (fun _ _ => ⟨rfl, rfl⟩) F_25
theorem K_26L7 (n : Nat) (x) : impl_forksOf_impl_ForksOf_c1_L7 (n + 1) x = roundK C_26 B_26L7 (S_26L7 fuel) x (impl_forksOf_impl_ForksOf_c1_L7 n) := by
 obtain ⟨_, _, _, _, _, _, _⟩ := x
 kernel_rfl
theorem K_26L15 (n : Nat) (x) : impl_forksOf_impl_ForksOf_c1_L15 (n + 1) x = roundK C_26 B_26L15 (S_26L15 fuel) x (impl_forksOf_impl_ForksOf_c1_L15 n) := by
 obtain ⟨_, _, _, _, _, _, _, _, _, _, _, _, _⟩ := x
 kernel_rfl
theorem K_26L12 (n : Nat) (x) : impl_forksOf_impl_ForksOf_c1_L12 (n + 1) x = roundK C_26 B_26L12 (S_26L12 fuel) x (impl_forksOf_impl_ForksOf_c1_L12 n) := by
 obtain ⟨_, _, _, _, _, _, _, _, _⟩ := x
 kernel_rfl
theorem K_26L4 (n : Nat) (x) : impl_forksOf_impl_ForksOf_c1_L4 (n + 1) x = roundK C_26 B_26L4 (S_26L4 fuel) x (impl_forksOf_impl_ForksOf_c1_L4 n) := by
 obtain ⟨_, _, _, _, _⟩ := x
 kernel_rfl
theorem K_26L1 (n : Nat) (x) : impl_forksOf_impl_ForksOf_c1_L1 (n + 1) x = roundK C_26 B_26L1 (S_26L1 fuel) x (impl_forksOf_impl_ForksOf_c1_L1 n) := by
 obtain ⟨_, _, _, _⟩ := x
 kernel_rfl
theorem F_26 (a : dens [.v .int, .v (.slice (.slice .int)), .bx (.mv (.slice .int) 1)]) : E_26.run a = funK C_26 Try.f34 [.v .int, .v (.slice (.slice .int)), .bx (.mv (.slice .int) 1)] [] a (fun o r => some (N_26 o r)) := by
 kernel_rfl
theorem W_26 : loopsOf D_26 = [B_26L1, B_26L4, B_26L7, B_26L12, B_26L15] := by kernel_rfl
theorem R_26L7 : firstReg B_26L7 = 7 := by kernel_rfl
theorem R_26L15 : firstReg B_26L15 = 15 := by kernel_rfl
theorem R_26L12 : firstReg B_26L12 = 12 := by kernel_rfl
theorem R_26L4 : firstReg B_26L4 = 4 := by kernel_rfl
theorem R_26L1 : firstReg B_26L1 = 1 := by kernel_rfl
theorem Q_26 : Try.prog.funcs[34]? = some Try.f34 ∧ (Try.f34.name == "runtime.NumGoroutine") = false ∧ Try.f34.body = some D_26 := ⟨Try.func34, by kernel_rfl, by kernel_rfl⟩
theorem H_26 : Holds Try.prog 34 E_26 :=
 holds_of (cx := C_26) (tabOk_ok tabT rfl).1 (allT_ok ⟨⟨H_25, _, _, Q_25⟩, ⟨⟨H_23, _, _, Q_23⟩, trivial⟩⟩) mixT Q_26.1 Q_26.2.2 (loops_of W_26 ⟨loop_of (cx := C_26) (L := S_26L1 fuel) rfl (by rw [R_26L1]; rfl) ⟨impl_forksOf_impl_ForksOf_c1_L1, fun _ => rfl, fun n x => K_26L1 n x, fuel, fun _ => rfl⟩, ⟨loop_of (cx := C_26) (L := S_26L4 fuel) rfl (by rw [R_26L4]; rfl) ⟨impl_forksOf_impl_ForksOf_c1_L4, fun _ => rfl, fun n x => K_26L4 n x, fuel, fun _ => rfl⟩, ⟨loop_of (cx := C_26) (L := S_26L7 fuel) rfl (by rw [R_26L7]; rfl) ⟨impl_forksOf_impl_ForksOf_c1_L7, fun _ => rfl, fun n x => K_26L7 n x, fuel, fun _ => rfl⟩, ⟨loop_of (cx := C_26) (L := S_26L12 fuel) rfl (by rw [R_26L12]; rfl) ⟨impl_forksOf_impl_ForksOf_c1_L12, fun _ => rfl, fun n x => K_26L12 n x, fuel, fun _ => rfl⟩, ⟨loop_of (cx := C_26) (L := S_26L15 fuel) rfl (by rw [R_26L15]; rfl) ⟨impl_forksOf_impl_ForksOf_c1_L15, fun _ => rfl, fun n x => K_26L15 n x, fuel, fun _ => rfl⟩, trivial⟩⟩⟩⟩⟩) (enc := N_26) (fun _ _ => ⟨rfl, rfl⟩) F_26
theorem Q_27 : Try.prog.funcs[36]? = some Try.f36 ∧ (Try.f36.name == "runtime.NumGoroutine") = false ∧ Try.f36.body = some D_27 := ⟨Try.func36, by kernel_rfl, by kernel_rfl⟩
theorem H_27 : Holds Try.prog 36 E_27 := Go.Proofs.H_sort_cmpL 1
theorem F_28 (a : dens [.v .int, .v .int, .v (.slice (.slice .int))]) : E_28.run a = funK C_28 Try.f10 [.v .int, .v .int, .v (.slice (.slice .int))] [.mv (.slice .int) 1, .v .bool] a (fun o r => some (N_28 o r)) := by
 kernel_rfl
theorem W_28 : loopsOf D_28 = [] := by kernel_rfl
theorem Q_28 : Try.prog.funcs[10]? = some Try.f10 ∧ (Try.f10.name == "runtime.NumGoroutine") = false ∧ Try.f10.body = some D_28 := ⟨Try.func10, by kernel_rfl, by kernel_rfl⟩
theorem H_28 : Holds Try.prog 10 E_28 :=
 holds_of (cx := C_28) (tabOk_ok tabT rfl).1 (allT_ok ⟨⟨H_22, _, _, Q_22⟩, ⟨⟨H_24, _, _, Q_24⟩, ⟨⟨H_26, _, _, Q_26⟩, ⟨⟨H_27, _, _, Q_27⟩, trivial⟩⟩⟩⟩) mixT Q_28.1 Q_28.2.2 (loops_of W_28 trivial) (enc := N_28) (fun _ _ => ⟨rfl, rfl⟩) F_28
theorem K_29L4 (n : Nat) (x) : laws_eqIntS_L4 (n + 1) x = roundK C_29 B_29L4 (S_29L4 fuel) x (laws_eqIntS_L4 n) := by
 obtain ⟨_, _, _⟩ := x
 kernel_rfl
theorem F_29 (a : dens [.v (.slice .int), .v (.slice .int)]) : E_29.run a = funK C_29 Try.f39 [.v (.slice .int), .v (.slice .int)] [.v .bool] a (fun o r => some (N_29 o r)) := by
 kernel_rfl
theorem W_29 : loopsOf D_29 = [B_29L4] := by kernel_rfl
theorem R_29L4 : firstReg B_29L4 = 4 := by kernel_rfl
theorem Q_29 : Try.prog.funcs[39]? = some Try.f39 ∧ (Try.f39.name == "runtime.NumGoroutine") = false ∧ Try.f39.body = some D_29 := ⟨Try.func39, by kernel_rfl, by kernel_rfl⟩
theorem H_29 : Holds Try.prog 39 E_29 :=
 holds_of (cx := C_29) (tabOk_ok tabT rfl).1 (allT_ok trivial) mixT Q_29.1 Q_29.2.2 (loops_of W_29 ⟨loop_of (cx := C_29) (L := S_29L4 fuel) rfl (by rw [R_29L4]; rfl) ⟨laws_eqIntS_L4, fun _ => rfl, fun n x => K_29L4 n x, fuel, fun _ => rfl⟩, trivial⟩) (enc := N_29) (fun _ _ => ⟨rfl, rfl⟩) F_29
theorem K_30L4 (n : Nat) (x) : laws_eqIntSS_L4 (n + 1) x = roundK C_30 B_30L4 (S_30L4 fuel) x (laws_eqIntSS_L4 n) := by
 obtain ⟨_, _, _⟩ := x
 kernel_rfl
theorem F_30 (a : dens [.v (.slice (.slice .int)), .v (.slice (.slice .int))]) : E_30.run a = funK C_30 Try.f11 [.v (.slice (.slice .int)), .v (.slice (.slice .int))] [.v .bool] a (fun o r => some (N_30 o r)) := by
 kernel_rfl
theorem W_30 : loopsOf D_30 = [B_30L4] := by kernel_rfl
theorem R_30L4 : firstReg B_30L4 = 4 := by kernel_rfl
theorem Q_30 : Try.prog.funcs[11]? = some Try.f11 ∧ (Try.f11.name == "runtime.NumGoroutine") = false ∧ Try.f11.body = some D_30 := ⟨Try.func11, by kernel_rfl, by kernel_rfl⟩
theorem H_30 : Holds Try.prog 11 E_30 :=
 holds_of (cx := C_30) (tabOk_ok tabT rfl).1 (allT_ok ⟨⟨H_29, _, _, Q_29⟩, trivial⟩) mixT Q_30.1 Q_30.2.2 (loops_of W_30 ⟨loop_of (cx := C_30) (L := S_30L4 fuel) rfl (by rw [R_30L4]; rfl) ⟨laws_eqIntSS_L4, fun _ => rfl, fun n x => K_30L4 n x, fuel, fun _ => rfl⟩, trivial⟩) (enc := N_30) (fun _ _ => ⟨rfl, rfl⟩) F_30
theorem K_31L2 (n : Nat) (x) : laws_markIntS_L2 (n + 1) x = roundK C_31 B_31L2 (S_31L2 fuel) x (laws_markIntS_L2 n) := by
 obtain ⟨_, _, _⟩ := x
 kernel_rfl
theorem F_31 (a : dens [.io .int 0, .v .int]) : E_31.run a = funK C_31 Try.f40 [.io .int 0, .v .int] [.v .int] a (fun o r => some (N_31 o r)) := by
 kernel_rfl
theorem W_31 : loopsOf D_31 = [B_31L2] := by kernel_rfl
theorem R_31L2 : firstReg B_31L2 = 2 := by kernel_rfl
theorem Q_31 : Try.prog.funcs[40]? = some Try.f40 ∧ (Try.f40.name == "runtime.NumGoroutine") = false ∧ Try.f40.body = some D_31 := ⟨Try.func40, by kernel_rfl, by kernel_rfl⟩
theorem H_31 : Holds Try.prog 40 E_31 :=
 holds_of (cx := C_31) (tabOk_ok tabT rfl).1 (allT_ok trivial) mixT Q_31.1 Q_31.2.2 (loops_of W_31 ⟨loop_of (cx := C_31) (L := S_31L2 fuel) rfl (by rw [R_31L2]; rfl) ⟨laws_markIntS_L2, fun _ => rfl, fun n x => K_31L2 n x, fuel, fun _ => rfl⟩, trivial⟩) (enc := N_31) (fun _ _ => ⟨rfl, rfl⟩) F_31
theorem K_32L2 (n : Nat) (x) : laws_markIntSS_L2 (n + 1) x = roundK C_32 B_32L2 (S_32L2 fuel) x (laws_markIntSS_L2 n) := by
 obtain ⟨_, _, _⟩ := x
 kernel_rfl
theorem F_32 (a : dens [.io (.slice .int) 1, .v .int]) : E_32.run a = funK C_32 Try.f12 [.io (.slice .int) 1, .v .int] [.v .int] a (fun o r => some (N_32 o r)) := by
 kernel_rfl
theorem W_32 : loopsOf D_32 = [B_32L2] := by kernel_rfl
theorem R_32L2 : firstReg B_32L2 = 2 := by kernel_rfl
theorem Q_32 : Try.prog.funcs[12]? = some Try.f12 ∧ (Try.f12.name == "runtime.NumGoroutine") = false ∧ Try.f12.body = some D_32 := ⟨Try.func12, by kernel_rfl, by kernel_rfl⟩
theorem H_32 : Holds Try.prog 12 E_32 :=
 holds_of (cx := C_32) (tabOk_ok tabT rfl).1 (allT_ok ⟨⟨H_31, _, _, Q_31⟩, trivial⟩) mixT Q_32.1 Q_32.2.2 (loops_of W_32 ⟨loop_of (cx := C_32) (L := S_32L2 fuel) rfl (by rw [R_32L2]; rfl) ⟨laws_markIntSS_L2, fun _ => rfl, fun n x => K_32L2 n x, fuel, fun _ => rfl⟩, trivial⟩) (enc := N_32) (fun _ _ => ⟨rfl, rfl⟩) F_32
theorem K_33L2 (n : Nat) (x) : laws_heldIntS_L2 (n + 1) x = roundK C_33 B_33L2 (S_33L2 fuel) x (laws_heldIntS_L2 n) := by
 obtain ⟨_, _, _⟩ := x
 kernel_rfl
theorem F_33 (a : dens [.v (.slice .int), .v .int]) : E_33.run a = funK C_33 Try.f41 [.v (.slice .int), .v .int] [.v .int] a (fun o r => some (N_33 o r)) := by
 kernel_rfl
theorem W_33 : loopsOf D_33 = [B_33L2] := by kernel_rfl
theorem R_33L2 : firstReg B_33L2 = 2 := by kernel_rfl
theorem Q_33 : Try.prog.funcs[41]? = some Try.f41 ∧ (Try.f41.name == "runtime.NumGoroutine") = false ∧ Try.f41.body = some D_33 := ⟨Try.func41, by kernel_rfl, by kernel_rfl⟩
theorem H_33 : Holds Try.prog 41 E_33 :=
 holds_of (cx := C_33) (tabOk_ok tabT rfl).1 (allT_ok trivial) mixT Q_33.1 Q_33.2.2 (loops_of W_33 ⟨loop_of (cx := C_33) (L := S_33L2 fuel) rfl (by rw [R_33L2]; rfl) ⟨laws_heldIntS_L2, fun _ => rfl, fun n x => K_33L2 n x, fuel, fun _ => rfl⟩, trivial⟩) (enc := N_33) (fun _ _ => ⟨rfl, rfl⟩) F_33
theorem K_34L2 (n : Nat) (x) : laws_heldIntSS_L2 (n + 1) x = roundK C_34 B_34L2 (S_34L2 fuel) x (laws_heldIntSS_L2 n) := by
 obtain ⟨_, _, _⟩ := x
 kernel_rfl
theorem F_34 (a : dens [.v (.slice (.slice .int)), .v .int]) : E_34.run a = funK C_34 Try.f13 [.v (.slice (.slice .int)), .v .int] [.v .int] a (fun o r => some (N_34 o r)) := by
 kernel_rfl
theorem W_34 : loopsOf D_34 = [B_34L2] := by kernel_rfl
theorem R_34L2 : firstReg B_34L2 = 2 := by kernel_rfl
theorem Q_34 : Try.prog.funcs[13]? = some Try.f13 ∧ (Try.f13.name == "runtime.NumGoroutine") = false ∧ Try.f13.body = some D_34 := ⟨Try.func13, by kernel_rfl, by kernel_rfl⟩
theorem H_34 : Holds Try.prog 13 E_34 :=
 holds_of (cx := C_34) (tabOk_ok tabT rfl).1 (allT_ok ⟨⟨H_33, _, _, Q_33⟩, trivial⟩) mixT Q_34.1 Q_34.2.2 (loops_of W_34 ⟨loop_of (cx := C_34) (L := S_34L2 fuel) rfl (by rw [R_34L2]; rfl) ⟨laws_heldIntSS_L2, fun _ => rfl, fun n x => K_34L2 n x, fuel, fun _ => rfl⟩, trivial⟩) (enc := N_34) (fun _ _ => ⟨rfl, rfl⟩) F_34
theorem F_35 (a : dens [.v .int, .v .int, .v (.slice (.slice .int))]) : E_35.run a = funK C_35 Try.f3 [.v .int, .v .int, .v (.slice (.slice .int))] [.v .bool] a (fun o r => some (N_35 o r)) := by
 kernel_rfl
theorem W_35 : loopsOf D_35 = [] := by kernel_rfl
theorem Q_35 : Try.prog.funcs[3]? = some Try.f3 ∧ (Try.f3.name == "runtime.NumGoroutine") = false ∧ Try.f3.body = some D_35 := ⟨Try.func3, by kernel_rfl, by kernel_rfl⟩
theorem H_35 : Holds Try.prog 3 E_35 :=
 holds_of (cx := C_35) (tabOk_ok tabT rfl).1 (allT_ok ⟨⟨H_2, _, _, Q_2⟩, ⟨⟨H_18, _, _, Q_18⟩, ⟨⟨H_4, _, _, Q_4⟩, ⟨⟨H_28, _, _, Q_28⟩, ⟨⟨H_30, _, _, Q_30⟩, ⟨⟨H_32, _, _, Q_32⟩, ⟨⟨H_34, _, _, Q_34⟩, trivial⟩⟩⟩⟩⟩⟩⟩) mixT Q_35.1 Q_35.2.2 (loops_of W_35 trivial) (enc := N_35) (fun _ _ => ⟨rfl, rfl⟩) F_35
end T
