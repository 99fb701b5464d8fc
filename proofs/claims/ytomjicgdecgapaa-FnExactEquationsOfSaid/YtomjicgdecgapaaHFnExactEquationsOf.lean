/- Each typed function is what the program computes; no conditions. -/
import Derived.Test.YtomjicgdecgapaaCFnExactEquationsOf
set_option linter.all false
set_option maxRecDepth 10000
open Go Go.Va Go.Proofs
namespace T

theorem F_laws_szIntS (a : dens [.v (.slice .int), .v .int]) : E_laws_szIntS.run a = funK C_laws_szIntS Try.f23 [.v (.slice .int), .v .int] [.v .int] a (fun o r => some (N_laws_szIntS o r)) := by
  kernel_rfl
theorem W_laws_szIntS : loopsOf D_laws_szIntS = [] := by kernel_rfl
theorem Q_laws_szIntS : Try.prog.funcs[23]? = some Try.f23 ∧ (Try.f23.name == "runtime.NumGoroutine") = false ∧ Try.f23.body = some D_laws_szIntS := ⟨Try.func23, by kernel_rfl, by kernel_rfl⟩
theorem H_laws_szIntS : Holds Try.prog 23 E_laws_szIntS :=
  holds_of (cx := C_laws_szIntS) (tabOk_ok tabT rfl).1 (allT_ok trivial) mixT Q_laws_szIntS.1 Q_laws_szIntS.2.2 (loops_of W_laws_szIntS trivial) (enc := N_laws_szIntS) (fun _ _ => ⟨rfl, rfl⟩) F_laws_szIntS

theorem K_laws_szIntSS_L5 (n : Nat) (x : (List (List Int)) × Int × Int) : laws_szIntSS_L5 (n + 1) x = roundK C_laws_szIntSS B_laws_szIntSS_L5 (S_laws_szIntSS_L5 fuel) x (laws_szIntSS_L5 n) := by
  obtain ⟨a, left, i⟩ := x
  kernel_rfl
theorem F_laws_szIntSS (a : dens [.v (.slice (.slice .int)), .v .int]) : E_laws_szIntSS.run a = funK C_laws_szIntSS Try.f5 [.v (.slice (.slice .int)), .v .int] [.v .int] a (fun o r => some (N_laws_szIntSS o r)) := by
  kernel_rfl
theorem W_laws_szIntSS : loopsOf D_laws_szIntSS = [B_laws_szIntSS_L5] := by kernel_rfl
theorem R_laws_szIntSS_L5 : firstReg B_laws_szIntSS_L5 = 5 := by kernel_rfl
theorem Q_laws_szIntSS : Try.prog.funcs[5]? = some Try.f5 ∧ (Try.f5.name == "runtime.NumGoroutine") = false ∧ Try.f5.body = some D_laws_szIntSS := ⟨Try.func5, by kernel_rfl, by kernel_rfl⟩
theorem H_laws_szIntSS : Holds Try.prog 5 E_laws_szIntSS :=
  holds_of (cx := C_laws_szIntSS) (tabOk_ok tabT rfl).1 (allT_ok ⟨⟨H_laws_szIntS, _, _, Q_laws_szIntS⟩, trivial⟩) mixT Q_laws_szIntSS.1 Q_laws_szIntSS.2.2 (loops_of W_laws_szIntSS ⟨loop_of (cx := C_laws_szIntSS) (L := S_laws_szIntSS_L5 fuel) rfl (by rw [R_laws_szIntSS_L5]; rfl) ⟨laws_szIntSS_L5, fun _ => rfl, fun n x => K_laws_szIntSS_L5 n x, fuel, fun _ => rfl⟩, trivial⟩) (enc := N_laws_szIntSS) (fun _ _ => ⟨rfl, rfl⟩) F_laws_szIntSS

theorem K_laws_toIntS_L3 (n : Nat) (x : (List Int) × (List Int) × Int) : laws_toIntS_L3 (n + 1) x = roundK C_laws_toIntS B_laws_toIntS_L3 (S_laws_toIntS_L3 fuel) x (laws_toIntS_L3 n) := by
  obtain ⟨a, out, i⟩ := x
  kernel_rfl
theorem F_laws_toIntS (a : dens [.v (.slice .int)]) : E_laws_toIntS.run a = funK C_laws_toIntS Try.f31 [.v (.slice .int)] [.mv .int 0] a (fun o r => some (N_laws_toIntS o r)) := by
  kernel_rfl
theorem W_laws_toIntS : loopsOf D_laws_toIntS = [B_laws_toIntS_L3] := by kernel_rfl
theorem R_laws_toIntS_L3 : firstReg B_laws_toIntS_L3 = 3 := by kernel_rfl
theorem Q_laws_toIntS : Try.prog.funcs[31]? = some Try.f31 ∧ (Try.f31.name == "runtime.NumGoroutine") = false ∧ Try.f31.body = some D_laws_toIntS := ⟨Try.func31, by kernel_rfl, by kernel_rfl⟩
theorem H_laws_toIntS : Holds Try.prog 31 E_laws_toIntS :=
  holds_of (cx := C_laws_toIntS) (tabOk_ok tabT rfl).1 (allT_ok trivial) mixT Q_laws_toIntS.1 Q_laws_toIntS.2.2 (loops_of W_laws_toIntS ⟨loop_of (cx := C_laws_toIntS) (L := S_laws_toIntS_L3 fuel) rfl (by rw [R_laws_toIntS_L3]; rfl) ⟨laws_toIntS_L3, fun _ => rfl, fun n x => K_laws_toIntS_L3 n x, fuel, fun _ => rfl⟩, trivial⟩) (enc := N_laws_toIntS) (fun _ _ => ⟨rfl, rfl⟩) F_laws_toIntS

theorem K_laws_toIntSS_L3 (n : Nat) (x : (List (List Int)) × (List (List Int)) × Int) : laws_toIntSS_L3 (n + 1) x = roundK C_laws_toIntSS B_laws_toIntSS_L3 (S_laws_toIntSS_L3 fuel) x (laws_toIntSS_L3 n) := by
  obtain ⟨a, out, i⟩ := x
  kernel_rfl
theorem F_laws_toIntSS (a : dens [.v (.slice (.slice .int))]) : E_laws_toIntSS.run a = funK C_laws_toIntSS Try.f7 [.v (.slice (.slice .int))] [.mv (.slice .int) 1] a (fun o r => some (N_laws_toIntSS o r)) := by
  kernel_rfl
theorem W_laws_toIntSS : loopsOf D_laws_toIntSS = [B_laws_toIntSS_L3] := by kernel_rfl
theorem R_laws_toIntSS_L3 : firstReg B_laws_toIntSS_L3 = 3 := by kernel_rfl
theorem Q_laws_toIntSS : Try.prog.funcs[7]? = some Try.f7 ∧ (Try.f7.name == "runtime.NumGoroutine") = false ∧ Try.f7.body = some D_laws_toIntSS := ⟨Try.func7, by kernel_rfl, by kernel_rfl⟩
theorem H_laws_toIntSS : Holds Try.prog 7 E_laws_toIntSS :=
  holds_of (cx := C_laws_toIntSS) (tabOk_ok tabT rfl).1 (allT_ok ⟨⟨H_laws_toIntS, _, _, Q_laws_toIntS⟩, trivial⟩) mixT Q_laws_toIntSS.1 Q_laws_toIntSS.2.2 (loops_of W_laws_toIntSS ⟨loop_of (cx := C_laws_toIntSS) (L := S_laws_toIntSS_L3 fuel) rfl (by rw [R_laws_toIntSS_L3]; rfl) ⟨laws_toIntSS_L3, fun _ => rfl, fun n x => K_laws_toIntSS_L3 n x, fuel, fun _ => rfl⟩, trivial⟩) (enc := N_laws_toIntSS) (fun _ _ => ⟨rfl, rfl⟩) F_laws_toIntSS

theorem F_spec_l21Prime (a : dens [.v .int]) : E_spec_l21Prime.run a = funK C_spec_l21Prime Try.f24 [.v .int] [.v .bool] a (fun o r => some (N_spec_l21Prime o r)) := by
  kernel_rfl
theorem W_spec_l21Prime : loopsOf D_spec_l21Prime = [] := by kernel_rfl
theorem Q_spec_l21Prime : Try.prog.funcs[24]? = some Try.f24 ∧ (Try.f24.name == "runtime.NumGoroutine") = false ∧ Try.f24.body = some D_spec_l21Prime := ⟨Try.func24, by kernel_rfl, by kernel_rfl⟩
theorem H_spec_l21Prime : Holds Try.prog 24 E_spec_l21Prime :=
  holds_of (cx := C_spec_l21Prime) (tabOk_ok tabT rfl).1 (allT_ok trivial) mixT Q_spec_l21Prime.1 Q_spec_l21Prime.2.2 (loops_of W_spec_l21Prime trivial) (enc := N_spec_l21Prime) (fun _ _ => ⟨rfl, rfl⟩) F_spec_l21Prime

theorem F_spec_l1In (a : dens [.v .int, .v .int, .v .int]) : E_spec_l1In.run a = funK C_spec_l1In Try.f46 [.v .int, .v .int, .v .int] [.v .bool] a (fun o r => some (N_spec_l1In o r)) := by
  kernel_rfl
theorem W_spec_l1In : loopsOf D_spec_l1In = [] := by kernel_rfl
theorem Q_spec_l1In : Try.prog.funcs[46]? = some Try.f46 ∧ (Try.f46.name == "runtime.NumGoroutine") = false ∧ Try.f46.body = some D_spec_l1In := ⟨Try.func46, by kernel_rfl, by kernel_rfl⟩
theorem H_spec_l1In : Holds Try.prog 46 E_spec_l1In :=
  holds_of (cx := C_spec_l1In) (tabOk_ok tabT rfl).1 (allT_ok trivial) mixT Q_spec_l1In.1 Q_spec_l1In.2.2 (loops_of W_spec_l1In trivial) (enc := N_spec_l1In) (fun _ _ => ⟨rfl, rfl⟩) F_spec_l1In

theorem F_spec_l6Size (a : dens [.v .int]) : E_spec_l6Size.run a = funK C_spec_l6Size Try.f45 [.v .int] [.v .bool] a (fun o r => some (N_spec_l6Size o r)) := by
  kernel_rfl
theorem W_spec_l6Size : loopsOf D_spec_l6Size = [] := by kernel_rfl
theorem Q_spec_l6Size : Try.prog.funcs[45]? = some Try.f45 ∧ (Try.f45.name == "runtime.NumGoroutine") = false ∧ Try.f45.body = some D_spec_l6Size := ⟨Try.func45, by kernel_rfl, by kernel_rfl⟩
theorem H_spec_l6Size : Holds Try.prog 45 E_spec_l6Size :=
  holds_of (cx := C_spec_l6Size) (tabOk_ok tabT rfl).1 (allT_ok ⟨⟨H_spec_l1In, _, _, Q_spec_l1In⟩, trivial⟩) mixT Q_spec_l6Size.1 Q_spec_l6Size.2.2 (loops_of W_spec_l6Size trivial) (enc := N_spec_l6Size) (fun _ _ => ⟨rfl, rfl⟩) F_spec_l6Size

theorem K_spec_l2Pow_L2 (n : Nat) (x : Int × Int × Int) : spec_l2Pow_L2 (n + 1) x = roundK C_spec_l2Pow B_spec_l2Pow_L2 (S_spec_l2Pow_L2 fuel) x (spec_l2Pow_L2 n) := by
  obtain ⟨n_, k, out⟩ := x
  kernel_rfl
theorem F_spec_l2Pow (a : dens [.v .int, .v .int]) : E_spec_l2Pow.run a = funK C_spec_l2Pow Try.f47 [.v .int, .v .int] [.v .int] a (fun o r => some (N_spec_l2Pow o r)) := by
  kernel_rfl
theorem W_spec_l2Pow : loopsOf D_spec_l2Pow = [B_spec_l2Pow_L2] := by kernel_rfl
theorem R_spec_l2Pow_L2 : firstReg B_spec_l2Pow_L2 = 2 := by kernel_rfl
theorem Q_spec_l2Pow : Try.prog.funcs[47]? = some Try.f47 ∧ (Try.f47.name == "runtime.NumGoroutine") = false ∧ Try.f47.body = some D_spec_l2Pow := ⟨Try.func47, by kernel_rfl, by kernel_rfl⟩
theorem H_spec_l2Pow : Holds Try.prog 47 E_spec_l2Pow :=
  holds_of (cx := C_spec_l2Pow) (tabOk_ok tabT rfl).1 (allT_ok trivial) mixT Q_spec_l2Pow.1 Q_spec_l2Pow.2.2 (loops_of W_spec_l2Pow ⟨loop_of (cx := C_spec_l2Pow) (L := S_spec_l2Pow_L2 fuel) rfl (by rw [R_spec_l2Pow_L2]; rfl) ⟨spec_l2Pow_L2, fun _ => rfl, fun n x => K_spec_l2Pow_L2 n x, fuel, fun _ => rfl⟩, trivial⟩) (enc := N_spec_l2Pow) (fun _ _ => ⟨rfl, rfl⟩) F_spec_l2Pow

theorem K_spec_l2Elements_L2 (n : Nat) (x : Int × (List Int) × Int) : spec_l2Elements_L2 (n + 1) x = roundK C_spec_l2Elements B_spec_l2Elements_L2 (S_spec_l2Elements_L2 fuel) x (spec_l2Elements_L2 n) := by
  obtain ⟨n_, list, i⟩ := x
  kernel_rfl
theorem F_spec_l2Elements (a : dens [.v .int, .v (.slice .int)]) : E_spec_l2Elements.run a = funK C_spec_l2Elements Try.f72 [.v .int, .v (.slice .int)] [.v .bool] a (fun o r => some (N_spec_l2Elements o r)) := by
  kernel_rfl
theorem W_spec_l2Elements : loopsOf D_spec_l2Elements = [B_spec_l2Elements_L2] := by kernel_rfl
theorem R_spec_l2Elements_L2 : firstReg B_spec_l2Elements_L2 = 2 := by kernel_rfl
theorem Q_spec_l2Elements : Try.prog.funcs[72]? = some Try.f72 ∧ (Try.f72.name == "runtime.NumGoroutine") = false ∧ Try.f72.body = some D_spec_l2Elements := ⟨Try.func72, by kernel_rfl, by kernel_rfl⟩
theorem H_spec_l2Elements : Holds Try.prog 72 E_spec_l2Elements :=
  holds_of (cx := C_spec_l2Elements) (tabOk_ok tabT rfl).1 (allT_ok ⟨⟨H_spec_l1In, _, _, Q_spec_l1In⟩, trivial⟩) mixT Q_spec_l2Elements.1 Q_spec_l2Elements.2.2 (loops_of W_spec_l2Elements ⟨loop_of (cx := C_spec_l2Elements) (L := S_spec_l2Elements_L2 fuel) rfl (by rw [R_spec_l2Elements_L2]; rfl) ⟨spec_l2Elements_L2, fun _ => rfl, fun n x => K_spec_l2Elements_L2 n x, fuel, fun _ => rfl⟩, trivial⟩) (enc := N_spec_l2Elements) (fun _ _ => ⟨rfl, rfl⟩) F_spec_l2Elements

theorem F_spec_l8Tuple (a : dens [.v .int, .v .int, .v (.slice .int)]) : E_spec_l8Tuple.run a = funK C_spec_l8Tuple Try.f48 [.v .int, .v .int, .v (.slice .int)] [.v .bool] a (fun o r => some (N_spec_l8Tuple o r)) := by
  kernel_rfl
theorem W_spec_l8Tuple : loopsOf D_spec_l8Tuple = [] := by kernel_rfl
theorem Q_spec_l8Tuple : Try.prog.funcs[48]? = some Try.f48 ∧ (Try.f48.name == "runtime.NumGoroutine") = false ∧ Try.f48.body = some D_spec_l8Tuple := ⟨Try.func48, by kernel_rfl, by kernel_rfl⟩
theorem H_spec_l8Tuple : Holds Try.prog 48 E_spec_l8Tuple :=
  holds_of (cx := C_spec_l8Tuple) (tabOk_ok tabT rfl).1 (allT_ok ⟨⟨H_spec_l2Elements, _, _, Q_spec_l2Elements⟩, trivial⟩) mixT Q_spec_l8Tuple.1 Q_spec_l8Tuple.2.2 (loops_of W_spec_l8Tuple trivial) (enc := N_spec_l8Tuple) (fun _ _ => ⟨rfl, rfl⟩) F_spec_l8Tuple

theorem K_spec_l3Less_L2 (n : Nat) (x : (List Int) × (List Int) × Int) : spec_l3Less_L2 (n + 1) x = roundK C_spec_l3Less B_spec_l3Less_L2 (S_spec_l3Less_L2 fuel) x (spec_l3Less_L2 n) := by
  obtain ⟨a, b, i⟩ := x
  kernel_rfl
theorem F_spec_l3Less (a : dens [.v (.slice .int), .v (.slice .int)]) : E_spec_l3Less.run a = funK C_spec_l3Less Try.f49 [.v (.slice .int), .v (.slice .int)] [.v .bool] a (fun o r => some (N_spec_l3Less o r)) := by
  kernel_rfl
theorem W_spec_l3Less : loopsOf D_spec_l3Less = [B_spec_l3Less_L2] := by kernel_rfl
theorem R_spec_l3Less_L2 : firstReg B_spec_l3Less_L2 = 2 := by kernel_rfl
theorem Q_spec_l3Less : Try.prog.funcs[49]? = some Try.f49 ∧ (Try.f49.name == "runtime.NumGoroutine") = false ∧ Try.f49.body = some D_spec_l3Less := ⟨Try.func49, by kernel_rfl, by kernel_rfl⟩
theorem H_spec_l3Less : Holds Try.prog 49 E_spec_l3Less :=
  holds_of (cx := C_spec_l3Less) (tabOk_ok tabT rfl).1 (allT_ok trivial) mixT Q_spec_l3Less.1 Q_spec_l3Less.2.2 (loops_of W_spec_l3Less ⟨loop_of (cx := C_spec_l3Less) (L := S_spec_l3Less_L2 fuel) rfl (by rw [R_spec_l3Less_L2]; rfl) ⟨spec_l3Less_L2, fun _ => rfl, fun n x => K_spec_l3Less_L2 n x, fuel, fun _ => rfl⟩, trivial⟩) (enc := N_spec_l3Less) (fun _ _ => ⟨rfl, rfl⟩) F_spec_l3Less

theorem K_spec_l21Set_L4 (n : Nat) (x : Int × Int × (List (List Int)) × Int) : spec_l21Set_L4 (n + 1) x = roundK C_spec_l21Set B_spec_l21Set_L4 (S_spec_l21Set_L4 fuel) x (spec_l21Set_L4 n) := by
  obtain ⟨n_, k, tuples, i⟩ := x
  kernel_rfl
theorem F_spec_l21Set (a : dens [.v .int, .v .int, .v (.slice (.slice .int))]) : E_spec_l21Set.run a = funK C_spec_l21Set Try.f25 [.v .int, .v .int, .v (.slice (.slice .int))] [.v .bool] a (fun o r => some (N_spec_l21Set o r)) := by
  kernel_rfl
theorem W_spec_l21Set : loopsOf D_spec_l21Set = [B_spec_l21Set_L4] := by kernel_rfl
theorem R_spec_l21Set_L4 : firstReg B_spec_l21Set_L4 = 4 := by kernel_rfl
theorem Q_spec_l21Set : Try.prog.funcs[25]? = some Try.f25 ∧ (Try.f25.name == "runtime.NumGoroutine") = false ∧ Try.f25.body = some D_spec_l21Set := ⟨Try.func25, by kernel_rfl, by kernel_rfl⟩
theorem H_spec_l21Set : Holds Try.prog 25 E_spec_l21Set :=
  holds_of (cx := C_spec_l21Set) (tabOk_ok tabT rfl).1 (allT_ok ⟨⟨H_spec_l6Size, _, _, Q_spec_l6Size⟩, ⟨⟨H_spec_l1In, _, _, Q_spec_l1In⟩, ⟨⟨H_spec_l2Pow, _, _, Q_spec_l2Pow⟩, ⟨⟨H_spec_l8Tuple, _, _, Q_spec_l8Tuple⟩, ⟨⟨H_spec_l3Less, _, _, Q_spec_l3Less⟩, trivial⟩⟩⟩⟩⟩) mixT Q_spec_l21Set.1 Q_spec_l21Set.2.2 (loops_of W_spec_l21Set ⟨loop_of (cx := C_spec_l21Set) (L := S_spec_l21Set_L4 fuel) rfl (by rw [R_spec_l21Set_L4]; rfl) ⟨spec_l21Set_L4, fun _ => rfl, fun n x => K_spec_l21Set_L4 n x, fuel, fun _ => rfl⟩, trivial⟩) (enc := N_spec_l21Set) (fun _ _ => ⟨rfl, rfl⟩) F_spec_l21Set

theorem K_spec_l21Less_L3 (n : Nat) (x : Int × (List Int) × (List Int) × Int × (List Int) × Int) : spec_l21Less_L3 (n + 1) x = roundK C_spec_l21Less B_spec_l21Less_L3 (S_spec_l21Less_L3 fuel) x (spec_l21Less_L3 n) := by
  obtain ⟨p, row, other, by_, out, i⟩ := x
  kernel_rfl
theorem F_spec_l21Less (a : dens [.v .int, .v (.slice .int), .v (.slice .int), .v .int]) : E_spec_l21Less.run a = funK C_spec_l21Less Try.f28 [.v .int, .v (.slice .int), .v (.slice .int), .v .int] [.mv .int 0] a (fun o r => some (N_spec_l21Less o r)) := by
  kernel_rfl
theorem W_spec_l21Less : loopsOf D_spec_l21Less = [B_spec_l21Less_L3] := by kernel_rfl
theorem R_spec_l21Less_L3 : firstReg B_spec_l21Less_L3 = 3 := by kernel_rfl
theorem Q_spec_l21Less : Try.prog.funcs[28]? = some Try.f28 ∧ (Try.f28.name == "runtime.NumGoroutine") = false ∧ Try.f28.body = some D_spec_l21Less := ⟨Try.func28, by kernel_rfl, by kernel_rfl⟩
theorem H_spec_l21Less : Holds Try.prog 28 E_spec_l21Less :=
  holds_of (cx := C_spec_l21Less) (tabOk_ok tabT rfl).1 (allT_ok trivial) mixT Q_spec_l21Less.1 Q_spec_l21Less.2.2 (loops_of W_spec_l21Less ⟨loop_of (cx := C_spec_l21Less) (L := S_spec_l21Less_L3 fuel) rfl (by rw [R_spec_l21Less_L3]; rfl) ⟨spec_l21Less_L3, fun _ => rfl, fun n x => K_spec_l21Less_L3 n x, fuel, fun _ => rfl⟩, trivial⟩) (enc := N_spec_l21Less) (fun _ _ => ⟨rfl, rfl⟩) F_spec_l21Less

theorem K_spec_l1Same_L4 (n : Nat) (x : (List Int) × (List Int) × Int) : spec_l1Same_L4 (n + 1) x = roundK C_spec_l1Same B_spec_l1Same_L4 (S_spec_l1Same_L4 fuel) x (spec_l1Same_L4 n) := by
  obtain ⟨a, b, i⟩ := x
  kernel_rfl
theorem F_spec_l1Same (a : dens [.v (.slice .int), .v (.slice .int)]) : E_spec_l1Same.run a = funK C_spec_l1Same Try.f73 [.v (.slice .int), .v (.slice .int)] [.v .bool] a (fun o r => some (N_spec_l1Same o r)) := by
  kernel_rfl
theorem W_spec_l1Same : loopsOf D_spec_l1Same = [B_spec_l1Same_L4] := by kernel_rfl
theorem R_spec_l1Same_L4 : firstReg B_spec_l1Same_L4 = 4 := by kernel_rfl
theorem Q_spec_l1Same : Try.prog.funcs[73]? = some Try.f73 ∧ (Try.f73.name == "runtime.NumGoroutine") = false ∧ Try.f73.body = some D_spec_l1Same := ⟨Try.func73, by kernel_rfl, by kernel_rfl⟩
theorem H_spec_l1Same : Holds Try.prog 73 E_spec_l1Same :=
  holds_of (cx := C_spec_l1Same) (tabOk_ok tabT rfl).1 (allT_ok trivial) mixT Q_spec_l1Same.1 Q_spec_l1Same.2.2 (loops_of W_spec_l1Same ⟨loop_of (cx := C_spec_l1Same) (L := S_spec_l1Same_L4 fuel) rfl (by rw [R_spec_l1Same_L4]; rfl) ⟨spec_l1Same_L4, fun _ => rfl, fun n x => K_spec_l1Same_L4 n x, fuel, fun _ => rfl⟩, trivial⟩) (enc := N_spec_l1Same) (fun _ _ => ⟨rfl, rfl⟩) F_spec_l1Same

theorem K_spec_l8Find_L2 (n : Nat) (x : (List (List Int)) × (List Int) × Int × Int) : spec_l8Find_L2 (n + 1) x = roundK C_spec_l8Find B_spec_l8Find_L2 (S_spec_l8Find_L2 fuel) x (spec_l8Find_L2 n) := by
  obtain ⟨list, t, from_, to⟩ := x
  kernel_rfl
theorem F_spec_l8Find (a : dens [.v (.slice (.slice .int)), .v (.slice .int)]) : E_spec_l8Find.run a = funK C_spec_l8Find Try.f50 [.v (.slice (.slice .int)), .v (.slice .int)] [.v .int, .v .bool] a (fun o r => some (N_spec_l8Find o r)) := by
  kernel_rfl
theorem W_spec_l8Find : loopsOf D_spec_l8Find = [B_spec_l8Find_L2] := by kernel_rfl
theorem R_spec_l8Find_L2 : firstReg B_spec_l8Find_L2 = 2 := by kernel_rfl
theorem Q_spec_l8Find : Try.prog.funcs[50]? = some Try.f50 ∧ (Try.f50.name == "runtime.NumGoroutine") = false ∧ Try.f50.body = some D_spec_l8Find := ⟨Try.func50, by kernel_rfl, by kernel_rfl⟩
theorem H_spec_l8Find : Holds Try.prog 50 E_spec_l8Find :=
  holds_of (cx := C_spec_l8Find) (tabOk_ok tabT rfl).1 (allT_ok ⟨⟨H_spec_l3Less, _, _, Q_spec_l3Less⟩, ⟨⟨H_spec_l1Same, _, _, Q_spec_l1Same⟩, trivial⟩⟩) mixT Q_spec_l8Find.1 Q_spec_l8Find.2.2 (loops_of W_spec_l8Find ⟨loop_of (cx := C_spec_l8Find) (L := S_spec_l8Find_L2 fuel) rfl (by rw [R_spec_l8Find_L2]; rfl) ⟨spec_l8Find_L2, fun _ => rfl, fun n x => K_spec_l8Find_L2 n x, fuel, fun _ => rfl⟩, trivial⟩) (enc := N_spec_l8Find) (fun _ _ => ⟨rfl, rfl⟩) F_spec_l8Find

theorem K_spec_l21Affine_L9 (n : Nat) (x : Int × (List (List Int)) × Int × Int × (List Int) × Int) : spec_l21Affine_L9 (n + 1) x = roundK C_spec_l21Affine B_spec_l21Affine_L9 (S_spec_l21Affine_L9 fuel) x (spec_l21Affine_L9 n) := by
  obtain ⟨p, tuples, i, k, t, place⟩ := x
  kernel_rfl
theorem K_spec_l21Affine_L5 (n : Nat) (x : Int × (List (List Int)) × Int × Int) : spec_l21Affine_L5 (n + 1) x = roundK C_spec_l21Affine B_spec_l21Affine_L5 (S_spec_l21Affine_L5 fuel) x (spec_l21Affine_L5 n) := by
  obtain ⟨p, tuples, i, k⟩ := x
  kernel_rfl
theorem K_spec_l21Affine_L2 (n : Nat) (x : Int × (List (List Int)) × Int) : spec_l21Affine_L2 (n + 1) x = roundK C_spec_l21Affine B_spec_l21Affine_L2 (S_spec_l21Affine_L2 fuel) x (spec_l21Affine_L2 n) := by
  obtain ⟨p, tuples, i⟩ := x
  kernel_rfl
theorem F_spec_l21Affine (a : dens [.v .int, .v (.slice (.slice .int))]) : E_spec_l21Affine.run a = funK C_spec_l21Affine Try.f26 [.v .int, .v (.slice (.slice .int))] [.v .bool] a (fun o r => some (N_spec_l21Affine o r)) := by
  kernel_rfl
theorem W_spec_l21Affine : loopsOf D_spec_l21Affine = [B_spec_l21Affine_L2, B_spec_l21Affine_L5, B_spec_l21Affine_L9] := by kernel_rfl
theorem R_spec_l21Affine_L9 : firstReg B_spec_l21Affine_L9 = 9 := by kernel_rfl
theorem R_spec_l21Affine_L5 : firstReg B_spec_l21Affine_L5 = 5 := by kernel_rfl
theorem R_spec_l21Affine_L2 : firstReg B_spec_l21Affine_L2 = 2 := by kernel_rfl
theorem Q_spec_l21Affine : Try.prog.funcs[26]? = some Try.f26 ∧ (Try.f26.name == "runtime.NumGoroutine") = false ∧ Try.f26.body = some D_spec_l21Affine := ⟨Try.func26, by kernel_rfl, by kernel_rfl⟩
theorem H_spec_l21Affine : Holds Try.prog 26 E_spec_l21Affine :=
  holds_of (cx := C_spec_l21Affine) (tabOk_ok tabT rfl).1 (allT_ok ⟨⟨H_spec_l21Less, _, _, Q_spec_l21Less⟩, ⟨⟨H_spec_l8Find, _, _, Q_spec_l8Find⟩, trivial⟩⟩) mixT Q_spec_l21Affine.1 Q_spec_l21Affine.2.2 (loops_of W_spec_l21Affine ⟨loop_of (cx := C_spec_l21Affine) (L := S_spec_l21Affine_L2 fuel) rfl (by rw [R_spec_l21Affine_L2]; rfl) ⟨spec_l21Affine_L2, fun _ => rfl, fun n x => K_spec_l21Affine_L2 n x, fuel, fun _ => rfl⟩, ⟨loop_of (cx := C_spec_l21Affine) (L := S_spec_l21Affine_L5 fuel) rfl (by rw [R_spec_l21Affine_L5]; rfl) ⟨spec_l21Affine_L5, fun _ => rfl, fun n x => K_spec_l21Affine_L5 n x, fuel, fun _ => rfl⟩, ⟨loop_of (cx := C_spec_l21Affine) (L := S_spec_l21Affine_L9 fuel) rfl (by rw [R_spec_l21Affine_L9]; rfl) ⟨spec_l21Affine_L9, fun _ => rfl, fun n x => K_spec_l21Affine_L9 n x, fuel, fun _ => rfl⟩, trivial⟩⟩⟩) (enc := N_spec_l21Affine) (fun _ _ => ⟨rfl, rfl⟩) F_spec_l21Affine

theorem F_spec_l1Own (a : dens [.v (.slice .int)]) : E_spec_l1Own.run a = funK C_spec_l1Own Try.f30 [.v (.slice .int)] [.mv .int 0] a (fun o r => some (N_spec_l1Own o r)) := by
  kernel_rfl
theorem W_spec_l1Own : loopsOf D_spec_l1Own = [] := by kernel_rfl
theorem Q_spec_l1Own : Try.prog.funcs[30]? = some Try.f30 ∧ (Try.f30.name == "runtime.NumGoroutine") = false ∧ Try.f30.body = some D_spec_l1Own := ⟨Try.func30, by kernel_rfl, by kernel_rfl⟩
theorem H_spec_l1Own : Holds Try.prog 30 E_spec_l1Own :=
  holds_of (cx := C_spec_l1Own) (tabOk_ok tabT rfl).1 (allT_ok trivial) mixT Q_spec_l1Own.1 Q_spec_l1Own.2.2 (loops_of W_spec_l1Own trivial) (enc := N_spec_l1Own) (fun _ _ => ⟨rfl, rfl⟩) F_spec_l1Own

theorem K_spec_l21Inverse_L2 (n : Nat) (x : Int × Int × Int) : spec_l21Inverse_L2 (n + 1) x = roundK C_spec_l21Inverse B_spec_l21Inverse_L2 (S_spec_l21Inverse_L2 fuel) x (spec_l21Inverse_L2 n) := by
  obtain ⟨p, x, y⟩ := x
  kernel_rfl
theorem F_spec_l21Inverse (a : dens [.v .int, .v .int]) : E_spec_l21Inverse.run a = funK C_spec_l21Inverse Try.f52 [.v .int, .v .int] [.v .int] a (fun o r => some (N_spec_l21Inverse o r)) := by
  kernel_rfl
theorem W_spec_l21Inverse : loopsOf D_spec_l21Inverse = [B_spec_l21Inverse_L2] := by kernel_rfl
theorem R_spec_l21Inverse_L2 : firstReg B_spec_l21Inverse_L2 = 2 := by kernel_rfl
theorem Q_spec_l21Inverse : Try.prog.funcs[52]? = some Try.f52 ∧ (Try.f52.name == "runtime.NumGoroutine") = false ∧ Try.f52.body = some D_spec_l21Inverse := ⟨Try.func52, by kernel_rfl, by kernel_rfl⟩
theorem H_spec_l21Inverse : Holds Try.prog 52 E_spec_l21Inverse :=
  holds_of (cx := C_spec_l21Inverse) (tabOk_ok tabT rfl).1 (allT_ok trivial) mixT Q_spec_l21Inverse.1 Q_spec_l21Inverse.2.2 (loops_of W_spec_l21Inverse ⟨loop_of (cx := C_spec_l21Inverse) (L := S_spec_l21Inverse_L2 fuel) rfl (by rw [R_spec_l21Inverse_L2]; rfl) ⟨spec_l21Inverse_L2, fun _ => rfl, fun n x => K_spec_l21Inverse_L2 n x, fuel, fun _ => rfl⟩, trivial⟩) (enc := N_spec_l21Inverse) (fun _ _ => ⟨rfl, rfl⟩) F_spec_l21Inverse

theorem K_spec_l21Scale_L3 (n : Nat) (x : Int × (List Int) × Int × (List Int) × Int) : spec_l21Scale_L3 (n + 1) x = roundK C_spec_l21Scale B_spec_l21Scale_L3 (S_spec_l21Scale_L3 fuel) x (spec_l21Scale_L3 n) := by
  obtain ⟨p, row, by_, out, i⟩ := x
  kernel_rfl
theorem F_spec_l21Scale (a : dens [.v .int, .v (.slice .int), .v .int]) : E_spec_l21Scale.run a = funK C_spec_l21Scale Try.f51 [.v .int, .v (.slice .int), .v .int] [.mv .int 0] a (fun o r => some (N_spec_l21Scale o r)) := by
  kernel_rfl
theorem W_spec_l21Scale : loopsOf D_spec_l21Scale = [B_spec_l21Scale_L3] := by kernel_rfl
theorem R_spec_l21Scale_L3 : firstReg B_spec_l21Scale_L3 = 3 := by kernel_rfl
theorem Q_spec_l21Scale : Try.prog.funcs[51]? = some Try.f51 ∧ (Try.f51.name == "runtime.NumGoroutine") = false ∧ Try.f51.body = some D_spec_l21Scale := ⟨Try.func51, by kernel_rfl, by kernel_rfl⟩
theorem H_spec_l21Scale : Holds Try.prog 51 E_spec_l21Scale :=
  holds_of (cx := C_spec_l21Scale) (tabOk_ok tabT rfl).1 (allT_ok trivial) mixT Q_spec_l21Scale.1 Q_spec_l21Scale.2.2 (loops_of W_spec_l21Scale ⟨loop_of (cx := C_spec_l21Scale) (L := S_spec_l21Scale_L3 fuel) rfl (by rw [R_spec_l21Scale_L3]; rfl) ⟨spec_l21Scale_L3, fun _ => rfl, fun n x => K_spec_l21Scale_L3 n x, fuel, fun _ => rfl⟩, trivial⟩) (enc := N_spec_l21Scale) (fun _ _ => ⟨rfl, rfl⟩) F_spec_l21Scale

theorem K_spec_l21Eliminate_L3 (n : Nat) (x : Int × Int × (List (List Int)) × ((List (List Int)) × ((List Int) × (List (List Int)))) × ((List (List Int)) × ((List Int) × (List (List Int)))) × Int) : spec_l21Eliminate_L3 (n + 1) x = roundK C_spec_l21Eliminate B_spec_l21Eliminate_L3 (S_spec_l21Eliminate_L3 fuel) x (spec_l21Eliminate_L3 n) := by
  obtain ⟨t0, t1, t2, t6, t7, t8⟩ := x
  kernel_rfl
theorem K_spec_l21Eliminate_L10 (n : Nat) (x : Int × Int × ((List (List Int)) × ((List Int) × (List (List Int)))) × ((List (List Int)) × ((List Int) × (List (List Int)))) × Int × Int) : spec_l21Eliminate_L10 (n + 1) x = roundK C_spec_l21Eliminate B_spec_l21Eliminate_L10 (S_spec_l21Eliminate_L10 fuel) x (spec_l21Eliminate_L10 n) := by
  obtain ⟨t0, t1, t6, t7, t9, t10⟩ := x
  kernel_rfl
theorem K_spec_l21Eliminate_L16 (n : Nat) (x : Int × Int × ((List (List Int)) × ((List Int) × (List (List Int)))) × ((List (List Int)) × ((List Int) × (List (List Int)))) × Int × (List Int) × (List (List Int)) × Int) : spec_l21Eliminate_L16 (n + 1) x = roundK C_spec_l21Eliminate B_spec_l21Eliminate_L16 (S_spec_l21Eliminate_L16 fuel) x (spec_l21Eliminate_L16 n) := by
  obtain ⟨t0, t1, t6, t7, t9, t11, t12, t13⟩ := x
  kernel_rfl
theorem K_spec_l21Eliminate_L20 (n : Nat) (x : Int × Int × ((List (List Int)) × ((List Int) × (List (List Int)))) × ((List (List Int)) × ((List Int) × (List (List Int)))) × Int × (List Int) × (List (List Int)) × Int) : spec_l21Eliminate_L20 (n + 1) x = roundK C_spec_l21Eliminate B_spec_l21Eliminate_L20 (S_spec_l21Eliminate_L20 fuel) x (spec_l21Eliminate_L20 n) := by
  obtain ⟨t0, t1, t6, t7, t9, t11, t12, t14⟩ := x
  kernel_rfl
theorem K_spec_l21Eliminate_L7 (n : Nat) (x : Int × Int × ((List (List Int)) × ((List Int) × (List (List Int)))) × ((List (List Int)) × ((List Int) × (List (List Int)))) × Int) : spec_l21Eliminate_L7 (n + 1) x = roundK C_spec_l21Eliminate B_spec_l21Eliminate_L7 (S_spec_l21Eliminate_L7 fuel) x (spec_l21Eliminate_L7 n) := by
  obtain ⟨t0, t1, t6, t7, t9⟩ := x
  kernel_rfl
theorem F_spec_l21Eliminate (a : dens [.v .int, .v .int, .v (.slice (.slice .int))]) : E_spec_l21Eliminate.run a = funK C_spec_l21Eliminate Try.f27 [.v .int, .v .int, .v (.slice (.slice .int))] [.pr (.mv (.slice .int) 0) (.pr (.mv .int 0) (.v (.slice (.slice .int))))] a (fun o r => some (N_spec_l21Eliminate o r)) := by
  kernel_rfl
theorem W_spec_l21Eliminate : loopsOf D_spec_l21Eliminate = [B_spec_l21Eliminate_L3, B_spec_l21Eliminate_L7, B_spec_l21Eliminate_L10, B_spec_l21Eliminate_L16, B_spec_l21Eliminate_L20] := by kernel_rfl
theorem R_spec_l21Eliminate_L3 : firstReg B_spec_l21Eliminate_L3 = 3 := by kernel_rfl
theorem R_spec_l21Eliminate_L10 : firstReg B_spec_l21Eliminate_L10 = 10 := by kernel_rfl
theorem R_spec_l21Eliminate_L16 : firstReg B_spec_l21Eliminate_L16 = 16 := by kernel_rfl
theorem R_spec_l21Eliminate_L20 : firstReg B_spec_l21Eliminate_L20 = 20 := by kernel_rfl
theorem R_spec_l21Eliminate_L7 : firstReg B_spec_l21Eliminate_L7 = 7 := by kernel_rfl
theorem Q_spec_l21Eliminate : Try.prog.funcs[27]? = some Try.f27 ∧ (Try.f27.name == "runtime.NumGoroutine") = false ∧ Try.f27.body = some D_spec_l21Eliminate := ⟨Try.func27, by kernel_rfl, by kernel_rfl⟩
theorem H_spec_l21Eliminate : Holds Try.prog 27 E_spec_l21Eliminate :=
  holds_of (cx := C_spec_l21Eliminate) (tabOk_ok tabT rfl).1 (allT_ok ⟨⟨H_spec_l21Less, _, _, Q_spec_l21Less⟩, ⟨⟨H_spec_l1Own, _, _, Q_spec_l1Own⟩, ⟨⟨H_spec_l21Scale, _, _, Q_spec_l21Scale⟩, ⟨⟨H_spec_l21Inverse, _, _, Q_spec_l21Inverse⟩, trivial⟩⟩⟩⟩) mixT Q_spec_l21Eliminate.1 Q_spec_l21Eliminate.2.2 (loops_of W_spec_l21Eliminate ⟨loop_of (cx := C_spec_l21Eliminate) (L := S_spec_l21Eliminate_L3 fuel) rfl (by rw [R_spec_l21Eliminate_L3]; rfl) ⟨spec_l21Eliminate_L3, fun _ => rfl, fun n x => K_spec_l21Eliminate_L3 n x, fuel, fun _ => rfl⟩, ⟨loop_of (cx := C_spec_l21Eliminate) (L := S_spec_l21Eliminate_L7 fuel) rfl (by rw [R_spec_l21Eliminate_L7]; rfl) ⟨spec_l21Eliminate_L7, fun _ => rfl, fun n x => K_spec_l21Eliminate_L7 n x, fuel, fun _ => rfl⟩, ⟨loop_of (cx := C_spec_l21Eliminate) (L := S_spec_l21Eliminate_L10 fuel) rfl (by rw [R_spec_l21Eliminate_L10]; rfl) ⟨spec_l21Eliminate_L10, fun _ => rfl, fun n x => K_spec_l21Eliminate_L10 n x, fuel, fun _ => rfl⟩, ⟨loop_of (cx := C_spec_l21Eliminate) (L := S_spec_l21Eliminate_L16 fuel) rfl (by rw [R_spec_l21Eliminate_L16]; rfl) ⟨spec_l21Eliminate_L16, fun _ => rfl, fun n x => K_spec_l21Eliminate_L16 n x, fuel, fun _ => rfl⟩, ⟨loop_of (cx := C_spec_l21Eliminate) (L := S_spec_l21Eliminate_L20 fuel) rfl (by rw [R_spec_l21Eliminate_L20]; rfl) ⟨spec_l21Eliminate_L20, fun _ => rfl, fun n x => K_spec_l21Eliminate_L20 n x, fuel, fun _ => rfl⟩, trivial⟩⟩⟩⟩⟩) (enc := N_spec_l21Eliminate) (fun _ _ => ⟨rfl, rfl⟩) F_spec_l21Eliminate

theorem K_spec_l1Has_L2 (n : Nat) (x : (List Int) × Int × Int) : spec_l1Has_L2 (n + 1) x = roundK C_spec_l1Has B_spec_l1Has_L2 (S_spec_l1Has_L2 fuel) x (spec_l1Has_L2 n) := by
  obtain ⟨l, n_, i⟩ := x
  kernel_rfl
theorem F_spec_l1Has (a : dens [.v (.slice .int), .v .int]) : E_spec_l1Has.run a = funK C_spec_l1Has Try.f74 [.v (.slice .int), .v .int] [.v .bool] a (fun o r => some (N_spec_l1Has o r)) := by
  kernel_rfl
theorem W_spec_l1Has : loopsOf D_spec_l1Has = [B_spec_l1Has_L2] := by kernel_rfl
theorem R_spec_l1Has_L2 : firstReg B_spec_l1Has_L2 = 2 := by kernel_rfl
theorem Q_spec_l1Has : Try.prog.funcs[74]? = some Try.f74 ∧ (Try.f74.name == "runtime.NumGoroutine") = false ∧ Try.f74.body = some D_spec_l1Has := ⟨Try.func74, by kernel_rfl, by kernel_rfl⟩
theorem H_spec_l1Has : Holds Try.prog 74 E_spec_l1Has :=
  holds_of (cx := C_spec_l1Has) (tabOk_ok tabT rfl).1 (allT_ok trivial) mixT Q_spec_l1Has.1 Q_spec_l1Has.2.2 (loops_of W_spec_l1Has ⟨loop_of (cx := C_spec_l1Has) (L := S_spec_l1Has_L2 fuel) rfl (by rw [R_spec_l1Has_L2]; rfl) ⟨spec_l1Has_L2, fun _ => rfl, fun n x => K_spec_l1Has_L2 n x, fuel, fun _ => rfl⟩, trivial⟩) (enc := N_spec_l1Has) (fun _ _ => ⟨rfl, rfl⟩) F_spec_l1Has

theorem K_spec_l21Free_L3 (n : Nat) (x : Int × ((List (List Int)) × (List Int) × (List (List Int))) × (List Int) × Int) : spec_l21Free_L3 (n + 1) x = roundK C_spec_l21Free B_spec_l21Free_L3 (S_spec_l21Free_L3 fuel) x (spec_l21Free_L3 n) := by
  obtain ⟨vars, w, out, v⟩ := x
  kernel_rfl
theorem F_spec_l21Free (a : dens [.v (.pair (.slice (.slice .int)) (.pair (.slice .int) (.slice (.slice .int)))), .v .int]) : E_spec_l21Free.run a = funK C_spec_l21Free Try.f53 [.v (.pair (.slice (.slice .int)) (.pair (.slice .int) (.slice (.slice .int)))), .v .int] [.mv .int 0] a (fun o r => some (N_spec_l21Free o r)) := by
  kernel_rfl
theorem W_spec_l21Free : loopsOf D_spec_l21Free = [B_spec_l21Free_L3] := by kernel_rfl
theorem R_spec_l21Free_L3 : firstReg B_spec_l21Free_L3 = 3 := by kernel_rfl
theorem Q_spec_l21Free : Try.prog.funcs[53]? = some Try.f53 ∧ (Try.f53.name == "runtime.NumGoroutine") = false ∧ Try.f53.body = some D_spec_l21Free := ⟨Try.func53, by kernel_rfl, by kernel_rfl⟩
theorem H_spec_l21Free : Holds Try.prog 53 E_spec_l21Free :=
  holds_of (cx := C_spec_l21Free) (tabOk_ok tabT rfl).1 (allT_ok ⟨⟨H_spec_l1Has, _, _, Q_spec_l1Has⟩, trivial⟩) mixT Q_spec_l21Free.1 Q_spec_l21Free.2.2 (loops_of W_spec_l21Free ⟨loop_of (cx := C_spec_l21Free) (L := S_spec_l21Free_L3 fuel) rfl (by rw [R_spec_l21Free_L3]; rfl) ⟨spec_l21Free_L3, fun _ => rfl, fun n x => K_spec_l21Free_L3 n x, fuel, fun _ => rfl⟩, trivial⟩) (enc := N_spec_l21Free) (fun _ _ => ⟨rfl, rfl⟩) F_spec_l21Free

theorem K_spec_l21Kernel_L8 (n : Nat) (x : Int × Int × ((List (List Int)) × (List Int) × (List (List Int))) × (List (List Int)) × (List Int) × Int × (List Int) × Int) : spec_l21Kernel_L8 (n + 1) x = roundK C_spec_l21Kernel B_spec_l21Kernel_L8 (S_spec_l21Kernel_L8 fuel) x (spec_l21Kernel_L8 n) := by
  obtain ⟨p, vars, w, out, free, i, values, k⟩ := x
  kernel_rfl
theorem K_spec_l21Kernel_L3 (n : Nat) (x : Int × Int × ((List (List Int)) × (List Int) × (List (List Int))) × (List (List Int)) × (List Int) × Int) : spec_l21Kernel_L3 (n + 1) x = roundK C_spec_l21Kernel B_spec_l21Kernel_L3 (S_spec_l21Kernel_L3 fuel) x (spec_l21Kernel_L3 n) := by
  obtain ⟨p, vars, w, out, free, i⟩ := x
  kernel_rfl
theorem F_spec_l21Kernel (a : dens [.v (.pair (.slice (.slice .int)) (.pair (.slice .int) (.slice (.slice .int)))), .v .int, .v .int]) : E_spec_l21Kernel.run a = funK C_spec_l21Kernel Try.f29 [.v (.pair (.slice (.slice .int)) (.pair (.slice .int) (.slice (.slice .int)))), .v .int, .v .int] [.mv (.slice .int) 0] a (fun o r => some (N_spec_l21Kernel o r)) := by
  kernel_rfl
theorem W_spec_l21Kernel : loopsOf D_spec_l21Kernel = [B_spec_l21Kernel_L3, B_spec_l21Kernel_L8] := by kernel_rfl
theorem R_spec_l21Kernel_L8 : firstReg B_spec_l21Kernel_L8 = 8 := by kernel_rfl
theorem R_spec_l21Kernel_L3 : firstReg B_spec_l21Kernel_L3 = 3 := by kernel_rfl
theorem Q_spec_l21Kernel : Try.prog.funcs[29]? = some Try.f29 ∧ (Try.f29.name == "runtime.NumGoroutine") = false ∧ Try.f29.body = some D_spec_l21Kernel := ⟨Try.func29, by kernel_rfl, by kernel_rfl⟩
theorem H_spec_l21Kernel : Holds Try.prog 29 E_spec_l21Kernel :=
  holds_of (cx := C_spec_l21Kernel) (tabOk_ok tabT rfl).1 (allT_ok ⟨⟨H_spec_l21Free, _, _, Q_spec_l21Free⟩, trivial⟩) mixT Q_spec_l21Kernel.1 Q_spec_l21Kernel.2.2 (loops_of W_spec_l21Kernel ⟨loop_of (cx := C_spec_l21Kernel) (L := S_spec_l21Kernel_L3 fuel) rfl (by rw [R_spec_l21Kernel_L3]; rfl) ⟨spec_l21Kernel_L3, fun _ => rfl, fun n x => K_spec_l21Kernel_L3 n x, fuel, fun _ => rfl⟩, ⟨loop_of (cx := C_spec_l21Kernel) (L := S_spec_l21Kernel_L8 fuel) rfl (by rw [R_spec_l21Kernel_L8]; rfl) ⟨spec_l21Kernel_L8, fun _ => rfl, fun n x => K_spec_l21Kernel_L8 n x, fuel, fun _ => rfl⟩, trivial⟩⟩) (enc := N_spec_l21Kernel) (fun _ _ => ⟨rfl, rfl⟩) F_spec_l21Kernel

theorem K_spec_EquationsOf_L5 (n : Nat) (x : Int × Int × (List (List Int)) × (Int × (Int × (List (List Int)))) × (List (List Int)) × Int) : spec_EquationsOf_L5 (n + 1) x = roundK C_spec_EquationsOf B_spec_EquationsOf_L5 (S_spec_EquationsOf_L5 fuel) x (spec_EquationsOf_L5 n) := by
  obtain ⟨t0, t1, t2, t6, t8, t9⟩ := x
  kernel_rfl
theorem K_spec_EquationsOf_L15 (n : Nat) (x : Int × Int × (List (List Int)) × (Int × (Int × (List (List Int)))) × (List (List Int)) × (List (List Int)) × Int × Int × Int) : spec_EquationsOf_L15 (n + 1) x = roundK C_spec_EquationsOf B_spec_EquationsOf_L15 (S_spec_EquationsOf_L15 fuel) x (spec_EquationsOf_L15 n) := by
  obtain ⟨t0, t1, t2, t6, t10, t11, t12, t13, t14⟩ := x
  kernel_rfl
theorem K_spec_EquationsOf_L11 (n : Nat) (x : Int × Int × (List (List Int)) × (Int × (Int × (List (List Int)))) × (List (List Int)) × (List (List Int)) × Int) : spec_EquationsOf_L11 (n + 1) x = roundK C_spec_EquationsOf B_spec_EquationsOf_L11 (S_spec_EquationsOf_L11 fuel) x (spec_EquationsOf_L11 n) := by
  obtain ⟨t0, t1, t2, t6, t10, t11, t12⟩ := x
  kernel_rfl
theorem F_spec_EquationsOf (a : dens [.v .int, .v .int, .v (.slice (.slice .int))]) : E_spec_EquationsOf.run a = funK C_spec_EquationsOf Try.f6 [.v .int, .v .int, .v (.slice (.slice .int))] [.pr (.v .int) (.pr (.v .int) (.mv (.slice .int) 0)), .v .bool] a (fun o r => some (N_spec_EquationsOf o r)) := by
  kernel_rfl
theorem W_spec_EquationsOf : loopsOf D_spec_EquationsOf = [B_spec_EquationsOf_L5, B_spec_EquationsOf_L11, B_spec_EquationsOf_L15] := by kernel_rfl
theorem R_spec_EquationsOf_L5 : firstReg B_spec_EquationsOf_L5 = 5 := by kernel_rfl
theorem R_spec_EquationsOf_L15 : firstReg B_spec_EquationsOf_L15 = 15 := by kernel_rfl
theorem R_spec_EquationsOf_L11 : firstReg B_spec_EquationsOf_L11 = 11 := by kernel_rfl
theorem Q_spec_EquationsOf : Try.prog.funcs[6]? = some Try.f6 ∧ (Try.f6.name == "runtime.NumGoroutine") = false ∧ Try.f6.body = some D_spec_EquationsOf := ⟨Try.func6, by kernel_rfl, by kernel_rfl⟩
theorem H_spec_EquationsOf : Holds Try.prog 6 E_spec_EquationsOf :=
  holds_of (cx := C_spec_EquationsOf) (tabOk_ok tabT rfl).1 (allT_ok ⟨⟨H_spec_l21Prime, _, _, Q_spec_l21Prime⟩, ⟨⟨H_spec_l21Set, _, _, Q_spec_l21Set⟩, ⟨⟨H_spec_l21Affine, _, _, Q_spec_l21Affine⟩, ⟨⟨H_spec_l21Eliminate, _, _, Q_spec_l21Eliminate⟩, ⟨⟨H_spec_l21Less, _, _, Q_spec_l21Less⟩, ⟨⟨H_spec_l21Kernel, _, _, Q_spec_l21Kernel⟩, ⟨⟨H_spec_l1Own, _, _, Q_spec_l1Own⟩, trivial⟩⟩⟩⟩⟩⟩⟩) mixT Q_spec_EquationsOf.1 Q_spec_EquationsOf.2.2 (loops_of W_spec_EquationsOf ⟨loop_of (cx := C_spec_EquationsOf) (L := S_spec_EquationsOf_L5 fuel) rfl (by rw [R_spec_EquationsOf_L5]; rfl) ⟨spec_EquationsOf_L5, fun _ => rfl, fun n x => K_spec_EquationsOf_L5 n x, fuel, fun _ => rfl⟩, ⟨loop_of (cx := C_spec_EquationsOf) (L := S_spec_EquationsOf_L11 fuel) rfl (by rw [R_spec_EquationsOf_L11]; rfl) ⟨spec_EquationsOf_L11, fun _ => rfl, fun n x => K_spec_EquationsOf_L11 n x, fuel, fun _ => rfl⟩, ⟨loop_of (cx := C_spec_EquationsOf) (L := S_spec_EquationsOf_L15 fuel) rfl (by rw [R_spec_EquationsOf_L15]; rfl) ⟨spec_EquationsOf_L15, fun _ => rfl, fun n x => K_spec_EquationsOf_L15 n x, fuel, fun _ => rfl⟩, trivial⟩⟩⟩) (enc := N_spec_EquationsOf) (fun _ _ => ⟨rfl, rfl⟩) F_spec_EquationsOf

theorem F_impl_isPrime (a : dens [.v .int]) : E_impl_isPrime.run a = funK C_impl_isPrime Try.f54 [.v .int] [.v .bool] a (fun o r => some (N_impl_isPrime o r)) := by
  kernel_rfl
theorem W_impl_isPrime : loopsOf D_impl_isPrime = [] := by kernel_rfl
theorem Q_impl_isPrime : Try.prog.funcs[54]? = some Try.f54 ∧ (Try.f54.name == "runtime.NumGoroutine") = false ∧ Try.f54.body = some D_impl_isPrime := ⟨Try.func54, by kernel_rfl, by kernel_rfl⟩
theorem H_impl_isPrime : Holds Try.prog 54 E_impl_isPrime :=
  holds_of (cx := C_impl_isPrime) (tabOk_ok tabT rfl).1 (allT_ok trivial) mixT Q_impl_isPrime.1 Q_impl_isPrime.2.2 (loops_of W_impl_isPrime trivial) (enc := N_impl_isPrime) (fun _ _ => ⟨rfl, rfl⟩) F_impl_isPrime

theorem F_impl_isSize (a : dens [.v .int]) : E_impl_isSize.run a = funK C_impl_isSize Try.f75 [.v .int] [.v .bool] a (fun o r => some (N_impl_isSize o r)) := by
  kernel_rfl
theorem W_impl_isSize : loopsOf D_impl_isSize = [] := by kernel_rfl
theorem Q_impl_isSize : Try.prog.funcs[75]? = some Try.f75 ∧ (Try.f75.name == "runtime.NumGoroutine") = false ∧ Try.f75.body = some D_impl_isSize := ⟨Try.func75, by kernel_rfl, by kernel_rfl⟩
theorem H_impl_isSize : Holds Try.prog 75 E_impl_isSize :=
  holds_of (cx := C_impl_isSize) (tabOk_ok tabT rfl).1 (allT_ok trivial) mixT Q_impl_isSize.1 Q_impl_isSize.2.2 (loops_of W_impl_isSize trivial) (enc := N_impl_isSize) (fun _ _ => ⟨rfl, rfl⟩) F_impl_isSize

theorem K_impl_inSize_L2 (n : Nat) (x : Int × (List Int) × Int × Int) : impl_inSize_L2 (n + 1) x = roundK C_impl_inSize B_impl_inSize_L2 (S_impl_inSize_L2 fuel) x (impl_inSize_L2 n) := by
  obtain ⟨n_, t7, t8, t9⟩ := x
  kernel_rfl
theorem F_impl_inSize (a : dens [.v (.slice .int), .v .int]) : E_impl_inSize.run a = funK C_impl_inSize Try.f76 [.v (.slice .int), .v .int] [.v .bool] a (fun o r => some (N_impl_inSize o r)) := by
  kernel_rfl
theorem W_impl_inSize : loopsOf D_impl_inSize = [B_impl_inSize_L2] := by kernel_rfl
theorem R_impl_inSize_L2 : firstReg B_impl_inSize_L2 = 2 := by kernel_rfl
theorem Q_impl_inSize : Try.prog.funcs[76]? = some Try.f76 ∧ (Try.f76.name == "runtime.NumGoroutine") = false ∧ Try.f76.body = some D_impl_inSize := ⟨Try.func76, by kernel_rfl, by kernel_rfl⟩
theorem H_impl_inSize : Holds Try.prog 76 E_impl_inSize :=
  holds_of (cx := C_impl_inSize) (tabOk_ok tabT rfl).1 (allT_ok trivial) mixT Q_impl_inSize.1 Q_impl_inSize.2.2 (loops_of W_impl_inSize ⟨loop_of (cx := C_impl_inSize) (L := S_impl_inSize_L2 fuel) rfl (by rw [R_impl_inSize_L2]; rfl) ⟨impl_inSize_L2, fun _ => rfl, fun n x => K_impl_inSize_L2 n x, fuel, fun _ => rfl⟩, trivial⟩) (enc := N_impl_inSize) (fun _ _ => ⟨rfl, rfl⟩) F_impl_inSize

theorem K_impl_compareLists_L2 (n : Nat) (x : (List Int) × (List Int) × Int) : impl_compareLists_L2 (n + 1) x = roundK C_impl_compareLists B_impl_compareLists_L2 (S_impl_compareLists_L2 fuel) x (impl_compareLists_L2 n) := by
  obtain ⟨s, t, i⟩ := x
  kernel_rfl
theorem F_impl_compareLists (a : dens [.v (.slice .int), .v (.slice .int)]) : E_impl_compareLists.run a = funK C_impl_compareLists Try.f77 [.v (.slice .int), .v (.slice .int)] [.v .int] a (fun o r => some (N_impl_compareLists o r)) := by
  kernel_rfl
theorem W_impl_compareLists : loopsOf D_impl_compareLists = [B_impl_compareLists_L2] := by kernel_rfl
theorem R_impl_compareLists_L2 : firstReg B_impl_compareLists_L2 = 2 := by kernel_rfl
theorem Q_impl_compareLists : Try.prog.funcs[77]? = some Try.f77 ∧ (Try.f77.name == "runtime.NumGoroutine") = false ∧ Try.f77.body = some D_impl_compareLists := ⟨Try.func77, by kernel_rfl, by kernel_rfl⟩
theorem H_impl_compareLists : Holds Try.prog 77 E_impl_compareLists :=
  holds_of (cx := C_impl_compareLists) (tabOk_ok tabT rfl).1 (allT_ok trivial) mixT Q_impl_compareLists.1 Q_impl_compareLists.2.2 (loops_of W_impl_compareLists ⟨loop_of (cx := C_impl_compareLists) (L := S_impl_compareLists_L2 fuel) rfl (by rw [R_impl_compareLists_L2]; rfl) ⟨impl_compareLists_L2, fun _ => rfl, fun n x => K_impl_compareLists_L2 n x, fuel, fun _ => rfl⟩, trivial⟩) (enc := N_impl_compareLists) (fun _ _ => ⟨rfl, rfl⟩) F_impl_compareLists

theorem K_impl_isTupleSet_L4 (n : Nat) (x : Int × Int × (List (List Int)) × (List (List Int)) × Int × Int) : impl_isTupleSet_L4 (n + 1) x = roundK C_impl_isTupleSet B_impl_isTupleSet_L4 (S_impl_isTupleSet_L4 fuel) x (impl_isTupleSet_L4 n) := by
  obtain ⟨n_, k, tuples, t20, t21, t22⟩ := x
  kernel_rfl
theorem F_impl_isTupleSet (a : dens [.v .int, .v .int, .v (.slice (.slice .int))]) : E_impl_isTupleSet.run a = funK C_impl_isTupleSet Try.f55 [.v .int, .v .int, .v (.slice (.slice .int))] [.v .bool] a (fun o r => some (N_impl_isTupleSet o r)) := by
  kernel_rfl
theorem W_impl_isTupleSet : loopsOf D_impl_isTupleSet = [B_impl_isTupleSet_L4] := by kernel_rfl
theorem R_impl_isTupleSet_L4 : firstReg B_impl_isTupleSet_L4 = 4 := by kernel_rfl
theorem Q_impl_isTupleSet : Try.prog.funcs[55]? = some Try.f55 ∧ (Try.f55.name == "runtime.NumGoroutine") = false ∧ Try.f55.body = some D_impl_isTupleSet := ⟨Try.func55, by kernel_rfl, by kernel_rfl⟩
theorem H_impl_isTupleSet : Holds Try.prog 55 E_impl_isTupleSet :=
  holds_of (cx := C_impl_isTupleSet) (tabOk_ok tabT rfl).1 (allT_ok ⟨⟨H_impl_isSize, _, _, Q_impl_isSize⟩, ⟨⟨H_impl_inSize, _, _, Q_impl_inSize⟩, ⟨⟨H_impl_compareLists, _, _, Q_impl_compareLists⟩, trivial⟩⟩⟩) mixT Q_impl_isTupleSet.1 Q_impl_isTupleSet.2.2 (loops_of W_impl_isTupleSet ⟨loop_of (cx := C_impl_isTupleSet) (L := S_impl_isTupleSet_L4 fuel) rfl (by rw [R_impl_isTupleSet_L4]; rfl) ⟨impl_isTupleSet_L4, fun _ => rfl, fun n x => K_impl_isTupleSet_L4 n x, fuel, fun _ => rfl⟩, trivial⟩) (enc := N_impl_isTupleSet) (fun _ _ => ⟨rfl, rfl⟩) F_impl_isTupleSet

theorem K_impl_power_L2 (n : Nat) (x : Int × Int × Int) : impl_power_L2 (n + 1) x = roundK C_impl_power B_impl_power_L2 (S_impl_power_L2 fuel) x (impl_power_L2 n) := by
  obtain ⟨n_, k, p⟩ := x
  kernel_rfl
theorem F_impl_power (a : dens [.v .int, .v .int]) : E_impl_power.run a = funK C_impl_power Try.f78 [.v .int, .v .int] [.v .int] a (fun o r => some (N_impl_power o r)) := by
  kernel_rfl
theorem W_impl_power : loopsOf D_impl_power = [B_impl_power_L2] := by kernel_rfl
theorem R_impl_power_L2 : firstReg B_impl_power_L2 = 2 := by kernel_rfl
theorem Q_impl_power : Try.prog.funcs[78]? = some Try.f78 ∧ (Try.f78.name == "runtime.NumGoroutine") = false ∧ Try.f78.body = some D_impl_power := ⟨Try.func78, by kernel_rfl, by kernel_rfl⟩
theorem H_impl_power : Holds Try.prog 78 E_impl_power :=
  holds_of (cx := C_impl_power) (tabOk_ok tabT rfl).1 (allT_ok trivial) mixT Q_impl_power.1 Q_impl_power.2.2 (loops_of W_impl_power ⟨loop_of (cx := C_impl_power) (L := S_impl_power_L2 fuel) rfl (by rw [R_impl_power_L2]; rfl) ⟨impl_power_L2, fun _ => rfl, fun n x => K_impl_power_L2 n x, fuel, fun _ => rfl⟩, trivial⟩) (enc := N_impl_power) (fun _ _ => ⟨rfl, rfl⟩) F_impl_power

theorem K_impl_indexOf_L3 (n : Nat) (x : Int × Int × (List Int) × Int × Int) : impl_indexOf_L3 (n + 1) x = roundK C_impl_indexOf B_impl_indexOf_L3 (S_impl_indexOf_L3 fuel) x (impl_indexOf_L3 n) := by
  obtain ⟨n_, i, t8, t9, t10⟩ := x
  kernel_rfl
theorem F_impl_indexOf (a : dens [.v (.slice .int), .v .int]) : E_impl_indexOf.run a = funK C_impl_indexOf Try.f79 [.v (.slice .int), .v .int] [.v .int] a (fun o r => some (N_impl_indexOf o r)) := by
  kernel_rfl
theorem W_impl_indexOf : loopsOf D_impl_indexOf = [B_impl_indexOf_L3] := by kernel_rfl
theorem R_impl_indexOf_L3 : firstReg B_impl_indexOf_L3 = 3 := by kernel_rfl
theorem Q_impl_indexOf : Try.prog.funcs[79]? = some Try.f79 ∧ (Try.f79.name == "runtime.NumGoroutine") = false ∧ Try.f79.body = some D_impl_indexOf := ⟨Try.func79, by kernel_rfl, by kernel_rfl⟩
theorem H_impl_indexOf : Holds Try.prog 79 E_impl_indexOf :=
  holds_of (cx := C_impl_indexOf) (tabOk_ok tabT rfl).1 (allT_ok trivial) mixT Q_impl_indexOf.1 Q_impl_indexOf.2.2 (loops_of W_impl_indexOf ⟨loop_of (cx := C_impl_indexOf) (L := S_impl_indexOf_L3 fuel) rfl (by rw [R_impl_indexOf_L3]; rfl) ⟨impl_indexOf_L3, fun _ => rfl, fun n x => K_impl_indexOf_L3 n x, fuel, fun _ => rfl⟩, trivial⟩) (enc := N_impl_indexOf) (fun _ _ => ⟨rfl, rfl⟩) F_impl_indexOf

theorem K_impl_isAffine_L6 (n : Nat) (x : Int × (List (List Int)) × (List Int) × (List Bool) × (List (List Int)) × Int × Int) : impl_isAffine_L6 (n + 1) x = roundK C_impl_isAffine B_impl_isAffine_L6 (S_impl_isAffine_L6 fuel) x (impl_isAffine_L6 n) := by
  obtain ⟨t0, t1, t5, t6, t27, t28, t29⟩ := x
  kernel_rfl
theorem K_impl_isAffine_L18 (n : Nat) (x : Int × (List (List Int)) × (List Int) × (List Bool) × (List Int) × (List Int) × Int × (List (List Int)) × Int × Int × (List (List Int)) × Int × Int × (List Int) × Int × Int) : impl_isAffine_L18 (n + 1) x = roundK C_impl_isAffine B_impl_isAffine_L18 (S_impl_isAffine_L18 fuel) x (impl_isAffine_L18 n) := by
  obtain ⟨t0, t1, t5, t6, t10, t12, t13, t39, t40, t41, t45, t46, t47, t51, t52, t53⟩ := x
  kernel_rfl
theorem K_impl_isAffine_L14 (n : Nat) (x : Int × (List (List Int)) × (List Int) × (List Bool) × (List Int) × (List (List Int)) × Int × Int × (List (List Int)) × Int × Int) : impl_isAffine_L14 (n + 1) x = roundK C_impl_isAffine B_impl_isAffine_L14 (S_impl_isAffine_L14 fuel) x (impl_isAffine_L14 n) := by
  obtain ⟨t0, t1, t5, t6, t10, t39, t40, t41, t45, t46, t47⟩ := x
  kernel_rfl
theorem K_impl_isAffine_L11 (n : Nat) (x : Int × (List (List Int)) × (List Int) × (List Bool) × (List (List Int)) × Int × Int) : impl_isAffine_L11 (n + 1) x = roundK C_impl_isAffine B_impl_isAffine_L11 (S_impl_isAffine_L11 fuel) x (impl_isAffine_L11 n) := by
  obtain ⟨t0, t1, t5, t6, t39, t40, t41⟩ := x
  kernel_rfl
theorem F_impl_isAffine (a : dens [.v .int, .v (.slice (.slice .int))]) : E_impl_isAffine.run a = funK C_impl_isAffine Try.f56 [.v .int, .v (.slice (.slice .int))] [.v .bool] a (fun o r => some (N_impl_isAffine o r)) := by
  kernel_rfl
theorem W_impl_isAffine : loopsOf D_impl_isAffine = [B_impl_isAffine_L6, B_impl_isAffine_L11, B_impl_isAffine_L14, B_impl_isAffine_L18] := by kernel_rfl
theorem R_impl_isAffine_L6 : firstReg B_impl_isAffine_L6 = 6 := by kernel_rfl
theorem R_impl_isAffine_L18 : firstReg B_impl_isAffine_L18 = 18 := by kernel_rfl
theorem R_impl_isAffine_L14 : firstReg B_impl_isAffine_L14 = 14 := by kernel_rfl
theorem R_impl_isAffine_L11 : firstReg B_impl_isAffine_L11 = 11 := by kernel_rfl
theorem Q_impl_isAffine : Try.prog.funcs[56]? = some Try.f56 ∧ (Try.f56.name == "runtime.NumGoroutine") = false ∧ Try.f56.body = some D_impl_isAffine := ⟨Try.func56, by kernel_rfl, by kernel_rfl⟩
theorem H_impl_isAffine : Holds Try.prog 56 E_impl_isAffine :=
  holds_of (cx := C_impl_isAffine) (tabOk_ok tabT rfl).1 (allT_ok ⟨⟨H_impl_power, _, _, Q_impl_power⟩, ⟨⟨H_impl_indexOf, _, _, Q_impl_indexOf⟩, trivial⟩⟩) mixT Q_impl_isAffine.1 Q_impl_isAffine.2.2 (loops_of W_impl_isAffine ⟨loop_of (cx := C_impl_isAffine) (L := S_impl_isAffine_L6 fuel) rfl (by rw [R_impl_isAffine_L6]; rfl) ⟨impl_isAffine_L6, fun _ => rfl, fun n x => K_impl_isAffine_L6 n x, fuel, fun _ => rfl⟩, ⟨loop_of (cx := C_impl_isAffine) (L := S_impl_isAffine_L11 fuel) rfl (by rw [R_impl_isAffine_L11]; rfl) ⟨impl_isAffine_L11, fun _ => rfl, fun n x => K_impl_isAffine_L11 n x, fuel, fun _ => rfl⟩, ⟨loop_of (cx := C_impl_isAffine) (L := S_impl_isAffine_L14 fuel) rfl (by rw [R_impl_isAffine_L14]; rfl) ⟨impl_isAffine_L14, fun _ => rfl, fun n x => K_impl_isAffine_L14 n x, fuel, fun _ => rfl⟩, ⟨loop_of (cx := C_impl_isAffine) (L := S_impl_isAffine_L18 fuel) rfl (by rw [R_impl_isAffine_L18]; rfl) ⟨impl_isAffine_L18, fun _ => rfl, fun n x => K_impl_isAffine_L18 n x, fuel, fun _ => rfl⟩, trivial⟩⟩⟩⟩) (enc := N_impl_isAffine) (fun _ _ => ⟨rfl, rfl⟩) F_impl_isAffine

theorem F_impl_IsAffineSet (a : dens [.v .int, .v .int, .v (.slice (.slice .int))]) : E_impl_IsAffineSet.run a = funK C_impl_IsAffineSet Try.f32 [.v .int, .v .int, .v (.slice (.slice .int))] [.v .bool, .v .bool] a (fun o r => some (N_impl_IsAffineSet o r)) := by
  kernel_rfl
theorem W_impl_IsAffineSet : loopsOf D_impl_IsAffineSet = [] := by kernel_rfl
theorem Q_impl_IsAffineSet : Try.prog.funcs[32]? = some Try.f32 ∧ (Try.f32.name == "runtime.NumGoroutine") = false ∧ Try.f32.body = some D_impl_IsAffineSet := ⟨Try.func32, by kernel_rfl, by kernel_rfl⟩
theorem H_impl_IsAffineSet : Holds Try.prog 32 E_impl_IsAffineSet :=
  holds_of (cx := C_impl_IsAffineSet) (tabOk_ok tabT rfl).1 (allT_ok ⟨⟨H_impl_isPrime, _, _, Q_impl_isPrime⟩, ⟨⟨H_impl_isTupleSet, _, _, Q_impl_isTupleSet⟩, ⟨⟨H_impl_isAffine, _, _, Q_impl_isAffine⟩, trivial⟩⟩⟩) mixT Q_impl_IsAffineSet.1 Q_impl_IsAffineSet.2.2 (loops_of W_impl_IsAffineSet trivial) (enc := N_impl_IsAffineSet) (fun _ _ => ⟨rfl, rfl⟩) F_impl_IsAffineSet

theorem F_impl_clone (a : dens [.v (.slice .int)]) : E_impl_clone.run a = funK C_impl_clone Try.f81 [.v (.slice .int)] [.mv .int 0] a (fun o r => some (N_impl_clone o r)) := by
  kernel_rfl
theorem W_impl_clone : loopsOf D_impl_clone = [] := by kernel_rfl
theorem Q_impl_clone : Try.prog.funcs[81]? = some Try.f81 ∧ (Try.f81.name == "runtime.NumGoroutine") = false ∧ Try.f81.body = some D_impl_clone := ⟨Try.func81, by kernel_rfl, by kernel_rfl⟩
theorem H_impl_clone : Holds Try.prog 81 E_impl_clone :=
  holds_of (cx := C_impl_clone) (tabOk_ok tabT rfl).1 (allT_ok trivial) mixT Q_impl_clone.1 Q_impl_clone.2.2 (loops_of W_impl_clone trivial) (enc := N_impl_clone) (fun _ _ => ⟨rfl, rfl⟩) F_impl_clone

theorem K_impl_cloneRows_L3 (n : Nat) (x : (List (List Int)) × (List (List Int)) × Int × Int) : impl_cloneRows_L3 (n + 1) x = roundK C_impl_cloneRows B_impl_cloneRows_L3 (S_impl_cloneRows_L3 fuel) x (impl_cloneRows_L3 n) := by
  obtain ⟨list, t7, t8, t9⟩ := x
  kernel_rfl
theorem F_impl_cloneRows (a : dens [.v (.slice (.slice .int))]) : E_impl_cloneRows.run a = funK C_impl_cloneRows Try.f66 [.v (.slice (.slice .int))] [.mv (.slice .int) 1] a (fun o r => some (N_impl_cloneRows o r)) := by
  kernel_rfl
theorem W_impl_cloneRows : loopsOf D_impl_cloneRows = [B_impl_cloneRows_L3] := by kernel_rfl
theorem R_impl_cloneRows_L3 : firstReg B_impl_cloneRows_L3 = 3 := by kernel_rfl
theorem Q_impl_cloneRows : Try.prog.funcs[66]? = some Try.f66 ∧ (Try.f66.name == "runtime.NumGoroutine") = false ∧ Try.f66.body = some D_impl_cloneRows := ⟨Try.func66, by kernel_rfl, by kernel_rfl⟩
theorem H_impl_cloneRows : Holds Try.prog 66 E_impl_cloneRows :=
  holds_of (cx := C_impl_cloneRows) (tabOk_ok tabT rfl).1 (allT_ok ⟨⟨H_impl_clone, _, _, Q_impl_clone⟩, trivial⟩) mixT Q_impl_cloneRows.1 Q_impl_cloneRows.2.2 (loops_of W_impl_cloneRows ⟨loop_of (cx := C_impl_cloneRows) (L := S_impl_cloneRows_L3 fuel) rfl (by rw [R_impl_cloneRows_L3]; rfl) ⟨impl_cloneRows_L3, fun _ => rfl, fun n x => K_impl_cloneRows_L3 n x, fuel, fun _ => rfl⟩, trivial⟩) (enc := N_impl_cloneRows) (fun _ _ => ⟨rfl, rfl⟩) F_impl_cloneRows

theorem K_impl_freeTable_L3 (n : Nat) (x : (List Int) × Int × Int) : impl_freeTable_L3 (n + 1) x = roundK C_impl_freeTable B_impl_freeTable_L3 (S_impl_freeTable_L3 fuel) x (impl_freeTable_L3 n) := by
  obtain ⟨list, t8, t9⟩ := x
  kernel_rfl
theorem F_impl_freeTable (a : dens [.v .int]) : E_impl_freeTable.run a = funK C_impl_freeTable Try.f67 [.v .int] [.mv .int 0] a (fun o r => some (N_impl_freeTable o r)) := by
  kernel_rfl
theorem W_impl_freeTable : loopsOf D_impl_freeTable = [B_impl_freeTable_L3] := by kernel_rfl
theorem R_impl_freeTable_L3 : firstReg B_impl_freeTable_L3 = 3 := by kernel_rfl
theorem Q_impl_freeTable : Try.prog.funcs[67]? = some Try.f67 ∧ (Try.f67.name == "runtime.NumGoroutine") = false ∧ Try.f67.body = some D_impl_freeTable := ⟨Try.func67, by kernel_rfl, by kernel_rfl⟩
theorem H_impl_freeTable : Holds Try.prog 67 E_impl_freeTable :=
  holds_of (cx := C_impl_freeTable) (tabOk_ok tabT rfl).1 (allT_ok trivial) mixT Q_impl_freeTable.1 Q_impl_freeTable.2.2 (loops_of W_impl_freeTable ⟨loop_of (cx := C_impl_freeTable) (L := S_impl_freeTable_L3 fuel) rfl (by rw [R_impl_freeTable_L3]; rfl) ⟨impl_freeTable_L3, fun _ => rfl, fun n x => K_impl_freeTable_L3 n x, fuel, fun _ => rfl⟩, trivial⟩) (enc := N_impl_freeTable) (fun _ _ => ⟨rfl, rfl⟩) F_impl_freeTable

theorem K_impl_inverseOf_L2 (n : Nat) (x : Int × Int × Int) : impl_inverseOf_L2 (n + 1) x = roundK C_impl_inverseOf B_impl_inverseOf_L2 (S_impl_inverseOf_L2 fuel) x (impl_inverseOf_L2 n) := by
  obtain ⟨x, p, y⟩ := x
  kernel_rfl
theorem F_impl_inverseOf (a : dens [.v .int, .v .int]) : E_impl_inverseOf.run a = funK C_impl_inverseOf Try.f68 [.v .int, .v .int] [.v .int] a (fun o r => some (N_impl_inverseOf o r)) := by
  kernel_rfl
theorem W_impl_inverseOf : loopsOf D_impl_inverseOf = [B_impl_inverseOf_L2] := by kernel_rfl
theorem R_impl_inverseOf_L2 : firstReg B_impl_inverseOf_L2 = 2 := by kernel_rfl
theorem Q_impl_inverseOf : Try.prog.funcs[68]? = some Try.f68 ∧ (Try.f68.name == "runtime.NumGoroutine") = false ∧ Try.f68.body = some D_impl_inverseOf := ⟨Try.func68, by kernel_rfl, by kernel_rfl⟩
theorem H_impl_inverseOf : Holds Try.prog 68 E_impl_inverseOf :=
  holds_of (cx := C_impl_inverseOf) (tabOk_ok tabT rfl).1 (allT_ok trivial) mixT Q_impl_inverseOf.1 Q_impl_inverseOf.2.2 (loops_of W_impl_inverseOf ⟨loop_of (cx := C_impl_inverseOf) (L := S_impl_inverseOf_L2 fuel) rfl (by rw [R_impl_inverseOf_L2]; rfl) ⟨impl_inverseOf_L2, fun _ => rfl, fun n x => K_impl_inverseOf_L2 n x, fuel, fun _ => rfl⟩, trivial⟩) (enc := N_impl_inverseOf) (fun _ _ => ⟨rfl, rfl⟩) F_impl_inverseOf

theorem K_impl_eliminate_L6 (n : Nat) (x : Int × Int × (Int × (Int × ((List (List Int)) × (Int × (List Int))))) × Int × Int) : impl_eliminate_L6 (n + 1) x = roundK C_impl_eliminate B_impl_eliminate_L6 (S_impl_eliminate_L6 fuel) x (impl_eliminate_L6 n) := by
  obtain ⟨t0, t1, t7, t8, t9⟩ := x
  kernel_rfl
theorem K_impl_eliminate_L14 (n : Nat) (x : Int × Int × Int × (Int × (Int × ((List (List Int)) × (Int × (List Int))))) × Int × Int × Int × Int) : impl_eliminate_L14 (n + 1) x = roundK C_impl_eliminate B_impl_eliminate_L14 (S_impl_eliminate_L14 fuel) x (impl_eliminate_L14 n) := by
  obtain ⟨row10, t0, t1, t7, t8, t11, t110, t111⟩ := x
  kernel_rfl
theorem K_impl_eliminate_L24 (n : Nat) (x : Int × Int × Unit × Int × Int × (Int × (Int × ((List (List Int)) × (Int × (List Int))))) × Int × Int × Int × Int × Int × Int) : impl_eliminate_L24 (n + 1) x = roundK C_impl_eliminate B_impl_eliminate_L24 (S_impl_eliminate_L24 fuel) x (impl_eliminate_L24 n) := by
  obtain ⟨row10, row14, al129, t0, t1, t7, t8, t15, t130, t131, t151, t152⟩ := x
  kernel_rfl
theorem K_impl_eliminate_L19 (n : Nat) (x : Int × Unit × Int × Int × (Int × (Int × ((List (List Int)) × (Int × (List Int))))) × Int × Int × Int) : impl_eliminate_L19 (n + 1) x = roundK C_impl_eliminate B_impl_eliminate_L19 (S_impl_eliminate_L19 fuel) x (impl_eliminate_L19 n) := by
  obtain ⟨row10, al129, t0, t1, t7, t8, t130, t131⟩ := x
  kernel_rfl
theorem K_impl_eliminate_L3 (n : Nat) (x : Int × Int × (Int × (Int × ((List (List Int)) × (Int × (List Int))))) × Int) : impl_eliminate_L3 (n + 1) x = roundK C_impl_eliminate B_impl_eliminate_L3 (S_impl_eliminate_L3 fuel) x (impl_eliminate_L3 n) := by
  obtain ⟨t0, t1, t7, t8⟩ := x
  kernel_rfl
theorem F_impl_eliminate (a : dens [.v .int, .v .int, .v (.slice (.slice .int))]) : E_impl_eliminate.run a = funK C_impl_eliminate Try.f41 [.v .int, .v .int, .v (.slice (.slice .int))] [.v (.ptr (.pair .int (.pair .int (.pair (.slice (.slice .int)) (.pair .int (.slice .int))))))] a (fun o r => some (N_impl_eliminate o r)) := by
  kernel_rfl
theorem W_impl_eliminate : loopsOf D_impl_eliminate = [B_impl_eliminate_L3, B_impl_eliminate_L6, B_impl_eliminate_L14, B_impl_eliminate_L19, B_impl_eliminate_L24] := by kernel_rfl
theorem R_impl_eliminate_L6 : firstReg B_impl_eliminate_L6 = 6 := by kernel_rfl
theorem R_impl_eliminate_L14 : firstReg B_impl_eliminate_L14 = 14 := by kernel_rfl
theorem R_impl_eliminate_L24 : firstReg B_impl_eliminate_L24 = 24 := by kernel_rfl
theorem R_impl_eliminate_L19 : firstReg B_impl_eliminate_L19 = 19 := by kernel_rfl
theorem R_impl_eliminate_L3 : firstReg B_impl_eliminate_L3 = 3 := by kernel_rfl
theorem Q_impl_eliminate : Try.prog.funcs[41]? = some Try.f41 ∧ (Try.f41.name == "runtime.NumGoroutine") = false ∧ Try.f41.body = some D_impl_eliminate := ⟨Try.func41, by kernel_rfl, by kernel_rfl⟩
theorem H_impl_eliminate : Holds Try.prog 41 E_impl_eliminate :=
  holds_of (cx := C_impl_eliminate) (tabOk_ok tabT rfl).1 (allT_ok ⟨⟨H_impl_cloneRows, _, _, Q_impl_cloneRows⟩, ⟨⟨H_impl_freeTable, _, _, Q_impl_freeTable⟩, ⟨⟨H_impl_inverseOf, _, _, Q_impl_inverseOf⟩, trivial⟩⟩⟩) mixT Q_impl_eliminate.1 Q_impl_eliminate.2.2 (loops_of W_impl_eliminate ⟨loop_of (cx := C_impl_eliminate) (L := S_impl_eliminate_L3 fuel) rfl (by rw [R_impl_eliminate_L3]; rfl) ⟨impl_eliminate_L3, fun _ => rfl, fun n x => K_impl_eliminate_L3 n x, fuel, fun _ => rfl⟩, ⟨loop_of (cx := C_impl_eliminate) (L := S_impl_eliminate_L6 fuel) rfl (by rw [R_impl_eliminate_L6]; rfl) ⟨impl_eliminate_L6, fun _ => rfl, fun n x => K_impl_eliminate_L6 n x, fuel, fun _ => rfl⟩, ⟨loop_of (cx := C_impl_eliminate) (L := S_impl_eliminate_L14 fuel) rfl (by rw [R_impl_eliminate_L14]; rfl) ⟨impl_eliminate_L14, fun _ => rfl, fun n x => K_impl_eliminate_L14 n x, fuel, fun _ => rfl⟩, ⟨loop_of (cx := C_impl_eliminate) (L := S_impl_eliminate_L19 fuel) rfl (by rw [R_impl_eliminate_L19]; rfl) ⟨impl_eliminate_L19, fun _ => rfl, fun n x => K_impl_eliminate_L19 n x, fuel, fun _ => rfl⟩, ⟨loop_of (cx := C_impl_eliminate) (L := S_impl_eliminate_L24 fuel) rfl (by rw [R_impl_eliminate_L24]; rfl) ⟨impl_eliminate_L24, fun _ => rfl, fun n x => K_impl_eliminate_L24 n x, fuel, fun _ => rfl⟩, trivial⟩⟩⟩⟩⟩) (enc := N_impl_eliminate) (fun _ _ => ⟨rfl, rfl⟩) F_impl_eliminate

theorem K_impl_eliminated_freeVars_L3 (n : Nat) (x : Unit × (Int × (Int × ((List (List Int)) × (Int × (List Int))))) × (List Int) × Int × Int) : impl_eliminated_freeVars_L3 (n + 1) x = roundK C_impl_eliminated_freeVars B_impl_eliminated_freeVars_L3 (S_impl_eliminated_freeVars_L3 fuel) x (impl_eliminated_freeVars_L3 n) := by
  obtain ⟨al10, e, list, t11, t12⟩ := x
  kernel_rfl
theorem F_impl_eliminated_freeVars (a : dens [.bx (.pr (.v .int) (.pr (.v .int) (.pr (.mv (.slice .int) 1) (.pr (.v .int) (.mv .int 0)))))]) : E_impl_eliminated_freeVars.run a = funK C_impl_eliminated_freeVars Try.f80 [.bx (.pr (.v .int) (.pr (.v .int) (.pr (.mv (.slice .int) 1) (.pr (.v .int) (.mv .int 0)))))] [.mv .int 0] a (fun o r => some (N_impl_eliminated_freeVars o r)) := by
  kernel_rfl
theorem W_impl_eliminated_freeVars : loopsOf D_impl_eliminated_freeVars = [B_impl_eliminated_freeVars_L3] := by kernel_rfl
theorem R_impl_eliminated_freeVars_L3 : firstReg B_impl_eliminated_freeVars_L3 = 3 := by kernel_rfl
theorem Q_impl_eliminated_freeVars : Try.prog.funcs[80]? = some Try.f80 ∧ (Try.f80.name == "runtime.NumGoroutine") = false ∧ Try.f80.body = some D_impl_eliminated_freeVars := ⟨Try.func80, by kernel_rfl, by kernel_rfl⟩
theorem H_impl_eliminated_freeVars : Holds Try.prog 80 E_impl_eliminated_freeVars :=
  holds_of (cx := C_impl_eliminated_freeVars) (tabOk_ok tabT rfl).1 (allT_ok trivial) mixT Q_impl_eliminated_freeVars.1 Q_impl_eliminated_freeVars.2.2 (loops_of W_impl_eliminated_freeVars ⟨loop_of (cx := C_impl_eliminated_freeVars) (L := S_impl_eliminated_freeVars_L3 fuel) rfl (by rw [R_impl_eliminated_freeVars_L3]; rfl) ⟨impl_eliminated_freeVars_L3, fun _ => rfl, fun n x => K_impl_eliminated_freeVars_L3 n x, fuel, fun _ => rfl⟩, trivial⟩) (enc := N_impl_eliminated_freeVars) (fun _ _ => ⟨rfl, rfl⟩) F_impl_eliminated_freeVars

theorem K_impl_eliminated_solution_L4 (n : Nat) (x : Unit × (Int × (Int × ((List (List Int)) × (Int × (List Int))))) × (List Int) × (List Int) × (List Int) × Int × Int) : impl_eliminated_solution_L4 (n + 1) x = roundK C_impl_eliminated_solution B_impl_eliminated_solution_L4 (S_impl_eliminated_solution_L4 fuel) x (impl_eliminated_solution_L4 n) := by
  obtain ⟨al21, t0, t1, t5, t6, t22, t23⟩ := x
  kernel_rfl
theorem K_impl_eliminated_solution_L14 (n : Nat) (x : Unit × Unit × (Int × (Int × ((List (List Int)) × (Int × (List Int))))) × (List Int) × (List Int) × (List Int) × Int × Int × Int × Int × Int × Int × Int) : impl_eliminated_solution_L14 (n + 1) x = roundK C_impl_eliminated_solution B_impl_eliminated_solution_L14 (S_impl_eliminated_solution_L14 fuel) x (impl_eliminated_solution_L14 n) := by
  obtain ⟨al39, al61, t0, t1, t5, t6, t9, t10, t11, t40, t41, t62, t63⟩ := x
  kernel_rfl
theorem K_impl_eliminated_solution_L9 (n : Nat) (x : Unit × (Int × (Int × ((List (List Int)) × (Int × (List Int))))) × (List Int) × (List Int) × (List Int) × Int × Int) : impl_eliminated_solution_L9 (n + 1) x = roundK C_impl_eliminated_solution B_impl_eliminated_solution_L9 (S_impl_eliminated_solution_L9 fuel) x (impl_eliminated_solution_L9 n) := by
  obtain ⟨al39, t0, t1, t5, t6, t40, t41⟩ := x
  kernel_rfl
theorem F_impl_eliminated_solution (a : dens [.bx (.pr (.v .int) (.pr (.v .int) (.pr (.mv (.slice .int) 1) (.pr (.v .int) (.mv .int 0))))), .v (.slice .int)]) : E_impl_eliminated_solution.run a = funK C_impl_eliminated_solution Try.f70 [.bx (.pr (.v .int) (.pr (.v .int) (.pr (.mv (.slice .int) 1) (.pr (.v .int) (.mv .int 0))))), .v (.slice .int)] [.mv .int 0] a (fun o r => some (N_impl_eliminated_solution o r)) := by
  kernel_rfl
theorem W_impl_eliminated_solution : loopsOf D_impl_eliminated_solution = [B_impl_eliminated_solution_L4, B_impl_eliminated_solution_L9, B_impl_eliminated_solution_L14] := by kernel_rfl
theorem R_impl_eliminated_solution_L4 : firstReg B_impl_eliminated_solution_L4 = 4 := by kernel_rfl
theorem R_impl_eliminated_solution_L14 : firstReg B_impl_eliminated_solution_L14 = 14 := by kernel_rfl
theorem R_impl_eliminated_solution_L9 : firstReg B_impl_eliminated_solution_L9 = 9 := by kernel_rfl
theorem Q_impl_eliminated_solution : Try.prog.funcs[70]? = some Try.f70 ∧ (Try.f70.name == "runtime.NumGoroutine") = false ∧ Try.f70.body = some D_impl_eliminated_solution := ⟨Try.func70, by kernel_rfl, by kernel_rfl⟩
theorem H_impl_eliminated_solution : Holds Try.prog 70 E_impl_eliminated_solution :=
  holds_of (cx := C_impl_eliminated_solution) (tabOk_ok tabT rfl).1 (allT_ok ⟨⟨H_impl_eliminated_freeVars, _, _, Q_impl_eliminated_freeVars⟩, trivial⟩) mixT Q_impl_eliminated_solution.1 Q_impl_eliminated_solution.2.2 (loops_of W_impl_eliminated_solution ⟨loop_of (cx := C_impl_eliminated_solution) (L := S_impl_eliminated_solution_L4 fuel) rfl (by rw [R_impl_eliminated_solution_L4]; rfl) ⟨impl_eliminated_solution_L4, fun _ => rfl, fun n x => K_impl_eliminated_solution_L4 n x, fuel, fun _ => rfl⟩, ⟨loop_of (cx := C_impl_eliminated_solution) (L := S_impl_eliminated_solution_L9 fuel) rfl (by rw [R_impl_eliminated_solution_L9]; rfl) ⟨impl_eliminated_solution_L9, fun _ => rfl, fun n x => K_impl_eliminated_solution_L9 n x, fuel, fun _ => rfl⟩, ⟨loop_of (cx := C_impl_eliminated_solution) (L := S_impl_eliminated_solution_L14 fuel) rfl (by rw [R_impl_eliminated_solution_L14]; rfl) ⟨impl_eliminated_solution_L14, fun _ => rfl, fun n x => K_impl_eliminated_solution_L14 n x, fuel, fun _ => rfl⟩, trivial⟩⟩⟩) (enc := N_impl_eliminated_solution) (fun _ _ => ⟨rfl, rfl⟩) F_impl_eliminated_solution

theorem K_impl_eliminated_kernel_L2 (n : Nat) (x : Unit × (Int × (Int × ((List (List Int)) × (Int × (List Int))))) × Int × Int) : impl_eliminated_kernel_L2 (n + 1) x = roundK C_impl_eliminated_kernel B_impl_eliminated_kernel_L2 (S_impl_eliminated_kernel_L2 fuel) x (impl_eliminated_kernel_L2 n) := by
  obtain ⟨al12, e, t13, t14⟩ := x
  kernel_rfl
theorem K_impl_eliminated_kernel_L9 (n : Nat) (x : (Int × (Int × ((List (List Int)) × (Int × (List Int))))) × (List (List Int)) × (List Int) × Int × Int) : impl_eliminated_kernel_L9 (n + 1) x = roundK C_impl_eliminated_kernel B_impl_eliminated_kernel_L9 (S_impl_eliminated_kernel_L9 fuel) x (impl_eliminated_kernel_L9 n) := by
  obtain ⟨e, list, free, t29, t30⟩ := x
  kernel_rfl
theorem F_impl_eliminated_kernel (a : dens [.bx (.pr (.v .int) (.pr (.v .int) (.pr (.mv (.slice .int) 1) (.pr (.v .int) (.mv .int 0)))))]) : E_impl_eliminated_kernel.run a = funK C_impl_eliminated_kernel Try.f57 [.bx (.pr (.v .int) (.pr (.v .int) (.pr (.mv (.slice .int) 1) (.pr (.v .int) (.mv .int 0)))))] [.mv (.slice .int) 1] a (fun o r => some (N_impl_eliminated_kernel o r)) := by
  kernel_rfl
theorem W_impl_eliminated_kernel : loopsOf D_impl_eliminated_kernel = [B_impl_eliminated_kernel_L2, B_impl_eliminated_kernel_L9] := by kernel_rfl
theorem R_impl_eliminated_kernel_L2 : firstReg B_impl_eliminated_kernel_L2 = 2 := by kernel_rfl
theorem R_impl_eliminated_kernel_L9 : firstReg B_impl_eliminated_kernel_L9 = 9 := by kernel_rfl
theorem Q_impl_eliminated_kernel : Try.prog.funcs[57]? = some Try.f57 ∧ (Try.f57.name == "runtime.NumGoroutine") = false ∧ Try.f57.body = some D_impl_eliminated_kernel := ⟨Try.func57, by kernel_rfl, by kernel_rfl⟩
theorem H_impl_eliminated_kernel : Holds Try.prog 57 E_impl_eliminated_kernel :=
  holds_of (cx := C_impl_eliminated_kernel) (tabOk_ok tabT rfl).1 (allT_ok ⟨⟨H_impl_eliminated_solution, _, _, Q_impl_eliminated_solution⟩, ⟨⟨H_impl_eliminated_freeVars, _, _, Q_impl_eliminated_freeVars⟩, trivial⟩⟩) mixT Q_impl_eliminated_kernel.1 Q_impl_eliminated_kernel.2.2 (loops_of W_impl_eliminated_kernel ⟨loop_of (cx := C_impl_eliminated_kernel) (L := S_impl_eliminated_kernel_L2 fuel) rfl (by rw [R_impl_eliminated_kernel_L2]; rfl) ⟨impl_eliminated_kernel_L2, fun _ => rfl, fun n x => K_impl_eliminated_kernel_L2 n x, fuel, fun _ => rfl⟩, ⟨loop_of (cx := C_impl_eliminated_kernel) (L := S_impl_eliminated_kernel_L9 fuel) rfl (by rw [R_impl_eliminated_kernel_L9]; rfl) ⟨impl_eliminated_kernel_L9, fun _ => rfl, fun n x => K_impl_eliminated_kernel_L9 n x, fuel, fun _ => rfl⟩, trivial⟩⟩) (enc := N_impl_eliminated_kernel) (fun _ _ => ⟨rfl, rfl⟩) F_impl_eliminated_kernel

theorem K_impl_eliminate_b_L6 (n : Nat) (x : Int × Int × (Int × (Int × ((List (List Int)) × (Int × (List Int))))) × Int × Int) : impl_eliminate_b_L6 (n + 1) x = roundK C_impl_eliminate_b B_impl_eliminate_b_L6 (S_impl_eliminate_b_L6 fuel) x (impl_eliminate_b_L6 n) := by
  obtain ⟨t0, t1, t7, t8, t9⟩ := x
  kernel_rfl
theorem K_impl_eliminate_b_L14 (n : Nat) (x : Int × Int × Int × (Int × (Int × ((List (List Int)) × (Int × (List Int))))) × Int × Int × Int × Int) : impl_eliminate_b_L14 (n + 1) x = roundK C_impl_eliminate_b B_impl_eliminate_b_L14 (S_impl_eliminate_b_L14 fuel) x (impl_eliminate_b_L14 n) := by
  obtain ⟨row10, t0, t1, t7, t8, t11, t110, t111⟩ := x
  kernel_rfl
theorem K_impl_eliminate_b_L24 (n : Nat) (x : Int × Int × Unit × Int × Int × (Int × (Int × ((List (List Int)) × (Int × (List Int))))) × Int × Int × Int × Int × Int × Int) : impl_eliminate_b_L24 (n + 1) x = roundK C_impl_eliminate_b B_impl_eliminate_b_L24 (S_impl_eliminate_b_L24 fuel) x (impl_eliminate_b_L24 n) := by
  obtain ⟨row10, row14, al129, t0, t1, t7, t8, t15, t130, t131, t151, t152⟩ := x
  kernel_rfl
theorem K_impl_eliminate_b_L19 (n : Nat) (x : Int × Unit × Int × Int × (Int × (Int × ((List (List Int)) × (Int × (List Int))))) × Int × Int × Int) : impl_eliminate_b_L19 (n + 1) x = roundK C_impl_eliminate_b B_impl_eliminate_b_L19 (S_impl_eliminate_b_L19 fuel) x (impl_eliminate_b_L19 n) := by
  obtain ⟨row10, al129, t0, t1, t7, t8, t130, t131⟩ := x
  kernel_rfl
theorem K_impl_eliminate_b_L3 (n : Nat) (x : Int × Int × (Int × (Int × ((List (List Int)) × (Int × (List Int))))) × Int) : impl_eliminate_b_L3 (n + 1) x = roundK C_impl_eliminate_b B_impl_eliminate_b_L3 (S_impl_eliminate_b_L3 fuel) x (impl_eliminate_b_L3 n) := by
  obtain ⟨t0, t1, t7, t8⟩ := x
  kernel_rfl
theorem F_impl_eliminate_b (a : dens [.v .int, .v .int, .v (.slice (.slice .int))]) : E_impl_eliminate_b.run a = funK C_impl_eliminate_b Try.f41 [.v .int, .v .int, .v (.slice (.slice .int))] [.bx (.pr (.v .int) (.pr (.v .int) (.pr (.mv (.slice .int) 1) (.pr (.v .int) (.mv .int 0)))))] a (fun o r => some (N_impl_eliminate_b o r)) := by
  kernel_rfl
theorem W_impl_eliminate_b : loopsOf D_impl_eliminate_b = [B_impl_eliminate_b_L3, B_impl_eliminate_b_L6, B_impl_eliminate_b_L14, B_impl_eliminate_b_L19, B_impl_eliminate_b_L24] := by kernel_rfl
theorem R_impl_eliminate_b_L6 : firstReg B_impl_eliminate_b_L6 = 6 := by kernel_rfl
theorem R_impl_eliminate_b_L14 : firstReg B_impl_eliminate_b_L14 = 14 := by kernel_rfl
theorem R_impl_eliminate_b_L24 : firstReg B_impl_eliminate_b_L24 = 24 := by kernel_rfl
theorem R_impl_eliminate_b_L19 : firstReg B_impl_eliminate_b_L19 = 19 := by kernel_rfl
theorem R_impl_eliminate_b_L3 : firstReg B_impl_eliminate_b_L3 = 3 := by kernel_rfl
theorem Q_impl_eliminate_b : Try.prog.funcs[41]? = some Try.f41 ∧ (Try.f41.name == "runtime.NumGoroutine") = false ∧ Try.f41.body = some D_impl_eliminate_b := ⟨Try.func41, by kernel_rfl, by kernel_rfl⟩
theorem H_impl_eliminate_b : Holds Try.prog 41 E_impl_eliminate_b :=
  holds_of (cx := C_impl_eliminate_b) (tabOk_ok tabT rfl).1 (allT_ok ⟨⟨H_impl_cloneRows, _, _, Q_impl_cloneRows⟩, ⟨⟨H_impl_freeTable, _, _, Q_impl_freeTable⟩, ⟨⟨H_impl_inverseOf, _, _, Q_impl_inverseOf⟩, trivial⟩⟩⟩) mixT Q_impl_eliminate_b.1 Q_impl_eliminate_b.2.2 (loops_of W_impl_eliminate_b ⟨loop_of (cx := C_impl_eliminate_b) (L := S_impl_eliminate_b_L3 fuel) rfl (by rw [R_impl_eliminate_b_L3]; rfl) ⟨impl_eliminate_b_L3, fun _ => rfl, fun n x => K_impl_eliminate_b_L3 n x, fuel, fun _ => rfl⟩, ⟨loop_of (cx := C_impl_eliminate_b) (L := S_impl_eliminate_b_L6 fuel) rfl (by rw [R_impl_eliminate_b_L6]; rfl) ⟨impl_eliminate_b_L6, fun _ => rfl, fun n x => K_impl_eliminate_b_L6 n x, fuel, fun _ => rfl⟩, ⟨loop_of (cx := C_impl_eliminate_b) (L := S_impl_eliminate_b_L14 fuel) rfl (by rw [R_impl_eliminate_b_L14]; rfl) ⟨impl_eliminate_b_L14, fun _ => rfl, fun n x => K_impl_eliminate_b_L14 n x, fuel, fun _ => rfl⟩, ⟨loop_of (cx := C_impl_eliminate_b) (L := S_impl_eliminate_b_L19 fuel) rfl (by rw [R_impl_eliminate_b_L19]; rfl) ⟨impl_eliminate_b_L19, fun _ => rfl, fun n x => K_impl_eliminate_b_L19 n x, fuel, fun _ => rfl⟩, ⟨loop_of (cx := C_impl_eliminate_b) (L := S_impl_eliminate_b_L24 fuel) rfl (by rw [R_impl_eliminate_b_L24]; rfl) ⟨impl_eliminate_b_L24, fun _ => rfl, fun n x => K_impl_eliminate_b_L24 n x, fuel, fun _ => rfl⟩, trivial⟩⟩⟩⟩⟩) (enc := N_impl_eliminate_b) (fun _ _ => ⟨rfl, rfl⟩) F_impl_eliminate_b

theorem K_impl_linearOf_b_L3 (n : Nat) (x : (Int × Int × (List (List Int)) × Int × (List Int)) × (Int × (Int × (List (List Int)))) × (Int × (Int × (List (List Int)))) × (List (List Int)) × Int × Int) : impl_linearOf_b_L3 (n + 1) x = roundK C_impl_linearOf_b B_impl_linearOf_b_L3 (S_impl_linearOf_b_L3 fuel) x (impl_linearOf_b_L3 n) := by
  obtain ⟨e, t2, l, t33, t34, t35⟩ := x
  kernel_rfl
theorem F_impl_linearOf_b (a : dens [.bx (.pr (.v .int) (.pr (.v .int) (.pr (.v (.slice (.slice .int))) (.pr (.v .int) (.v (.slice .int))))))]) : E_impl_linearOf_b.run a = funK C_impl_linearOf_b Try.f58 [.bx (.pr (.v .int) (.pr (.v .int) (.pr (.v (.slice (.slice .int))) (.pr (.v .int) (.v (.slice .int))))))] [.pr (.v .int) (.pr (.v .int) (.mv (.slice .int) 1))] a (fun o r => some (N_impl_linearOf_b o r)) := by
  kernel_rfl
theorem W_impl_linearOf_b : loopsOf D_impl_linearOf_b = [B_impl_linearOf_b_L3] := by kernel_rfl
theorem R_impl_linearOf_b_L3 : firstReg B_impl_linearOf_b_L3 = 3 := by kernel_rfl
theorem Q_impl_linearOf_b : Try.prog.funcs[58]? = some Try.f58 ∧ (Try.f58.name == "runtime.NumGoroutine") = false ∧ Try.f58.body = some D_impl_linearOf_b := ⟨Try.func58, by kernel_rfl, by kernel_rfl⟩
theorem H_impl_linearOf_b : Holds Try.prog 58 E_impl_linearOf_b :=
  holds_of (cx := C_impl_linearOf_b) (tabOk_ok tabT rfl).1 (allT_ok ⟨⟨H_impl_cloneRows, _, _, Q_impl_cloneRows⟩, ⟨⟨H_impl_clone, _, _, Q_impl_clone⟩, trivial⟩⟩) mixT Q_impl_linearOf_b.1 Q_impl_linearOf_b.2.2 (loops_of W_impl_linearOf_b ⟨loop_of (cx := C_impl_linearOf_b) (L := S_impl_linearOf_b_L3 fuel) rfl (by rw [R_impl_linearOf_b_L3]; rfl) ⟨impl_linearOf_b_L3, fun _ => rfl, fun n x => K_impl_linearOf_b_L3 n x, fuel, fun _ => rfl⟩, trivial⟩) (enc := N_impl_linearOf_b) (fun _ _ => ⟨rfl, rfl⟩) F_impl_linearOf_b

theorem K_impl_equationsOf_L8 (n : Nat) (x : Int × Int × (Int × (Int × (List (List Int)))) × (List Int) × (List (List Int)) × (List Int) × (List (List Int)) × Int × Int × (List Int) × Int × Int) : impl_equationsOf_L8 (n + 1) x = roundK C_impl_equationsOf B_impl_equationsOf_L8 (S_impl_equationsOf_L8 fuel) x (impl_equationsOf_L8 n) := by
  obtain ⟨t0, t1, t6, t7, t8, t11, t24, t25, t26, t33, t34, t35⟩ := x
  kernel_rfl
theorem K_impl_equationsOf_L4 (n : Nat) (x : Int × Int × (Int × (Int × (List (List Int)))) × (List Int) × (List (List Int)) × (List (List Int)) × Int × Int) : impl_equationsOf_L4 (n + 1) x = roundK C_impl_equationsOf B_impl_equationsOf_L4 (S_impl_equationsOf_L4 fuel) x (impl_equationsOf_L4 n) := by
  obtain ⟨t0, t1, t6, t7, t8, t24, t25, t26⟩ := x
  kernel_rfl
theorem K_impl_equationsOf_L20 (n : Nat) (x : Unit × Int × Int × (Int × (Int × (List (List Int)))) × (List Int) × (List (List Int)) × (List Int) × Int × ((List (List Int)) × Int) × Int × Int × Int × Int) : impl_equationsOf_L20 (n + 1) x = roundK C_impl_equationsOf B_impl_equationsOf_L20 (S_impl_equationsOf_L20 fuel) x (impl_equationsOf_L20 n) := by
  obtain ⟨al70, t0, t1, t6, t7, t14, t16, t17, t64, t65, t66, t71, t72⟩ := x
  kernel_rfl
theorem K_impl_equationsOf_L16 (n : Nat) (x : Int × Int × (Int × (Int × (List (List Int)))) × (List Int) × (List (List Int)) × ((List (List Int)) × Int) × Int × Int) : impl_equationsOf_L16 (n + 1) x = roundK C_impl_equationsOf B_impl_equationsOf_L16 (S_impl_equationsOf_L16 fuel) x (impl_equationsOf_L16 n) := by
  obtain ⟨t0, t1, t6, t7, t14, t64, t65, t66⟩ := x
  kernel_rfl
theorem F_impl_equationsOf (a : dens [.v .int, .v .int, .v (.slice (.slice .int))]) : E_impl_equationsOf.run a = funK C_impl_equationsOf Try.f33 [.v .int, .v .int, .v (.slice (.slice .int))] [.pr (.v .int) (.pr (.v .int) (.mv (.slice .int) 1))] a (fun o r => some (N_impl_equationsOf o r)) := by
  kernel_rfl
theorem W_impl_equationsOf : loopsOf D_impl_equationsOf = [B_impl_equationsOf_L4, B_impl_equationsOf_L8, B_impl_equationsOf_L16, B_impl_equationsOf_L20] := by kernel_rfl
theorem R_impl_equationsOf_L8 : firstReg B_impl_equationsOf_L8 = 8 := by kernel_rfl
theorem R_impl_equationsOf_L4 : firstReg B_impl_equationsOf_L4 = 4 := by kernel_rfl
theorem R_impl_equationsOf_L20 : firstReg B_impl_equationsOf_L20 = 20 := by kernel_rfl
theorem R_impl_equationsOf_L16 : firstReg B_impl_equationsOf_L16 = 16 := by kernel_rfl
theorem Q_impl_equationsOf : Try.prog.funcs[33]? = some Try.f33 ∧ (Try.f33.name == "runtime.NumGoroutine") = false ∧ Try.f33.body = some D_impl_equationsOf := ⟨Try.func33, by kernel_rfl, by kernel_rfl⟩
theorem H_impl_equationsOf : Holds Try.prog 33 E_impl_equationsOf :=
  holds_of (cx := C_impl_equationsOf) (tabOk_ok tabT rfl).1 (allT_ok ⟨⟨H_impl_eliminate_b, _, _, Q_impl_eliminate_b⟩, ⟨⟨H_impl_eliminated_kernel, _, _, Q_impl_eliminated_kernel⟩, ⟨⟨H_impl_linearOf_b, _, _, Q_impl_linearOf_b⟩, trivial⟩⟩⟩) mixT Q_impl_equationsOf.1 Q_impl_equationsOf.2.2 (loops_of W_impl_equationsOf ⟨loop_of (cx := C_impl_equationsOf) (L := S_impl_equationsOf_L4 fuel) rfl (by rw [R_impl_equationsOf_L4]; rfl) ⟨impl_equationsOf_L4, fun _ => rfl, fun n x => K_impl_equationsOf_L4 n x, fuel, fun _ => rfl⟩, ⟨loop_of (cx := C_impl_equationsOf) (L := S_impl_equationsOf_L8 fuel) rfl (by rw [R_impl_equationsOf_L8]; rfl) ⟨impl_equationsOf_L8, fun _ => rfl, fun n x => K_impl_equationsOf_L8 n x, fuel, fun _ => rfl⟩, ⟨loop_of (cx := C_impl_equationsOf) (L := S_impl_equationsOf_L16 fuel) rfl (by rw [R_impl_equationsOf_L16]; rfl) ⟨impl_equationsOf_L16, fun _ => rfl, fun n x => K_impl_equationsOf_L16 n x, fuel, fun _ => rfl⟩, ⟨loop_of (cx := C_impl_equationsOf) (L := S_impl_equationsOf_L20 fuel) rfl (by rw [R_impl_equationsOf_L20]; rfl) ⟨impl_equationsOf_L20, fun _ => rfl, fun n x => K_impl_equationsOf_L20 n x, fuel, fun _ => rfl⟩, trivial⟩⟩⟩⟩) (enc := N_impl_equationsOf) (fun _ _ => ⟨rfl, rfl⟩) F_impl_equationsOf

theorem F_impl_EquationsOf (a : dens [.v .int, .v .int, .v (.slice (.slice .int))]) : E_impl_EquationsOf.run a = funK C_impl_EquationsOf Try.f8 [.v .int, .v .int, .v (.slice (.slice .int))] [.pr (.v .int) (.pr (.v .int) (.mv (.slice .int) 1)), .v .bool] a (fun o r => some (N_impl_EquationsOf o r)) := by
  kernel_rfl
theorem W_impl_EquationsOf : loopsOf D_impl_EquationsOf = [] := by kernel_rfl
theorem Q_impl_EquationsOf : Try.prog.funcs[8]? = some Try.f8 ∧ (Try.f8.name == "runtime.NumGoroutine") = false ∧ Try.f8.body = some D_impl_EquationsOf := ⟨Try.func8, by kernel_rfl, by kernel_rfl⟩
theorem H_impl_EquationsOf : Holds Try.prog 8 E_impl_EquationsOf :=
  holds_of (cx := C_impl_EquationsOf) (tabOk_ok tabT rfl).1 (allT_ok ⟨⟨H_impl_IsAffineSet, _, _, Q_impl_IsAffineSet⟩, ⟨⟨H_impl_equationsOf, _, _, Q_impl_equationsOf⟩, trivial⟩⟩) mixT Q_impl_EquationsOf.1 Q_impl_EquationsOf.2.2 (loops_of W_impl_EquationsOf trivial) (enc := N_impl_EquationsOf) (fun _ _ => ⟨rfl, rfl⟩) F_impl_EquationsOf

theorem K_laws_eqIntS_L4 (n : Nat) (x : (List Int) × (List Int) × Int) : laws_eqIntS_L4 (n + 1) x = roundK C_laws_eqIntS B_laws_eqIntS_L4 (S_laws_eqIntS_L4 fuel) x (laws_eqIntS_L4 n) := by
  obtain ⟨a, b, i⟩ := x
  kernel_rfl
theorem F_laws_eqIntS (a : dens [.v (.slice .int), .v (.slice .int)]) : E_laws_eqIntS.run a = funK C_laws_eqIntS Try.f18 [.v (.slice .int), .v (.slice .int)] [.v .bool] a (fun o r => some (N_laws_eqIntS o r)) := by
  kernel_rfl
theorem W_laws_eqIntS : loopsOf D_laws_eqIntS = [B_laws_eqIntS_L4] := by kernel_rfl
theorem R_laws_eqIntS_L4 : firstReg B_laws_eqIntS_L4 = 4 := by kernel_rfl
theorem Q_laws_eqIntS : Try.prog.funcs[18]? = some Try.f18 ∧ (Try.f18.name == "runtime.NumGoroutine") = false ∧ Try.f18.body = some D_laws_eqIntS := ⟨Try.func18, by kernel_rfl, by kernel_rfl⟩
theorem H_laws_eqIntS : Holds Try.prog 18 E_laws_eqIntS :=
  holds_of (cx := C_laws_eqIntS) (tabOk_ok tabT rfl).1 (allT_ok trivial) mixT Q_laws_eqIntS.1 Q_laws_eqIntS.2.2 (loops_of W_laws_eqIntS ⟨loop_of (cx := C_laws_eqIntS) (L := S_laws_eqIntS_L4 fuel) rfl (by rw [R_laws_eqIntS_L4]; rfl) ⟨laws_eqIntS_L4, fun _ => rfl, fun n x => K_laws_eqIntS_L4 n x, fuel, fun _ => rfl⟩, trivial⟩) (enc := N_laws_eqIntS) (fun _ _ => ⟨rfl, rfl⟩) F_laws_eqIntS

theorem K_laws_eqIntSS_L4 (n : Nat) (x : (List (List Int)) × (List (List Int)) × Int) : laws_eqIntSS_L4 (n + 1) x = roundK C_laws_eqIntSS B_laws_eqIntSS_L4 (S_laws_eqIntSS_L4 fuel) x (laws_eqIntSS_L4 n) := by
  obtain ⟨a, b, i⟩ := x
  kernel_rfl
theorem F_laws_eqIntSS (a : dens [.v (.slice (.slice .int)), .v (.slice (.slice .int))]) : E_laws_eqIntSS.run a = funK C_laws_eqIntSS Try.f10 [.v (.slice (.slice .int)), .v (.slice (.slice .int))] [.v .bool] a (fun o r => some (N_laws_eqIntSS o r)) := by
  kernel_rfl
theorem W_laws_eqIntSS : loopsOf D_laws_eqIntSS = [B_laws_eqIntSS_L4] := by kernel_rfl
theorem R_laws_eqIntSS_L4 : firstReg B_laws_eqIntSS_L4 = 4 := by kernel_rfl
theorem Q_laws_eqIntSS : Try.prog.funcs[10]? = some Try.f10 ∧ (Try.f10.name == "runtime.NumGoroutine") = false ∧ Try.f10.body = some D_laws_eqIntSS := ⟨Try.func10, by kernel_rfl, by kernel_rfl⟩
theorem H_laws_eqIntSS : Holds Try.prog 10 E_laws_eqIntSS :=
  holds_of (cx := C_laws_eqIntSS) (tabOk_ok tabT rfl).1 (allT_ok ⟨⟨H_laws_eqIntS, _, _, Q_laws_eqIntS⟩, trivial⟩) mixT Q_laws_eqIntSS.1 Q_laws_eqIntSS.2.2 (loops_of W_laws_eqIntSS ⟨loop_of (cx := C_laws_eqIntSS) (L := S_laws_eqIntSS_L4 fuel) rfl (by rw [R_laws_eqIntSS_L4]; rfl) ⟨laws_eqIntSS_L4, fun _ => rfl, fun n x => K_laws_eqIntSS_L4 n x, fuel, fun _ => rfl⟩, trivial⟩) (enc := N_laws_eqIntSS) (fun _ _ => ⟨rfl, rfl⟩) F_laws_eqIntSS

theorem F_laws_eqLinear (a : dens [.v (.pair .int (.pair .int (.slice (.slice .int)))), .v (.pair .int (.pair .int (.slice (.slice .int))))]) : E_laws_eqLinear.run a = funK C_laws_eqLinear Try.f9 [.v (.pair .int (.pair .int (.slice (.slice .int)))), .v (.pair .int (.pair .int (.slice (.slice .int))))] [.v .bool] a (fun o r => some (N_laws_eqLinear o r)) := by
  kernel_rfl
theorem W_laws_eqLinear : loopsOf D_laws_eqLinear = [] := by kernel_rfl
theorem Q_laws_eqLinear : Try.prog.funcs[9]? = some Try.f9 ∧ (Try.f9.name == "runtime.NumGoroutine") = false ∧ Try.f9.body = some D_laws_eqLinear := ⟨Try.func9, by kernel_rfl, by kernel_rfl⟩
theorem H_laws_eqLinear : Holds Try.prog 9 E_laws_eqLinear :=
  holds_of (cx := C_laws_eqLinear) (tabOk_ok tabT rfl).1 (allT_ok ⟨⟨H_laws_eqIntSS, _, _, Q_laws_eqIntSS⟩, trivial⟩) mixT Q_laws_eqLinear.1 Q_laws_eqLinear.2.2 (loops_of W_laws_eqLinear trivial) (enc := N_laws_eqLinear) (fun _ _ => ⟨rfl, rfl⟩) F_laws_eqLinear

theorem K_laws_markIntS_L2 (n : Nat) (x : (List Int) × Int × Int) : laws_markIntS_L2 (n + 1) x = roundK C_laws_markIntS B_laws_markIntS_L2 (S_laws_markIntS_L2 fuel) x (laws_markIntS_L2 n) := by
  obtain ⟨a, k, i⟩ := x
  kernel_rfl
theorem F_laws_markIntS (a : dens [.io .int 0, .v .int]) : E_laws_markIntS.run a = funK C_laws_markIntS Try.f21 [.io .int 0, .v .int] [.v .int] a (fun o r => some (N_laws_markIntS o r)) := by
  kernel_rfl
theorem W_laws_markIntS : loopsOf D_laws_markIntS = [B_laws_markIntS_L2] := by kernel_rfl
theorem R_laws_markIntS_L2 : firstReg B_laws_markIntS_L2 = 2 := by kernel_rfl
theorem Q_laws_markIntS : Try.prog.funcs[21]? = some Try.f21 ∧ (Try.f21.name == "runtime.NumGoroutine") = false ∧ Try.f21.body = some D_laws_markIntS := ⟨Try.func21, by kernel_rfl, by kernel_rfl⟩
theorem H_laws_markIntS : Holds Try.prog 21 E_laws_markIntS :=
  holds_of (cx := C_laws_markIntS) (tabOk_ok tabT rfl).1 (allT_ok trivial) mixT Q_laws_markIntS.1 Q_laws_markIntS.2.2 (loops_of W_laws_markIntS ⟨loop_of (cx := C_laws_markIntS) (L := S_laws_markIntS_L2 fuel) rfl (by rw [R_laws_markIntS_L2]; rfl) ⟨laws_markIntS_L2, fun _ => rfl, fun n x => K_laws_markIntS_L2 n x, fuel, fun _ => rfl⟩, trivial⟩) (enc := N_laws_markIntS) (fun _ _ => ⟨rfl, rfl⟩) F_laws_markIntS

theorem K_laws_markIntSS_L2 (n : Nat) (x : (List (List Int)) × Int × Int) : laws_markIntSS_L2 (n + 1) x = roundK C_laws_markIntSS B_laws_markIntSS_L2 (S_laws_markIntSS_L2 fuel) x (laws_markIntSS_L2 n) := by
  obtain ⟨a, k, i⟩ := x
  kernel_rfl
theorem F_laws_markIntSS (a : dens [.io (.slice .int) 1, .v .int]) : E_laws_markIntSS.run a = funK C_laws_markIntSS Try.f11 [.io (.slice .int) 1, .v .int] [.v .int] a (fun o r => some (N_laws_markIntSS o r)) := by
  kernel_rfl
theorem W_laws_markIntSS : loopsOf D_laws_markIntSS = [B_laws_markIntSS_L2] := by kernel_rfl
theorem R_laws_markIntSS_L2 : firstReg B_laws_markIntSS_L2 = 2 := by kernel_rfl
theorem Q_laws_markIntSS : Try.prog.funcs[11]? = some Try.f11 ∧ (Try.f11.name == "runtime.NumGoroutine") = false ∧ Try.f11.body = some D_laws_markIntSS := ⟨Try.func11, by kernel_rfl, by kernel_rfl⟩
theorem H_laws_markIntSS : Holds Try.prog 11 E_laws_markIntSS :=
  holds_of (cx := C_laws_markIntSS) (tabOk_ok tabT rfl).1 (allT_ok ⟨⟨H_laws_markIntS, _, _, Q_laws_markIntS⟩, trivial⟩) mixT Q_laws_markIntSS.1 Q_laws_markIntSS.2.2 (loops_of W_laws_markIntSS ⟨loop_of (cx := C_laws_markIntSS) (L := S_laws_markIntSS_L2 fuel) rfl (by rw [R_laws_markIntSS_L2]; rfl) ⟨laws_markIntSS_L2, fun _ => rfl, fun n x => K_laws_markIntSS_L2 n x, fuel, fun _ => rfl⟩, trivial⟩) (enc := N_laws_markIntSS) (fun _ _ => ⟨rfl, rfl⟩) F_laws_markIntSS

theorem F_laws_markLinear (a : dens [.pr (.v .int) (.pr (.v .int) (.io (.slice .int) 1)), .v .int]) : E_laws_markLinear.run a = funK C_laws_markLinear Try.f12 [.pr (.v .int) (.pr (.v .int) (.io (.slice .int) 1)), .v .int] [.v .int] a (fun o r => some (N_laws_markLinear o r)) := by
  kernel_rfl
theorem W_laws_markLinear : loopsOf D_laws_markLinear = [] := by kernel_rfl
theorem Q_laws_markLinear : Try.prog.funcs[12]? = some Try.f12 ∧ (Try.f12.name == "runtime.NumGoroutine") = false ∧ Try.f12.body = some D_laws_markLinear := ⟨Try.func12, by kernel_rfl, by kernel_rfl⟩
theorem H_laws_markLinear : Holds Try.prog 12 E_laws_markLinear :=
  holds_of (cx := C_laws_markLinear) (tabOk_ok tabT rfl).1 (allT_ok ⟨⟨H_laws_markIntSS, _, _, Q_laws_markIntSS⟩, trivial⟩) mixT Q_laws_markLinear.1 Q_laws_markLinear.2.2 (loops_of W_laws_markLinear trivial) (enc := N_laws_markLinear) (fun _ _ => ⟨rfl, rfl⟩) F_laws_markLinear

theorem K_laws_heldIntS_L2 (n : Nat) (x : (List Int) × Int × Int) : laws_heldIntS_L2 (n + 1) x = roundK C_laws_heldIntS B_laws_heldIntS_L2 (S_laws_heldIntS_L2 fuel) x (laws_heldIntS_L2 n) := by
  obtain ⟨a, k, i⟩ := x
  kernel_rfl
theorem F_laws_heldIntS (a : dens [.v (.slice .int), .v .int]) : E_laws_heldIntS.run a = funK C_laws_heldIntS Try.f22 [.v (.slice .int), .v .int] [.v .int] a (fun o r => some (N_laws_heldIntS o r)) := by
  kernel_rfl
theorem W_laws_heldIntS : loopsOf D_laws_heldIntS = [B_laws_heldIntS_L2] := by kernel_rfl
theorem R_laws_heldIntS_L2 : firstReg B_laws_heldIntS_L2 = 2 := by kernel_rfl
theorem Q_laws_heldIntS : Try.prog.funcs[22]? = some Try.f22 ∧ (Try.f22.name == "runtime.NumGoroutine") = false ∧ Try.f22.body = some D_laws_heldIntS := ⟨Try.func22, by kernel_rfl, by kernel_rfl⟩
theorem H_laws_heldIntS : Holds Try.prog 22 E_laws_heldIntS :=
  holds_of (cx := C_laws_heldIntS) (tabOk_ok tabT rfl).1 (allT_ok trivial) mixT Q_laws_heldIntS.1 Q_laws_heldIntS.2.2 (loops_of W_laws_heldIntS ⟨loop_of (cx := C_laws_heldIntS) (L := S_laws_heldIntS_L2 fuel) rfl (by rw [R_laws_heldIntS_L2]; rfl) ⟨laws_heldIntS_L2, fun _ => rfl, fun n x => K_laws_heldIntS_L2 n x, fuel, fun _ => rfl⟩, trivial⟩) (enc := N_laws_heldIntS) (fun _ _ => ⟨rfl, rfl⟩) F_laws_heldIntS

theorem K_laws_heldIntSS_L2 (n : Nat) (x : (List (List Int)) × Int × Int) : laws_heldIntSS_L2 (n + 1) x = roundK C_laws_heldIntSS B_laws_heldIntSS_L2 (S_laws_heldIntSS_L2 fuel) x (laws_heldIntSS_L2 n) := by
  obtain ⟨a, k, i⟩ := x
  kernel_rfl
theorem F_laws_heldIntSS (a : dens [.v (.slice (.slice .int)), .v .int]) : E_laws_heldIntSS.run a = funK C_laws_heldIntSS Try.f34 [.v (.slice (.slice .int)), .v .int] [.v .int] a (fun o r => some (N_laws_heldIntSS o r)) := by
  kernel_rfl
theorem W_laws_heldIntSS : loopsOf D_laws_heldIntSS = [B_laws_heldIntSS_L2] := by kernel_rfl
theorem R_laws_heldIntSS_L2 : firstReg B_laws_heldIntSS_L2 = 2 := by kernel_rfl
theorem Q_laws_heldIntSS : Try.prog.funcs[34]? = some Try.f34 ∧ (Try.f34.name == "runtime.NumGoroutine") = false ∧ Try.f34.body = some D_laws_heldIntSS := ⟨Try.func34, by kernel_rfl, by kernel_rfl⟩
theorem H_laws_heldIntSS : Holds Try.prog 34 E_laws_heldIntSS :=
  holds_of (cx := C_laws_heldIntSS) (tabOk_ok tabT rfl).1 (allT_ok ⟨⟨H_laws_heldIntS, _, _, Q_laws_heldIntS⟩, trivial⟩) mixT Q_laws_heldIntSS.1 Q_laws_heldIntSS.2.2 (loops_of W_laws_heldIntSS ⟨loop_of (cx := C_laws_heldIntSS) (L := S_laws_heldIntSS_L2 fuel) rfl (by rw [R_laws_heldIntSS_L2]; rfl) ⟨laws_heldIntSS_L2, fun _ => rfl, fun n x => K_laws_heldIntSS_L2 n x, fuel, fun _ => rfl⟩, trivial⟩) (enc := N_laws_heldIntSS) (fun _ _ => ⟨rfl, rfl⟩) F_laws_heldIntSS

theorem F_laws_heldLinear (a : dens [.v (.pair .int (.pair .int (.slice (.slice .int)))), .v .int]) : E_laws_heldLinear.run a = funK C_laws_heldLinear Try.f13 [.v (.pair .int (.pair .int (.slice (.slice .int)))), .v .int] [.v .int] a (fun o r => some (N_laws_heldLinear o r)) := by
  kernel_rfl
theorem W_laws_heldLinear : loopsOf D_laws_heldLinear = [] := by kernel_rfl
theorem Q_laws_heldLinear : Try.prog.funcs[13]? = some Try.f13 ∧ (Try.f13.name == "runtime.NumGoroutine") = false ∧ Try.f13.body = some D_laws_heldLinear := ⟨Try.func13, by kernel_rfl, by kernel_rfl⟩
theorem H_laws_heldLinear : Holds Try.prog 13 E_laws_heldLinear :=
  holds_of (cx := C_laws_heldLinear) (tabOk_ok tabT rfl).1 (allT_ok ⟨⟨H_laws_heldIntSS, _, _, Q_laws_heldIntSS⟩, trivial⟩) mixT Q_laws_heldLinear.1 Q_laws_heldLinear.2.2 (loops_of W_laws_heldLinear trivial) (enc := N_laws_heldLinear) (fun _ _ => ⟨rfl, rfl⟩) F_laws_heldLinear

theorem F_laws_FnExactEquationsOf (a : dens [.v .int, .v .int, .v (.slice (.slice .int))]) : E_laws_FnExactEquationsOf.run a = funK C_laws_FnExactEquationsOf Try.f3 [.v .int, .v .int, .v (.slice (.slice .int))] [.v .bool] a (fun o r => some (N_laws_FnExactEquationsOf o r)) := by
  kernel_rfl
theorem W_laws_FnExactEquationsOf : loopsOf D_laws_FnExactEquationsOf = [] := by kernel_rfl
theorem Q_laws_FnExactEquationsOf : Try.prog.funcs[3]? = some Try.f3 ∧ (Try.f3.name == "runtime.NumGoroutine") = false ∧ Try.f3.body = some D_laws_FnExactEquationsOf := ⟨Try.func3, by kernel_rfl, by kernel_rfl⟩
theorem H_laws_FnExactEquationsOf : Holds Try.prog 3 E_laws_FnExactEquationsOf :=
  holds_of (cx := C_laws_FnExactEquationsOf) (tabOk_ok tabT rfl).1 (allT_ok ⟨⟨H_laws_szIntSS, _, _, Q_laws_szIntSS⟩, ⟨⟨H_spec_EquationsOf, _, _, Q_spec_EquationsOf⟩, ⟨⟨H_laws_toIntSS, _, _, Q_laws_toIntSS⟩, ⟨⟨H_impl_EquationsOf, _, _, Q_impl_EquationsOf⟩, ⟨⟨H_laws_eqLinear, _, _, Q_laws_eqLinear⟩, ⟨⟨H_laws_eqIntSS, _, _, Q_laws_eqIntSS⟩, ⟨⟨H_laws_markIntSS, _, _, Q_laws_markIntSS⟩, ⟨⟨H_laws_markLinear, _, _, Q_laws_markLinear⟩, ⟨⟨H_laws_heldLinear, _, _, Q_laws_heldLinear⟩, trivial⟩⟩⟩⟩⟩⟩⟩⟩⟩) mixT Q_laws_FnExactEquationsOf.1 Q_laws_FnExactEquationsOf.2.2 (loops_of W_laws_FnExactEquationsOf trivial) (enc := N_laws_FnExactEquationsOf) (fun _ _ => ⟨rfl, rfl⟩) F_laws_FnExactEquationsOf
end T
