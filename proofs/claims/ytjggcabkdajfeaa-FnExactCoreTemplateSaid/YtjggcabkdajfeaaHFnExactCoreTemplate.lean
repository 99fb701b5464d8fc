/- Each typed function is what the program computes; no conditions. -/
import Derived.Test.YtjggcabkdajfeaaCFnExactCoreTemplate
set_option linter.all false
set_option maxRecDepth 10000
open Go Go.Va Go.Proofs
namespace T

theorem F_laws_szIntS (a : dens [.v (.slice .int), .v .int]) : E_laws_szIntS.run a = funK C_laws_szIntS Try.f114 [.v (.slice .int), .v .int] [.v .int] a (fun o r => some (N_laws_szIntS o r)) := by
  kernel_rfl
theorem W_laws_szIntS : loopsOf D_laws_szIntS = [] := by kernel_rfl
theorem Q_laws_szIntS : Try.prog.funcs[114]? = some Try.f114 ∧ (Try.f114.name == "runtime.NumGoroutine") = false ∧ Try.f114.body = some D_laws_szIntS := ⟨Try.func114, by kernel_rfl, by kernel_rfl⟩
theorem H_laws_szIntS : Holds Try.prog 114 E_laws_szIntS :=
  holds_of (cx := C_laws_szIntS) (tabOk_ok tabT rfl).1 (allT_ok trivial) mixT Q_laws_szIntS.1 Q_laws_szIntS.2.2 (loops_of W_laws_szIntS trivial) (enc := N_laws_szIntS) (fun _ _ => ⟨rfl, rfl⟩) F_laws_szIntS

theorem K_laws_szIntSS_L5 (n : Nat) (x : (List (List Int)) × Int × Int) : laws_szIntSS_L5 (n + 1) x = roundK C_laws_szIntSS B_laws_szIntSS_L5 (S_laws_szIntSS_L5 fuel) x (laws_szIntSS_L5 n) := by
  obtain ⟨a, left, i⟩ := x
  kernel_rfl
theorem F_laws_szIntSS (a : dens [.v (.slice (.slice .int)), .v .int]) : E_laws_szIntSS.run a = funK C_laws_szIntSS Try.f91 [.v (.slice (.slice .int)), .v .int] [.v .int] a (fun o r => some (N_laws_szIntSS o r)) := by
  kernel_rfl
theorem W_laws_szIntSS : loopsOf D_laws_szIntSS = [B_laws_szIntSS_L5] := by kernel_rfl
theorem R_laws_szIntSS_L5 : firstReg B_laws_szIntSS_L5 = 5 := by kernel_rfl
theorem Q_laws_szIntSS : Try.prog.funcs[91]? = some Try.f91 ∧ (Try.f91.name == "runtime.NumGoroutine") = false ∧ Try.f91.body = some D_laws_szIntSS := ⟨Try.func91, by kernel_rfl, by kernel_rfl⟩
theorem H_laws_szIntSS : Holds Try.prog 91 E_laws_szIntSS :=
  holds_of (cx := C_laws_szIntSS) (tabOk_ok tabT rfl).1 (allT_ok ⟨⟨H_laws_szIntS, _, _, Q_laws_szIntS⟩, trivial⟩) mixT Q_laws_szIntSS.1 Q_laws_szIntSS.2.2 (loops_of W_laws_szIntSS ⟨loop_of (cx := C_laws_szIntSS) (L := S_laws_szIntSS_L5 fuel) rfl (by rw [R_laws_szIntSS_L5]; rfl) ⟨laws_szIntSS_L5, fun _ => rfl, fun n x => K_laws_szIntSS_L5 n x, fuel, fun _ => rfl⟩, trivial⟩) (enc := N_laws_szIntSS) (fun _ _ => ⟨rfl, rfl⟩) F_laws_szIntSS

theorem F_laws_szRelation (a : dens [.v (.pair .int (.slice (.slice .int))), .v .int]) : E_laws_szRelation.run a = funK C_laws_szRelation Try.f53 [.v (.pair .int (.slice (.slice .int))), .v .int] [.v .int] a (fun o r => some (N_laws_szRelation o r)) := by
  kernel_rfl
theorem W_laws_szRelation : loopsOf D_laws_szRelation = [] := by kernel_rfl
theorem Q_laws_szRelation : Try.prog.funcs[53]? = some Try.f53 ∧ (Try.f53.name == "runtime.NumGoroutine") = false ∧ Try.f53.body = some D_laws_szRelation := ⟨Try.func53, by kernel_rfl, by kernel_rfl⟩
theorem H_laws_szRelation : Holds Try.prog 53 E_laws_szRelation :=
  holds_of (cx := C_laws_szRelation) (tabOk_ok tabT rfl).1 (allT_ok ⟨⟨H_laws_szIntSS, _, _, Q_laws_szIntSS⟩, trivial⟩) mixT Q_laws_szRelation.1 Q_laws_szRelation.2.2 (loops_of W_laws_szRelation trivial) (enc := N_laws_szRelation) (fun _ _ => ⟨rfl, rfl⟩) F_laws_szRelation

theorem K_laws_szRelationS_L5 (n : Nat) (x : (List (Int × (List (List Int)))) × Int × Int) : laws_szRelationS_L5 (n + 1) x = roundK C_laws_szRelationS B_laws_szRelationS_L5 (S_laws_szRelationS_L5 fuel) x (laws_szRelationS_L5 n) := by
  obtain ⟨a, left, i⟩ := x
  kernel_rfl
theorem F_laws_szRelationS (a : dens [.v (.slice (.pair .int (.slice (.slice .int)))), .v .int]) : E_laws_szRelationS.run a = funK C_laws_szRelationS Try.f18 [.v (.slice (.pair .int (.slice (.slice .int)))), .v .int] [.v .int] a (fun o r => some (N_laws_szRelationS o r)) := by
  kernel_rfl
theorem W_laws_szRelationS : loopsOf D_laws_szRelationS = [B_laws_szRelationS_L5] := by kernel_rfl
theorem R_laws_szRelationS_L5 : firstReg B_laws_szRelationS_L5 = 5 := by kernel_rfl
theorem Q_laws_szRelationS : Try.prog.funcs[18]? = some Try.f18 ∧ (Try.f18.name == "runtime.NumGoroutine") = false ∧ Try.f18.body = some D_laws_szRelationS := ⟨Try.func18, by kernel_rfl, by kernel_rfl⟩
theorem H_laws_szRelationS : Holds Try.prog 18 E_laws_szRelationS :=
  holds_of (cx := C_laws_szRelationS) (tabOk_ok tabT rfl).1 (allT_ok ⟨⟨H_laws_szRelation, _, _, Q_laws_szRelation⟩, trivial⟩) mixT Q_laws_szRelationS.1 Q_laws_szRelationS.2.2 (loops_of W_laws_szRelationS ⟨loop_of (cx := C_laws_szRelationS) (L := S_laws_szRelationS_L5 fuel) rfl (by rw [R_laws_szRelationS_L5]; rfl) ⟨laws_szRelationS_L5, fun _ => rfl, fun n x => K_laws_szRelationS_L5 n x, fuel, fun _ => rfl⟩, trivial⟩) (enc := N_laws_szRelationS) (fun _ _ => ⟨rfl, rfl⟩) F_laws_szRelationS

theorem K_laws_toIntS_L3 (n : Nat) (x : (List Int) × (List Int) × Int) : laws_toIntS_L3 (n + 1) x = roundK C_laws_toIntS B_laws_toIntS_L3 (S_laws_toIntS_L3 fuel) x (laws_toIntS_L3 n) := by
  obtain ⟨a, out, i⟩ := x
  kernel_rfl
theorem F_laws_toIntS (a : dens [.v (.slice .int)]) : E_laws_toIntS.run a = funK C_laws_toIntS Try.f21 [.v (.slice .int)] [.mv .int 0] a (fun o r => some (N_laws_toIntS o r)) := by
  kernel_rfl
theorem W_laws_toIntS : loopsOf D_laws_toIntS = [B_laws_toIntS_L3] := by kernel_rfl
theorem R_laws_toIntS_L3 : firstReg B_laws_toIntS_L3 = 3 := by kernel_rfl
theorem Q_laws_toIntS : Try.prog.funcs[21]? = some Try.f21 ∧ (Try.f21.name == "runtime.NumGoroutine") = false ∧ Try.f21.body = some D_laws_toIntS := ⟨Try.func21, by kernel_rfl, by kernel_rfl⟩
theorem H_laws_toIntS : Holds Try.prog 21 E_laws_toIntS :=
  holds_of (cx := C_laws_toIntS) (tabOk_ok tabT rfl).1 (allT_ok trivial) mixT Q_laws_toIntS.1 Q_laws_toIntS.2.2 (loops_of W_laws_toIntS ⟨loop_of (cx := C_laws_toIntS) (L := S_laws_toIntS_L3 fuel) rfl (by rw [R_laws_toIntS_L3]; rfl) ⟨laws_toIntS_L3, fun _ => rfl, fun n x => K_laws_toIntS_L3 n x, fuel, fun _ => rfl⟩, trivial⟩) (enc := N_laws_toIntS) (fun _ _ => ⟨rfl, rfl⟩) F_laws_toIntS

theorem K_laws_toIntSS_L3 (n : Nat) (x : (List (List Int)) × (List (List Int)) × Int) : laws_toIntSS_L3 (n + 1) x = roundK C_laws_toIntSS B_laws_toIntSS_L3 (S_laws_toIntSS_L3 fuel) x (laws_toIntSS_L3 n) := by
  obtain ⟨a, out, i⟩ := x
  kernel_rfl
theorem F_laws_toIntSS (a : dens [.v (.slice (.slice .int))]) : E_laws_toIntSS.run a = funK C_laws_toIntSS Try.f94 [.v (.slice (.slice .int))] [.mv (.slice .int) 1] a (fun o r => some (N_laws_toIntSS o r)) := by
  kernel_rfl
theorem W_laws_toIntSS : loopsOf D_laws_toIntSS = [B_laws_toIntSS_L3] := by kernel_rfl
theorem R_laws_toIntSS_L3 : firstReg B_laws_toIntSS_L3 = 3 := by kernel_rfl
theorem Q_laws_toIntSS : Try.prog.funcs[94]? = some Try.f94 ∧ (Try.f94.name == "runtime.NumGoroutine") = false ∧ Try.f94.body = some D_laws_toIntSS := ⟨Try.func94, by kernel_rfl, by kernel_rfl⟩
theorem H_laws_toIntSS : Holds Try.prog 94 E_laws_toIntSS :=
  holds_of (cx := C_laws_toIntSS) (tabOk_ok tabT rfl).1 (allT_ok ⟨⟨H_laws_toIntS, _, _, Q_laws_toIntS⟩, trivial⟩) mixT Q_laws_toIntSS.1 Q_laws_toIntSS.2.2 (loops_of W_laws_toIntSS ⟨loop_of (cx := C_laws_toIntSS) (L := S_laws_toIntSS_L3 fuel) rfl (by rw [R_laws_toIntSS_L3]; rfl) ⟨laws_toIntSS_L3, fun _ => rfl, fun n x => K_laws_toIntSS_L3 n x, fuel, fun _ => rfl⟩, trivial⟩) (enc := N_laws_toIntSS) (fun _ _ => ⟨rfl, rfl⟩) F_laws_toIntSS

theorem F_laws_toRelation (a : dens [.v (.pair .int (.slice (.slice .int)))]) : E_laws_toRelation.run a = funK C_laws_toRelation Try.f58 [.v (.pair .int (.slice (.slice .int)))] [.pr (.v .int) (.mv (.slice .int) 1)] a (fun o r => some (N_laws_toRelation o r)) := by
  kernel_rfl
theorem W_laws_toRelation : loopsOf D_laws_toRelation = [] := by kernel_rfl
theorem Q_laws_toRelation : Try.prog.funcs[58]? = some Try.f58 ∧ (Try.f58.name == "runtime.NumGoroutine") = false ∧ Try.f58.body = some D_laws_toRelation := ⟨Try.func58, by kernel_rfl, by kernel_rfl⟩
theorem H_laws_toRelation : Holds Try.prog 58 E_laws_toRelation :=
  holds_of (cx := C_laws_toRelation) (tabOk_ok tabT rfl).1 (allT_ok ⟨⟨H_laws_toIntSS, _, _, Q_laws_toIntSS⟩, trivial⟩) mixT Q_laws_toRelation.1 Q_laws_toRelation.2.2 (loops_of W_laws_toRelation trivial) (enc := N_laws_toRelation) (fun _ _ => ⟨rfl, rfl⟩) F_laws_toRelation

theorem K_laws_toRelationS_L3 (n : Nat) (x : (List (Int × (List (List Int)))) × (List (Int × (List (List Int)))) × Int) : laws_toRelationS_L3 (n + 1) x = roundK C_laws_toRelationS B_laws_toRelationS_L3 (S_laws_toRelationS_L3 fuel) x (laws_toRelationS_L3 n) := by
  obtain ⟨a, out, i⟩ := x
  kernel_rfl
theorem F_laws_toRelationS (a : dens [.v (.slice (.pair .int (.slice (.slice .int))))]) : E_laws_toRelationS.run a = funK C_laws_toRelationS Try.f20 [.v (.slice (.pair .int (.slice (.slice .int))))] [.mv (.pair .int (.slice (.slice .int))) 2] a (fun o r => some (N_laws_toRelationS o r)) := by
  kernel_rfl
theorem W_laws_toRelationS : loopsOf D_laws_toRelationS = [B_laws_toRelationS_L3] := by kernel_rfl
theorem R_laws_toRelationS_L3 : firstReg B_laws_toRelationS_L3 = 3 := by kernel_rfl
theorem Q_laws_toRelationS : Try.prog.funcs[20]? = some Try.f20 ∧ (Try.f20.name == "runtime.NumGoroutine") = false ∧ Try.f20.body = some D_laws_toRelationS := ⟨Try.func20, by kernel_rfl, by kernel_rfl⟩
theorem H_laws_toRelationS : Holds Try.prog 20 E_laws_toRelationS :=
  holds_of (cx := C_laws_toRelationS) (tabOk_ok tabT rfl).1 (allT_ok ⟨⟨H_laws_toRelation, _, _, Q_laws_toRelation⟩, trivial⟩) mixT Q_laws_toRelationS.1 Q_laws_toRelationS.2.2 (loops_of W_laws_toRelationS ⟨loop_of (cx := C_laws_toRelationS) (L := S_laws_toRelationS_L3 fuel) rfl (by rw [R_laws_toRelationS_L3]; rfl) ⟨laws_toRelationS_L3, fun _ => rfl, fun n x => K_laws_toRelationS_L3 n x, fuel, fun _ => rfl⟩, trivial⟩) (enc := N_laws_toRelationS) (fun _ _ => ⟨rfl, rfl⟩) F_laws_toRelationS

theorem F_spec_l1In (a : dens [.v .int, .v .int, .v .int]) : E_spec_l1In.run a = funK C_spec_l1In Try.f56 [.v .int, .v .int, .v .int] [.v .bool] a (fun o r => some (N_spec_l1In o r)) := by
  kernel_rfl
theorem W_spec_l1In : loopsOf D_spec_l1In = [] := by kernel_rfl
theorem Q_spec_l1In : Try.prog.funcs[56]? = some Try.f56 ∧ (Try.f56.name == "runtime.NumGoroutine") = false ∧ Try.f56.body = some D_spec_l1In := ⟨Try.func56, by kernel_rfl, by kernel_rfl⟩
theorem H_spec_l1In : Holds Try.prog 56 E_spec_l1In :=
  holds_of (cx := C_spec_l1In) (tabOk_ok tabT rfl).1 (allT_ok trivial) mixT Q_spec_l1In.1 Q_spec_l1In.2.2 (loops_of W_spec_l1In trivial) (enc := N_spec_l1In) (fun _ _ => ⟨rfl, rfl⟩) F_spec_l1In

theorem F_spec_l14Size (a : dens [.v .int]) : E_spec_l14Size.run a = funK C_spec_l14Size Try.f99 [.v .int] [.v .bool] a (fun o r => some (N_spec_l14Size o r)) := by
  kernel_rfl
theorem W_spec_l14Size : loopsOf D_spec_l14Size = [] := by kernel_rfl
theorem Q_spec_l14Size : Try.prog.funcs[99]? = some Try.f99 ∧ (Try.f99.name == "runtime.NumGoroutine") = false ∧ Try.f99.body = some D_spec_l14Size := ⟨Try.func99, by kernel_rfl, by kernel_rfl⟩
theorem H_spec_l14Size : Holds Try.prog 99 E_spec_l14Size :=
  holds_of (cx := C_spec_l14Size) (tabOk_ok tabT rfl).1 (allT_ok ⟨⟨H_spec_l1In, _, _, Q_spec_l1In⟩, trivial⟩) mixT Q_spec_l14Size.1 Q_spec_l14Size.2.2 (loops_of W_spec_l14Size trivial) (enc := N_spec_l14Size) (fun _ _ => ⟨rfl, rfl⟩) F_spec_l14Size

theorem K_spec_l2Pow_L2 (n : Nat) (x : Int × Int × Int) : spec_l2Pow_L2 (n + 1) x = roundK C_spec_l2Pow B_spec_l2Pow_L2 (S_spec_l2Pow_L2 fuel) x (spec_l2Pow_L2 n) := by
  obtain ⟨n_, k, out⟩ := x
  kernel_rfl
theorem F_spec_l2Pow (a : dens [.v .int, .v .int]) : E_spec_l2Pow.run a = funK C_spec_l2Pow Try.f55 [.v .int, .v .int] [.v .int] a (fun o r => some (N_spec_l2Pow o r)) := by
  kernel_rfl
theorem W_spec_l2Pow : loopsOf D_spec_l2Pow = [B_spec_l2Pow_L2] := by kernel_rfl
theorem R_spec_l2Pow_L2 : firstReg B_spec_l2Pow_L2 = 2 := by kernel_rfl
theorem Q_spec_l2Pow : Try.prog.funcs[55]? = some Try.f55 ∧ (Try.f55.name == "runtime.NumGoroutine") = false ∧ Try.f55.body = some D_spec_l2Pow := ⟨Try.func55, by kernel_rfl, by kernel_rfl⟩
theorem H_spec_l2Pow : Holds Try.prog 55 E_spec_l2Pow :=
  holds_of (cx := C_spec_l2Pow) (tabOk_ok tabT rfl).1 (allT_ok trivial) mixT Q_spec_l2Pow.1 Q_spec_l2Pow.2.2 (loops_of W_spec_l2Pow ⟨loop_of (cx := C_spec_l2Pow) (L := S_spec_l2Pow_L2 fuel) rfl (by rw [R_spec_l2Pow_L2]; rfl) ⟨spec_l2Pow_L2, fun _ => rfl, fun n x => K_spec_l2Pow_L2 n x, fuel, fun _ => rfl⟩, trivial⟩) (enc := N_spec_l2Pow) (fun _ _ => ⟨rfl, rfl⟩) F_spec_l2Pow

theorem K_spec_l2Elements_L2 (n : Nat) (x : Int × (List Int) × Int) : spec_l2Elements_L2 (n + 1) x = roundK C_spec_l2Elements B_spec_l2Elements_L2 (S_spec_l2Elements_L2 fuel) x (spec_l2Elements_L2 n) := by
  obtain ⟨n_, list, i⟩ := x
  kernel_rfl
theorem F_spec_l2Elements (a : dens [.v .int, .v (.slice .int)]) : E_spec_l2Elements.run a = funK C_spec_l2Elements Try.f130 [.v .int, .v (.slice .int)] [.v .bool] a (fun o r => some (N_spec_l2Elements o r)) := by
  kernel_rfl
theorem W_spec_l2Elements : loopsOf D_spec_l2Elements = [B_spec_l2Elements_L2] := by kernel_rfl
theorem R_spec_l2Elements_L2 : firstReg B_spec_l2Elements_L2 = 2 := by kernel_rfl
theorem Q_spec_l2Elements : Try.prog.funcs[130]? = some Try.f130 ∧ (Try.f130.name == "runtime.NumGoroutine") = false ∧ Try.f130.body = some D_spec_l2Elements := ⟨Try.func130, by kernel_rfl, by kernel_rfl⟩
theorem H_spec_l2Elements : Holds Try.prog 130 E_spec_l2Elements :=
  holds_of (cx := C_spec_l2Elements) (tabOk_ok tabT rfl).1 (allT_ok ⟨⟨H_spec_l1In, _, _, Q_spec_l1In⟩, trivial⟩) mixT Q_spec_l2Elements.1 Q_spec_l2Elements.2.2 (loops_of W_spec_l2Elements ⟨loop_of (cx := C_spec_l2Elements) (L := S_spec_l2Elements_L2 fuel) rfl (by rw [R_spec_l2Elements_L2]; rfl) ⟨spec_l2Elements_L2, fun _ => rfl, fun n x => K_spec_l2Elements_L2 n x, fuel, fun _ => rfl⟩, trivial⟩) (enc := N_spec_l2Elements) (fun _ _ => ⟨rfl, rfl⟩) F_spec_l2Elements

theorem F_spec_l8Tuple (a : dens [.v .int, .v .int, .v (.slice .int)]) : E_spec_l8Tuple.run a = funK C_spec_l8Tuple Try.f125 [.v .int, .v .int, .v (.slice .int)] [.v .bool] a (fun o r => some (N_spec_l8Tuple o r)) := by
  kernel_rfl
theorem W_spec_l8Tuple : loopsOf D_spec_l8Tuple = [] := by kernel_rfl
theorem Q_spec_l8Tuple : Try.prog.funcs[125]? = some Try.f125 ∧ (Try.f125.name == "runtime.NumGoroutine") = false ∧ Try.f125.body = some D_spec_l8Tuple := ⟨Try.func125, by kernel_rfl, by kernel_rfl⟩
theorem H_spec_l8Tuple : Holds Try.prog 125 E_spec_l8Tuple :=
  holds_of (cx := C_spec_l8Tuple) (tabOk_ok tabT rfl).1 (allT_ok ⟨⟨H_spec_l2Elements, _, _, Q_spec_l2Elements⟩, trivial⟩) mixT Q_spec_l8Tuple.1 Q_spec_l8Tuple.2.2 (loops_of W_spec_l8Tuple trivial) (enc := N_spec_l8Tuple) (fun _ _ => ⟨rfl, rfl⟩) F_spec_l8Tuple

theorem K_spec_l3Less_L2 (n : Nat) (x : (List Int) × (List Int) × Int) : spec_l3Less_L2 (n + 1) x = roundK C_spec_l3Less B_spec_l3Less_L2 (S_spec_l3Less_L2 fuel) x (spec_l3Less_L2 n) := by
  obtain ⟨a, b, i⟩ := x
  kernel_rfl
theorem F_spec_l3Less (a : dens [.v (.slice .int), .v (.slice .int)]) : E_spec_l3Less.run a = funK C_spec_l3Less Try.f126 [.v (.slice .int), .v (.slice .int)] [.v .bool] a (fun o r => some (N_spec_l3Less o r)) := by
  kernel_rfl
theorem W_spec_l3Less : loopsOf D_spec_l3Less = [B_spec_l3Less_L2] := by kernel_rfl
theorem R_spec_l3Less_L2 : firstReg B_spec_l3Less_L2 = 2 := by kernel_rfl
theorem Q_spec_l3Less : Try.prog.funcs[126]? = some Try.f126 ∧ (Try.f126.name == "runtime.NumGoroutine") = false ∧ Try.f126.body = some D_spec_l3Less := ⟨Try.func126, by kernel_rfl, by kernel_rfl⟩
theorem H_spec_l3Less : Holds Try.prog 126 E_spec_l3Less :=
  holds_of (cx := C_spec_l3Less) (tabOk_ok tabT rfl).1 (allT_ok trivial) mixT Q_spec_l3Less.1 Q_spec_l3Less.2.2 (loops_of W_spec_l3Less ⟨loop_of (cx := C_spec_l3Less) (L := S_spec_l3Less_L2 fuel) rfl (by rw [R_spec_l3Less_L2]; rfl) ⟨spec_l3Less_L2, fun _ => rfl, fun n x => K_spec_l3Less_L2 n x, fuel, fun _ => rfl⟩, trivial⟩) (enc := N_spec_l3Less) (fun _ _ => ⟨rfl, rfl⟩) F_spec_l3Less

theorem K_spec_l13Good_L4 (n : Nat) (x : Int × (Int × (List (List Int))) × Int) : spec_l13Good_L4 (n + 1) x = roundK C_spec_l13Good B_spec_l13Good_L4 (S_spec_l13Good_L4 fuel) x (spec_l13Good_L4 n) := by
  obtain ⟨n_, r, i⟩ := x
  kernel_rfl
theorem F_spec_l13Good (a : dens [.v .int, .v (.pair .int (.slice (.slice .int)))]) : E_spec_l13Good.run a = funK C_spec_l13Good Try.f119 [.v .int, .v (.pair .int (.slice (.slice .int)))] [.v .bool] a (fun o r => some (N_spec_l13Good o r)) := by
  kernel_rfl
theorem W_spec_l13Good : loopsOf D_spec_l13Good = [B_spec_l13Good_L4] := by kernel_rfl
theorem R_spec_l13Good_L4 : firstReg B_spec_l13Good_L4 = 4 := by kernel_rfl
theorem Q_spec_l13Good : Try.prog.funcs[119]? = some Try.f119 ∧ (Try.f119.name == "runtime.NumGoroutine") = false ∧ Try.f119.body = some D_spec_l13Good := ⟨Try.func119, by kernel_rfl, by kernel_rfl⟩
theorem H_spec_l13Good : Holds Try.prog 119 E_spec_l13Good :=
  holds_of (cx := C_spec_l13Good) (tabOk_ok tabT rfl).1 (allT_ok ⟨⟨H_spec_l2Pow, _, _, Q_spec_l2Pow⟩, ⟨⟨H_spec_l1In, _, _, Q_spec_l1In⟩, ⟨⟨H_spec_l8Tuple, _, _, Q_spec_l8Tuple⟩, ⟨⟨H_spec_l3Less, _, _, Q_spec_l3Less⟩, trivial⟩⟩⟩⟩) mixT Q_spec_l13Good.1 Q_spec_l13Good.2.2 (loops_of W_spec_l13Good ⟨loop_of (cx := C_spec_l13Good) (L := S_spec_l13Good_L4 fuel) rfl (by rw [R_spec_l13Good_L4]; rfl) ⟨spec_l13Good_L4, fun _ => rfl, fun n x => K_spec_l13Good_L4 n x, fuel, fun _ => rfl⟩, trivial⟩) (enc := N_spec_l13Good) (fun _ _ => ⟨rfl, rfl⟩) F_spec_l13Good

theorem K_spec_l14Rels_L4 (n : Nat) (x : Int × (List (Int × (List (List Int)))) × Int) : spec_l14Rels_L4 (n + 1) x = roundK C_spec_l14Rels B_spec_l14Rels_L4 (S_spec_l14Rels_L4 fuel) x (spec_l14Rels_L4 n) := by
  obtain ⟨n_, rels, i⟩ := x
  kernel_rfl
theorem F_spec_l14Rels (a : dens [.v .int, .v (.slice (.pair .int (.slice (.slice .int))))]) : E_spec_l14Rels.run a = funK C_spec_l14Rels Try.f100 [.v .int, .v (.slice (.pair .int (.slice (.slice .int))))] [.v .bool] a (fun o r => some (N_spec_l14Rels o r)) := by
  kernel_rfl
theorem W_spec_l14Rels : loopsOf D_spec_l14Rels = [B_spec_l14Rels_L4] := by kernel_rfl
theorem R_spec_l14Rels_L4 : firstReg B_spec_l14Rels_L4 = 4 := by kernel_rfl
theorem Q_spec_l14Rels : Try.prog.funcs[100]? = some Try.f100 ∧ (Try.f100.name == "runtime.NumGoroutine") = false ∧ Try.f100.body = some D_spec_l14Rels := ⟨Try.func100, by kernel_rfl, by kernel_rfl⟩
theorem H_spec_l14Rels : Holds Try.prog 100 E_spec_l14Rels :=
  holds_of (cx := C_spec_l14Rels) (tabOk_ok tabT rfl).1 (allT_ok ⟨⟨H_spec_l13Good, _, _, Q_spec_l13Good⟩, trivial⟩) mixT Q_spec_l14Rels.1 Q_spec_l14Rels.2.2 (loops_of W_spec_l14Rels ⟨loop_of (cx := C_spec_l14Rels) (L := S_spec_l14Rels_L4 fuel) rfl (by rw [R_spec_l14Rels_L4]; rfl) ⟨spec_l14Rels_L4, fun _ => rfl, fun n x => K_spec_l14Rels_L4 n x, fuel, fun _ => rfl⟩, trivial⟩) (enc := N_spec_l14Rels) (fun _ _ => ⟨rfl, rfl⟩) F_spec_l14Rels

theorem K_spec_l14Takes_L4 (n : Nat) (x : (List (Int × (List (List Int)))) × Int × Int) : spec_l14Takes_L4 (n + 1) x = roundK C_spec_l14Takes B_spec_l14Takes_L4 (S_spec_l14Takes_L4 fuel) x (spec_l14Takes_L4 n) := by
  obtain ⟨rels, k, i⟩ := x
  kernel_rfl
theorem F_spec_l14Takes (a : dens [.v .int, .v (.slice (.pair .int (.slice (.slice .int)))), .v .int]) : E_spec_l14Takes.run a = funK C_spec_l14Takes Try.f66 [.v .int, .v (.slice (.pair .int (.slice (.slice .int)))), .v .int] [.v .bool] a (fun o r => some (N_spec_l14Takes o r)) := by
  kernel_rfl
theorem W_spec_l14Takes : loopsOf D_spec_l14Takes = [B_spec_l14Takes_L4] := by kernel_rfl
theorem R_spec_l14Takes_L4 : firstReg B_spec_l14Takes_L4 = 4 := by kernel_rfl
theorem Q_spec_l14Takes : Try.prog.funcs[66]? = some Try.f66 ∧ (Try.f66.name == "runtime.NumGoroutine") = false ∧ Try.f66.body = some D_spec_l14Takes := ⟨Try.func66, by kernel_rfl, by kernel_rfl⟩
theorem H_spec_l14Takes : Holds Try.prog 66 E_spec_l14Takes :=
  holds_of (cx := C_spec_l14Takes) (tabOk_ok tabT rfl).1 (allT_ok ⟨⟨H_spec_l1In, _, _, Q_spec_l1In⟩, ⟨⟨H_spec_l14Size, _, _, Q_spec_l14Size⟩, ⟨⟨H_spec_l14Rels, _, _, Q_spec_l14Rels⟩, trivial⟩⟩⟩) mixT Q_spec_l14Takes.1 Q_spec_l14Takes.2.2 (loops_of W_spec_l14Takes ⟨loop_of (cx := C_spec_l14Takes) (L := S_spec_l14Takes_L4 fuel) rfl (by rw [R_spec_l14Takes_L4]; rfl) ⟨spec_l14Takes_L4, fun _ => rfl, fun n x => K_spec_l14Takes_L4 n x, fuel, fun _ => rfl⟩, trivial⟩) (enc := N_spec_l14Takes) (fun _ _ => ⟨rfl, rfl⟩) F_spec_l14Takes

theorem K_spec_l14Free_L3 (n : Nat) (x : Int × (List Int) × Int) : spec_l14Free_L3 (n + 1) x = roundK C_spec_l14Free B_spec_l14Free_L3 (S_spec_l14Free_L3 fuel) x (spec_l14Free_L3 n) := by
  obtain ⟨size, out, i⟩ := x
  kernel_rfl
theorem F_spec_l14Free (a : dens [.v .int]) : E_spec_l14Free.run a = funK C_spec_l14Free Try.f67 [.v .int] [.mv .int 0] a (fun o r => some (N_spec_l14Free o r)) := by
  kernel_rfl
theorem W_spec_l14Free : loopsOf D_spec_l14Free = [B_spec_l14Free_L3] := by kernel_rfl
theorem R_spec_l14Free_L3 : firstReg B_spec_l14Free_L3 = 3 := by kernel_rfl
theorem Q_spec_l14Free : Try.prog.funcs[67]? = some Try.f67 ∧ (Try.f67.name == "runtime.NumGoroutine") = false ∧ Try.f67.body = some D_spec_l14Free := ⟨Try.func67, by kernel_rfl, by kernel_rfl⟩
theorem H_spec_l14Free : Holds Try.prog 67 E_spec_l14Free :=
  holds_of (cx := C_spec_l14Free) (tabOk_ok tabT rfl).1 (allT_ok trivial) mixT Q_spec_l14Free.1 Q_spec_l14Free.2.2 (loops_of W_spec_l14Free ⟨loop_of (cx := C_spec_l14Free) (L := S_spec_l14Free_L3 fuel) rfl (by rw [R_spec_l14Free_L3]; rfl) ⟨spec_l14Free_L3, fun _ => rfl, fun n x => K_spec_l14Free_L3 n x, fuel, fun _ => rfl⟩, trivial⟩) (enc := N_spec_l14Free) (fun _ _ => ⟨rfl, rfl⟩) F_spec_l14Free

theorem K_spec_l2Args_L3 (n : Nat) (x : Int × Int × (List Int) × Int) : spec_l2Args_L3 (n + 1) x = roundK C_spec_l2Args B_spec_l2Args_L3 (S_spec_l2Args_L3 fuel) x (spec_l2Args_L3 n) := by
  obtain ⟨n_, at_, out, i⟩ := x
  kernel_rfl
theorem F_spec_l2Args (a : dens [.v .int, .v .int, .v .int]) : E_spec_l2Args.run a = funK C_spec_l2Args Try.f116 [.v .int, .v .int, .v .int] [.mv .int 0] a (fun o r => some (N_spec_l2Args o r)) := by
  kernel_rfl
theorem W_spec_l2Args : loopsOf D_spec_l2Args = [B_spec_l2Args_L3] := by kernel_rfl
theorem R_spec_l2Args_L3 : firstReg B_spec_l2Args_L3 = 3 := by kernel_rfl
theorem Q_spec_l2Args : Try.prog.funcs[116]? = some Try.f116 ∧ (Try.f116.name == "runtime.NumGoroutine") = false ∧ Try.f116.body = some D_spec_l2Args := ⟨Try.func116, by kernel_rfl, by kernel_rfl⟩
theorem H_spec_l2Args : Holds Try.prog 116 E_spec_l2Args :=
  holds_of (cx := C_spec_l2Args) (tabOk_ok tabT rfl).1 (allT_ok trivial) mixT Q_spec_l2Args.1 Q_spec_l2Args.2.2 (loops_of W_spec_l2Args ⟨loop_of (cx := C_spec_l2Args) (L := S_spec_l2Args_L3 fuel) rfl (by rw [R_spec_l2Args_L3]; rfl) ⟨spec_l2Args_L3, fun _ => rfl, fun n x => K_spec_l2Args_L3 n x, fuel, fun _ => rfl⟩, trivial⟩) (enc := N_spec_l2Args) (fun _ _ => ⟨rfl, rfl⟩) F_spec_l2Args

theorem F_spec_l1Most (a : dens [.v .int, .v .int]) : E_spec_l1Most.run a = funK C_spec_l1Most Try.f117 [.v .int, .v .int] [.v .int] a (fun o r => some (N_spec_l1Most o r)) := by
  kernel_rfl
theorem W_spec_l1Most : loopsOf D_spec_l1Most = [] := by kernel_rfl
theorem Q_spec_l1Most : Try.prog.funcs[117]? = some Try.f117 ∧ (Try.f117.name == "runtime.NumGoroutine") = false ∧ Try.f117.body = some D_spec_l1Most := ⟨Try.func117, by kernel_rfl, by kernel_rfl⟩
theorem H_spec_l1Most : Holds Try.prog 117 E_spec_l1Most :=
  holds_of (cx := C_spec_l1Most) (tabOk_ok tabT rfl).1 (allT_ok trivial) mixT Q_spec_l1Most.1 Q_spec_l1Most.2.2 (loops_of W_spec_l1Most trivial) (enc := N_spec_l1Most) (fun _ _ => ⟨rfl, rfl⟩) F_spec_l1Most

theorem K_spec_l14Needs_L3 (n : Nat) (x : Int × (List (Int × (List (List Int)))) × Int × (List (List ((List Int) × Int × (List (List Int))))) × Int) : spec_l14Needs_L3 (n + 1) x = roundK C_spec_l14Needs B_spec_l14Needs_L3 (S_spec_l14Needs_L3 fuel) x (spec_l14Needs_L3 n) := by
  obtain ⟨t0, t1, t2, t7, t8⟩ := x
  kernel_rfl
theorem K_spec_l14Needs_L21 (n : Nat) (x : Int × (List (Int × (List (List Int)))) × Int × (List (List ((List Int) × Int × (List (List Int))))) × Int × Int × Int × (List Int) × ((List Int) × (Int × (List (List Int)))) × Int × Int × Int × Int) : spec_l14Needs_L21 (n + 1) x = roundK C_spec_l14Needs B_spec_l14Needs_L21 (S_spec_l14Needs_L21 fuel) x (spec_l14Needs_L21 n) := by
  obtain ⟨t0, t1, t2, t7, t9, t10, t11, t12, t13, t14, t15, t16, t17⟩ := x
  kernel_rfl
theorem K_spec_l14Needs_L17 (n : Nat) (x : Int × (List (Int × (List (List Int)))) × Int × (List (List ((List Int) × Int × (List (List Int))))) × Int × Int × Int × (List Int) × ((List Int) × (Int × (List (List Int)))) × Int × Int) : spec_l14Needs_L17 (n + 1) x = roundK C_spec_l14Needs B_spec_l14Needs_L17 (S_spec_l14Needs_L17 fuel) x (spec_l14Needs_L17 n) := by
  obtain ⟨t0, t1, t2, t7, t9, t10, t11, t12, t13, t14, t15⟩ := x
  kernel_rfl
theorem K_spec_l14Needs_L11 (n : Nat) (x : Int × (List (Int × (List (List Int)))) × Int × (List (List ((List Int) × Int × (List (List Int))))) × Int × Int × Int) : spec_l14Needs_L11 (n + 1) x = roundK C_spec_l14Needs B_spec_l14Needs_L11 (S_spec_l14Needs_L11 fuel) x (spec_l14Needs_L11 n) := by
  obtain ⟨t0, t1, t2, t7, t9, t10, t11⟩ := x
  kernel_rfl
theorem K_spec_l14Needs_L7 (n : Nat) (x : Int × (List (Int × (List (List Int)))) × Int × (List (List ((List Int) × Int × (List (List Int))))) × Int) : spec_l14Needs_L7 (n + 1) x = roundK C_spec_l14Needs B_spec_l14Needs_L7 (S_spec_l14Needs_L7 fuel) x (spec_l14Needs_L7 n) := by
  obtain ⟨t0, t1, t2, t7, t9⟩ := x
  kernel_rfl
theorem F_spec_l14Needs (a : dens [.v .int, .v (.slice (.pair .int (.slice (.slice .int)))), .v .int]) : E_spec_l14Needs.run a = funK C_spec_l14Needs Try.f93 [.v .int, .v (.slice (.pair .int (.slice (.slice .int)))), .v .int] [.mv (.slice (.pair (.slice .int) (.pair .int (.slice (.slice .int))))) 1] a (fun o r => some (N_spec_l14Needs o r)) := by
  kernel_rfl
theorem W_spec_l14Needs : loopsOf D_spec_l14Needs = [B_spec_l14Needs_L3, B_spec_l14Needs_L7, B_spec_l14Needs_L11, B_spec_l14Needs_L17, B_spec_l14Needs_L21] := by kernel_rfl
theorem R_spec_l14Needs_L3 : firstReg B_spec_l14Needs_L3 = 3 := by kernel_rfl
theorem R_spec_l14Needs_L21 : firstReg B_spec_l14Needs_L21 = 21 := by kernel_rfl
theorem R_spec_l14Needs_L17 : firstReg B_spec_l14Needs_L17 = 17 := by kernel_rfl
theorem R_spec_l14Needs_L11 : firstReg B_spec_l14Needs_L11 = 11 := by kernel_rfl
theorem R_spec_l14Needs_L7 : firstReg B_spec_l14Needs_L7 = 7 := by kernel_rfl
theorem Q_spec_l14Needs : Try.prog.funcs[93]? = some Try.f93 ∧ (Try.f93.name == "runtime.NumGoroutine") = false ∧ Try.f93.body = some D_spec_l14Needs := ⟨Try.func93, by kernel_rfl, by kernel_rfl⟩
theorem H_spec_l14Needs : Holds Try.prog 93 E_spec_l14Needs :=
  holds_of (cx := C_spec_l14Needs) (tabOk_ok tabT rfl).1 (allT_ok ⟨⟨H_spec_l2Pow, _, _, Q_spec_l2Pow⟩, ⟨⟨H_spec_l2Args, _, _, Q_spec_l2Args⟩, ⟨⟨H_spec_l1Most, _, _, Q_spec_l1Most⟩, trivial⟩⟩⟩) mixT Q_spec_l14Needs.1 Q_spec_l14Needs.2.2 (loops_of W_spec_l14Needs ⟨loop_of (cx := C_spec_l14Needs) (L := S_spec_l14Needs_L3 fuel) rfl (by rw [R_spec_l14Needs_L3]; rfl) ⟨spec_l14Needs_L3, fun _ => rfl, fun n x => K_spec_l14Needs_L3 n x, fuel, fun _ => rfl⟩, ⟨loop_of (cx := C_spec_l14Needs) (L := S_spec_l14Needs_L7 fuel) rfl (by rw [R_spec_l14Needs_L7]; rfl) ⟨spec_l14Needs_L7, fun _ => rfl, fun n x => K_spec_l14Needs_L7 n x, fuel, fun _ => rfl⟩, ⟨loop_of (cx := C_spec_l14Needs) (L := S_spec_l14Needs_L11 fuel) rfl (by rw [R_spec_l14Needs_L11]; rfl) ⟨spec_l14Needs_L11, fun _ => rfl, fun n x => K_spec_l14Needs_L11 n x, fuel, fun _ => rfl⟩, ⟨loop_of (cx := C_spec_l14Needs) (L := S_spec_l14Needs_L17 fuel) rfl (by rw [R_spec_l14Needs_L17]; rfl) ⟨spec_l14Needs_L17, fun _ => rfl, fun n x => K_spec_l14Needs_L17 n x, fuel, fun _ => rfl⟩, ⟨loop_of (cx := C_spec_l14Needs) (L := S_spec_l14Needs_L21 fuel) rfl (by rw [R_spec_l14Needs_L21]; rfl) ⟨spec_l14Needs_L21, fun _ => rfl, fun n x => K_spec_l14Needs_L21 n x, fuel, fun _ => rfl⟩, trivial⟩⟩⟩⟩⟩) (enc := N_spec_l14Needs) (fun _ _ => ⟨rfl, rfl⟩) F_spec_l14Needs

theorem F_spec_l1Own (a : dens [.v (.slice .int)]) : E_spec_l1Own.run a = funK C_spec_l1Own Try.f75 [.v (.slice .int)] [.mv .int 0] a (fun o r => some (N_spec_l1Own o r)) := by
  kernel_rfl
theorem W_spec_l1Own : loopsOf D_spec_l1Own = [] := by kernel_rfl
theorem Q_spec_l1Own : Try.prog.funcs[75]? = some Try.f75 ∧ (Try.f75.name == "runtime.NumGoroutine") = false ∧ Try.f75.body = some D_spec_l1Own := ⟨Try.func75, by kernel_rfl, by kernel_rfl⟩
theorem H_spec_l1Own : Holds Try.prog 75 E_spec_l1Own :=
  holds_of (cx := C_spec_l1Own) (tabOk_ok tabT rfl).1 (allT_ok trivial) mixT Q_spec_l1Own.1 Q_spec_l1Own.2.2 (loops_of W_spec_l1Own trivial) (enc := N_spec_l1Own) (fun _ _ => ⟨rfl, rfl⟩) F_spec_l1Own

theorem K_spec_l1Same_L4 (n : Nat) (x : (List Int) × (List Int) × Int) : spec_l1Same_L4 (n + 1) x = roundK C_spec_l1Same B_spec_l1Same_L4 (S_spec_l1Same_L4 fuel) x (spec_l1Same_L4 n) := by
  obtain ⟨a, b, i⟩ := x
  kernel_rfl
theorem F_spec_l1Same (a : dens [.v (.slice .int), .v (.slice .int)]) : E_spec_l1Same.run a = funK C_spec_l1Same Try.f132 [.v (.slice .int), .v (.slice .int)] [.v .bool] a (fun o r => some (N_spec_l1Same o r)) := by
  kernel_rfl
theorem W_spec_l1Same : loopsOf D_spec_l1Same = [B_spec_l1Same_L4] := by kernel_rfl
theorem R_spec_l1Same_L4 : firstReg B_spec_l1Same_L4 = 4 := by kernel_rfl
theorem Q_spec_l1Same : Try.prog.funcs[132]? = some Try.f132 ∧ (Try.f132.name == "runtime.NumGoroutine") = false ∧ Try.f132.body = some D_spec_l1Same := ⟨Try.func132, by kernel_rfl, by kernel_rfl⟩
theorem H_spec_l1Same : Holds Try.prog 132 E_spec_l1Same :=
  holds_of (cx := C_spec_l1Same) (tabOk_ok tabT rfl).1 (allT_ok trivial) mixT Q_spec_l1Same.1 Q_spec_l1Same.2.2 (loops_of W_spec_l1Same ⟨loop_of (cx := C_spec_l1Same) (L := S_spec_l1Same_L4 fuel) rfl (by rw [R_spec_l1Same_L4]; rfl) ⟨spec_l1Same_L4, fun _ => rfl, fun n x => K_spec_l1Same_L4 n x, fuel, fun _ => rfl⟩, trivial⟩) (enc := N_spec_l1Same) (fun _ _ => ⟨rfl, rfl⟩) F_spec_l1Same

theorem K_spec_l8Find_L2 (n : Nat) (x : (List (List Int)) × (List Int) × Int × Int) : spec_l8Find_L2 (n + 1) x = roundK C_spec_l8Find B_spec_l8Find_L2 (S_spec_l8Find_L2 fuel) x (spec_l8Find_L2 n) := by
  obtain ⟨list, t, from_, to⟩ := x
  kernel_rfl
theorem F_spec_l8Find (a : dens [.v (.slice (.slice .int)), .v (.slice .int)]) : E_spec_l8Find.run a = funK C_spec_l8Find Try.f129 [.v (.slice (.slice .int)), .v (.slice .int)] [.v .int, .v .bool] a (fun o r => some (N_spec_l8Find o r)) := by
  kernel_rfl
theorem W_spec_l8Find : loopsOf D_spec_l8Find = [B_spec_l8Find_L2] := by kernel_rfl
theorem R_spec_l8Find_L2 : firstReg B_spec_l8Find_L2 = 2 := by kernel_rfl
theorem Q_spec_l8Find : Try.prog.funcs[129]? = some Try.f129 ∧ (Try.f129.name == "runtime.NumGoroutine") = false ∧ Try.f129.body = some D_spec_l8Find := ⟨Try.func129, by kernel_rfl, by kernel_rfl⟩
theorem H_spec_l8Find : Holds Try.prog 129 E_spec_l8Find :=
  holds_of (cx := C_spec_l8Find) (tabOk_ok tabT rfl).1 (allT_ok ⟨⟨H_spec_l3Less, _, _, Q_spec_l3Less⟩, ⟨⟨H_spec_l1Same, _, _, Q_spec_l1Same⟩, trivial⟩⟩) mixT Q_spec_l8Find.1 Q_spec_l8Find.2.2 (loops_of W_spec_l8Find ⟨loop_of (cx := C_spec_l8Find) (L := S_spec_l8Find_L2 fuel) rfl (by rw [R_spec_l8Find_L2]; rfl) ⟨spec_l8Find_L2, fun _ => rfl, fun n x => K_spec_l8Find_L2 n x, fuel, fun _ => rfl⟩, trivial⟩) (enc := N_spec_l8Find) (fun _ _ => ⟨rfl, rfl⟩) F_spec_l8Find

theorem F_spec_l13Has (a : dens [.v (.pair .int (.slice (.slice .int))), .v (.slice .int)]) : E_spec_l13Has.run a = funK C_spec_l13Has Try.f123 [.v (.pair .int (.slice (.slice .int))), .v (.slice .int)] [.v .bool] a (fun o r => some (N_spec_l13Has o r)) := by
  kernel_rfl
theorem W_spec_l13Has : loopsOf D_spec_l13Has = [] := by kernel_rfl
theorem Q_spec_l13Has : Try.prog.funcs[123]? = some Try.f123 ∧ (Try.f123.name == "runtime.NumGoroutine") = false ∧ Try.f123.body = some D_spec_l13Has := ⟨Try.func123, by kernel_rfl, by kernel_rfl⟩
theorem H_spec_l13Has : Holds Try.prog 123 E_spec_l13Has :=
  holds_of (cx := C_spec_l13Has) (tabOk_ok tabT rfl).1 (allT_ok ⟨⟨H_spec_l8Find, _, _, Q_spec_l8Find⟩, trivial⟩) mixT Q_spec_l13Has.1 Q_spec_l13Has.2.2 (loops_of W_spec_l13Has trivial) (enc := N_spec_l13Has) (fun _ _ => ⟨rfl, rfl⟩) F_spec_l13Has

theorem K_spec_l14Holds_L6 (n : Nat) (x : (List ((List Int) × Int × (List (List Int)))) × (List Int) × Int × (List Int) × Int) : spec_l14Holds_L6 (n + 1) x = roundK C_spec_l14Holds B_spec_l14Holds_L6 (S_spec_l14Holds_L6 fuel) x (spec_l14Holds_L6 n) := by
  obtain ⟨needs, table, i, t, k⟩ := x
  kernel_rfl
theorem K_spec_l14Holds_L2 (n : Nat) (x : (List ((List Int) × Int × (List (List Int)))) × (List Int) × Int) : spec_l14Holds_L2 (n + 1) x = roundK C_spec_l14Holds B_spec_l14Holds_L2 (S_spec_l14Holds_L2 fuel) x (spec_l14Holds_L2 n) := by
  obtain ⟨needs, table, i⟩ := x
  kernel_rfl
theorem F_spec_l14Holds (a : dens [.v (.slice (.pair (.slice .int) (.pair .int (.slice (.slice .int))))), .v (.slice .int)]) : E_spec_l14Holds.run a = funK C_spec_l14Holds Try.f115 [.v (.slice (.pair (.slice .int) (.pair .int (.slice (.slice .int))))), .v (.slice .int)] [.v .bool] a (fun o r => some (N_spec_l14Holds o r)) := by
  kernel_rfl
theorem W_spec_l14Holds : loopsOf D_spec_l14Holds = [B_spec_l14Holds_L2, B_spec_l14Holds_L6] := by kernel_rfl
theorem R_spec_l14Holds_L6 : firstReg B_spec_l14Holds_L6 = 6 := by kernel_rfl
theorem R_spec_l14Holds_L2 : firstReg B_spec_l14Holds_L2 = 2 := by kernel_rfl
theorem Q_spec_l14Holds : Try.prog.funcs[115]? = some Try.f115 ∧ (Try.f115.name == "runtime.NumGoroutine") = false ∧ Try.f115.body = some D_spec_l14Holds := ⟨Try.func115, by kernel_rfl, by kernel_rfl⟩
theorem H_spec_l14Holds : Holds Try.prog 115 E_spec_l14Holds :=
  holds_of (cx := C_spec_l14Holds) (tabOk_ok tabT rfl).1 (allT_ok ⟨⟨H_spec_l13Has, _, _, Q_spec_l13Has⟩, trivial⟩) mixT Q_spec_l14Holds.1 Q_spec_l14Holds.2.2 (loops_of W_spec_l14Holds ⟨loop_of (cx := C_spec_l14Holds) (L := S_spec_l14Holds_L2 fuel) rfl (by rw [R_spec_l14Holds_L2]; rfl) ⟨spec_l14Holds_L2, fun _ => rfl, fun n x => K_spec_l14Holds_L2 n x, fuel, fun _ => rfl⟩, ⟨loop_of (cx := C_spec_l14Holds) (L := S_spec_l14Holds_L6 fuel) rfl (by rw [R_spec_l14Holds_L6]; rfl) ⟨spec_l14Holds_L6, fun _ => rfl, fun n x => K_spec_l14Holds_L6 n x, fuel, fun _ => rfl⟩, trivial⟩⟩) (enc := N_spec_l14Holds) (fun _ _ => ⟨rfl, rfl⟩) F_spec_l14Holds

theorem K_spec_l14Go_L8 (rec : (Int × (List (List ((List Int) × Int × (List (List Int))))) × (List Int) × (List Int) × ((List (List Int)) × (Int × Int))) → Option (((List (List Int)) × (Int × Int)))) (n : Nat) (x : Int × (List (List ((List Int) × Int × (List (List Int))))) × (List Int) × (List Int) × ((List (List Int)) × (Int × Int)) × ((List (List Int)) × (Int × Int)) × Int × Int) : spec_l14Go_L8 rec (n + 1) x = roundK (C_spec_l14Go rec) B_spec_l14Go_L8 (S_spec_l14Go_L8 rec fuel) x (spec_l14Go_L8 rec n) := by
  obtain ⟨t0, t1, t2, t3, t9, t10, t11, t12⟩ := x
  kernel_rfl
theorem F_spec_l14Go (rec : (Int × (List (List ((List Int) × Int × (List (List Int))))) × (List Int) × (List Int) × ((List (List Int)) × (Int × Int))) → Option (((List (List Int)) × (Int × Int)))) (a : dens [.v .int, .v (.slice (.slice (.pair (.slice .int) (.pair .int (.slice (.slice .int)))))), .v (.slice .int), .v (.slice .int), .pr (.mv (.slice .int) 1) (.v (.pair .int .int))]) : spec_l14Go_body rec a.1 a.2.1 a.2.2.1 a.2.2.2.1 a.2.2.2.2 = funK (C_spec_l14Go rec) Try.f92 [.v .int, .v (.slice (.slice (.pair (.slice .int) (.pair .int (.slice (.slice .int)))))), .v (.slice .int), .v (.slice .int), .pr (.mv (.slice .int) 1) (.v (.pair .int .int))] [.pr (.mv (.slice .int) 1) (.v (.pair .int .int))] a (fun o r => some (N_spec_l14Go o r)) := by
  kernel_rfl
theorem W_spec_l14Go : loopsOf D_spec_l14Go = [B_spec_l14Go_L8] := by kernel_rfl
theorem R_spec_l14Go_L8 : firstReg B_spec_l14Go_L8 = 8 := by kernel_rfl
theorem Q_spec_l14Go : Try.prog.funcs[92]? = some Try.f92 ∧ (Try.f92.name == "runtime.NumGoroutine") = false ∧ Try.f92.body = some D_spec_l14Go := ⟨Try.func92, by kernel_rfl, by kernel_rfl⟩
theorem H_spec_l14Go : ∀ d, Holds Try.prog 92 (E_spec_l14Go d)
  | 0 => fun _ b h => absurd (show (none : Option _) = some b from h) (by simp)
  | d + 1 => holds_of (en := E_spec_l14Go (d + 1)) (cx := (C_spec_l14Go (spec_l14Go d))) (tabOk_ok tabT rfl).1 (allT_ok ⟨⟨H_spec_l1Own, _, _, Q_spec_l1Own⟩, ⟨⟨H_spec_l14Go d, _, _, Q_spec_l14Go⟩, ⟨⟨H_spec_l14Holds, _, _, Q_spec_l14Holds⟩, trivial⟩⟩⟩) mixT Q_spec_l14Go.1 Q_spec_l14Go.2.2 (loops_of W_spec_l14Go ⟨loop_of (cx := (C_spec_l14Go (spec_l14Go d))) (L := S_spec_l14Go_L8 (spec_l14Go d) fuel) rfl (by rw [R_spec_l14Go_L8]; rfl) ⟨spec_l14Go_L8 (spec_l14Go d), fun _ => rfl, fun n x => K_spec_l14Go_L8 (spec_l14Go d) n x, fuel, fun _ => rfl⟩, trivial⟩) (enc := N_spec_l14Go) (fun _ _ => ⟨rfl, rfl⟩) (F_spec_l14Go (spec_l14Go d)) rfl

theorem F_spec_l14All (a : dens [.v .int, .v (.slice (.pair .int (.slice (.slice .int)))), .v .int, .v (.slice .int), .v .int]) : E_spec_l14All.run a = funK C_spec_l14All Try.f57 [.v .int, .v (.slice (.pair .int (.slice (.slice .int)))), .v .int, .v (.slice .int), .v .int] [.pr (.mv (.slice .int) 1) (.v (.pair .int .int))] a (fun o r => some (N_spec_l14All o r)) := by
  kernel_rfl
theorem W_spec_l14All : loopsOf D_spec_l14All = [] := by kernel_rfl
theorem Q_spec_l14All : Try.prog.funcs[57]? = some Try.f57 ∧ (Try.f57.name == "runtime.NumGoroutine") = false ∧ Try.f57.body = some D_spec_l14All := ⟨Try.func57, by kernel_rfl, by kernel_rfl⟩
theorem H_spec_l14All : Holds Try.prog 57 E_spec_l14All :=
  holds_of (cx := C_spec_l14All) (tabOk_ok tabT rfl).1 (allT_ok ⟨⟨H_spec_l14Go fuel, _, _, Q_spec_l14Go⟩, ⟨⟨H_spec_l14Needs, _, _, Q_spec_l14Needs⟩, trivial⟩⟩) mixT Q_spec_l14All.1 Q_spec_l14All.2.2 (loops_of W_spec_l14All trivial) (enc := N_spec_l14All) (fun _ _ => ⟨rfl, rfl⟩) F_spec_l14All

theorem K_spec_l1Put_L2 (n : Nat) (x : (List Int) × Int × Int) : spec_l1Put_L2 (n + 1) x = roundK C_spec_l1Put B_spec_l1Put_L2 (S_spec_l1Put_L2 fuel) x (spec_l1Put_L2 n) := by
  obtain ⟨l, n_, k⟩ := x
  kernel_rfl
theorem F_spec_l1Put (a : dens [.v (.slice .int), .v .int]) : E_spec_l1Put.run a = funK C_spec_l1Put Try.f108 [.v (.slice .int), .v .int] [.v (.slice .int)] a (fun o r => some (N_spec_l1Put o r)) := by
  kernel_rfl
theorem W_spec_l1Put : loopsOf D_spec_l1Put = [B_spec_l1Put_L2] := by kernel_rfl
theorem R_spec_l1Put_L2 : firstReg B_spec_l1Put_L2 = 2 := by kernel_rfl
theorem Q_spec_l1Put : Try.prog.funcs[108]? = some Try.f108 ∧ (Try.f108.name == "runtime.NumGoroutine") = false ∧ Try.f108.body = some D_spec_l1Put := ⟨Try.func108, by kernel_rfl, by kernel_rfl⟩
theorem H_spec_l1Put : Holds Try.prog 108 E_spec_l1Put :=
  holds_of (cx := C_spec_l1Put) (tabOk_ok tabT rfl).1 (allT_ok trivial) mixT Q_spec_l1Put.1 Q_spec_l1Put.2.2 (loops_of W_spec_l1Put ⟨loop_of (cx := C_spec_l1Put) (L := S_spec_l1Put_L2 fuel) rfl (by rw [R_spec_l1Put_L2]; rfl) ⟨spec_l1Put_L2, fun _ => rfl, fun n x => K_spec_l1Put_L2 n x, fuel, fun _ => rfl⟩, trivial⟩) (enc := N_spec_l1Put) (fun _ _ => ⟨rfl, rfl⟩) F_spec_l1Put

theorem K_spec_l14Values_L3 (n : Nat) (x : (List Int) × (List Int) × Int) : spec_l14Values_L3 (n + 1) x = roundK C_spec_l14Values B_spec_l14Values_L3 (S_spec_l14Values_L3 fuel) x (spec_l14Values_L3 n) := by
  obtain ⟨table, out, i⟩ := x
  kernel_rfl
theorem F_spec_l14Values (a : dens [.v (.slice .int)]) : E_spec_l14Values.run a = funK C_spec_l14Values Try.f82 [.v (.slice .int)] [.v (.slice .int)] a (fun o r => some (N_spec_l14Values o r)) := by
  kernel_rfl
theorem W_spec_l14Values : loopsOf D_spec_l14Values = [B_spec_l14Values_L3] := by kernel_rfl
theorem R_spec_l14Values_L3 : firstReg B_spec_l14Values_L3 = 3 := by kernel_rfl
theorem Q_spec_l14Values : Try.prog.funcs[82]? = some Try.f82 ∧ (Try.f82.name == "runtime.NumGoroutine") = false ∧ Try.f82.body = some D_spec_l14Values := ⟨Try.func82, by kernel_rfl, by kernel_rfl⟩
theorem H_spec_l14Values : Holds Try.prog 82 E_spec_l14Values :=
  holds_of (cx := C_spec_l14Values) (tabOk_ok tabT rfl).1 (allT_ok ⟨⟨H_spec_l1Put, _, _, Q_spec_l1Put⟩, trivial⟩) mixT Q_spec_l14Values.1 Q_spec_l14Values.2.2 (loops_of W_spec_l14Values ⟨loop_of (cx := C_spec_l14Values) (L := S_spec_l14Values_L3 fuel) rfl (by rw [R_spec_l14Values_L3]; rfl) ⟨spec_l14Values_L3, fun _ => rfl, fun n x => K_spec_l14Values_L3 n x, fuel, fun _ => rfl⟩, trivial⟩) (enc := N_spec_l14Values) (fun _ _ => ⟨rfl, rfl⟩) F_spec_l14Values

theorem K_spec_l14Core_L4 (n : Nat) (x : (List Int) × (List (List Int)) × Int) : spec_l14Core_L4 (n + 1) x = roundK C_spec_l14Core B_spec_l14Core_L4 (S_spec_l14Core_L4 fuel) x (spec_l14Core_L4 n) := by
  obtain ⟨best, all, i⟩ := x
  kernel_rfl
theorem F_spec_l14Core (a : dens [.v .int, .v (.slice (.pair .int (.slice (.slice .int))))]) : E_spec_l14Core.run a = funK C_spec_l14Core Try.f76 [.v .int, .v (.slice (.pair .int (.slice (.slice .int))))] [.v (.slice .int)] a (fun o r => some (N_spec_l14Core o r)) := by
  kernel_rfl
theorem W_spec_l14Core : loopsOf D_spec_l14Core = [B_spec_l14Core_L4] := by kernel_rfl
theorem R_spec_l14Core_L4 : firstReg B_spec_l14Core_L4 = 4 := by kernel_rfl
theorem Q_spec_l14Core : Try.prog.funcs[76]? = some Try.f76 ∧ (Try.f76.name == "runtime.NumGoroutine") = false ∧ Try.f76.body = some D_spec_l14Core := ⟨Try.func76, by kernel_rfl, by kernel_rfl⟩
theorem H_spec_l14Core : Holds Try.prog 76 E_spec_l14Core :=
  holds_of (cx := C_spec_l14Core) (tabOk_ok tabT rfl).1 (allT_ok ⟨⟨H_spec_l14All, _, _, Q_spec_l14All⟩, ⟨⟨H_spec_l14Free, _, _, Q_spec_l14Free⟩, ⟨⟨H_spec_l14Values, _, _, Q_spec_l14Values⟩, trivial⟩⟩⟩) mixT Q_spec_l14Core.1 Q_spec_l14Core.2.2 (loops_of W_spec_l14Core ⟨loop_of (cx := C_spec_l14Core) (L := S_spec_l14Core_L4 fuel) rfl (by rw [R_spec_l14Core_L4]; rfl) ⟨spec_l14Core_L4, fun _ => rfl, fun n x => K_spec_l14Core_L4 n x, fuel, fun _ => rfl⟩, trivial⟩) (enc := N_spec_l14Core) (fun _ _ => ⟨rfl, rfl⟩) F_spec_l14Core

theorem K_spec_l5Place_L2 (n : Nat) (x : (List Int) × Int × Int) : spec_l5Place_L2 (n + 1) x = roundK C_spec_l5Place B_spec_l5Place_L2 (S_spec_l5Place_L2 fuel) x (spec_l5Place_L2 n) := by
  obtain ⟨list, x, i⟩ := x
  kernel_rfl
theorem F_spec_l5Place (a : dens [.v (.slice .int), .v .int]) : E_spec_l5Place.run a = funK C_spec_l5Place Try.f83 [.v (.slice .int), .v .int] [.v .int] a (fun o r => some (N_spec_l5Place o r)) := by
  kernel_rfl
theorem W_spec_l5Place : loopsOf D_spec_l5Place = [B_spec_l5Place_L2] := by kernel_rfl
theorem R_spec_l5Place_L2 : firstReg B_spec_l5Place_L2 = 2 := by kernel_rfl
theorem Q_spec_l5Place : Try.prog.funcs[83]? = some Try.f83 ∧ (Try.f83.name == "runtime.NumGoroutine") = false ∧ Try.f83.body = some D_spec_l5Place := ⟨Try.func83, by kernel_rfl, by kernel_rfl⟩
theorem H_spec_l5Place : Holds Try.prog 83 E_spec_l5Place :=
  holds_of (cx := C_spec_l5Place) (tabOk_ok tabT rfl).1 (allT_ok trivial) mixT Q_spec_l5Place.1 Q_spec_l5Place.2.2 (loops_of W_spec_l5Place ⟨loop_of (cx := C_spec_l5Place) (L := S_spec_l5Place_L2 fuel) rfl (by rw [R_spec_l5Place_L2]; rfl) ⟨spec_l5Place_L2, fun _ => rfl, fun n x => K_spec_l5Place_L2 n x, fuel, fun _ => rfl⟩, trivial⟩) (enc := N_spec_l5Place) (fun _ _ => ⟨rfl, rfl⟩) F_spec_l5Place

theorem K_spec_CoreTemplate_L14 (n : Nat) (x : (List (Int × (List (List Int)))) × (List (Int × (List (List Int)))) × (List Int) × Int × (Int × (List (List Int))) × Int × (List Int) × Int) : spec_CoreTemplate_L14 (n + 1) x = roundK C_spec_CoreTemplate B_spec_CoreTemplate_L14 (S_spec_CoreTemplate_L14 fuel) x (spec_CoreTemplate_L14 n) := by
  obtain ⟨t1, t7, t8, t9, t10, t11, t12, t13⟩ := x
  kernel_rfl
theorem K_spec_CoreTemplate_L10 (n : Nat) (x : (List (Int × (List (List Int)))) × (List (Int × (List (List Int)))) × (List Int) × Int × (Int × (List (List Int))) × Int) : spec_CoreTemplate_L10 (n + 1) x = roundK C_spec_CoreTemplate B_spec_CoreTemplate_L10 (S_spec_CoreTemplate_L10 fuel) x (spec_CoreTemplate_L10 n) := by
  obtain ⟨t1, t7, t8, t9, t10, t11⟩ := x
  kernel_rfl
theorem K_spec_CoreTemplate_L6 (n : Nat) (x : (List (Int × (List (List Int)))) × (List (Int × (List (List Int)))) × (List Int) × Int) : spec_CoreTemplate_L6 (n + 1) x = roundK C_spec_CoreTemplate B_spec_CoreTemplate_L6 (S_spec_CoreTemplate_L6 fuel) x (spec_CoreTemplate_L6 n) := by
  obtain ⟨t1, t7, t8, t9⟩ := x
  kernel_rfl
theorem F_spec_CoreTemplate (a : dens [.v .int, .v (.slice (.pair .int (.slice (.slice .int))))]) : E_spec_CoreTemplate.run a = funK C_spec_CoreTemplate Try.f42 [.v .int, .v (.slice (.pair .int (.slice (.slice .int))))] [.v .int, .mv (.pair .int (.slice (.slice .int))) 0, .v .bool] a (fun o r => some (N_spec_CoreTemplate o r)) := by
  kernel_rfl
theorem W_spec_CoreTemplate : loopsOf D_spec_CoreTemplate = [B_spec_CoreTemplate_L6, B_spec_CoreTemplate_L10, B_spec_CoreTemplate_L14] := by kernel_rfl
theorem R_spec_CoreTemplate_L14 : firstReg B_spec_CoreTemplate_L14 = 14 := by kernel_rfl
theorem R_spec_CoreTemplate_L10 : firstReg B_spec_CoreTemplate_L10 = 10 := by kernel_rfl
theorem R_spec_CoreTemplate_L6 : firstReg B_spec_CoreTemplate_L6 = 6 := by kernel_rfl
theorem Q_spec_CoreTemplate : Try.prog.funcs[42]? = some Try.f42 ∧ (Try.f42.name == "runtime.NumGoroutine") = false ∧ Try.f42.body = some D_spec_CoreTemplate := ⟨Try.func42, by kernel_rfl, by kernel_rfl⟩
theorem H_spec_CoreTemplate : Holds Try.prog 42 E_spec_CoreTemplate :=
  holds_of (cx := C_spec_CoreTemplate) (tabOk_ok tabT rfl).1 (allT_ok ⟨⟨H_spec_l14Takes, _, _, Q_spec_l14Takes⟩, ⟨⟨H_spec_l14Core, _, _, Q_spec_l14Core⟩, ⟨⟨H_spec_l14Values, _, _, Q_spec_l14Values⟩, ⟨⟨H_spec_l5Place, _, _, Q_spec_l5Place⟩, trivial⟩⟩⟩⟩) mixT Q_spec_CoreTemplate.1 Q_spec_CoreTemplate.2.2 (loops_of W_spec_CoreTemplate ⟨loop_of (cx := C_spec_CoreTemplate) (L := S_spec_CoreTemplate_L6 fuel) rfl (by rw [R_spec_CoreTemplate_L6]; rfl) ⟨spec_CoreTemplate_L6, fun _ => rfl, fun n x => K_spec_CoreTemplate_L6 n x, fuel, fun _ => rfl⟩, ⟨loop_of (cx := C_spec_CoreTemplate) (L := S_spec_CoreTemplate_L10 fuel) rfl (by rw [R_spec_CoreTemplate_L10]; rfl) ⟨spec_CoreTemplate_L10, fun _ => rfl, fun n x => K_spec_CoreTemplate_L10 n x, fuel, fun _ => rfl⟩, ⟨loop_of (cx := C_spec_CoreTemplate) (L := S_spec_CoreTemplate_L14 fuel) rfl (by rw [R_spec_CoreTemplate_L14]; rfl) ⟨spec_CoreTemplate_L14, fun _ => rfl, fun n x => K_spec_CoreTemplate_L14 n x, fuel, fun _ => rfl⟩, trivial⟩⟩⟩) (enc := N_spec_CoreTemplate) (fun _ _ => ⟨rfl, rfl⟩) F_spec_CoreTemplate

theorem F_impl_isTemplateSize (a : dens [.v .int]) : E_impl_isTemplateSize.run a = funK C_impl_isTemplateSize Try.f95 [.v .int] [.v .bool] a (fun o r => some (N_impl_isTemplateSize o r)) := by
  kernel_rfl
theorem W_impl_isTemplateSize : loopsOf D_impl_isTemplateSize = [] := by kernel_rfl
theorem Q_impl_isTemplateSize : Try.prog.funcs[95]? = some Try.f95 ∧ (Try.f95.name == "runtime.NumGoroutine") = false ∧ Try.f95.body = some D_impl_isTemplateSize := ⟨Try.func95, by kernel_rfl, by kernel_rfl⟩
theorem H_impl_isTemplateSize : Holds Try.prog 95 E_impl_isTemplateSize :=
  holds_of (cx := C_impl_isTemplateSize) (tabOk_ok tabT rfl).1 (allT_ok trivial) mixT Q_impl_isTemplateSize.1 Q_impl_isTemplateSize.2.2 (loops_of W_impl_isTemplateSize trivial) (enc := N_impl_isTemplateSize) (fun _ _ => ⟨rfl, rfl⟩) F_impl_isTemplateSize

theorem K_impl_inSize_L2 (n : Nat) (x : Int × (List Int) × Int × Int) : impl_inSize_L2 (n + 1) x = roundK C_impl_inSize B_impl_inSize_L2 (S_impl_inSize_L2 fuel) x (impl_inSize_L2 n) := by
  obtain ⟨n_, t7, t8, t9⟩ := x
  kernel_rfl
theorem F_impl_inSize (a : dens [.v (.slice .int), .v .int]) : E_impl_inSize.run a = funK C_impl_inSize Try.f85 [.v (.slice .int), .v .int] [.v .bool] a (fun o r => some (N_impl_inSize o r)) := by
  kernel_rfl
theorem W_impl_inSize : loopsOf D_impl_inSize = [B_impl_inSize_L2] := by kernel_rfl
theorem R_impl_inSize_L2 : firstReg B_impl_inSize_L2 = 2 := by kernel_rfl
theorem Q_impl_inSize : Try.prog.funcs[85]? = some Try.f85 ∧ (Try.f85.name == "runtime.NumGoroutine") = false ∧ Try.f85.body = some D_impl_inSize := ⟨Try.func85, by kernel_rfl, by kernel_rfl⟩
theorem H_impl_inSize : Holds Try.prog 85 E_impl_inSize :=
  holds_of (cx := C_impl_inSize) (tabOk_ok tabT rfl).1 (allT_ok trivial) mixT Q_impl_inSize.1 Q_impl_inSize.2.2 (loops_of W_impl_inSize ⟨loop_of (cx := C_impl_inSize) (L := S_impl_inSize_L2 fuel) rfl (by rw [R_impl_inSize_L2]; rfl) ⟨impl_inSize_L2, fun _ => rfl, fun n x => K_impl_inSize_L2 n x, fuel, fun _ => rfl⟩, trivial⟩) (enc := N_impl_inSize) (fun _ _ => ⟨rfl, rfl⟩) F_impl_inSize

theorem K_impl_compareLists_L2 (n : Nat) (x : (List Int) × (List Int) × Int) : impl_compareLists_L2 (n + 1) x = roundK C_impl_compareLists B_impl_compareLists_L2 (S_impl_compareLists_L2 fuel) x (impl_compareLists_L2 n) := by
  obtain ⟨s, t, i⟩ := x
  kernel_rfl
theorem F_impl_compareLists (a : dens [.v (.slice .int), .v (.slice .int)]) : E_impl_compareLists.run a = funK C_impl_compareLists Try.f124 [.v (.slice .int), .v (.slice .int)] [.v .int] a (fun o r => some (N_impl_compareLists o r)) := by
  kernel_rfl
theorem W_impl_compareLists : loopsOf D_impl_compareLists = [B_impl_compareLists_L2] := by kernel_rfl
theorem R_impl_compareLists_L2 : firstReg B_impl_compareLists_L2 = 2 := by kernel_rfl
theorem Q_impl_compareLists : Try.prog.funcs[124]? = some Try.f124 ∧ (Try.f124.name == "runtime.NumGoroutine") = false ∧ Try.f124.body = some D_impl_compareLists := ⟨Try.func124, by kernel_rfl, by kernel_rfl⟩
theorem H_impl_compareLists : Holds Try.prog 124 E_impl_compareLists :=
  holds_of (cx := C_impl_compareLists) (tabOk_ok tabT rfl).1 (allT_ok trivial) mixT Q_impl_compareLists.1 Q_impl_compareLists.2.2 (loops_of W_impl_compareLists ⟨loop_of (cx := C_impl_compareLists) (L := S_impl_compareLists_L2 fuel) rfl (by rw [R_impl_compareLists_L2]; rfl) ⟨impl_compareLists_L2, fun _ => rfl, fun n x => K_impl_compareLists_L2 n x, fuel, fun _ => rfl⟩, trivial⟩) (enc := N_impl_compareLists) (fun _ _ => ⟨rfl, rfl⟩) F_impl_compareLists

theorem K_impl_isRelation_L4 (n : Nat) (x : Int × (Int × (List (List Int))) × (List (List Int)) × Int × Int) : impl_isRelation_L4 (n + 1) x = roundK C_impl_isRelation B_impl_isRelation_L4 (S_impl_isRelation_L4 fuel) x (impl_isRelation_L4 n) := by
  obtain ⟨n_, r, t16, t17, t18⟩ := x
  kernel_rfl
theorem F_impl_isRelation (a : dens [.v .int, .v (.pair .int (.slice (.slice .int)))]) : E_impl_isRelation.run a = funK C_impl_isRelation Try.f118 [.v .int, .v (.pair .int (.slice (.slice .int)))] [.v .bool] a (fun o r => some (N_impl_isRelation o r)) := by
  kernel_rfl
theorem W_impl_isRelation : loopsOf D_impl_isRelation = [B_impl_isRelation_L4] := by kernel_rfl
theorem R_impl_isRelation_L4 : firstReg B_impl_isRelation_L4 = 4 := by kernel_rfl
theorem Q_impl_isRelation : Try.prog.funcs[118]? = some Try.f118 ∧ (Try.f118.name == "runtime.NumGoroutine") = false ∧ Try.f118.body = some D_impl_isRelation := ⟨Try.func118, by kernel_rfl, by kernel_rfl⟩
theorem H_impl_isRelation : Holds Try.prog 118 E_impl_isRelation :=
  holds_of (cx := C_impl_isRelation) (tabOk_ok tabT rfl).1 (allT_ok ⟨⟨H_impl_inSize, _, _, Q_impl_inSize⟩, ⟨⟨H_impl_compareLists, _, _, Q_impl_compareLists⟩, trivial⟩⟩) mixT Q_impl_isRelation.1 Q_impl_isRelation.2.2 (loops_of W_impl_isRelation ⟨loop_of (cx := C_impl_isRelation) (L := S_impl_isRelation_L4 fuel) rfl (by rw [R_impl_isRelation_L4]; rfl) ⟨impl_isRelation_L4, fun _ => rfl, fun n x => K_impl_isRelation_L4 n x, fuel, fun _ => rfl⟩, trivial⟩) (enc := N_impl_isRelation) (fun _ _ => ⟨rfl, rfl⟩) F_impl_isRelation

theorem K_impl_isTemplate_L4 (n : Nat) (x : Int × (List (Int × (List (List Int)))) × Int × Int) : impl_isTemplate_L4 (n + 1) x = roundK C_impl_isTemplate B_impl_isTemplate_L4 (S_impl_isTemplate_L4 fuel) x (impl_isTemplate_L4 n) := by
  obtain ⟨n_, t10, t11, t12⟩ := x
  kernel_rfl
theorem F_impl_isTemplate (a : dens [.v .int, .v (.slice (.pair .int (.slice (.slice .int))))]) : E_impl_isTemplate.run a = funK C_impl_isTemplate Try.f96 [.v .int, .v (.slice (.pair .int (.slice (.slice .int))))] [.v .bool] a (fun o r => some (N_impl_isTemplate o r)) := by
  kernel_rfl
theorem W_impl_isTemplate : loopsOf D_impl_isTemplate = [B_impl_isTemplate_L4] := by kernel_rfl
theorem R_impl_isTemplate_L4 : firstReg B_impl_isTemplate_L4 = 4 := by kernel_rfl
theorem Q_impl_isTemplate : Try.prog.funcs[96]? = some Try.f96 ∧ (Try.f96.name == "runtime.NumGoroutine") = false ∧ Try.f96.body = some D_impl_isTemplate := ⟨Try.func96, by kernel_rfl, by kernel_rfl⟩
theorem H_impl_isTemplate : Holds Try.prog 96 E_impl_isTemplate :=
  holds_of (cx := C_impl_isTemplate) (tabOk_ok tabT rfl).1 (allT_ok ⟨⟨H_impl_isRelation, _, _, Q_impl_isRelation⟩, trivial⟩) mixT Q_impl_isTemplate.1 Q_impl_isTemplate.2.2 (loops_of W_impl_isTemplate ⟨loop_of (cx := C_impl_isTemplate) (L := S_impl_isTemplate_L4 fuel) rfl (by rw [R_impl_isTemplate_L4]; rfl) ⟨impl_isTemplate_L4, fun _ => rfl, fun n x => K_impl_isTemplate_L4 n x, fuel, fun _ => rfl⟩, trivial⟩) (enc := N_impl_isTemplate) (fun _ _ => ⟨rfl, rfl⟩) F_impl_isTemplate

theorem K_impl_canAsk_L4 (n : Nat) (x : Int × (List (Int × (List (List Int)))) × Int × Int) : impl_canAsk_L4 (n + 1) x = roundK C_impl_canAsk B_impl_canAsk_L4 (S_impl_canAsk_L4 fuel) x (impl_canAsk_L4 n) := by
  obtain ⟨k, t18, t19, t20⟩ := x
  kernel_rfl
theorem F_impl_canAsk (a : dens [.v .int, .v (.slice (.pair .int (.slice (.slice .int)))), .v .int]) : E_impl_canAsk.run a = funK C_impl_canAsk Try.f59 [.v .int, .v (.slice (.pair .int (.slice (.slice .int)))), .v .int] [.v .bool] a (fun o r => some (N_impl_canAsk o r)) := by
  kernel_rfl
theorem W_impl_canAsk : loopsOf D_impl_canAsk = [B_impl_canAsk_L4] := by kernel_rfl
theorem R_impl_canAsk_L4 : firstReg B_impl_canAsk_L4 = 4 := by kernel_rfl
theorem Q_impl_canAsk : Try.prog.funcs[59]? = some Try.f59 ∧ (Try.f59.name == "runtime.NumGoroutine") = false ∧ Try.f59.body = some D_impl_canAsk := ⟨Try.func59, by kernel_rfl, by kernel_rfl⟩
theorem H_impl_canAsk : Holds Try.prog 59 E_impl_canAsk :=
  holds_of (cx := C_impl_canAsk) (tabOk_ok tabT rfl).1 (allT_ok ⟨⟨H_impl_isTemplateSize, _, _, Q_impl_isTemplateSize⟩, ⟨⟨H_impl_isTemplate, _, _, Q_impl_isTemplate⟩, trivial⟩⟩) mixT Q_impl_canAsk.1 Q_impl_canAsk.2.2 (loops_of W_impl_canAsk ⟨loop_of (cx := C_impl_canAsk) (L := S_impl_canAsk_L4 fuel) rfl (by rw [R_impl_canAsk_L4]; rfl) ⟨impl_canAsk_L4, fun _ => rfl, fun n x => K_impl_canAsk_L4 n x, fuel, fun _ => rfl⟩, trivial⟩) (enc := N_impl_canAsk) (fun _ _ => ⟨rfl, rfl⟩) F_impl_canAsk

theorem K_impl_power_L2 (n : Nat) (x : Int × Int × Int) : impl_power_L2 (n + 1) x = roundK C_impl_power B_impl_power_L2 (S_impl_power_L2 fuel) x (impl_power_L2 n) := by
  obtain ⟨n_, k, p⟩ := x
  kernel_rfl
theorem F_impl_power (a : dens [.v .int, .v .int]) : E_impl_power.run a = funK C_impl_power Try.f61 [.v .int, .v .int] [.v .int] a (fun o r => some (N_impl_power o r)) := by
  kernel_rfl
theorem W_impl_power : loopsOf D_impl_power = [B_impl_power_L2] := by kernel_rfl
theorem R_impl_power_L2 : firstReg B_impl_power_L2 = 2 := by kernel_rfl
theorem Q_impl_power : Try.prog.funcs[61]? = some Try.f61 ∧ (Try.f61.name == "runtime.NumGoroutine") = false ∧ Try.f61.body = some D_impl_power := ⟨Try.func61, by kernel_rfl, by kernel_rfl⟩
theorem H_impl_power : Holds Try.prog 61 E_impl_power :=
  holds_of (cx := C_impl_power) (tabOk_ok tabT rfl).1 (allT_ok trivial) mixT Q_impl_power.1 Q_impl_power.2.2 (loops_of W_impl_power ⟨loop_of (cx := C_impl_power) (L := S_impl_power_L2 fuel) rfl (by rw [R_impl_power_L2]; rfl) ⟨impl_power_L2, fun _ => rfl, fun n x => K_impl_power_L2 n x, fuel, fun _ => rfl⟩, trivial⟩) (enc := N_impl_power) (fun _ _ => ⟨rfl, rfl⟩) F_impl_power

theorem K_impl_keyOf_L3 (n : Nat) (x : (List Int) × (List Int) × Int × Int) : impl_keyOf_L3 (n + 1) x = roundK C_impl_keyOf B_impl_keyOf_L3 (S_impl_keyOf_L3 fuel) x (impl_keyOf_L3 n) := by
  obtain ⟨b, t10, t11, t12⟩ := x
  kernel_rfl
theorem F_impl_keyOf (a : dens [.v (.slice .int)]) : E_impl_keyOf.run a = funK C_impl_keyOf Try.f103 [.v (.slice .int)] [.v .str] a (fun o r => some (N_impl_keyOf o r)) := by
  kernel_rfl
theorem W_impl_keyOf : loopsOf D_impl_keyOf = [B_impl_keyOf_L3] := by kernel_rfl
theorem R_impl_keyOf_L3 : firstReg B_impl_keyOf_L3 = 3 := by kernel_rfl
theorem Q_impl_keyOf : Try.prog.funcs[103]? = some Try.f103 ∧ (Try.f103.name == "runtime.NumGoroutine") = false ∧ Try.f103.body = some D_impl_keyOf := ⟨Try.func103, by kernel_rfl, by kernel_rfl⟩
theorem H_impl_keyOf : Holds Try.prog 103 E_impl_keyOf :=
  holds_of (cx := C_impl_keyOf) (tabOk_ok tabT rfl).1 (allT_ok trivial) mixT Q_impl_keyOf.1 Q_impl_keyOf.2.2 (loops_of W_impl_keyOf ⟨loop_of (cx := C_impl_keyOf) (L := S_impl_keyOf_L3 fuel) rfl (by rw [R_impl_keyOf_L3]; rfl) ⟨impl_keyOf_L3, fun _ => rfl, fun n x => K_impl_keyOf_L3 n x, fuel, fun _ => rfl⟩, trivial⟩) (enc := N_impl_keyOf) (fun _ _ => ⟨rfl, rfl⟩) F_impl_keyOf

theorem K_impl_tupleSet_L3 (n : Nat) (x : (List ByteArray) × (List (List Int)) × Int × Int) : impl_tupleSet_L3 (n + 1) x = roundK C_impl_tupleSet B_impl_tupleSet_L3 (S_impl_tupleSet_L3 fuel) x (impl_tupleSet_L3 n) := by
  obtain ⟨set, t8, t9, t10⟩ := x
  kernel_rfl
theorem F_impl_tupleSet (a : dens [.v (.pair .int (.slice (.slice .int)))]) : E_impl_tupleSet.run a = funK C_impl_tupleSet Try.f102 [.v (.pair .int (.slice (.slice .int)))] [.v .smap] a (fun o r => some (N_impl_tupleSet o r)) := by
  kernel_rfl
theorem W_impl_tupleSet : loopsOf D_impl_tupleSet = [B_impl_tupleSet_L3] := by kernel_rfl
theorem R_impl_tupleSet_L3 : firstReg B_impl_tupleSet_L3 = 3 := by kernel_rfl
theorem Q_impl_tupleSet : Try.prog.funcs[102]? = some Try.f102 ∧ (Try.f102.name == "runtime.NumGoroutine") = false ∧ Try.f102.body = some D_impl_tupleSet := ⟨Try.func102, by kernel_rfl, by kernel_rfl⟩
theorem H_impl_tupleSet : Holds Try.prog 102 E_impl_tupleSet :=
  holds_of (cx := C_impl_tupleSet) (tabOk_ok tabT rfl).1 (allT_ok ⟨⟨H_impl_keyOf, _, _, Q_impl_keyOf⟩, trivial⟩) mixT Q_impl_tupleSet.1 Q_impl_tupleSet.2.2 (loops_of W_impl_tupleSet ⟨loop_of (cx := C_impl_tupleSet) (L := S_impl_tupleSet_L3 fuel) rfl (by rw [R_impl_tupleSet_L3]; rfl) ⟨impl_tupleSet_L3, fun _ => rfl, fun n x => K_impl_tupleSet_L3 n x, fuel, fun _ => rfl⟩, trivial⟩) (enc := N_impl_tupleSet) (fun _ _ => ⟨rfl, rfl⟩) F_impl_tupleSet

theorem K_impl_argsAt_L3 (n : Nat) (x : Int × Int × (List Int) × Int) : impl_argsAt_L3 (n + 1) x = roundK C_impl_argsAt B_impl_argsAt_L3 (S_impl_argsAt_L3 fuel) x (impl_argsAt_L3 n) := by
  obtain ⟨i, n_, args, j⟩ := x
  kernel_rfl
theorem F_impl_argsAt (a : dens [.v .int, .v .int, .v .int]) : E_impl_argsAt.run a = funK C_impl_argsAt Try.f70 [.v .int, .v .int, .v .int] [.mv .int 0] a (fun o r => some (N_impl_argsAt o r)) := by
  kernel_rfl
theorem W_impl_argsAt : loopsOf D_impl_argsAt = [B_impl_argsAt_L3] := by kernel_rfl
theorem R_impl_argsAt_L3 : firstReg B_impl_argsAt_L3 = 3 := by kernel_rfl
theorem Q_impl_argsAt : Try.prog.funcs[70]? = some Try.f70 ∧ (Try.f70.name == "runtime.NumGoroutine") = false ∧ Try.f70.body = some D_impl_argsAt := ⟨Try.func70, by kernel_rfl, by kernel_rfl⟩
theorem H_impl_argsAt : Holds Try.prog 70 E_impl_argsAt :=
  holds_of (cx := C_impl_argsAt) (tabOk_ok tabT rfl).1 (allT_ok trivial) mixT Q_impl_argsAt.1 Q_impl_argsAt.2.2 (loops_of W_impl_argsAt ⟨loop_of (cx := C_impl_argsAt) (L := S_impl_argsAt_L3 fuel) rfl (by rw [R_impl_argsAt_L3]; rfl) ⟨impl_argsAt_L3, fun _ => rfl, fun n x => K_impl_argsAt_L3 n x, fuel, fun _ => rfl⟩, trivial⟩) (enc := N_impl_argsAt) (fun _ _ => ⟨rfl, rfl⟩) F_impl_argsAt

theorem K_impl_newPolySearch_L17 (n : Nat) (x : Unit × Int × Int × (Int × (Int × (List (List ((List Int) × (List ByteArray)))))) × (Int × (List (List Int))) × (List ByteArray) × (List ByteArray) × Int × (List Int) × (List Int) × Int × Int × (List (Int × (List (List Int)))) × Int × Int × Int × Int × Int × Int) : impl_newPolySearch_L17 (n + 1) x = roundK C_impl_newPolySearch B_impl_newPolySearch_L17 (S_impl_newPolySearch_L17 fuel) x (impl_newPolySearch_L17 n) := by
  obtain ⟨al60, t0, t2, t7, t9, t10, t11, t12, t13, t14, t15, t16, t28, t29, t30, t56, t57, t61, t62⟩ := x
  kernel_rfl
theorem K_impl_newPolySearch_L14 (n : Nat) (x : Int × Int × (Int × (Int × (List (List ((List Int) × (List ByteArray)))))) × (Int × (List (List Int))) × (List ByteArray) × (List ByteArray) × Int × (List Int) × (List Int) × Int × (List (Int × (List (List Int)))) × Int × Int × Int × Int) : impl_newPolySearch_L14 (n + 1) x = roundK C_impl_newPolySearch B_impl_newPolySearch_L14 (S_impl_newPolySearch_L14 fuel) x (impl_newPolySearch_L14 n) := by
  obtain ⟨t0, t2, t7, t9, t10, t11, t12, t13, t14, t15, t28, t29, t30, t56, t57⟩ := x
  kernel_rfl
theorem K_impl_newPolySearch_L8 (n : Nat) (x : Int × Int × (Int × (Int × (List (List ((List Int) × (List ByteArray)))))) × (Int × (List (List Int))) × (List ByteArray) × (List ByteArray) × Int × (List (Int × (List (List Int)))) × Int × Int) : impl_newPolySearch_L8 (n + 1) x = roundK C_impl_newPolySearch B_impl_newPolySearch_L8 (S_impl_newPolySearch_L8 fuel) x (impl_newPolySearch_L8 n) := by
  obtain ⟨t0, t2, t7, t9, t10, t11, t12, t28, t29, t30⟩ := x
  kernel_rfl
theorem K_impl_newPolySearch_L3 (n : Nat) (x : Int × Int × (Int × (Int × (List (List ((List Int) × (List ByteArray)))))) × (List (Int × (List (List Int)))) × Int × Int) : impl_newPolySearch_L3 (n + 1) x = roundK C_impl_newPolySearch B_impl_newPolySearch_L3 (S_impl_newPolySearch_L3 fuel) x (impl_newPolySearch_L3 n) := by
  obtain ⟨t0, t2, t7, t28, t29, t30⟩ := x
  kernel_rfl
theorem F_impl_newPolySearch (a : dens [.v .int, .v (.slice (.pair .int (.slice (.slice .int)))), .v .int]) : E_impl_newPolySearch.run a = funK C_impl_newPolySearch Try.f77 [.v .int, .v (.slice (.pair .int (.slice (.slice .int)))), .v .int] [.v (.ptr (.pair .int (.pair .int (.slice (.slice (.pair (.slice .int) .smap))))))] a (fun o r => some (N_impl_newPolySearch o r)) := by
  kernel_rfl
theorem W_impl_newPolySearch : loopsOf D_impl_newPolySearch = [B_impl_newPolySearch_L3, B_impl_newPolySearch_L8, B_impl_newPolySearch_L14, B_impl_newPolySearch_L17] := by kernel_rfl
theorem R_impl_newPolySearch_L17 : firstReg B_impl_newPolySearch_L17 = 17 := by kernel_rfl
theorem R_impl_newPolySearch_L14 : firstReg B_impl_newPolySearch_L14 = 14 := by kernel_rfl
theorem R_impl_newPolySearch_L8 : firstReg B_impl_newPolySearch_L8 = 8 := by kernel_rfl
theorem R_impl_newPolySearch_L3 : firstReg B_impl_newPolySearch_L3 = 3 := by kernel_rfl
theorem Q_impl_newPolySearch : Try.prog.funcs[77]? = some Try.f77 ∧ (Try.f77.name == "runtime.NumGoroutine") = false ∧ Try.f77.body = some D_impl_newPolySearch := ⟨Try.func77, by kernel_rfl, by kernel_rfl⟩
theorem H_impl_newPolySearch : Holds Try.prog 77 E_impl_newPolySearch :=
  holds_of (cx := C_impl_newPolySearch) (tabOk_ok tabT rfl).1 (allT_ok ⟨⟨H_impl_power, _, _, Q_impl_power⟩, ⟨⟨H_impl_argsAt, _, _, Q_impl_argsAt⟩, ⟨⟨H_impl_tupleSet, _, _, Q_impl_tupleSet⟩, ⟨⟨H_impl_keyOf, _, _, Q_impl_keyOf⟩, trivial⟩⟩⟩⟩) mixT Q_impl_newPolySearch.1 Q_impl_newPolySearch.2.2 (loops_of W_impl_newPolySearch ⟨loop_of (cx := C_impl_newPolySearch) (L := S_impl_newPolySearch_L3 fuel) rfl (by rw [R_impl_newPolySearch_L3]; rfl) ⟨impl_newPolySearch_L3, fun _ => rfl, fun n x => K_impl_newPolySearch_L3 n x, fuel, fun _ => rfl⟩, ⟨loop_of (cx := C_impl_newPolySearch) (L := S_impl_newPolySearch_L8 fuel) rfl (by rw [R_impl_newPolySearch_L8]; rfl) ⟨impl_newPolySearch_L8, fun _ => rfl, fun n x => K_impl_newPolySearch_L8 n x, fuel, fun _ => rfl⟩, ⟨loop_of (cx := C_impl_newPolySearch) (L := S_impl_newPolySearch_L14 fuel) rfl (by rw [R_impl_newPolySearch_L14]; rfl) ⟨impl_newPolySearch_L14, fun _ => rfl, fun n x => K_impl_newPolySearch_L14 n x, fuel, fun _ => rfl⟩, ⟨loop_of (cx := C_impl_newPolySearch) (L := S_impl_newPolySearch_L17 fuel) rfl (by rw [R_impl_newPolySearch_L17]; rfl) ⟨impl_newPolySearch_L17, fun _ => rfl, fun n x => K_impl_newPolySearch_L17 n x, fuel, fun _ => rfl⟩, trivial⟩⟩⟩⟩) (enc := N_impl_newPolySearch) (fun _ _ => ⟨rfl, rfl⟩) F_impl_newPolySearch

theorem K_impl_freeTable_L3 (n : Nat) (x : (List Int) × Int × Int) : impl_freeTable_L3 (n + 1) x = roundK C_impl_freeTable B_impl_freeTable_L3 (S_impl_freeTable_L3 fuel) x (impl_freeTable_L3 n) := by
  obtain ⟨list, t8, t9⟩ := x
  kernel_rfl
theorem F_impl_freeTable (a : dens [.v .int]) : E_impl_freeTable.run a = funK C_impl_freeTable Try.f69 [.v .int] [.mv .int 0] a (fun o r => some (N_impl_freeTable o r)) := by
  kernel_rfl
theorem W_impl_freeTable : loopsOf D_impl_freeTable = [B_impl_freeTable_L3] := by kernel_rfl
theorem R_impl_freeTable_L3 : firstReg B_impl_freeTable_L3 = 3 := by kernel_rfl
theorem Q_impl_freeTable : Try.prog.funcs[69]? = some Try.f69 ∧ (Try.f69.name == "runtime.NumGoroutine") = false ∧ Try.f69.body = some D_impl_freeTable := ⟨Try.func69, by kernel_rfl, by kernel_rfl⟩
theorem H_impl_freeTable : Holds Try.prog 69 E_impl_freeTable :=
  holds_of (cx := C_impl_freeTable) (tabOk_ok tabT rfl).1 (allT_ok trivial) mixT Q_impl_freeTable.1 Q_impl_freeTable.2.2 (loops_of W_impl_freeTable ⟨loop_of (cx := C_impl_freeTable) (L := S_impl_freeTable_L3 fuel) rfl (by rw [R_impl_freeTable_L3]; rfl) ⟨impl_freeTable_L3, fun _ => rfl, fun n x => K_impl_freeTable_L3 n x, fuel, fun _ => rfl⟩, trivial⟩) (enc := N_impl_freeTable) (fun _ _ => ⟨rfl, rfl⟩) F_impl_freeTable

theorem K_impl_marks_L3 (n : Nat) (x : (List Bool) × (List Int) × Int × Int) : impl_marks_L3 (n + 1) x = roundK C_impl_marks B_impl_marks_L3 (S_impl_marks_L3 fuel) x (impl_marks_L3 n) := by
  obtain ⟨have_, t10, t11, t12⟩ := x
  kernel_rfl
theorem F_impl_marks (a : dens [.v (.slice .int), .v .int]) : E_impl_marks.run a = funK C_impl_marks Try.f107 [.v (.slice .int), .v .int] [.mv .bool 0] a (fun o r => some (N_impl_marks o r)) := by
  kernel_rfl
theorem W_impl_marks : loopsOf D_impl_marks = [B_impl_marks_L3] := by kernel_rfl
theorem R_impl_marks_L3 : firstReg B_impl_marks_L3 = 3 := by kernel_rfl
theorem Q_impl_marks : Try.prog.funcs[107]? = some Try.f107 ∧ (Try.f107.name == "runtime.NumGoroutine") = false ∧ Try.f107.body = some D_impl_marks := ⟨Try.func107, by kernel_rfl, by kernel_rfl⟩
theorem H_impl_marks : Holds Try.prog 107 E_impl_marks :=
  holds_of (cx := C_impl_marks) (tabOk_ok tabT rfl).1 (allT_ok trivial) mixT Q_impl_marks.1 Q_impl_marks.2.2 (loops_of W_impl_marks ⟨loop_of (cx := C_impl_marks) (L := S_impl_marks_L3 fuel) rfl (by rw [R_impl_marks_L3]; rfl) ⟨impl_marks_L3, fun _ => rfl, fun n x => K_impl_marks_L3 n x, fuel, fun _ => rfl⟩, trivial⟩) (enc := N_impl_marks) (fun _ _ => ⟨rfl, rfl⟩) F_impl_marks

theorem K_impl_marked_L3 (n : Nat) (x : (List Int) × (List Bool) × Int × Int) : impl_marked_L3 (n + 1) x = roundK C_impl_marked B_impl_marked_L3 (S_impl_marked_L3 fuel) x (impl_marked_L3 n) := by
  obtain ⟨list, t7, t8, t9⟩ := x
  kernel_rfl
theorem F_impl_marked (a : dens [.v (.slice .bool)]) : E_impl_marked.run a = funK C_impl_marked Try.f106 [.v (.slice .bool)] [.mv .int 0] a (fun o r => some (N_impl_marked o r)) := by
  kernel_rfl
theorem W_impl_marked : loopsOf D_impl_marked = [B_impl_marked_L3] := by kernel_rfl
theorem R_impl_marked_L3 : firstReg B_impl_marked_L3 = 3 := by kernel_rfl
theorem Q_impl_marked : Try.prog.funcs[106]? = some Try.f106 ∧ (Try.f106.name == "runtime.NumGoroutine") = false ∧ Try.f106.body = some D_impl_marked := ⟨Try.func106, by kernel_rfl, by kernel_rfl⟩
theorem H_impl_marked : Holds Try.prog 106 E_impl_marked :=
  holds_of (cx := C_impl_marked) (tabOk_ok tabT rfl).1 (allT_ok trivial) mixT Q_impl_marked.1 Q_impl_marked.2.2 (loops_of W_impl_marked ⟨loop_of (cx := C_impl_marked) (L := S_impl_marked_L3 fuel) rfl (by rw [R_impl_marked_L3]; rfl) ⟨impl_marked_L3, fun _ => rfl, fun n x => K_impl_marked_L3 n x, fuel, fun _ => rfl⟩, trivial⟩) (enc := N_impl_marked) (fun _ _ => ⟨rfl, rfl⟩) F_impl_marked

theorem F_impl_imagesOf (a : dens [.v (.slice .int), .v .int]) : E_impl_imagesOf.run a = funK C_impl_imagesOf Try.f80 [.v (.slice .int), .v .int] [.mv .int 0] a (fun o r => some (N_impl_imagesOf o r)) := by
  kernel_rfl
theorem W_impl_imagesOf : loopsOf D_impl_imagesOf = [] := by kernel_rfl
theorem Q_impl_imagesOf : Try.prog.funcs[80]? = some Try.f80 ∧ (Try.f80.name == "runtime.NumGoroutine") = false ∧ Try.f80.body = some D_impl_imagesOf := ⟨Try.func80, by kernel_rfl, by kernel_rfl⟩
theorem H_impl_imagesOf : Holds Try.prog 80 E_impl_imagesOf :=
  holds_of (cx := C_impl_imagesOf) (tabOk_ok tabT rfl).1 (allT_ok ⟨⟨H_impl_marked, _, _, Q_impl_marked⟩, ⟨⟨H_impl_marks, _, _, Q_impl_marks⟩, trivial⟩⟩) mixT Q_impl_imagesOf.1 Q_impl_imagesOf.2.2 (loops_of W_impl_imagesOf trivial) (enc := N_impl_imagesOf) (fun _ _ => ⟨rfl, rfl⟩) F_impl_imagesOf

theorem F_impl_clone (a : dens [.v (.slice .int)]) : E_impl_clone.run a = funK C_impl_clone Try.f81 [.v (.slice .int)] [.mv .int 0] a (fun o r => some (N_impl_clone o r)) := by
  kernel_rfl
theorem W_impl_clone : loopsOf D_impl_clone = [] := by kernel_rfl
theorem Q_impl_clone : Try.prog.funcs[81]? = some Try.f81 ∧ (Try.f81.name == "runtime.NumGoroutine") = false ∧ Try.f81.body = some D_impl_clone := ⟨Try.func81, by kernel_rfl, by kernel_rfl⟩
theorem H_impl_clone : Holds Try.prog 81 E_impl_clone :=
  holds_of (cx := C_impl_clone) (tabOk_ok tabT rfl).1 (allT_ok trivial) mixT Q_impl_clone.1 Q_impl_clone.2.2 (loops_of W_impl_clone trivial) (enc := N_impl_clone) (fun _ _ => ⟨rfl, rfl⟩) F_impl_clone

theorem F_impl_CoreMap_c1 (a : dens [.v (.slice .int), .bx (.v .int), .bx (.v .int), .bx (.pr (.v .int) (.mv .int 0))]) : E_impl_CoreMap_c1.run a = funK C_impl_CoreMap_c1 Try.f79 [.v (.slice .int), .bx (.v .int), .bx (.v .int), .bx (.pr (.v .int) (.mv .int 0))] [.v .bool] a (fun o r => some (N_impl_CoreMap_c1 o r)) := by
  kernel_rfl
theorem W_impl_CoreMap_c1 : loopsOf D_impl_CoreMap_c1 = [] := by kernel_rfl
theorem Q_impl_CoreMap_c1 : Try.prog.funcs[79]? = some Try.f79 ∧ (Try.f79.name == "runtime.NumGoroutine") = false ∧ Try.f79.body = some D_impl_CoreMap_c1 := ⟨Try.func79, by kernel_rfl, by kernel_rfl⟩
theorem H_impl_CoreMap_c1 : Holds Try.prog 79 E_impl_CoreMap_c1 :=
  holds_of (cx := C_impl_CoreMap_c1) (tabOk_ok tabT rfl).1 (allT_ok ⟨⟨H_impl_imagesOf, _, _, Q_impl_imagesOf⟩, ⟨⟨H_impl_clone, _, _, Q_impl_clone⟩, trivial⟩⟩) mixT Q_impl_CoreMap_c1.1 Q_impl_CoreMap_c1.2.2 (loops_of W_impl_CoreMap_c1 trivial) (enc := N_impl_CoreMap_c1) (fun _ _ => ⟨rfl, rfl⟩) F_impl_CoreMap_c1

theorem K_impl_compose_L3 (n : Nat) (x : (List Int) × (List Int) × (List Int) × Int × Int) : impl_compose_L3 (n + 1) x = roundK C_impl_compose B_impl_compose_L3 (S_impl_compose_L3 fuel) x (impl_compose_L3 n) := by
  obtain ⟨g, h, t11, t12, t13⟩ := x
  kernel_rfl
theorem F_impl_compose (a : dens [.v (.slice .int), .v (.slice .int)]) : E_impl_compose.run a = funK C_impl_compose Try.f84 [.v (.slice .int), .v (.slice .int)] [.mv .int 0] a (fun o r => some (N_impl_compose o r)) := by
  kernel_rfl
theorem W_impl_compose : loopsOf D_impl_compose = [B_impl_compose_L3] := by kernel_rfl
theorem R_impl_compose_L3 : firstReg B_impl_compose_L3 = 3 := by kernel_rfl
theorem Q_impl_compose : Try.prog.funcs[84]? = some Try.f84 ∧ (Try.f84.name == "runtime.NumGoroutine") = false ∧ Try.f84.body = some D_impl_compose := ⟨Try.func84, by kernel_rfl, by kernel_rfl⟩
theorem H_impl_compose : Holds Try.prog 84 E_impl_compose :=
  holds_of (cx := C_impl_compose) (tabOk_ok tabT rfl).1 (allT_ok trivial) mixT Q_impl_compose.1 Q_impl_compose.2.2 (loops_of W_impl_compose ⟨loop_of (cx := C_impl_compose) (L := S_impl_compose_L3 fuel) rfl (by rw [R_impl_compose_L3]; rfl) ⟨impl_compose_L3, fun _ => rfl, fun n x => K_impl_compose_L3 n x, fuel, fun _ => rfl⟩, trivial⟩) (enc := N_impl_compose) (fun _ _ => ⟨rfl, rfl⟩) F_impl_compose

theorem K_impl_polySearch_fits_p_L2 (n : Nat) (x : (List Int) × (List ((List Int) × (List ByteArray))) × Int × Int) : impl_polySearch_fits_p_L2 (n + 1) x = roundK C_impl_polySearch_fits_p B_impl_polySearch_fits_p_L2 (S_impl_polySearch_fits_p_L2 fuel) x (impl_polySearch_fits_p_L2 n) := by
  obtain ⟨table, t15, t16, t17⟩ := x
  kernel_rfl
theorem F_impl_polySearch_fits_p (a : dens [.v (.ptr (.pair .int (.pair .int (.slice (.slice (.pair (.slice .int) .smap)))))), .v (.slice .int), .v .int]) : E_impl_polySearch_fits_p.run a = funK C_impl_polySearch_fits_p Try.f105 [.v (.ptr (.pair .int (.pair .int (.slice (.slice (.pair (.slice .int) .smap)))))), .v (.slice .int), .v .int] [.v .bool] a (fun o r => some (N_impl_polySearch_fits_p o r)) := by
  kernel_rfl
theorem W_impl_polySearch_fits_p : loopsOf D_impl_polySearch_fits_p = [B_impl_polySearch_fits_p_L2] := by kernel_rfl
theorem R_impl_polySearch_fits_p_L2 : firstReg B_impl_polySearch_fits_p_L2 = 2 := by kernel_rfl
theorem Q_impl_polySearch_fits_p : Try.prog.funcs[105]? = some Try.f105 ∧ (Try.f105.name == "runtime.NumGoroutine") = false ∧ Try.f105.body = some D_impl_polySearch_fits_p := ⟨Try.func105, by kernel_rfl, by kernel_rfl⟩
theorem H_impl_polySearch_fits_p : Holds Try.prog 105 E_impl_polySearch_fits_p :=
  holds_of (cx := C_impl_polySearch_fits_p) (tabOk_ok tabT rfl).1 (allT_ok ⟨⟨H_impl_compose, _, _, Q_impl_compose⟩, ⟨⟨H_impl_keyOf, _, _, Q_impl_keyOf⟩, trivial⟩⟩) mixT Q_impl_polySearch_fits_p.1 Q_impl_polySearch_fits_p.2.2 (loops_of W_impl_polySearch_fits_p ⟨loop_of (cx := C_impl_polySearch_fits_p) (L := S_impl_polySearch_fits_p_L2 fuel) rfl (by rw [R_impl_polySearch_fits_p_L2]; rfl) ⟨impl_polySearch_fits_p_L2, fun _ => rfl, fun n x => K_impl_polySearch_fits_p_L2 n x, fuel, fun _ => rfl⟩, trivial⟩) (enc := N_impl_polySearch_fits_p) (fun _ _ => ⟨rfl, rfl⟩) F_impl_polySearch_fits_p

theorem K_impl_polySearch_each_c1_impl_CoreMap_c1_L4 (rec : (Int × (List Int) × (Int × (Int × (Int × (List Int)))) × (Bool × Int × Int × (List (List ((List Int) × (List ByteArray))))) × (List Int) × Unit) → Option ((List Int) × (Int × (Int × (Int × (List Int)))) × (Bool × Int × Int × (List (List ((List Int) × (List ByteArray))))) × (List Int) × Bool)) (n : Nat) (x : Int × (List Int) × (Int × (Int × (Int × (List Int)))) × (Bool × Int × Int × (List (List ((List Int) × (List ByteArray))))) × (List Int) × Unit × Int) : impl_polySearch_each_c1_impl_CoreMap_c1_L4 rec (n + 1) x = roundK (C_impl_polySearch_each_c1_impl_CoreMap_c1 rec) B_impl_polySearch_each_c1_impl_CoreMap_c1_L4 (S_impl_polySearch_each_c1_impl_CoreMap_c1_L4 rec fuel) x (impl_polySearch_each_c1_impl_CoreMap_c1_L4 rec n) := by
  obtain ⟨at_, t1, t2, t3, t4, t5, x⟩ := x
  kernel_rfl
theorem F_impl_polySearch_each_c1_impl_CoreMap_c1 (rec : (Int × (List Int) × (Int × (Int × (Int × (List Int)))) × (Bool × Int × Int × (List (List ((List Int) × (List ByteArray))))) × (List Int) × Unit) → Option ((List Int) × (Int × (Int × (Int × (List Int)))) × (Bool × Int × Int × (List (List ((List Int) × (List ByteArray))))) × (List Int) × Bool)) (a : dens [.v .int, .bx (.mv .int 0), .pr (.bx (.v .int)) (.pr (.bx (.v .int)) (.bx (.pr (.v .int) (.mv .int 0)))), .bx (.v (.ptr (.pair .int (.pair .int (.slice (.slice (.pair (.slice .int) .smap))))))), .bx (.v (.slice .int)), .jk 1]) : impl_polySearch_each_c1_impl_CoreMap_c1_body rec a.1 a.2.1 a.2.2.1 a.2.2.2.1 a.2.2.2.2.1 a.2.2.2.2.2 = funK (C_impl_polySearch_each_c1_impl_CoreMap_c1 rec) Try.f104 [.v .int, .bx (.mv .int 0), .pr (.bx (.v .int)) (.pr (.bx (.v .int)) (.bx (.pr (.v .int) (.mv .int 0)))), .bx (.v (.ptr (.pair .int (.pair .int (.slice (.slice (.pair (.slice .int) .smap))))))), .bx (.v (.slice .int)), .jk 1] [.v .bool] a (fun o r => some (N_impl_polySearch_each_c1_impl_CoreMap_c1 o r)) := by
  kernel_rfl
theorem W_impl_polySearch_each_c1_impl_CoreMap_c1 : loopsOf D_impl_polySearch_each_c1_impl_CoreMap_c1 = [B_impl_polySearch_each_c1_impl_CoreMap_c1_L4] := by kernel_rfl
theorem R_impl_polySearch_each_c1_impl_CoreMap_c1_L4 : firstReg B_impl_polySearch_each_c1_impl_CoreMap_c1_L4 = 4 := by kernel_rfl
theorem Q_impl_polySearch_each_c1_impl_CoreMap_c1 : Try.prog.funcs[104]? = some Try.f104 ∧ (Try.f104.name == "runtime.NumGoroutine") = false ∧ Try.f104.body = some D_impl_polySearch_each_c1_impl_CoreMap_c1 := ⟨Try.func104, by kernel_rfl, by kernel_rfl⟩
theorem H_impl_polySearch_each_c1_impl_CoreMap_c1 : ∀ d, Holds Try.prog 104 (E_impl_polySearch_each_c1_impl_CoreMap_c1 d)
  | 0 => fun _ b h => absurd (show (none : Option _) = some b from h) (by simp)
  | d + 1 => holds_of (en := E_impl_polySearch_each_c1_impl_CoreMap_c1 (d + 1)) (cx := (C_impl_polySearch_each_c1_impl_CoreMap_c1 (impl_polySearch_each_c1_impl_CoreMap_c1 d))) (tabOk_ok tabT rfl).1 (allT_ok ⟨⟨H_impl_CoreMap_c1, _, _, Q_impl_CoreMap_c1⟩, ⟨⟨H_impl_polySearch_fits_p, _, _, Q_impl_polySearch_fits_p⟩, ⟨⟨H_impl_polySearch_each_c1_impl_CoreMap_c1 d, _, _, Q_impl_polySearch_each_c1_impl_CoreMap_c1⟩, trivial⟩⟩⟩) mixT Q_impl_polySearch_each_c1_impl_CoreMap_c1.1 Q_impl_polySearch_each_c1_impl_CoreMap_c1.2.2 (loops_of W_impl_polySearch_each_c1_impl_CoreMap_c1 ⟨loop_of (cx := (C_impl_polySearch_each_c1_impl_CoreMap_c1 (impl_polySearch_each_c1_impl_CoreMap_c1 d))) (L := S_impl_polySearch_each_c1_impl_CoreMap_c1_L4 (impl_polySearch_each_c1_impl_CoreMap_c1 d) fuel) rfl (by rw [R_impl_polySearch_each_c1_impl_CoreMap_c1_L4]; rfl) ⟨impl_polySearch_each_c1_impl_CoreMap_c1_L4 (impl_polySearch_each_c1_impl_CoreMap_c1 d), fun _ => rfl, fun n x => K_impl_polySearch_each_c1_impl_CoreMap_c1_L4 (impl_polySearch_each_c1_impl_CoreMap_c1 d) n x, fuel, fun _ => rfl⟩, trivial⟩) (enc := N_impl_polySearch_each_c1_impl_CoreMap_c1) (fun _ _ => ⟨rfl, rfl⟩) (F_impl_polySearch_each_c1_impl_CoreMap_c1 (impl_polySearch_each_c1_impl_CoreMap_c1 d)) rfl

theorem F_impl_polySearch_each_impl_CoreMap_c1 (a : dens [.v (.ptr (.pair .int (.pair .int (.slice (.slice (.pair (.slice .int) .smap)))))), .v (.slice .int), .pr (.bx (.v .int)) (.pr (.bx (.v .int)) (.bx (.pr (.v .int) (.mv .int 0))))]) : E_impl_polySearch_each_impl_CoreMap_c1.run a = funK C_impl_polySearch_each_impl_CoreMap_c1 Try.f78 [.v (.ptr (.pair .int (.pair .int (.slice (.slice (.pair (.slice .int) .smap)))))), .v (.slice .int), .pr (.bx (.v .int)) (.pr (.bx (.v .int)) (.bx (.pr (.v .int) (.mv .int 0))))] [] a (fun o r => some (N_impl_polySearch_each_impl_CoreMap_c1 o r)) := by
  kernel_rfl
theorem W_impl_polySearch_each_impl_CoreMap_c1 : loopsOf D_impl_polySearch_each_impl_CoreMap_c1 = [] := by kernel_rfl
theorem Q_impl_polySearch_each_impl_CoreMap_c1 : Try.prog.funcs[78]? = some Try.f78 ∧ (Try.f78.name == "runtime.NumGoroutine") = false ∧ Try.f78.body = some D_impl_polySearch_each_impl_CoreMap_c1 := ⟨Try.func78, by kernel_rfl, by kernel_rfl⟩
theorem H_impl_polySearch_each_impl_CoreMap_c1 : Holds Try.prog 78 E_impl_polySearch_each_impl_CoreMap_c1 :=
  holds_of (cx := C_impl_polySearch_each_impl_CoreMap_c1) (tabOk_ok tabT rfl).1 (allT_ok ⟨⟨H_impl_polySearch_each_c1_impl_CoreMap_c1 fuel, _, _, Q_impl_polySearch_each_c1_impl_CoreMap_c1⟩, trivial⟩) mixT Q_impl_polySearch_each_impl_CoreMap_c1.1 Q_impl_polySearch_each_impl_CoreMap_c1.2.2 (loops_of W_impl_polySearch_each_impl_CoreMap_c1 trivial) (enc := N_impl_polySearch_each_impl_CoreMap_c1) (fun _ _ => ⟨rfl, rfl⟩) F_impl_polySearch_each_impl_CoreMap_c1

theorem F_impl_CoreMap (a : dens [.v .int, .v (.slice (.pair .int (.slice (.slice .int))))]) : E_impl_CoreMap.run a = funK C_impl_CoreMap Try.f41 [.v .int, .v (.slice (.pair .int (.slice (.slice .int))))] [.pr (.v .int) (.mv .int 0), .v .bool] a (fun o r => some (N_impl_CoreMap o r)) := by
  kernel_rfl
theorem W_impl_CoreMap : loopsOf D_impl_CoreMap = [] := by kernel_rfl
theorem Q_impl_CoreMap : Try.prog.funcs[41]? = some Try.f41 ∧ (Try.f41.name == "runtime.NumGoroutine") = false ∧ Try.f41.body = some D_impl_CoreMap := ⟨Try.func41, by kernel_rfl, by kernel_rfl⟩
theorem H_impl_CoreMap : Holds Try.prog 41 E_impl_CoreMap :=
  holds_of (cx := C_impl_CoreMap) (tabOk_ok tabT rfl).1 (allT_ok ⟨⟨H_impl_canAsk, _, _, Q_impl_canAsk⟩, ⟨⟨H_impl_freeTable, _, _, Q_impl_freeTable⟩, ⟨⟨H_impl_newPolySearch, _, _, Q_impl_newPolySearch⟩, ⟨⟨H_impl_polySearch_each_impl_CoreMap_c1, _, _, Q_impl_polySearch_each_impl_CoreMap_c1⟩, trivial⟩⟩⟩⟩) mixT Q_impl_CoreMap.1 Q_impl_CoreMap.2.2 (loops_of W_impl_CoreMap trivial) (enc := N_impl_CoreMap) (fun _ _ => ⟨rfl, rfl⟩) F_impl_CoreMap

theorem K_impl_CoreTemplate_L7 (n : Nat) (x : Int × (List (Int × (List (List Int)))) × (List Int) × (List Int) × Int × Int) : impl_CoreTemplate_L7 (n + 1) x = roundK C_impl_CoreTemplate B_impl_CoreTemplate_L7 (S_impl_CoreTemplate_L7 fuel) x (impl_CoreTemplate_L7 n) := by
  obtain ⟨t0, t1, t9, t10, t37, t38⟩ := x
  kernel_rfl
theorem K_impl_CoreTemplate_L12 (n : Nat) (x : Unit × Int × (List (Int × (List (List Int)))) × (List Int) × (List Int) × Int × Int) : impl_CoreTemplate_L12 (n + 1) x = roundK C_impl_CoreTemplate B_impl_CoreTemplate_L12 (S_impl_CoreTemplate_L12 fuel) x (impl_CoreTemplate_L12 n) := by
  obtain ⟨al45, t0, t1, t9, t10, t46, t47⟩ := x
  kernel_rfl
theorem K_impl_CoreTemplate_L22 (n : Nat) (x : Int × (List Int) × (List Int) × (List (Int × (List (List Int)))) × (Int × (List (List Int))) × (List (Int × (List (List Int)))) × Int × Int × (List (List Int)) × Int × Int) : impl_CoreTemplate_L22 (n + 1) x = roundK C_impl_CoreTemplate B_impl_CoreTemplate_L22 (S_impl_CoreTemplate_L22 fuel) x (impl_CoreTemplate_L22 n) := by
  obtain ⟨t0, t9, t10, t14, t17, t58, t59, t60, t68, t69, t70⟩ := x
  kernel_rfl
theorem K_impl_CoreTemplate_L18 (n : Nat) (x : Int × (List Int) × (List Int) × (List (Int × (List (List Int)))) × (List (Int × (List (List Int)))) × Int × Int) : impl_CoreTemplate_L18 (n + 1) x = roundK C_impl_CoreTemplate B_impl_CoreTemplate_L18 (S_impl_CoreTemplate_L18 fuel) x (impl_CoreTemplate_L18 n) := by
  obtain ⟨t0, t9, t10, t14, t58, t59, t60⟩ := x
  kernel_rfl
theorem F_impl_CoreTemplate (a : dens [.v .int, .v (.slice (.pair .int (.slice (.slice .int))))]) : E_impl_CoreTemplate.run a = funK C_impl_CoreTemplate Try.f43 [.v .int, .v (.slice (.pair .int (.slice (.slice .int))))] [.v .int, .mv (.pair .int (.slice (.slice .int))) 2, .v .bool] a (fun o r => some (N_impl_CoreTemplate o r)) := by
  kernel_rfl
theorem W_impl_CoreTemplate : loopsOf D_impl_CoreTemplate = [B_impl_CoreTemplate_L7, B_impl_CoreTemplate_L12, B_impl_CoreTemplate_L18, B_impl_CoreTemplate_L22] := by kernel_rfl
theorem R_impl_CoreTemplate_L7 : firstReg B_impl_CoreTemplate_L7 = 7 := by kernel_rfl
theorem R_impl_CoreTemplate_L12 : firstReg B_impl_CoreTemplate_L12 = 12 := by kernel_rfl
theorem R_impl_CoreTemplate_L22 : firstReg B_impl_CoreTemplate_L22 = 22 := by kernel_rfl
theorem R_impl_CoreTemplate_L18 : firstReg B_impl_CoreTemplate_L18 = 18 := by kernel_rfl
theorem Q_impl_CoreTemplate : Try.prog.funcs[43]? = some Try.f43 ∧ (Try.f43.name == "runtime.NumGoroutine") = false ∧ Try.f43.body = some D_impl_CoreTemplate := ⟨Try.func43, by kernel_rfl, by kernel_rfl⟩
theorem H_impl_CoreTemplate : Holds Try.prog 43 E_impl_CoreTemplate :=
  holds_of (cx := C_impl_CoreTemplate) (tabOk_ok tabT rfl).1 (allT_ok ⟨⟨H_impl_CoreMap, _, _, Q_impl_CoreMap⟩, ⟨⟨H_impl_imagesOf, _, _, Q_impl_imagesOf⟩, ⟨⟨H_impl_compose, _, _, Q_impl_compose⟩, ⟨⟨H_impl_inSize, _, _, Q_impl_inSize⟩, trivial⟩⟩⟩⟩) mixT Q_impl_CoreTemplate.1 Q_impl_CoreTemplate.2.2 (loops_of W_impl_CoreTemplate ⟨loop_of (cx := C_impl_CoreTemplate) (L := S_impl_CoreTemplate_L7 fuel) rfl (by rw [R_impl_CoreTemplate_L7]; rfl) ⟨impl_CoreTemplate_L7, fun _ => rfl, fun n x => K_impl_CoreTemplate_L7 n x, fuel, fun _ => rfl⟩, ⟨loop_of (cx := C_impl_CoreTemplate) (L := S_impl_CoreTemplate_L12 fuel) rfl (by rw [R_impl_CoreTemplate_L12]; rfl) ⟨impl_CoreTemplate_L12, fun _ => rfl, fun n x => K_impl_CoreTemplate_L12 n x, fuel, fun _ => rfl⟩, ⟨loop_of (cx := C_impl_CoreTemplate) (L := S_impl_CoreTemplate_L18 fuel) rfl (by rw [R_impl_CoreTemplate_L18]; rfl) ⟨impl_CoreTemplate_L18, fun _ => rfl, fun n x => K_impl_CoreTemplate_L18 n x, fuel, fun _ => rfl⟩, ⟨loop_of (cx := C_impl_CoreTemplate) (L := S_impl_CoreTemplate_L22 fuel) rfl (by rw [R_impl_CoreTemplate_L22]; rfl) ⟨impl_CoreTemplate_L22, fun _ => rfl, fun n x => K_impl_CoreTemplate_L22 n x, fuel, fun _ => rfl⟩, trivial⟩⟩⟩⟩) (enc := N_impl_CoreTemplate) (fun _ _ => ⟨rfl, rfl⟩) F_impl_CoreTemplate

theorem K_laws_eqIntS_L4 (n : Nat) (x : (List Int) × (List Int) × Int) : laws_eqIntS_L4 (n + 1) x = roundK C_laws_eqIntS B_laws_eqIntS_L4 (S_laws_eqIntS_L4 fuel) x (laws_eqIntS_L4 n) := by
  obtain ⟨a, b, i⟩ := x
  kernel_rfl
theorem F_laws_eqIntS (a : dens [.v (.slice .int), .v (.slice .int)]) : E_laws_eqIntS.run a = funK C_laws_eqIntS Try.f24 [.v (.slice .int), .v (.slice .int)] [.v .bool] a (fun o r => some (N_laws_eqIntS o r)) := by
  kernel_rfl
theorem W_laws_eqIntS : loopsOf D_laws_eqIntS = [B_laws_eqIntS_L4] := by kernel_rfl
theorem R_laws_eqIntS_L4 : firstReg B_laws_eqIntS_L4 = 4 := by kernel_rfl
theorem Q_laws_eqIntS : Try.prog.funcs[24]? = some Try.f24 ∧ (Try.f24.name == "runtime.NumGoroutine") = false ∧ Try.f24.body = some D_laws_eqIntS := ⟨Try.func24, by kernel_rfl, by kernel_rfl⟩
theorem H_laws_eqIntS : Holds Try.prog 24 E_laws_eqIntS :=
  holds_of (cx := C_laws_eqIntS) (tabOk_ok tabT rfl).1 (allT_ok trivial) mixT Q_laws_eqIntS.1 Q_laws_eqIntS.2.2 (loops_of W_laws_eqIntS ⟨loop_of (cx := C_laws_eqIntS) (L := S_laws_eqIntS_L4 fuel) rfl (by rw [R_laws_eqIntS_L4]; rfl) ⟨laws_eqIntS_L4, fun _ => rfl, fun n x => K_laws_eqIntS_L4 n x, fuel, fun _ => rfl⟩, trivial⟩) (enc := N_laws_eqIntS) (fun _ _ => ⟨rfl, rfl⟩) F_laws_eqIntS

theorem K_laws_eqIntSS_L4 (n : Nat) (x : (List (List Int)) × (List (List Int)) × Int) : laws_eqIntSS_L4 (n + 1) x = roundK C_laws_eqIntSS B_laws_eqIntSS_L4 (S_laws_eqIntSS_L4 fuel) x (laws_eqIntSS_L4 n) := by
  obtain ⟨a, b, i⟩ := x
  kernel_rfl
theorem F_laws_eqIntSS (a : dens [.v (.slice (.slice .int)), .v (.slice (.slice .int))]) : E_laws_eqIntSS.run a = funK C_laws_eqIntSS Try.f98 [.v (.slice (.slice .int)), .v (.slice (.slice .int))] [.v .bool] a (fun o r => some (N_laws_eqIntSS o r)) := by
  kernel_rfl
theorem W_laws_eqIntSS : loopsOf D_laws_eqIntSS = [B_laws_eqIntSS_L4] := by kernel_rfl
theorem R_laws_eqIntSS_L4 : firstReg B_laws_eqIntSS_L4 = 4 := by kernel_rfl
theorem Q_laws_eqIntSS : Try.prog.funcs[98]? = some Try.f98 ∧ (Try.f98.name == "runtime.NumGoroutine") = false ∧ Try.f98.body = some D_laws_eqIntSS := ⟨Try.func98, by kernel_rfl, by kernel_rfl⟩
theorem H_laws_eqIntSS : Holds Try.prog 98 E_laws_eqIntSS :=
  holds_of (cx := C_laws_eqIntSS) (tabOk_ok tabT rfl).1 (allT_ok ⟨⟨H_laws_eqIntS, _, _, Q_laws_eqIntS⟩, trivial⟩) mixT Q_laws_eqIntSS.1 Q_laws_eqIntSS.2.2 (loops_of W_laws_eqIntSS ⟨loop_of (cx := C_laws_eqIntSS) (L := S_laws_eqIntSS_L4 fuel) rfl (by rw [R_laws_eqIntSS_L4]; rfl) ⟨laws_eqIntSS_L4, fun _ => rfl, fun n x => K_laws_eqIntSS_L4 n x, fuel, fun _ => rfl⟩, trivial⟩) (enc := N_laws_eqIntSS) (fun _ _ => ⟨rfl, rfl⟩) F_laws_eqIntSS

theorem F_laws_eqRelation (a : dens [.v (.pair .int (.slice (.slice .int))), .v (.pair .int (.slice (.slice .int)))]) : E_laws_eqRelation.run a = funK C_laws_eqRelation Try.f64 [.v (.pair .int (.slice (.slice .int))), .v (.pair .int (.slice (.slice .int)))] [.v .bool] a (fun o r => some (N_laws_eqRelation o r)) := by
  kernel_rfl
theorem W_laws_eqRelation : loopsOf D_laws_eqRelation = [] := by kernel_rfl
theorem Q_laws_eqRelation : Try.prog.funcs[64]? = some Try.f64 ∧ (Try.f64.name == "runtime.NumGoroutine") = false ∧ Try.f64.body = some D_laws_eqRelation := ⟨Try.func64, by kernel_rfl, by kernel_rfl⟩
theorem H_laws_eqRelation : Holds Try.prog 64 E_laws_eqRelation :=
  holds_of (cx := C_laws_eqRelation) (tabOk_ok tabT rfl).1 (allT_ok ⟨⟨H_laws_eqIntSS, _, _, Q_laws_eqIntSS⟩, trivial⟩) mixT Q_laws_eqRelation.1 Q_laws_eqRelation.2.2 (loops_of W_laws_eqRelation trivial) (enc := N_laws_eqRelation) (fun _ _ => ⟨rfl, rfl⟩) F_laws_eqRelation

theorem K_laws_eqRelationS_L4 (n : Nat) (x : (List (Int × (List (List Int)))) × (List (Int × (List (List Int)))) × Int) : laws_eqRelationS_L4 (n + 1) x = roundK C_laws_eqRelationS B_laws_eqRelationS_L4 (S_laws_eqRelationS_L4 fuel) x (laws_eqRelationS_L4 n) := by
  obtain ⟨a, b, i⟩ := x
  kernel_rfl
theorem F_laws_eqRelationS (a : dens [.v (.slice (.pair .int (.slice (.slice .int)))), .v (.slice (.pair .int (.slice (.slice .int))))]) : E_laws_eqRelationS.run a = funK C_laws_eqRelationS Try.f23 [.v (.slice (.pair .int (.slice (.slice .int)))), .v (.slice (.pair .int (.slice (.slice .int))))] [.v .bool] a (fun o r => some (N_laws_eqRelationS o r)) := by
  kernel_rfl
theorem W_laws_eqRelationS : loopsOf D_laws_eqRelationS = [B_laws_eqRelationS_L4] := by kernel_rfl
theorem R_laws_eqRelationS_L4 : firstReg B_laws_eqRelationS_L4 = 4 := by kernel_rfl
theorem Q_laws_eqRelationS : Try.prog.funcs[23]? = some Try.f23 ∧ (Try.f23.name == "runtime.NumGoroutine") = false ∧ Try.f23.body = some D_laws_eqRelationS := ⟨Try.func23, by kernel_rfl, by kernel_rfl⟩
theorem H_laws_eqRelationS : Holds Try.prog 23 E_laws_eqRelationS :=
  holds_of (cx := C_laws_eqRelationS) (tabOk_ok tabT rfl).1 (allT_ok ⟨⟨H_laws_eqRelation, _, _, Q_laws_eqRelation⟩, trivial⟩) mixT Q_laws_eqRelationS.1 Q_laws_eqRelationS.2.2 (loops_of W_laws_eqRelationS ⟨loop_of (cx := C_laws_eqRelationS) (L := S_laws_eqRelationS_L4 fuel) rfl (by rw [R_laws_eqRelationS_L4]; rfl) ⟨laws_eqRelationS_L4, fun _ => rfl, fun n x => K_laws_eqRelationS_L4 n x, fuel, fun _ => rfl⟩, trivial⟩) (enc := N_laws_eqRelationS) (fun _ _ => ⟨rfl, rfl⟩) F_laws_eqRelationS

theorem K_laws_markIntS_L2 (n : Nat) (x : (List Int) × Int × Int) : laws_markIntS_L2 (n + 1) x = roundK C_laws_markIntS B_laws_markIntS_L2 (S_laws_markIntS_L2 fuel) x (laws_markIntS_L2 n) := by
  obtain ⟨a, k, i⟩ := x
  kernel_rfl
theorem F_laws_markIntS (a : dens [.io .int 0, .v .int]) : E_laws_markIntS.run a = funK C_laws_markIntS Try.f26 [.io .int 0, .v .int] [.v .int] a (fun o r => some (N_laws_markIntS o r)) := by
  kernel_rfl
theorem W_laws_markIntS : loopsOf D_laws_markIntS = [B_laws_markIntS_L2] := by kernel_rfl
theorem R_laws_markIntS_L2 : firstReg B_laws_markIntS_L2 = 2 := by kernel_rfl
theorem Q_laws_markIntS : Try.prog.funcs[26]? = some Try.f26 ∧ (Try.f26.name == "runtime.NumGoroutine") = false ∧ Try.f26.body = some D_laws_markIntS := ⟨Try.func26, by kernel_rfl, by kernel_rfl⟩
theorem H_laws_markIntS : Holds Try.prog 26 E_laws_markIntS :=
  holds_of (cx := C_laws_markIntS) (tabOk_ok tabT rfl).1 (allT_ok trivial) mixT Q_laws_markIntS.1 Q_laws_markIntS.2.2 (loops_of W_laws_markIntS ⟨loop_of (cx := C_laws_markIntS) (L := S_laws_markIntS_L2 fuel) rfl (by rw [R_laws_markIntS_L2]; rfl) ⟨laws_markIntS_L2, fun _ => rfl, fun n x => K_laws_markIntS_L2 n x, fuel, fun _ => rfl⟩, trivial⟩) (enc := N_laws_markIntS) (fun _ _ => ⟨rfl, rfl⟩) F_laws_markIntS

theorem K_laws_markIntSS_L2 (n : Nat) (x : (List (List Int)) × Int × Int) : laws_markIntSS_L2 (n + 1) x = roundK C_laws_markIntSS B_laws_markIntSS_L2 (S_laws_markIntSS_L2 fuel) x (laws_markIntSS_L2 n) := by
  obtain ⟨a, k, i⟩ := x
  kernel_rfl
theorem F_laws_markIntSS (a : dens [.io (.slice .int) 1, .v .int]) : E_laws_markIntSS.run a = funK C_laws_markIntSS Try.f65 [.io (.slice .int) 1, .v .int] [.v .int] a (fun o r => some (N_laws_markIntSS o r)) := by
  kernel_rfl
theorem W_laws_markIntSS : loopsOf D_laws_markIntSS = [B_laws_markIntSS_L2] := by kernel_rfl
theorem R_laws_markIntSS_L2 : firstReg B_laws_markIntSS_L2 = 2 := by kernel_rfl
theorem Q_laws_markIntSS : Try.prog.funcs[65]? = some Try.f65 ∧ (Try.f65.name == "runtime.NumGoroutine") = false ∧ Try.f65.body = some D_laws_markIntSS := ⟨Try.func65, by kernel_rfl, by kernel_rfl⟩
theorem H_laws_markIntSS : Holds Try.prog 65 E_laws_markIntSS :=
  holds_of (cx := C_laws_markIntSS) (tabOk_ok tabT rfl).1 (allT_ok ⟨⟨H_laws_markIntS, _, _, Q_laws_markIntS⟩, trivial⟩) mixT Q_laws_markIntSS.1 Q_laws_markIntSS.2.2 (loops_of W_laws_markIntSS ⟨loop_of (cx := C_laws_markIntSS) (L := S_laws_markIntSS_L2 fuel) rfl (by rw [R_laws_markIntSS_L2]; rfl) ⟨laws_markIntSS_L2, fun _ => rfl, fun n x => K_laws_markIntSS_L2 n x, fuel, fun _ => rfl⟩, trivial⟩) (enc := N_laws_markIntSS) (fun _ _ => ⟨rfl, rfl⟩) F_laws_markIntSS

theorem K_laws_markRelationS_L2 (n : Nat) (x : (List (Int × (List (List Int)))) × Int × Int) : laws_markRelationS_L2 (n + 1) x = roundK C_laws_markRelationS B_laws_markRelationS_L2 (S_laws_markRelationS_L2 fuel) x (laws_markRelationS_L2 n) := by
  obtain ⟨a, k, i⟩ := x
  kernel_rfl
theorem F_laws_markRelationS (a : dens [.io (.pair .int (.slice (.slice .int))) 2, .v .int]) : E_laws_markRelationS.run a = funK C_laws_markRelationS Try.f25 [.io (.pair .int (.slice (.slice .int))) 2, .v .int] [.v .int] a (fun o r => some (N_laws_markRelationS o r)) := by
  kernel_rfl
theorem W_laws_markRelationS : loopsOf D_laws_markRelationS = [B_laws_markRelationS_L2] := by kernel_rfl
theorem R_laws_markRelationS_L2 : firstReg B_laws_markRelationS_L2 = 2 := by kernel_rfl
theorem Q_laws_markRelationS : Try.prog.funcs[25]? = some Try.f25 ∧ (Try.f25.name == "runtime.NumGoroutine") = false ∧ Try.f25.body = some D_laws_markRelationS := ⟨Try.func25, by kernel_rfl, by kernel_rfl⟩
theorem H_laws_markRelationS : Holds Try.prog 25 E_laws_markRelationS :=
  holds_of (cx := C_laws_markRelationS) (tabOk_ok tabT rfl).1 (allT_ok ⟨⟨H_laws_markIntSS, _, _, Q_laws_markIntSS⟩, trivial⟩) mixT Q_laws_markRelationS.1 Q_laws_markRelationS.2.2 (loops_of W_laws_markRelationS ⟨loop_of (cx := C_laws_markRelationS) (L := S_laws_markRelationS_L2 fuel) rfl (by rw [R_laws_markRelationS_L2]; rfl) ⟨laws_markRelationS_L2, fun _ => rfl, fun n x => K_laws_markRelationS_L2 n x, fuel, fun _ => rfl⟩, trivial⟩) (enc := N_laws_markRelationS) (fun _ _ => ⟨rfl, rfl⟩) F_laws_markRelationS

theorem K_laws_heldIntS_L2 (n : Nat) (x : (List Int) × Int × Int) : laws_heldIntS_L2 (n + 1) x = roundK C_laws_heldIntS B_laws_heldIntS_L2 (S_laws_heldIntS_L2 fuel) x (laws_heldIntS_L2 n) := by
  obtain ⟨a, k, i⟩ := x
  kernel_rfl
theorem F_laws_heldIntS (a : dens [.v (.slice .int), .v .int]) : E_laws_heldIntS.run a = funK C_laws_heldIntS Try.f52 [.v (.slice .int), .v .int] [.v .int] a (fun o r => some (N_laws_heldIntS o r)) := by
  kernel_rfl
theorem W_laws_heldIntS : loopsOf D_laws_heldIntS = [B_laws_heldIntS_L2] := by kernel_rfl
theorem R_laws_heldIntS_L2 : firstReg B_laws_heldIntS_L2 = 2 := by kernel_rfl
theorem Q_laws_heldIntS : Try.prog.funcs[52]? = some Try.f52 ∧ (Try.f52.name == "runtime.NumGoroutine") = false ∧ Try.f52.body = some D_laws_heldIntS := ⟨Try.func52, by kernel_rfl, by kernel_rfl⟩
theorem H_laws_heldIntS : Holds Try.prog 52 E_laws_heldIntS :=
  holds_of (cx := C_laws_heldIntS) (tabOk_ok tabT rfl).1 (allT_ok trivial) mixT Q_laws_heldIntS.1 Q_laws_heldIntS.2.2 (loops_of W_laws_heldIntS ⟨loop_of (cx := C_laws_heldIntS) (L := S_laws_heldIntS_L2 fuel) rfl (by rw [R_laws_heldIntS_L2]; rfl) ⟨laws_heldIntS_L2, fun _ => rfl, fun n x => K_laws_heldIntS_L2 n x, fuel, fun _ => rfl⟩, trivial⟩) (enc := N_laws_heldIntS) (fun _ _ => ⟨rfl, rfl⟩) F_laws_heldIntS

theorem K_laws_heldIntSS_L2 (n : Nat) (x : (List (List Int)) × Int × Int) : laws_heldIntSS_L2 (n + 1) x = roundK C_laws_heldIntSS B_laws_heldIntSS_L2 (S_laws_heldIntSS_L2 fuel) x (laws_heldIntSS_L2 n) := by
  obtain ⟨a, k, i⟩ := x
  kernel_rfl
theorem F_laws_heldIntSS (a : dens [.v (.slice (.slice .int)), .v .int]) : E_laws_heldIntSS.run a = funK C_laws_heldIntSS Try.f86 [.v (.slice (.slice .int)), .v .int] [.v .int] a (fun o r => some (N_laws_heldIntSS o r)) := by
  kernel_rfl
theorem W_laws_heldIntSS : loopsOf D_laws_heldIntSS = [B_laws_heldIntSS_L2] := by kernel_rfl
theorem R_laws_heldIntSS_L2 : firstReg B_laws_heldIntSS_L2 = 2 := by kernel_rfl
theorem Q_laws_heldIntSS : Try.prog.funcs[86]? = some Try.f86 ∧ (Try.f86.name == "runtime.NumGoroutine") = false ∧ Try.f86.body = some D_laws_heldIntSS := ⟨Try.func86, by kernel_rfl, by kernel_rfl⟩
theorem H_laws_heldIntSS : Holds Try.prog 86 E_laws_heldIntSS :=
  holds_of (cx := C_laws_heldIntSS) (tabOk_ok tabT rfl).1 (allT_ok ⟨⟨H_laws_heldIntS, _, _, Q_laws_heldIntS⟩, trivial⟩) mixT Q_laws_heldIntSS.1 Q_laws_heldIntSS.2.2 (loops_of W_laws_heldIntSS ⟨loop_of (cx := C_laws_heldIntSS) (L := S_laws_heldIntSS_L2 fuel) rfl (by rw [R_laws_heldIntSS_L2]; rfl) ⟨laws_heldIntSS_L2, fun _ => rfl, fun n x => K_laws_heldIntSS_L2 n x, fuel, fun _ => rfl⟩, trivial⟩) (enc := N_laws_heldIntSS) (fun _ _ => ⟨rfl, rfl⟩) F_laws_heldIntSS

theorem K_laws_heldRelationS_L2 (n : Nat) (x : (List (Int × (List (List Int)))) × Int × Int) : laws_heldRelationS_L2 (n + 1) x = roundK C_laws_heldRelationS B_laws_heldRelationS_L2 (S_laws_heldRelationS_L2 fuel) x (laws_heldRelationS_L2 n) := by
  obtain ⟨a, k, i⟩ := x
  kernel_rfl
theorem F_laws_heldRelationS (a : dens [.v (.slice (.pair .int (.slice (.slice .int)))), .v .int]) : E_laws_heldRelationS.run a = funK C_laws_heldRelationS Try.f44 [.v (.slice (.pair .int (.slice (.slice .int)))), .v .int] [.v .int] a (fun o r => some (N_laws_heldRelationS o r)) := by
  kernel_rfl
theorem W_laws_heldRelationS : loopsOf D_laws_heldRelationS = [B_laws_heldRelationS_L2] := by kernel_rfl
theorem R_laws_heldRelationS_L2 : firstReg B_laws_heldRelationS_L2 = 2 := by kernel_rfl
theorem Q_laws_heldRelationS : Try.prog.funcs[44]? = some Try.f44 ∧ (Try.f44.name == "runtime.NumGoroutine") = false ∧ Try.f44.body = some D_laws_heldRelationS := ⟨Try.func44, by kernel_rfl, by kernel_rfl⟩
theorem H_laws_heldRelationS : Holds Try.prog 44 E_laws_heldRelationS :=
  holds_of (cx := C_laws_heldRelationS) (tabOk_ok tabT rfl).1 (allT_ok ⟨⟨H_laws_heldIntSS, _, _, Q_laws_heldIntSS⟩, trivial⟩) mixT Q_laws_heldRelationS.1 Q_laws_heldRelationS.2.2 (loops_of W_laws_heldRelationS ⟨loop_of (cx := C_laws_heldRelationS) (L := S_laws_heldRelationS_L2 fuel) rfl (by rw [R_laws_heldRelationS_L2]; rfl) ⟨laws_heldRelationS_L2, fun _ => rfl, fun n x => K_laws_heldRelationS_L2 n x, fuel, fun _ => rfl⟩, trivial⟩) (enc := N_laws_heldRelationS) (fun _ _ => ⟨rfl, rfl⟩) F_laws_heldRelationS

theorem F_laws_FnExactCoreTemplate (a : dens [.v .int, .v (.slice (.pair .int (.slice (.slice .int))))]) : E_laws_FnExactCoreTemplate.run a = funK C_laws_FnExactCoreTemplate Try.f11 [.v .int, .v (.slice (.pair .int (.slice (.slice .int))))] [.v .bool] a (fun o r => some (N_laws_FnExactCoreTemplate o r)) := by
  kernel_rfl
theorem W_laws_FnExactCoreTemplate : loopsOf D_laws_FnExactCoreTemplate = [] := by kernel_rfl
theorem Q_laws_FnExactCoreTemplate : Try.prog.funcs[11]? = some Try.f11 ∧ (Try.f11.name == "runtime.NumGoroutine") = false ∧ Try.f11.body = some D_laws_FnExactCoreTemplate := ⟨Try.func11, by kernel_rfl, by kernel_rfl⟩
theorem H_laws_FnExactCoreTemplate : Holds Try.prog 11 E_laws_FnExactCoreTemplate :=
  holds_of (cx := C_laws_FnExactCoreTemplate) (tabOk_ok tabT rfl).1 (allT_ok ⟨⟨H_laws_szRelationS, _, _, Q_laws_szRelationS⟩, ⟨⟨H_laws_toRelationS, _, _, Q_laws_toRelationS⟩, ⟨⟨H_laws_eqRelationS, _, _, Q_laws_eqRelationS⟩, ⟨⟨H_laws_markRelationS, _, _, Q_laws_markRelationS⟩, ⟨⟨H_spec_CoreTemplate, _, _, Q_spec_CoreTemplate⟩, ⟨⟨H_impl_CoreTemplate, _, _, Q_impl_CoreTemplate⟩, ⟨⟨H_laws_heldRelationS, _, _, Q_laws_heldRelationS⟩, trivial⟩⟩⟩⟩⟩⟩⟩) mixT Q_laws_FnExactCoreTemplate.1 Q_laws_FnExactCoreTemplate.2.2 (loops_of W_laws_FnExactCoreTemplate trivial) (enc := N_laws_FnExactCoreTemplate) (fun _ _ => ⟨rfl, rfl⟩) F_laws_FnExactCoreTemplate
end T
