/- Each typed function is what the program computes; no conditions. -/
import Derived.Test.YtgalokklfmmceaaCFnExactRaiseSteps
set_option linter.all false
set_option maxRecDepth 10000
open Go Go.Va Go.Proofs
namespace T

theorem F_laws_szIntS (a : dens E_laws_szIntS.params) : E_laws_szIntS.run a = funK C_laws_szIntS Try.f68 E_laws_szIntS.params E_laws_szIntS.results a (fun o r => some (N_laws_szIntS o r)) := by
  kernel_rfl
theorem W_laws_szIntS : loopsOf D_laws_szIntS = [] := by kernel_rfl
theorem Q_laws_szIntS : Try.prog.funcs[68]? = some Try.f68 ∧ (Try.f68.name == "runtime.NumGoroutine") = false ∧ Try.f68.body = some D_laws_szIntS := ⟨Try.func68, by kernel_rfl, by kernel_rfl⟩
theorem H_laws_szIntS : Holds Try.prog 68 E_laws_szIntS :=
  holds_of (cx := C_laws_szIntS) (tabOk_ok tabT rfl).1 (allT_ok trivial) mixT Q_laws_szIntS.1 Q_laws_szIntS.2.2 (loops_of W_laws_szIntS trivial) (enc := N_laws_szIntS) (fun _ _ => ⟨rfl, rfl⟩) F_laws_szIntS

theorem K_laws_szIntSS_L5 (n : Nat) (x : (List (List Int)) × Int × Int) : laws_szIntSS_L5 (n + 1) x = roundK C_laws_szIntSS B_laws_szIntSS_L5 (S_laws_szIntSS_L5 fuel) x (laws_szIntSS_L5 n) := by
  obtain ⟨a, left, i⟩ := x
  kernel_rfl
theorem F_laws_szIntSS (a : dens E_laws_szIntSS.params) : E_laws_szIntSS.run a = funK C_laws_szIntSS Try.f87 E_laws_szIntSS.params E_laws_szIntSS.results a (fun o r => some (N_laws_szIntSS o r)) := by
  kernel_rfl
theorem W_laws_szIntSS : loopsOf D_laws_szIntSS = [B_laws_szIntSS_L5] := by kernel_rfl
theorem R_laws_szIntSS_L5 : firstReg B_laws_szIntSS_L5 = 5 := by kernel_rfl
theorem Q_laws_szIntSS : Try.prog.funcs[87]? = some Try.f87 ∧ (Try.f87.name == "runtime.NumGoroutine") = false ∧ Try.f87.body = some D_laws_szIntSS := ⟨Try.func87, by kernel_rfl, by kernel_rfl⟩
theorem H_laws_szIntSS : Holds Try.prog 87 E_laws_szIntSS :=
  holds_of (cx := C_laws_szIntSS) (tabOk_ok tabT rfl).1 (allT_ok ⟨⟨H_laws_szIntS, _, _, Q_laws_szIntS⟩, trivial⟩) mixT Q_laws_szIntSS.1 Q_laws_szIntSS.2.2 (loops_of W_laws_szIntSS ⟨loop_of (cx := C_laws_szIntSS) (L := S_laws_szIntSS_L5 fuel) rfl (by rw [R_laws_szIntSS_L5]; rfl) ⟨laws_szIntSS_L5, fun _ => rfl, fun n x => K_laws_szIntSS_L5 n x, fuel, fun _ => rfl⟩, trivial⟩) (enc := N_laws_szIntSS) (fun _ _ => ⟨rfl, rfl⟩) F_laws_szIntSS

theorem F_laws_szRelation (a : dens E_laws_szRelation.params) : E_laws_szRelation.run a = funK C_laws_szRelation Try.f69 E_laws_szRelation.params E_laws_szRelation.results a (fun o r => some (N_laws_szRelation o r)) := by
  kernel_rfl
theorem W_laws_szRelation : loopsOf D_laws_szRelation = [] := by kernel_rfl
theorem Q_laws_szRelation : Try.prog.funcs[69]? = some Try.f69 ∧ (Try.f69.name == "runtime.NumGoroutine") = false ∧ Try.f69.body = some D_laws_szRelation := ⟨Try.func69, by kernel_rfl, by kernel_rfl⟩
theorem H_laws_szRelation : Holds Try.prog 69 E_laws_szRelation :=
  holds_of (cx := C_laws_szRelation) (tabOk_ok tabT rfl).1 (allT_ok ⟨⟨H_laws_szIntSS, _, _, Q_laws_szIntSS⟩, trivial⟩) mixT Q_laws_szRelation.1 Q_laws_szRelation.2.2 (loops_of W_laws_szRelation trivial) (enc := N_laws_szRelation) (fun _ _ => ⟨rfl, rfl⟩) F_laws_szRelation

theorem F_laws_szConstraint (a : dens E_laws_szConstraint.params) : E_laws_szConstraint.run a = funK C_laws_szConstraint Try.f52 E_laws_szConstraint.params E_laws_szConstraint.results a (fun o r => some (N_laws_szConstraint o r)) := by
  kernel_rfl
theorem W_laws_szConstraint : loopsOf D_laws_szConstraint = [] := by kernel_rfl
theorem Q_laws_szConstraint : Try.prog.funcs[52]? = some Try.f52 ∧ (Try.f52.name == "runtime.NumGoroutine") = false ∧ Try.f52.body = some D_laws_szConstraint := ⟨Try.func52, by kernel_rfl, by kernel_rfl⟩
theorem H_laws_szConstraint : Holds Try.prog 52 E_laws_szConstraint :=
  holds_of (cx := C_laws_szConstraint) (tabOk_ok tabT rfl).1 (allT_ok ⟨⟨H_laws_szIntS, _, _, Q_laws_szIntS⟩, ⟨⟨H_laws_szRelation, _, _, Q_laws_szRelation⟩, trivial⟩⟩) mixT Q_laws_szConstraint.1 Q_laws_szConstraint.2.2 (loops_of W_laws_szConstraint trivial) (enc := N_laws_szConstraint) (fun _ _ => ⟨rfl, rfl⟩) F_laws_szConstraint

theorem K_laws_szConstraintS_L5 (n : Nat) (x : (List ((List Int) × Int × (List (List Int)))) × Int × Int) : laws_szConstraintS_L5 (n + 1) x = roundK C_laws_szConstraintS B_laws_szConstraintS_L5 (S_laws_szConstraintS_L5 fuel) x (laws_szConstraintS_L5 n) := by
  obtain ⟨a, left, i⟩ := x
  kernel_rfl
theorem F_laws_szConstraintS (a : dens E_laws_szConstraintS.params) : E_laws_szConstraintS.run a = funK C_laws_szConstraintS Try.f39 E_laws_szConstraintS.params E_laws_szConstraintS.results a (fun o r => some (N_laws_szConstraintS o r)) := by
  kernel_rfl
theorem W_laws_szConstraintS : loopsOf D_laws_szConstraintS = [B_laws_szConstraintS_L5] := by kernel_rfl
theorem R_laws_szConstraintS_L5 : firstReg B_laws_szConstraintS_L5 = 5 := by kernel_rfl
theorem Q_laws_szConstraintS : Try.prog.funcs[39]? = some Try.f39 ∧ (Try.f39.name == "runtime.NumGoroutine") = false ∧ Try.f39.body = some D_laws_szConstraintS := ⟨Try.func39, by kernel_rfl, by kernel_rfl⟩
theorem H_laws_szConstraintS : Holds Try.prog 39 E_laws_szConstraintS :=
  holds_of (cx := C_laws_szConstraintS) (tabOk_ok tabT rfl).1 (allT_ok ⟨⟨H_laws_szConstraint, _, _, Q_laws_szConstraint⟩, trivial⟩) mixT Q_laws_szConstraintS.1 Q_laws_szConstraintS.2.2 (loops_of W_laws_szConstraintS ⟨loop_of (cx := C_laws_szConstraintS) (L := S_laws_szConstraintS_L5 fuel) rfl (by rw [R_laws_szConstraintS_L5]; rfl) ⟨laws_szConstraintS_L5, fun _ => rfl, fun n x => K_laws_szConstraintS_L5 n x, fuel, fun _ => rfl⟩, trivial⟩) (enc := N_laws_szConstraintS) (fun _ _ => ⟨rfl, rfl⟩) F_laws_szConstraintS

theorem F_laws_szNetwork (a : dens E_laws_szNetwork.params) : E_laws_szNetwork.run a = funK C_laws_szNetwork Try.f14 E_laws_szNetwork.params E_laws_szNetwork.results a (fun o r => some (N_laws_szNetwork o r)) := by
  kernel_rfl
theorem W_laws_szNetwork : loopsOf D_laws_szNetwork = [] := by kernel_rfl
theorem Q_laws_szNetwork : Try.prog.funcs[14]? = some Try.f14 ∧ (Try.f14.name == "runtime.NumGoroutine") = false ∧ Try.f14.body = some D_laws_szNetwork := ⟨Try.func14, by kernel_rfl, by kernel_rfl⟩
theorem H_laws_szNetwork : Holds Try.prog 14 E_laws_szNetwork :=
  holds_of (cx := C_laws_szNetwork) (tabOk_ok tabT rfl).1 (allT_ok ⟨⟨H_laws_szConstraintS, _, _, Q_laws_szConstraintS⟩, trivial⟩) mixT Q_laws_szNetwork.1 Q_laws_szNetwork.2.2 (loops_of W_laws_szNetwork trivial) (enc := N_laws_szNetwork) (fun _ _ => ⟨rfl, rfl⟩) F_laws_szNetwork

theorem K_laws_toIntS_L3 (n : Nat) (x : (List Int) × (List Int) × Int) : laws_toIntS_L3 (n + 1) x = roundK C_laws_toIntS B_laws_toIntS_L3 (S_laws_toIntS_L3 fuel) x (laws_toIntS_L3 n) := by
  obtain ⟨a, out, i⟩ := x
  kernel_rfl
theorem F_laws_toIntS (a : dens E_laws_toIntS.params) : E_laws_toIntS.run a = funK C_laws_toIntS Try.f71 E_laws_toIntS.params E_laws_toIntS.results a (fun o r => some (N_laws_toIntS o r)) := by
  kernel_rfl
theorem W_laws_toIntS : loopsOf D_laws_toIntS = [B_laws_toIntS_L3] := by kernel_rfl
theorem R_laws_toIntS_L3 : firstReg B_laws_toIntS_L3 = 3 := by kernel_rfl
theorem Q_laws_toIntS : Try.prog.funcs[71]? = some Try.f71 ∧ (Try.f71.name == "runtime.NumGoroutine") = false ∧ Try.f71.body = some D_laws_toIntS := ⟨Try.func71, by kernel_rfl, by kernel_rfl⟩
theorem H_laws_toIntS : Holds Try.prog 71 E_laws_toIntS :=
  holds_of (cx := C_laws_toIntS) (tabOk_ok tabT rfl).1 (allT_ok trivial) mixT Q_laws_toIntS.1 Q_laws_toIntS.2.2 (loops_of W_laws_toIntS ⟨loop_of (cx := C_laws_toIntS) (L := S_laws_toIntS_L3 fuel) rfl (by rw [R_laws_toIntS_L3]; rfl) ⟨laws_toIntS_L3, fun _ => rfl, fun n x => K_laws_toIntS_L3 n x, fuel, fun _ => rfl⟩, trivial⟩) (enc := N_laws_toIntS) (fun _ _ => ⟨rfl, rfl⟩) F_laws_toIntS

theorem K_laws_toIntSS_L3 (n : Nat) (x : (List (List Int)) × (List (List Int)) × Int) : laws_toIntSS_L3 (n + 1) x = roundK C_laws_toIntSS B_laws_toIntSS_L3 (S_laws_toIntSS_L3 fuel) x (laws_toIntSS_L3 n) := by
  obtain ⟨a, out, i⟩ := x
  kernel_rfl
theorem F_laws_toIntSS (a : dens E_laws_toIntSS.params) : E_laws_toIntSS.run a = funK C_laws_toIntSS Try.f90 E_laws_toIntSS.params E_laws_toIntSS.results a (fun o r => some (N_laws_toIntSS o r)) := by
  kernel_rfl
theorem W_laws_toIntSS : loopsOf D_laws_toIntSS = [B_laws_toIntSS_L3] := by kernel_rfl
theorem R_laws_toIntSS_L3 : firstReg B_laws_toIntSS_L3 = 3 := by kernel_rfl
theorem Q_laws_toIntSS : Try.prog.funcs[90]? = some Try.f90 ∧ (Try.f90.name == "runtime.NumGoroutine") = false ∧ Try.f90.body = some D_laws_toIntSS := ⟨Try.func90, by kernel_rfl, by kernel_rfl⟩
theorem H_laws_toIntSS : Holds Try.prog 90 E_laws_toIntSS :=
  holds_of (cx := C_laws_toIntSS) (tabOk_ok tabT rfl).1 (allT_ok ⟨⟨H_laws_toIntS, _, _, Q_laws_toIntS⟩, trivial⟩) mixT Q_laws_toIntSS.1 Q_laws_toIntSS.2.2 (loops_of W_laws_toIntSS ⟨loop_of (cx := C_laws_toIntSS) (L := S_laws_toIntSS_L3 fuel) rfl (by rw [R_laws_toIntSS_L3]; rfl) ⟨laws_toIntSS_L3, fun _ => rfl, fun n x => K_laws_toIntSS_L3 n x, fuel, fun _ => rfl⟩, trivial⟩) (enc := N_laws_toIntSS) (fun _ _ => ⟨rfl, rfl⟩) F_laws_toIntSS

theorem F_laws_toRelation (a : dens E_laws_toRelation.params) : E_laws_toRelation.run a = funK C_laws_toRelation Try.f72 E_laws_toRelation.params E_laws_toRelation.results a (fun o r => some (N_laws_toRelation o r)) := by
  kernel_rfl
theorem W_laws_toRelation : loopsOf D_laws_toRelation = [] := by kernel_rfl
theorem Q_laws_toRelation : Try.prog.funcs[72]? = some Try.f72 ∧ (Try.f72.name == "runtime.NumGoroutine") = false ∧ Try.f72.body = some D_laws_toRelation := ⟨Try.func72, by kernel_rfl, by kernel_rfl⟩
theorem H_laws_toRelation : Holds Try.prog 72 E_laws_toRelation :=
  holds_of (cx := C_laws_toRelation) (tabOk_ok tabT rfl).1 (allT_ok ⟨⟨H_laws_toIntSS, _, _, Q_laws_toIntSS⟩, trivial⟩) mixT Q_laws_toRelation.1 Q_laws_toRelation.2.2 (loops_of W_laws_toRelation trivial) (enc := N_laws_toRelation) (fun _ _ => ⟨rfl, rfl⟩) F_laws_toRelation

theorem F_laws_toConstraint (a : dens E_laws_toConstraint.params) : E_laws_toConstraint.run a = funK C_laws_toConstraint Try.f54 E_laws_toConstraint.params E_laws_toConstraint.results a (fun o r => some (N_laws_toConstraint o r)) := by
  kernel_rfl
theorem W_laws_toConstraint : loopsOf D_laws_toConstraint = [] := by kernel_rfl
theorem Q_laws_toConstraint : Try.prog.funcs[54]? = some Try.f54 ∧ (Try.f54.name == "runtime.NumGoroutine") = false ∧ Try.f54.body = some D_laws_toConstraint := ⟨Try.func54, by kernel_rfl, by kernel_rfl⟩
theorem H_laws_toConstraint : Holds Try.prog 54 E_laws_toConstraint :=
  holds_of (cx := C_laws_toConstraint) (tabOk_ok tabT rfl).1 (allT_ok ⟨⟨H_laws_toIntS, _, _, Q_laws_toIntS⟩, ⟨⟨H_laws_toRelation, _, _, Q_laws_toRelation⟩, trivial⟩⟩) mixT Q_laws_toConstraint.1 Q_laws_toConstraint.2.2 (loops_of W_laws_toConstraint trivial) (enc := N_laws_toConstraint) (fun _ _ => ⟨rfl, rfl⟩) F_laws_toConstraint

theorem K_laws_toConstraintS_L3 (n : Nat) (x : (List ((List Int) × Int × (List (List Int)))) × (List ((List Int) × Int × (List (List Int)))) × Int) : laws_toConstraintS_L3 (n + 1) x = roundK C_laws_toConstraintS B_laws_toConstraintS_L3 (S_laws_toConstraintS_L3 fuel) x (laws_toConstraintS_L3 n) := by
  obtain ⟨a, out, i⟩ := x
  kernel_rfl
theorem F_laws_toConstraintS (a : dens E_laws_toConstraintS.params) : E_laws_toConstraintS.run a = funK C_laws_toConstraintS Try.f42 E_laws_toConstraintS.params E_laws_toConstraintS.results a (fun o r => some (N_laws_toConstraintS o r)) := by
  kernel_rfl
theorem W_laws_toConstraintS : loopsOf D_laws_toConstraintS = [B_laws_toConstraintS_L3] := by kernel_rfl
theorem R_laws_toConstraintS_L3 : firstReg B_laws_toConstraintS_L3 = 3 := by kernel_rfl
theorem Q_laws_toConstraintS : Try.prog.funcs[42]? = some Try.f42 ∧ (Try.f42.name == "runtime.NumGoroutine") = false ∧ Try.f42.body = some D_laws_toConstraintS := ⟨Try.func42, by kernel_rfl, by kernel_rfl⟩
theorem H_laws_toConstraintS : Holds Try.prog 42 E_laws_toConstraintS :=
  holds_of (cx := C_laws_toConstraintS) (tabOk_ok tabT rfl).1 (allT_ok ⟨⟨H_laws_toConstraint, _, _, Q_laws_toConstraint⟩, trivial⟩) mixT Q_laws_toConstraintS.1 Q_laws_toConstraintS.2.2 (loops_of W_laws_toConstraintS ⟨loop_of (cx := C_laws_toConstraintS) (L := S_laws_toConstraintS_L3 fuel) rfl (by rw [R_laws_toConstraintS_L3]; rfl) ⟨laws_toConstraintS_L3, fun _ => rfl, fun n x => K_laws_toConstraintS_L3 n x, fuel, fun _ => rfl⟩, trivial⟩) (enc := N_laws_toConstraintS) (fun _ _ => ⟨rfl, rfl⟩) F_laws_toConstraintS

theorem F_laws_toNetwork (a : dens E_laws_toNetwork.params) : E_laws_toNetwork.run a = funK C_laws_toNetwork Try.f16 E_laws_toNetwork.params E_laws_toNetwork.results a (fun o r => some (N_laws_toNetwork o r)) := by
  kernel_rfl
theorem W_laws_toNetwork : loopsOf D_laws_toNetwork = [] := by kernel_rfl
theorem Q_laws_toNetwork : Try.prog.funcs[16]? = some Try.f16 ∧ (Try.f16.name == "runtime.NumGoroutine") = false ∧ Try.f16.body = some D_laws_toNetwork := ⟨Try.func16, by kernel_rfl, by kernel_rfl⟩
theorem H_laws_toNetwork : Holds Try.prog 16 E_laws_toNetwork :=
  holds_of (cx := C_laws_toNetwork) (tabOk_ok tabT rfl).1 (allT_ok ⟨⟨H_laws_toConstraintS, _, _, Q_laws_toConstraintS⟩, trivial⟩) mixT Q_laws_toNetwork.1 Q_laws_toNetwork.2.2 (loops_of W_laws_toNetwork trivial) (enc := N_laws_toNetwork) (fun _ _ => ⟨rfl, rfl⟩) F_laws_toNetwork

theorem F_spec_l1In (a : dens E_spec_l1In.params) : E_spec_l1In.run a = funK C_spec_l1In Try.f51 E_spec_l1In.params E_spec_l1In.results a (fun o r => some (N_spec_l1In o r)) := by
  kernel_rfl
theorem W_spec_l1In : loopsOf D_spec_l1In = [] := by kernel_rfl
theorem Q_spec_l1In : Try.prog.funcs[51]? = some Try.f51 ∧ (Try.f51.name == "runtime.NumGoroutine") = false ∧ Try.f51.body = some D_spec_l1In := ⟨Try.func51, by kernel_rfl, by kernel_rfl⟩
theorem H_spec_l1In : Holds Try.prog 51 E_spec_l1In :=
  holds_of (cx := C_spec_l1In) (tabOk_ok tabT rfl).1 (allT_ok trivial) mixT Q_spec_l1In.1 Q_spec_l1In.2.2 (loops_of W_spec_l1In trivial) (enc := N_spec_l1In) (fun _ _ => ⟨rfl, rfl⟩) F_spec_l1In

theorem K_spec_l2Pow_L2 (n : Nat) (x : Int × Int × Int) : spec_l2Pow_L2 (n + 1) x = roundK C_spec_l2Pow B_spec_l2Pow_L2 (S_spec_l2Pow_L2 fuel) x (spec_l2Pow_L2 n) := by
  obtain ⟨n_, k, out⟩ := x
  kernel_rfl
theorem F_spec_l2Pow (a : dens E_spec_l2Pow.params) : E_spec_l2Pow.run a = funK C_spec_l2Pow Try.f99 E_spec_l2Pow.params E_spec_l2Pow.results a (fun o r => some (N_spec_l2Pow o r)) := by
  kernel_rfl
theorem W_spec_l2Pow : loopsOf D_spec_l2Pow = [B_spec_l2Pow_L2] := by kernel_rfl
theorem R_spec_l2Pow_L2 : firstReg B_spec_l2Pow_L2 = 2 := by kernel_rfl
theorem Q_spec_l2Pow : Try.prog.funcs[99]? = some Try.f99 ∧ (Try.f99.name == "runtime.NumGoroutine") = false ∧ Try.f99.body = some D_spec_l2Pow := ⟨Try.func99, by kernel_rfl, by kernel_rfl⟩
theorem H_spec_l2Pow : Holds Try.prog 99 E_spec_l2Pow :=
  holds_of (cx := C_spec_l2Pow) (tabOk_ok tabT rfl).1 (allT_ok trivial) mixT Q_spec_l2Pow.1 Q_spec_l2Pow.2.2 (loops_of W_spec_l2Pow ⟨loop_of (cx := C_spec_l2Pow) (L := S_spec_l2Pow_L2 fuel) rfl (by rw [R_spec_l2Pow_L2]; rfl) ⟨spec_l2Pow_L2, fun _ => rfl, fun n x => K_spec_l2Pow_L2 n x, fuel, fun _ => rfl⟩, trivial⟩) (enc := N_spec_l2Pow) (fun _ _ => ⟨rfl, rfl⟩) F_spec_l2Pow

theorem K_spec_l2Elements_L2 (n : Nat) (x : Int × (List Int) × Int) : spec_l2Elements_L2 (n + 1) x = roundK C_spec_l2Elements B_spec_l2Elements_L2 (S_spec_l2Elements_L2 fuel) x (spec_l2Elements_L2 n) := by
  obtain ⟨n_, list, i⟩ := x
  kernel_rfl
theorem F_spec_l2Elements (a : dens E_spec_l2Elements.params) : E_spec_l2Elements.run a = funK C_spec_l2Elements Try.f89 E_spec_l2Elements.params E_spec_l2Elements.results a (fun o r => some (N_spec_l2Elements o r)) := by
  kernel_rfl
theorem W_spec_l2Elements : loopsOf D_spec_l2Elements = [B_spec_l2Elements_L2] := by kernel_rfl
theorem R_spec_l2Elements_L2 : firstReg B_spec_l2Elements_L2 = 2 := by kernel_rfl
theorem Q_spec_l2Elements : Try.prog.funcs[89]? = some Try.f89 ∧ (Try.f89.name == "runtime.NumGoroutine") = false ∧ Try.f89.body = some D_spec_l2Elements := ⟨Try.func89, by kernel_rfl, by kernel_rfl⟩
theorem H_spec_l2Elements : Holds Try.prog 89 E_spec_l2Elements :=
  holds_of (cx := C_spec_l2Elements) (tabOk_ok tabT rfl).1 (allT_ok ⟨⟨H_spec_l1In, _, _, Q_spec_l1In⟩, trivial⟩) mixT Q_spec_l2Elements.1 Q_spec_l2Elements.2.2 (loops_of W_spec_l2Elements ⟨loop_of (cx := C_spec_l2Elements) (L := S_spec_l2Elements_L2 fuel) rfl (by rw [R_spec_l2Elements_L2]; rfl) ⟨spec_l2Elements_L2, fun _ => rfl, fun n x => K_spec_l2Elements_L2 n x, fuel, fun _ => rfl⟩, trivial⟩) (enc := N_spec_l2Elements) (fun _ _ => ⟨rfl, rfl⟩) F_spec_l2Elements

theorem F_spec_l8Tuple (a : dens E_spec_l8Tuple.params) : E_spec_l8Tuple.run a = funK C_spec_l8Tuple Try.f100 E_spec_l8Tuple.params E_spec_l8Tuple.results a (fun o r => some (N_spec_l8Tuple o r)) := by
  kernel_rfl
theorem W_spec_l8Tuple : loopsOf D_spec_l8Tuple = [] := by kernel_rfl
theorem Q_spec_l8Tuple : Try.prog.funcs[100]? = some Try.f100 ∧ (Try.f100.name == "runtime.NumGoroutine") = false ∧ Try.f100.body = some D_spec_l8Tuple := ⟨Try.func100, by kernel_rfl, by kernel_rfl⟩
theorem H_spec_l8Tuple : Holds Try.prog 100 E_spec_l8Tuple :=
  holds_of (cx := C_spec_l8Tuple) (tabOk_ok tabT rfl).1 (allT_ok ⟨⟨H_spec_l2Elements, _, _, Q_spec_l2Elements⟩, trivial⟩) mixT Q_spec_l8Tuple.1 Q_spec_l8Tuple.2.2 (loops_of W_spec_l8Tuple trivial) (enc := N_spec_l8Tuple) (fun _ _ => ⟨rfl, rfl⟩) F_spec_l8Tuple

theorem K_spec_l3Less_L2 (n : Nat) (x : (List Int) × (List Int) × Int) : spec_l3Less_L2 (n + 1) x = roundK C_spec_l3Less B_spec_l3Less_L2 (S_spec_l3Less_L2 fuel) x (spec_l3Less_L2 n) := by
  obtain ⟨a, b, i⟩ := x
  kernel_rfl
theorem F_spec_l3Less (a : dens E_spec_l3Less.params) : E_spec_l3Less.run a = funK C_spec_l3Less Try.f101 E_spec_l3Less.params E_spec_l3Less.results a (fun o r => some (N_spec_l3Less o r)) := by
  kernel_rfl
theorem W_spec_l3Less : loopsOf D_spec_l3Less = [B_spec_l3Less_L2] := by kernel_rfl
theorem R_spec_l3Less_L2 : firstReg B_spec_l3Less_L2 = 2 := by kernel_rfl
theorem Q_spec_l3Less : Try.prog.funcs[101]? = some Try.f101 ∧ (Try.f101.name == "runtime.NumGoroutine") = false ∧ Try.f101.body = some D_spec_l3Less := ⟨Try.func101, by kernel_rfl, by kernel_rfl⟩
theorem H_spec_l3Less : Holds Try.prog 101 E_spec_l3Less :=
  holds_of (cx := C_spec_l3Less) (tabOk_ok tabT rfl).1 (allT_ok trivial) mixT Q_spec_l3Less.1 Q_spec_l3Less.2.2 (loops_of W_spec_l3Less ⟨loop_of (cx := C_spec_l3Less) (L := S_spec_l3Less_L2 fuel) rfl (by rw [R_spec_l3Less_L2]; rfl) ⟨spec_l3Less_L2, fun _ => rfl, fun n x => K_spec_l3Less_L2 n x, fuel, fun _ => rfl⟩, trivial⟩) (enc := N_spec_l3Less) (fun _ _ => ⟨rfl, rfl⟩) F_spec_l3Less

theorem K_spec_l13Good_L4 (n : Nat) (x : Int × (Int × (List (List Int))) × Int) : spec_l13Good_L4 (n + 1) x = roundK C_spec_l13Good B_spec_l13Good_L4 (S_spec_l13Good_L4 fuel) x (spec_l13Good_L4 n) := by
  obtain ⟨n_, r, i⟩ := x
  kernel_rfl
theorem F_spec_l13Good (a : dens E_spec_l13Good.params) : E_spec_l13Good.run a = funK C_spec_l13Good Try.f88 E_spec_l13Good.params E_spec_l13Good.results a (fun o r => some (N_spec_l13Good o r)) := by
  kernel_rfl
theorem W_spec_l13Good : loopsOf D_spec_l13Good = [B_spec_l13Good_L4] := by kernel_rfl
theorem R_spec_l13Good_L4 : firstReg B_spec_l13Good_L4 = 4 := by kernel_rfl
theorem Q_spec_l13Good : Try.prog.funcs[88]? = some Try.f88 ∧ (Try.f88.name == "runtime.NumGoroutine") = false ∧ Try.f88.body = some D_spec_l13Good := ⟨Try.func88, by kernel_rfl, by kernel_rfl⟩
theorem H_spec_l13Good : Holds Try.prog 88 E_spec_l13Good :=
  holds_of (cx := C_spec_l13Good) (tabOk_ok tabT rfl).1 (allT_ok ⟨⟨H_spec_l1In, _, _, Q_spec_l1In⟩, ⟨⟨H_spec_l2Pow, _, _, Q_spec_l2Pow⟩, ⟨⟨H_spec_l8Tuple, _, _, Q_spec_l8Tuple⟩, ⟨⟨H_spec_l3Less, _, _, Q_spec_l3Less⟩, trivial⟩⟩⟩⟩) mixT Q_spec_l13Good.1 Q_spec_l13Good.2.2 (loops_of W_spec_l13Good ⟨loop_of (cx := C_spec_l13Good) (L := S_spec_l13Good_L4 fuel) rfl (by rw [R_spec_l13Good_L4]; rfl) ⟨spec_l13Good_L4, fun _ => rfl, fun n x => K_spec_l13Good_L4 n x, fuel, fun _ => rfl⟩, trivial⟩) (enc := N_spec_l13Good) (fun _ _ => ⟨rfl, rfl⟩) F_spec_l13Good

theorem F_spec_l19Is (a : dens E_spec_l19Is.params) : E_spec_l19Is.run a = funK C_spec_l19Is Try.f70 E_spec_l19Is.params E_spec_l19Is.results a (fun o r => some (N_spec_l19Is o r)) := by
  kernel_rfl
theorem W_spec_l19Is : loopsOf D_spec_l19Is = [] := by kernel_rfl
theorem Q_spec_l19Is : Try.prog.funcs[70]? = some Try.f70 ∧ (Try.f70.name == "runtime.NumGoroutine") = false ∧ Try.f70.body = some D_spec_l19Is := ⟨Try.func70, by kernel_rfl, by kernel_rfl⟩
theorem H_spec_l19Is : Holds Try.prog 70 E_spec_l19Is :=
  holds_of (cx := C_spec_l19Is) (tabOk_ok tabT rfl).1 (allT_ok ⟨⟨H_spec_l13Good, _, _, Q_spec_l13Good⟩, ⟨⟨H_spec_l2Elements, _, _, Q_spec_l2Elements⟩, trivial⟩⟩) mixT Q_spec_l19Is.1 Q_spec_l19Is.2.2 (loops_of W_spec_l19Is trivial) (enc := N_spec_l19Is) (fun _ _ => ⟨rfl, rfl⟩) F_spec_l19Is

theorem K_spec_l19Good_L4 (n : Nat) (x : (Int × Int × (List ((List Int) × Int × (List (List Int))))) × Int) : spec_l19Good_L4 (n + 1) x = roundK C_spec_l19Good B_spec_l19Good_L4 (S_spec_l19Good_L4 fuel) x (spec_l19Good_L4 n) := by
  obtain ⟨net, i⟩ := x
  kernel_rfl
theorem F_spec_l19Good (a : dens E_spec_l19Good.params) : E_spec_l19Good.run a = funK C_spec_l19Good Try.f53 E_spec_l19Good.params E_spec_l19Good.results a (fun o r => some (N_spec_l19Good o r)) := by
  kernel_rfl
theorem W_spec_l19Good : loopsOf D_spec_l19Good = [B_spec_l19Good_L4] := by kernel_rfl
theorem R_spec_l19Good_L4 : firstReg B_spec_l19Good_L4 = 4 := by kernel_rfl
theorem Q_spec_l19Good : Try.prog.funcs[53]? = some Try.f53 ∧ (Try.f53.name == "runtime.NumGoroutine") = false ∧ Try.f53.body = some D_spec_l19Good := ⟨Try.func53, by kernel_rfl, by kernel_rfl⟩
theorem H_spec_l19Good : Holds Try.prog 53 E_spec_l19Good :=
  holds_of (cx := C_spec_l19Good) (tabOk_ok tabT rfl).1 (allT_ok ⟨⟨H_spec_l1In, _, _, Q_spec_l1In⟩, ⟨⟨H_spec_l19Is, _, _, Q_spec_l19Is⟩, trivial⟩⟩) mixT Q_spec_l19Good.1 Q_spec_l19Good.2.2 (loops_of W_spec_l19Good ⟨loop_of (cx := C_spec_l19Good) (L := S_spec_l19Good_L4 fuel) rfl (by rw [R_spec_l19Good_L4]; rfl) ⟨spec_l19Good_L4, fun _ => rfl, fun n x => K_spec_l19Good_L4 n x, fuel, fun _ => rfl⟩, trivial⟩) (enc := N_spec_l19Good) (fun _ _ => ⟨rfl, rfl⟩) F_spec_l19Good

theorem F_spec_l22Good (a : dens E_spec_l22Good.params) : E_spec_l22Good.run a = funK C_spec_l22Good Try.f40 E_spec_l22Good.params E_spec_l22Good.results a (fun o r => some (N_spec_l22Good o r)) := by
  kernel_rfl
theorem W_spec_l22Good : loopsOf D_spec_l22Good = [] := by kernel_rfl
theorem Q_spec_l22Good : Try.prog.funcs[40]? = some Try.f40 ∧ (Try.f40.name == "runtime.NumGoroutine") = false ∧ Try.f40.body = some D_spec_l22Good := ⟨Try.func40, by kernel_rfl, by kernel_rfl⟩
theorem H_spec_l22Good : Holds Try.prog 40 E_spec_l22Good :=
  holds_of (cx := C_spec_l22Good) (tabOk_ok tabT rfl).1 (allT_ok ⟨⟨H_spec_l19Good, _, _, Q_spec_l19Good⟩, trivial⟩) mixT Q_spec_l22Good.1 Q_spec_l22Good.2.2 (loops_of W_spec_l22Good trivial) (enc := N_spec_l22Good) (fun _ _ => ⟨rfl, rfl⟩) F_spec_l22Good

theorem K_spec_l1Same_L4 (n : Nat) (x : (List Int) × (List Int) × Int) : spec_l1Same_L4 (n + 1) x = roundK C_spec_l1Same B_spec_l1Same_L4 (S_spec_l1Same_L4 fuel) x (spec_l1Same_L4 n) := by
  obtain ⟨a, b, i⟩ := x
  kernel_rfl
theorem F_spec_l1Same (a : dens E_spec_l1Same.params) : E_spec_l1Same.run a = funK C_spec_l1Same Try.f103 E_spec_l1Same.params E_spec_l1Same.results a (fun o r => some (N_spec_l1Same o r)) := by
  kernel_rfl
theorem W_spec_l1Same : loopsOf D_spec_l1Same = [B_spec_l1Same_L4] := by kernel_rfl
theorem R_spec_l1Same_L4 : firstReg B_spec_l1Same_L4 = 4 := by kernel_rfl
theorem Q_spec_l1Same : Try.prog.funcs[103]? = some Try.f103 ∧ (Try.f103.name == "runtime.NumGoroutine") = false ∧ Try.f103.body = some D_spec_l1Same := ⟨Try.func103, by kernel_rfl, by kernel_rfl⟩
theorem H_spec_l1Same : Holds Try.prog 103 E_spec_l1Same :=
  holds_of (cx := C_spec_l1Same) (tabOk_ok tabT rfl).1 (allT_ok trivial) mixT Q_spec_l1Same.1 Q_spec_l1Same.2.2 (loops_of W_spec_l1Same ⟨loop_of (cx := C_spec_l1Same) (L := S_spec_l1Same_L4 fuel) rfl (by rw [R_spec_l1Same_L4]; rfl) ⟨spec_l1Same_L4, fun _ => rfl, fun n x => K_spec_l1Same_L4 n x, fuel, fun _ => rfl⟩, trivial⟩) (enc := N_spec_l1Same) (fun _ _ => ⟨rfl, rfl⟩) F_spec_l1Same

theorem K_spec_l8Find_L2 (n : Nat) (x : (List (List Int)) × (List Int) × Int × Int) : spec_l8Find_L2 (n + 1) x = roundK C_spec_l8Find B_spec_l8Find_L2 (S_spec_l8Find_L2 fuel) x (spec_l8Find_L2 n) := by
  obtain ⟨list, t, from_, to⟩ := x
  kernel_rfl
theorem F_spec_l8Find (a : dens E_spec_l8Find.params) : E_spec_l8Find.run a = funK C_spec_l8Find Try.f97 E_spec_l8Find.params E_spec_l8Find.results a (fun o r => some (N_spec_l8Find o r)) := by
  kernel_rfl
theorem W_spec_l8Find : loopsOf D_spec_l8Find = [B_spec_l8Find_L2] := by kernel_rfl
theorem R_spec_l8Find_L2 : firstReg B_spec_l8Find_L2 = 2 := by kernel_rfl
theorem Q_spec_l8Find : Try.prog.funcs[97]? = some Try.f97 ∧ (Try.f97.name == "runtime.NumGoroutine") = false ∧ Try.f97.body = some D_spec_l8Find := ⟨Try.func97, by kernel_rfl, by kernel_rfl⟩
theorem H_spec_l8Find : Holds Try.prog 97 E_spec_l8Find :=
  holds_of (cx := C_spec_l8Find) (tabOk_ok tabT rfl).1 (allT_ok ⟨⟨H_spec_l3Less, _, _, Q_spec_l3Less⟩, ⟨⟨H_spec_l1Same, _, _, Q_spec_l1Same⟩, trivial⟩⟩) mixT Q_spec_l8Find.1 Q_spec_l8Find.2.2 (loops_of W_spec_l8Find ⟨loop_of (cx := C_spec_l8Find) (L := S_spec_l8Find_L2 fuel) rfl (by rw [R_spec_l8Find_L2]; rfl) ⟨spec_l8Find_L2, fun _ => rfl, fun n x => K_spec_l8Find_L2 n x, fuel, fun _ => rfl⟩, trivial⟩) (enc := N_spec_l8Find) (fun _ _ => ⟨rfl, rfl⟩) F_spec_l8Find

theorem F_spec_l13Has (a : dens E_spec_l13Has.params) : E_spec_l13Has.run a = funK C_spec_l13Has Try.f80 E_spec_l13Has.params E_spec_l13Has.results a (fun o r => some (N_spec_l13Has o r)) := by
  kernel_rfl
theorem W_spec_l13Has : loopsOf D_spec_l13Has = [] := by kernel_rfl
theorem Q_spec_l13Has : Try.prog.funcs[80]? = some Try.f80 ∧ (Try.f80.name == "runtime.NumGoroutine") = false ∧ Try.f80.body = some D_spec_l13Has := ⟨Try.func80, by kernel_rfl, by kernel_rfl⟩
theorem H_spec_l13Has : Holds Try.prog 80 E_spec_l13Has :=
  holds_of (cx := C_spec_l13Has) (tabOk_ok tabT rfl).1 (allT_ok ⟨⟨H_spec_l8Find, _, _, Q_spec_l8Find⟩, trivial⟩) mixT Q_spec_l13Has.1 Q_spec_l13Has.2.2 (loops_of W_spec_l13Has trivial) (enc := N_spec_l13Has) (fun _ _ => ⟨rfl, rfl⟩) F_spec_l13Has

theorem F_spec_l22Ops (a : dens E_spec_l22Ops.params) : E_spec_l22Ops.run a = funK C_spec_l22Ops Try.f82 E_spec_l22Ops.params E_spec_l22Ops.results a (fun o r => some (N_spec_l22Ops o r)) := by
  kernel_rfl
theorem W_spec_l22Ops : loopsOf D_spec_l22Ops = [] := by kernel_rfl
theorem Q_spec_l22Ops : Try.prog.funcs[82]? = some Try.f82 ∧ (Try.f82.name == "runtime.NumGoroutine") = false ∧ Try.f82.body = some D_spec_l22Ops := ⟨Try.func82, by kernel_rfl, by kernel_rfl⟩
theorem H_spec_l22Ops : Holds Try.prog 82 E_spec_l22Ops :=
  holds_of (cx := C_spec_l22Ops) (tabOk_ok tabT rfl).1 (allT_ok trivial) mixT Q_spec_l22Ops.1 Q_spec_l22Ops.2.2 (loops_of W_spec_l22Ops trivial) (enc := N_spec_l22Ops) (fun _ _ => ⟨rfl, rfl⟩) F_spec_l22Ops

theorem K_spec_l8Choose_L3 (n : Nat) (x : (List (List Int)) × (List Int) × (List (List Int)) × Int) : spec_l8Choose_L3 (n + 1) x = roundK C_spec_l8Choose B_spec_l8Choose_L3 (S_spec_l8Choose_L3 fuel) x (spec_l8Choose_L3 n) := by
  obtain ⟨line, numbers, out, i⟩ := x
  kernel_rfl
theorem F_spec_l8Choose (a : dens E_spec_l8Choose.params) : E_spec_l8Choose.run a = funK C_spec_l8Choose Try.f105 E_spec_l8Choose.params E_spec_l8Choose.results a (fun o r => some (N_spec_l8Choose o r)) := by
  kernel_rfl
theorem W_spec_l8Choose : loopsOf D_spec_l8Choose = [B_spec_l8Choose_L3] := by kernel_rfl
theorem R_spec_l8Choose_L3 : firstReg B_spec_l8Choose_L3 = 3 := by kernel_rfl
theorem Q_spec_l8Choose : Try.prog.funcs[105]? = some Try.f105 ∧ (Try.f105.name == "runtime.NumGoroutine") = false ∧ Try.f105.body = some D_spec_l8Choose := ⟨Try.func105, by kernel_rfl, by kernel_rfl⟩
theorem H_spec_l8Choose : Holds Try.prog 105 E_spec_l8Choose :=
  holds_of (cx := C_spec_l8Choose) (tabOk_ok tabT rfl).1 (allT_ok trivial) mixT Q_spec_l8Choose.1 Q_spec_l8Choose.2.2 (loops_of W_spec_l8Choose ⟨loop_of (cx := C_spec_l8Choose) (L := S_spec_l8Choose_L3 fuel) rfl (by rw [R_spec_l8Choose_L3]; rfl) ⟨spec_l8Choose_L3, fun _ => rfl, fun n x => K_spec_l8Choose_L3 n x, fuel, fun _ => rfl⟩, trivial⟩) (enc := N_spec_l8Choose) (fun _ _ => ⟨rfl, rfl⟩) F_spec_l8Choose

theorem K_spec_l8Apply_L7 (n : Nat) (x : Int × (List (List Int)) × Int × (Int × (List (Int × (List Int)))) × (List Int) × Int × Int × Int) : spec_l8Apply_L7 (n + 1) x = roundK C_spec_l8Apply B_spec_l8Apply_L7 (S_spec_l8Apply_L7 fuel) x (spec_l8Apply_L7 n) := by
  obtain ⟨op, tuples, k, a, out, place, at_, i⟩ := x
  kernel_rfl
theorem K_spec_l8Apply_L3 (n : Nat) (x : Int × (List (List Int)) × Int × (Int × (List (Int × (List Int)))) × (List Int) × Int) : spec_l8Apply_L3 (n + 1) x = roundK C_spec_l8Apply B_spec_l8Apply_L3 (S_spec_l8Apply_L3 fuel) x (spec_l8Apply_L3 n) := by
  obtain ⟨op, tuples, k, a, out, place⟩ := x
  kernel_rfl
theorem F_spec_l8Apply (a : dens E_spec_l8Apply.params) : E_spec_l8Apply.run a = funK C_spec_l8Apply Try.f107 E_spec_l8Apply.params E_spec_l8Apply.results a (fun o r => some (N_spec_l8Apply o r)) := by
  kernel_rfl
theorem W_spec_l8Apply : loopsOf D_spec_l8Apply = [B_spec_l8Apply_L3, B_spec_l8Apply_L7] := by kernel_rfl
theorem R_spec_l8Apply_L7 : firstReg B_spec_l8Apply_L7 = 7 := by kernel_rfl
theorem R_spec_l8Apply_L3 : firstReg B_spec_l8Apply_L3 = 3 := by kernel_rfl
theorem Q_spec_l8Apply : Try.prog.funcs[107]? = some Try.f107 ∧ (Try.f107.name == "runtime.NumGoroutine") = false ∧ Try.f107.body = some D_spec_l8Apply := ⟨Try.func107, by kernel_rfl, by kernel_rfl⟩
theorem H_spec_l8Apply : Holds Try.prog 107 E_spec_l8Apply :=
  holds_of (cx := C_spec_l8Apply) (tabOk_ok tabT rfl).1 (allT_ok trivial) mixT Q_spec_l8Apply.1 Q_spec_l8Apply.2.2 (loops_of W_spec_l8Apply ⟨loop_of (cx := C_spec_l8Apply) (L := S_spec_l8Apply_L3 fuel) rfl (by rw [R_spec_l8Apply_L3]; rfl) ⟨spec_l8Apply_L3, fun _ => rfl, fun n x => K_spec_l8Apply_L3 n x, fuel, fun _ => rfl⟩, ⟨loop_of (cx := C_spec_l8Apply) (L := S_spec_l8Apply_L7 fuel) rfl (by rw [R_spec_l8Apply_L7]; rfl) ⟨spec_l8Apply_L7, fun _ => rfl, fun n x => K_spec_l8Apply_L7 n x, fuel, fun _ => rfl⟩, trivial⟩⟩) (enc := N_spec_l8Apply) (fun _ _ => ⟨rfl, rfl⟩) F_spec_l8Apply

theorem F_spec_l13Result (a : dens E_spec_l13Result.params) : E_spec_l13Result.run a = funK C_spec_l13Result Try.f104 E_spec_l13Result.params E_spec_l13Result.results a (fun o r => some (N_spec_l13Result o r)) := by
  kernel_rfl
theorem W_spec_l13Result : loopsOf D_spec_l13Result = [] := by kernel_rfl
theorem Q_spec_l13Result : Try.prog.funcs[104]? = some Try.f104 ∧ (Try.f104.name == "runtime.NumGoroutine") = false ∧ Try.f104.body = some D_spec_l13Result := ⟨Try.func104, by kernel_rfl, by kernel_rfl⟩
theorem H_spec_l13Result : Holds Try.prog 104 E_spec_l13Result :=
  holds_of (cx := C_spec_l13Result) (tabOk_ok tabT rfl).1 (allT_ok ⟨⟨H_spec_l8Apply, _, _, Q_spec_l8Apply⟩, trivial⟩) mixT Q_spec_l13Result.1 Q_spec_l13Result.2.2 (loops_of W_spec_l13Result trivial) (enc := N_spec_l13Result) (fun _ _ => ⟨rfl, rfl⟩) F_spec_l13Result

theorem F_spec_l1Own (a : dens E_spec_l1Own.params) : E_spec_l1Own.run a = funK C_spec_l1Own Try.f84 E_spec_l1Own.params E_spec_l1Own.results a (fun o r => some (N_spec_l1Own o r)) := by
  kernel_rfl
theorem W_spec_l1Own : loopsOf D_spec_l1Own = [] := by kernel_rfl
theorem Q_spec_l1Own : Try.prog.funcs[84]? = some Try.f84 ∧ (Try.f84.name == "runtime.NumGoroutine") = false ∧ Try.f84.body = some D_spec_l1Own := ⟨Try.func84, by kernel_rfl, by kernel_rfl⟩
theorem H_spec_l1Own : Holds Try.prog 84 E_spec_l1Own :=
  holds_of (cx := C_spec_l1Own) (tabOk_ok tabT rfl).1 (allT_ok trivial) mixT Q_spec_l1Own.1 Q_spec_l1Own.2.2 (loops_of W_spec_l1Own trivial) (enc := N_spec_l1Own) (fun _ _ => ⟨rfl, rfl⟩) F_spec_l1Own

theorem K_spec_l8Next_L3 (n : Nat) (x : Int × (List Int) × Int) : spec_l8Next_L3 (n + 1) x = roundK C_spec_l8Next B_spec_l8Next_L3 (S_spec_l8Next_L3 fuel) x (spec_l8Next_L3 n) := by
  obtain ⟨n_, out, i⟩ := x
  kernel_rfl
theorem F_spec_l8Next (a : dens E_spec_l8Next.params) : E_spec_l8Next.run a = funK C_spec_l8Next Try.f106 E_spec_l8Next.params E_spec_l8Next.results a (fun o r => some (N_spec_l8Next o r)) := by
  kernel_rfl
theorem W_spec_l8Next : loopsOf D_spec_l8Next = [B_spec_l8Next_L3] := by kernel_rfl
theorem R_spec_l8Next_L3 : firstReg B_spec_l8Next_L3 = 3 := by kernel_rfl
theorem Q_spec_l8Next : Try.prog.funcs[106]? = some Try.f106 ∧ (Try.f106.name == "runtime.NumGoroutine") = false ∧ Try.f106.body = some D_spec_l8Next := ⟨Try.func106, by kernel_rfl, by kernel_rfl⟩
theorem H_spec_l8Next : Holds Try.prog 106 E_spec_l8Next :=
  holds_of (cx := C_spec_l8Next) (tabOk_ok tabT rfl).1 (allT_ok ⟨⟨H_spec_l1Own, _, _, Q_spec_l1Own⟩, trivial⟩) mixT Q_spec_l8Next.1 Q_spec_l8Next.2.2 (loops_of W_spec_l8Next ⟨loop_of (cx := C_spec_l8Next) (L := S_spec_l8Next_L3 fuel) rfl (by rw [R_spec_l8Next_L3]; rfl) ⟨spec_l8Next_L3, fun _ => rfl, fun n x => K_spec_l8Next_L3 n x, fuel, fun _ => rfl⟩, trivial⟩) (enc := N_spec_l8Next) (fun _ _ => ⟨rfl, rfl⟩) F_spec_l8Next

theorem K_spec_l13Break_L2 (n : Nat) (x : Int × (Int × (List Int)) × (Int × (List (List Int))) × (List Int) × Bool) : spec_l13Break_L2 (n + 1) x = roundK C_spec_l13Break B_spec_l13Break_L2 (S_spec_l13Break_L2 fuel) x (spec_l13Break_L2 n) := by
  obtain ⟨n_, op, r, numbers, more⟩ := x
  kernel_rfl
theorem F_spec_l13Break (a : dens E_spec_l13Break.params) : E_spec_l13Break.run a = funK C_spec_l13Break Try.f98 E_spec_l13Break.params E_spec_l13Break.results a (fun o r => some (N_spec_l13Break o r)) := by
  kernel_rfl
theorem W_spec_l13Break : loopsOf D_spec_l13Break = [B_spec_l13Break_L2] := by kernel_rfl
theorem R_spec_l13Break_L2 : firstReg B_spec_l13Break_L2 = 2 := by kernel_rfl
theorem Q_spec_l13Break : Try.prog.funcs[98]? = some Try.f98 ∧ (Try.f98.name == "runtime.NumGoroutine") = false ∧ Try.f98.body = some D_spec_l13Break := ⟨Try.func98, by kernel_rfl, by kernel_rfl⟩
theorem H_spec_l13Break : Holds Try.prog 98 E_spec_l13Break :=
  holds_of (cx := C_spec_l13Break) (tabOk_ok tabT rfl).1 (allT_ok ⟨⟨H_spec_l13Has, _, _, Q_spec_l13Has⟩, ⟨⟨H_spec_l13Result, _, _, Q_spec_l13Result⟩, ⟨⟨H_spec_l8Choose, _, _, Q_spec_l8Choose⟩, ⟨⟨H_spec_l8Next, _, _, Q_spec_l8Next⟩, trivial⟩⟩⟩⟩) mixT Q_spec_l13Break.1 Q_spec_l13Break.2.2 (loops_of W_spec_l13Break ⟨loop_of (cx := C_spec_l13Break) (L := S_spec_l13Break_L2 fuel) rfl (by rw [R_spec_l13Break_L2]; rfl) ⟨spec_l13Break_L2, fun _ => rfl, fun n x => K_spec_l13Break_L2 n x, fuel, fun _ => rfl⟩, trivial⟩) (enc := N_spec_l13Break) (fun _ _ => ⟨rfl, rfl⟩) F_spec_l13Break

theorem F_spec_l13Keeps (a : dens E_spec_l13Keeps.params) : E_spec_l13Keeps.run a = funK C_spec_l13Keeps Try.f81 E_spec_l13Keeps.params E_spec_l13Keeps.results a (fun o r => some (N_spec_l13Keeps o r)) := by
  kernel_rfl
theorem W_spec_l13Keeps : loopsOf D_spec_l13Keeps = [] := by kernel_rfl
theorem Q_spec_l13Keeps : Try.prog.funcs[81]? = some Try.f81 ∧ (Try.f81.name == "runtime.NumGoroutine") = false ∧ Try.f81.body = some D_spec_l13Keeps := ⟨Try.func81, by kernel_rfl, by kernel_rfl⟩
theorem H_spec_l13Keeps : Holds Try.prog 81 E_spec_l13Keeps :=
  holds_of (cx := C_spec_l13Keeps) (tabOk_ok tabT rfl).1 (allT_ok ⟨⟨H_spec_l13Break, _, _, Q_spec_l13Break⟩, trivial⟩) mixT Q_spec_l13Keeps.1 Q_spec_l13Keeps.2.2 (loops_of W_spec_l13Keeps trivial) (enc := N_spec_l13Keeps) (fun _ _ => ⟨rfl, rfl⟩) F_spec_l13Keeps

theorem K_spec_l22In_L4 (n : Nat) (x : Int × (Int × (List (List Int))) × (List Int) × Int) : spec_l22In_L4 (n + 1) x = roundK C_spec_l22In B_spec_l22In_L4 (S_spec_l22In_L4 fuel) x (spec_l22In_L4 n) := by
  obtain ⟨class_, r, t, i⟩ := x
  kernel_rfl
theorem F_spec_l22In (a : dens E_spec_l22In.params) : E_spec_l22In.run a = funK C_spec_l22In Try.f61 E_spec_l22In.params E_spec_l22In.results a (fun o r => some (N_spec_l22In o r)) := by
  kernel_rfl
theorem W_spec_l22In : loopsOf D_spec_l22In = [B_spec_l22In_L4] := by kernel_rfl
theorem R_spec_l22In_L4 : firstReg B_spec_l22In_L4 = 4 := by kernel_rfl
theorem Q_spec_l22In : Try.prog.funcs[61]? = some Try.f61 ∧ (Try.f61.name == "runtime.NumGoroutine") = false ∧ Try.f61.body = some D_spec_l22In := ⟨Try.func61, by kernel_rfl, by kernel_rfl⟩
theorem H_spec_l22In : Holds Try.prog 61 E_spec_l22In :=
  holds_of (cx := C_spec_l22In) (tabOk_ok tabT rfl).1 (allT_ok ⟨⟨H_spec_l13Has, _, _, Q_spec_l13Has⟩, ⟨⟨H_spec_l13Keeps, _, _, Q_spec_l13Keeps⟩, ⟨⟨H_spec_l22Ops, _, _, Q_spec_l22Ops⟩, trivial⟩⟩⟩) mixT Q_spec_l22In.1 Q_spec_l22In.2.2 (loops_of W_spec_l22In ⟨loop_of (cx := C_spec_l22In) (L := S_spec_l22In_L4 fuel) rfl (by rw [R_spec_l22In_L4]; rfl) ⟨spec_l22In_L4, fun _ => rfl, fun n x => K_spec_l22In_L4 n x, fuel, fun _ => rfl⟩, trivial⟩) (enc := N_spec_l22In) (fun _ _ => ⟨rfl, rfl⟩) F_spec_l22In

theorem K_spec_l22Is_L2 (n : Nat) (x : Int × (Int × Int × (List ((List Int) × Int × (List (List Int))))) × Int) : spec_l22Is_L2 (n + 1) x = roundK C_spec_l22Is B_spec_l22Is_L2 (S_spec_l22Is_L2 fuel) x (spec_l22Is_L2 n) := by
  obtain ⟨class_, net, i⟩ := x
  kernel_rfl
theorem F_spec_l22Is (a : dens E_spec_l22Is.params) : E_spec_l22Is.run a = funK C_spec_l22Is Try.f46 E_spec_l22Is.params E_spec_l22Is.results a (fun o r => some (N_spec_l22Is o r)) := by
  kernel_rfl
theorem W_spec_l22Is : loopsOf D_spec_l22Is = [B_spec_l22Is_L2] := by kernel_rfl
theorem R_spec_l22Is_L2 : firstReg B_spec_l22Is_L2 = 2 := by kernel_rfl
theorem Q_spec_l22Is : Try.prog.funcs[46]? = some Try.f46 ∧ (Try.f46.name == "runtime.NumGoroutine") = false ∧ Try.f46.body = some D_spec_l22Is := ⟨Try.func46, by kernel_rfl, by kernel_rfl⟩
theorem H_spec_l22Is : Holds Try.prog 46 E_spec_l22Is :=
  holds_of (cx := C_spec_l22Is) (tabOk_ok tabT rfl).1 (allT_ok ⟨⟨H_spec_l22In, _, _, Q_spec_l22In⟩, trivial⟩) mixT Q_spec_l22Is.1 Q_spec_l22Is.2.2 (loops_of W_spec_l22Is ⟨loop_of (cx := C_spec_l22Is) (L := S_spec_l22Is_L2 fuel) rfl (by rw [R_spec_l22Is_L2]; rfl) ⟨spec_l22Is_L2, fun _ => rfl, fun n x => K_spec_l22Is_L2 n x, fuel, fun _ => rfl⟩, trivial⟩) (enc := N_spec_l22Is) (fun _ _ => ⟨rfl, rfl⟩) F_spec_l22Is

theorem K_spec_l22Constant_L3 (n : Nat) (x : Int × Int × (List Int) × Int) : spec_l22Constant_L3 (n + 1) x = roundK C_spec_l22Constant B_spec_l22Constant_L3 (S_spec_l22Constant_L3 fuel) x (spec_l22Constant_L3 n) := by
  obtain ⟨vars, value, out, v⟩ := x
  kernel_rfl
theorem F_spec_l22Constant (a : dens E_spec_l22Constant.params) : E_spec_l22Constant.run a = funK C_spec_l22Constant Try.f63 E_spec_l22Constant.params E_spec_l22Constant.results a (fun o r => some (N_spec_l22Constant o r)) := by
  kernel_rfl
theorem W_spec_l22Constant : loopsOf D_spec_l22Constant = [B_spec_l22Constant_L3] := by kernel_rfl
theorem R_spec_l22Constant_L3 : firstReg B_spec_l22Constant_L3 = 3 := by kernel_rfl
theorem Q_spec_l22Constant : Try.prog.funcs[63]? = some Try.f63 ∧ (Try.f63.name == "runtime.NumGoroutine") = false ∧ Try.f63.body = some D_spec_l22Constant := ⟨Try.func63, by kernel_rfl, by kernel_rfl⟩
theorem H_spec_l22Constant : Holds Try.prog 63 E_spec_l22Constant :=
  holds_of (cx := C_spec_l22Constant) (tabOk_ok tabT rfl).1 (allT_ok trivial) mixT Q_spec_l22Constant.1 Q_spec_l22Constant.2.2 (loops_of W_spec_l22Constant ⟨loop_of (cx := C_spec_l22Constant) (L := S_spec_l22Constant_L3 fuel) rfl (by rw [R_spec_l22Constant_L3]; rfl) ⟨spec_l22Constant_L3, fun _ => rfl, fun n x => K_spec_l22Constant_L3 n x, fuel, fun _ => rfl⟩, trivial⟩) (enc := N_spec_l22Constant) (fun _ _ => ⟨rfl, rfl⟩) F_spec_l22Constant

theorem K_spec_l19Satisfies_L3 (n : Nat) (x : (List Int) × ((List Int) × Int × (List (List Int))) × (List Int) × Int) : spec_l19Satisfies_L3 (n + 1) x = roundK C_spec_l19Satisfies B_spec_l19Satisfies_L3 (S_spec_l19Satisfies_L3 fuel) x (spec_l19Satisfies_L3 n) := by
  obtain ⟨values, c, t, i⟩ := x
  kernel_rfl
theorem F_spec_l19Satisfies (a : dens E_spec_l19Satisfies.params) : E_spec_l19Satisfies.run a = funK C_spec_l19Satisfies Try.f83 E_spec_l19Satisfies.params E_spec_l19Satisfies.results a (fun o r => some (N_spec_l19Satisfies o r)) := by
  kernel_rfl
theorem W_spec_l19Satisfies : loopsOf D_spec_l19Satisfies = [B_spec_l19Satisfies_L3] := by kernel_rfl
theorem R_spec_l19Satisfies_L3 : firstReg B_spec_l19Satisfies_L3 = 3 := by kernel_rfl
theorem Q_spec_l19Satisfies : Try.prog.funcs[83]? = some Try.f83 ∧ (Try.f83.name == "runtime.NumGoroutine") = false ∧ Try.f83.body = some D_spec_l19Satisfies := ⟨Try.func83, by kernel_rfl, by kernel_rfl⟩
theorem H_spec_l19Satisfies : Holds Try.prog 83 E_spec_l19Satisfies :=
  holds_of (cx := C_spec_l19Satisfies) (tabOk_ok tabT rfl).1 (allT_ok ⟨⟨H_spec_l13Has, _, _, Q_spec_l13Has⟩, trivial⟩) mixT Q_spec_l19Satisfies.1 Q_spec_l19Satisfies.2.2 (loops_of W_spec_l19Satisfies ⟨loop_of (cx := C_spec_l19Satisfies) (L := S_spec_l19Satisfies_L3 fuel) rfl (by rw [R_spec_l19Satisfies_L3]; rfl) ⟨spec_l19Satisfies_L3, fun _ => rfl, fun n x => K_spec_l19Satisfies_L3 n x, fuel, fun _ => rfl⟩, trivial⟩) (enc := N_spec_l19Satisfies) (fun _ _ => ⟨rfl, rfl⟩) F_spec_l19Satisfies

theorem K_spec_l19Fault_L2 (n : Nat) (x : (List Int) × (Int × Int × (List ((List Int) × Int × (List (List Int))))) × Int) : spec_l19Fault_L2 (n + 1) x = roundK C_spec_l19Fault B_spec_l19Fault_L2 (S_spec_l19Fault_L2 fuel) x (spec_l19Fault_L2 n) := by
  obtain ⟨values, net, i⟩ := x
  kernel_rfl
theorem F_spec_l19Fault (a : dens E_spec_l19Fault.params) : E_spec_l19Fault.run a = funK C_spec_l19Fault Try.f64 E_spec_l19Fault.params E_spec_l19Fault.results a (fun o r => some (N_spec_l19Fault o r)) := by
  kernel_rfl
theorem W_spec_l19Fault : loopsOf D_spec_l19Fault = [B_spec_l19Fault_L2] := by kernel_rfl
theorem R_spec_l19Fault_L2 : firstReg B_spec_l19Fault_L2 = 2 := by kernel_rfl
theorem Q_spec_l19Fault : Try.prog.funcs[64]? = some Try.f64 ∧ (Try.f64.name == "runtime.NumGoroutine") = false ∧ Try.f64.body = some D_spec_l19Fault := ⟨Try.func64, by kernel_rfl, by kernel_rfl⟩
theorem H_spec_l19Fault : Holds Try.prog 64 E_spec_l19Fault :=
  holds_of (cx := C_spec_l19Fault) (tabOk_ok tabT rfl).1 (allT_ok ⟨⟨H_spec_l19Satisfies, _, _, Q_spec_l19Satisfies⟩, trivial⟩) mixT Q_spec_l19Fault.1 Q_spec_l19Fault.2.2 (loops_of W_spec_l19Fault ⟨loop_of (cx := C_spec_l19Fault) (L := S_spec_l19Fault_L2 fuel) rfl (by rw [R_spec_l19Fault_L2]; rfl) ⟨spec_l19Fault_L2, fun _ => rfl, fun n x => K_spec_l19Fault_L2 n x, fuel, fun _ => rfl⟩, trivial⟩) (enc := N_spec_l19Fault) (fun _ _ => ⟨rfl, rfl⟩) F_spec_l19Fault

theorem K_spec_l22Take_L4 (n : Nat) (x : (List Int) × Int × ((List Int) × Int × (List (List Int))) × (List Int) × Bool × (List Bool) × Int) : spec_l22Take_L4 (n + 1) x = roundK C_spec_l22Take B_spec_l22Take_L4 (S_spec_l22Take_L4 fuel) x (spec_l22Take_L4 n) := by
  obtain ⟨t1, t2, t3, t8, t9, t10, t11⟩ := x
  kernel_rfl
theorem K_spec_l22Take_L16 (n : Nat) (x : (List Int) × Int × ((List Int) × Int × (List (List Int))) × (List Int) × Bool × (List Bool) × Int × (List Int) × Bool × Int × Int) : spec_l22Take_L16 (n + 1) x = roundK C_spec_l22Take B_spec_l22Take_L16 (S_spec_l22Take_L16 fuel) x (spec_l22Take_L16 n) := by
  obtain ⟨t1, t2, t3, t8, t9, t10, t12, t13, t14, t15, t16⟩ := x
  kernel_rfl
theorem K_spec_l22Take_L12 (n : Nat) (x : (List Int) × Int × ((List Int) × Int × (List (List Int))) × (List Int) × Bool × (List Bool) × Int × (List Int) × Bool × Int) : spec_l22Take_L12 (n + 1) x = roundK C_spec_l22Take B_spec_l22Take_L12 (S_spec_l22Take_L12 fuel) x (spec_l22Take_L12 n) := by
  obtain ⟨t1, t2, t3, t8, t9, t10, t12, t13, t14, t15⟩ := x
  kernel_rfl
theorem K_spec_l22Take_L20 (n : Nat) (x : (List Int) × Int × ((List Int) × Int × (List (List Int))) × (List Int) × Bool × (List Bool) × Int × (List Int) × Bool × Int) : spec_l22Take_L20 (n + 1) x = roundK C_spec_l22Take B_spec_l22Take_L20 (S_spec_l22Take_L20 fuel) x (spec_l22Take_L20 n) := by
  obtain ⟨t1, t2, t3, t8, t9, t10, t12, t13, t14, t17⟩ := x
  kernel_rfl
theorem K_spec_l22Take_L8 (n : Nat) (x : (List Int) × Int × ((List Int) × Int × (List (List Int))) × (List Int) × Bool × (List Bool) × Int) : spec_l22Take_L8 (n + 1) x = roundK C_spec_l22Take B_spec_l22Take_L8 (S_spec_l22Take_L8 fuel) x (spec_l22Take_L8 n) := by
  obtain ⟨t1, t2, t3, t8, t9, t10, t12⟩ := x
  kernel_rfl
theorem K_spec_l22Take_L25 (n : Nat) (x : Int × ((List Int) × Int × (List (List Int))) × (List Int) × Bool × (List Bool) × Int) : spec_l22Take_L25 (n + 1) x = roundK C_spec_l22Take B_spec_l22Take_L25 (S_spec_l22Take_L25 fuel) x (spec_l22Take_L25 n) := by
  obtain ⟨t2, t3, t8, t9, t10, t18⟩ := x
  kernel_rfl
theorem F_spec_l22Take (a : dens E_spec_l22Take.params) : E_spec_l22Take.run a = funK C_spec_l22Take Try.f65 E_spec_l22Take.params E_spec_l22Take.results a (fun o r => some (N_spec_l22Take o r)) := by
  kernel_rfl
theorem W_spec_l22Take : loopsOf D_spec_l22Take = [B_spec_l22Take_L4, B_spec_l22Take_L8, B_spec_l22Take_L12, B_spec_l22Take_L16, B_spec_l22Take_L20, B_spec_l22Take_L25] := by kernel_rfl
theorem R_spec_l22Take_L4 : firstReg B_spec_l22Take_L4 = 4 := by kernel_rfl
theorem R_spec_l22Take_L16 : firstReg B_spec_l22Take_L16 = 16 := by kernel_rfl
theorem R_spec_l22Take_L12 : firstReg B_spec_l22Take_L12 = 12 := by kernel_rfl
theorem R_spec_l22Take_L20 : firstReg B_spec_l22Take_L20 = 20 := by kernel_rfl
theorem R_spec_l22Take_L8 : firstReg B_spec_l22Take_L8 = 8 := by kernel_rfl
theorem R_spec_l22Take_L25 : firstReg B_spec_l22Take_L25 = 25 := by kernel_rfl
theorem Q_spec_l22Take : Try.prog.funcs[65]? = some Try.f65 ∧ (Try.f65.name == "runtime.NumGoroutine") = false ∧ Try.f65.body = some D_spec_l22Take := ⟨Try.func65, by kernel_rfl, by kernel_rfl⟩
theorem H_spec_l22Take : Holds Try.prog 65 E_spec_l22Take :=
  holds_of (cx := C_spec_l22Take) (tabOk_ok tabT rfl).1 (allT_ok ⟨⟨H_spec_l1Own, _, _, Q_spec_l1Own⟩, trivial⟩) mixT Q_spec_l22Take.1 Q_spec_l22Take.2.2 (loops_of W_spec_l22Take ⟨loop_of (cx := C_spec_l22Take) (L := S_spec_l22Take_L4 fuel) rfl (by rw [R_spec_l22Take_L4]; rfl) ⟨spec_l22Take_L4, fun _ => rfl, fun n x => K_spec_l22Take_L4 n x, fuel, fun _ => rfl⟩, ⟨loop_of (cx := C_spec_l22Take) (L := S_spec_l22Take_L8 fuel) rfl (by rw [R_spec_l22Take_L8]; rfl) ⟨spec_l22Take_L8, fun _ => rfl, fun n x => K_spec_l22Take_L8 n x, fuel, fun _ => rfl⟩, ⟨loop_of (cx := C_spec_l22Take) (L := S_spec_l22Take_L12 fuel) rfl (by rw [R_spec_l22Take_L12]; rfl) ⟨spec_l22Take_L12, fun _ => rfl, fun n x => K_spec_l22Take_L12 n x, fuel, fun _ => rfl⟩, ⟨loop_of (cx := C_spec_l22Take) (L := S_spec_l22Take_L16 fuel) rfl (by rw [R_spec_l22Take_L16]; rfl) ⟨spec_l22Take_L16, fun _ => rfl, fun n x => K_spec_l22Take_L16 n x, fuel, fun _ => rfl⟩, ⟨loop_of (cx := C_spec_l22Take) (L := S_spec_l22Take_L20 fuel) rfl (by rw [R_spec_l22Take_L20]; rfl) ⟨spec_l22Take_L20, fun _ => rfl, fun n x => K_spec_l22Take_L20 n x, fuel, fun _ => rfl⟩, ⟨loop_of (cx := C_spec_l22Take) (L := S_spec_l22Take_L25 fuel) rfl (by rw [R_spec_l22Take_L25]; rfl) ⟨spec_l22Take_L25, fun _ => rfl, fun n x => K_spec_l22Take_L25 n x, fuel, fun _ => rfl⟩, trivial⟩⟩⟩⟩⟩⟩) (enc := N_spec_l22Take) (fun _ _ => ⟨rfl, rfl⟩) F_spec_l22Take

theorem K_spec_l22Go_L3 (n : Nat) (x : Int × (Int × Int × (List ((List Int) × Int × (List (List Int))))) × (List Int) × (List Int) × Int) : spec_l22Go_L3 (n + 1) x = roundK C_spec_l22Go B_spec_l22Go_L3 (S_spec_l22Go_L3 fuel) x (spec_l22Go_L3 n) := by
  obtain ⟨up, net, steps, values, at_⟩ := x
  kernel_rfl
theorem F_spec_l22Go (a : dens E_spec_l22Go.params) : E_spec_l22Go.run a = funK C_spec_l22Go Try.f48 E_spec_l22Go.params E_spec_l22Go.results a (fun o r => some (N_spec_l22Go o r)) := by
  kernel_rfl
theorem W_spec_l22Go : loopsOf D_spec_l22Go = [B_spec_l22Go_L3] := by kernel_rfl
theorem R_spec_l22Go_L3 : firstReg B_spec_l22Go_L3 = 3 := by kernel_rfl
theorem Q_spec_l22Go : Try.prog.funcs[48]? = some Try.f48 ∧ (Try.f48.name == "runtime.NumGoroutine") = false ∧ Try.f48.body = some D_spec_l22Go := ⟨Try.func48, by kernel_rfl, by kernel_rfl⟩
theorem H_spec_l22Go : Holds Try.prog 48 E_spec_l22Go :=
  holds_of (cx := C_spec_l22Go) (tabOk_ok tabT rfl).1 (allT_ok ⟨⟨H_spec_l22Constant, _, _, Q_spec_l22Constant⟩, ⟨⟨H_spec_l19Fault, _, _, Q_spec_l19Fault⟩, ⟨⟨H_spec_l22Take, _, _, Q_spec_l22Take⟩, trivial⟩⟩⟩) mixT Q_spec_l22Go.1 Q_spec_l22Go.2.2 (loops_of W_spec_l22Go ⟨loop_of (cx := C_spec_l22Go) (L := S_spec_l22Go_L3 fuel) rfl (by rw [R_spec_l22Go_L3]; rfl) ⟨spec_l22Go_L3, fun _ => rfl, fun n x => K_spec_l22Go_L3 n x, fuel, fun _ => rfl⟩, trivial⟩) (enc := N_spec_l22Go) (fun _ _ => ⟨rfl, rfl⟩) F_spec_l22Go

theorem F_spec_RaiseSteps (a : dens E_spec_RaiseSteps.params) : E_spec_RaiseSteps.run a = funK C_spec_RaiseSteps Try.f32 E_spec_RaiseSteps.params E_spec_RaiseSteps.results a (fun o r => some (N_spec_RaiseSteps o r)) := by
  kernel_rfl
theorem W_spec_RaiseSteps : loopsOf D_spec_RaiseSteps = [] := by kernel_rfl
theorem Q_spec_RaiseSteps : Try.prog.funcs[32]? = some Try.f32 ∧ (Try.f32.name == "runtime.NumGoroutine") = false ∧ Try.f32.body = some D_spec_RaiseSteps := ⟨Try.func32, by kernel_rfl, by kernel_rfl⟩
theorem H_spec_RaiseSteps : Holds Try.prog 32 E_spec_RaiseSteps :=
  holds_of (cx := C_spec_RaiseSteps) (tabOk_ok tabT rfl).1 (allT_ok ⟨⟨H_spec_l22Good, _, _, Q_spec_l22Good⟩, ⟨⟨H_spec_l22Is, _, _, Q_spec_l22Is⟩, ⟨⟨H_spec_l22Go, _, _, Q_spec_l22Go⟩, trivial⟩⟩⟩) mixT Q_spec_RaiseSteps.1 Q_spec_RaiseSteps.2.2 (loops_of W_spec_RaiseSteps trivial) (enc := N_spec_RaiseSteps) (fun _ _ => ⟨rfl, rfl⟩) F_spec_RaiseSteps

theorem F_impl_isTemplateSize (a : dens E_impl_isTemplateSize.params) : E_impl_isTemplateSize.run a = funK C_impl_isTemplateSize Try.f73 E_impl_isTemplateSize.params E_impl_isTemplateSize.results a (fun o r => some (N_impl_isTemplateSize o r)) := by
  kernel_rfl
theorem W_impl_isTemplateSize : loopsOf D_impl_isTemplateSize = [] := by kernel_rfl
theorem Q_impl_isTemplateSize : Try.prog.funcs[73]? = some Try.f73 ∧ (Try.f73.name == "runtime.NumGoroutine") = false ∧ Try.f73.body = some D_impl_isTemplateSize := ⟨Try.func73, by kernel_rfl, by kernel_rfl⟩
theorem H_impl_isTemplateSize : Holds Try.prog 73 E_impl_isTemplateSize :=
  holds_of (cx := C_impl_isTemplateSize) (tabOk_ok tabT rfl).1 (allT_ok trivial) mixT Q_impl_isTemplateSize.1 Q_impl_isTemplateSize.2.2 (loops_of W_impl_isTemplateSize trivial) (enc := N_impl_isTemplateSize) (fun _ _ => ⟨rfl, rfl⟩) F_impl_isTemplateSize

theorem K_impl_inSize_L2 (n : Nat) (x : Int × (List Int) × Int × Int) : impl_inSize_L2 (n + 1) x = roundK C_impl_inSize B_impl_inSize_L2 (S_impl_inSize_L2 fuel) x (impl_inSize_L2 n) := by
  obtain ⟨n_, t7, t8, t9⟩ := x
  kernel_rfl
theorem F_impl_inSize (a : dens E_impl_inSize.params) : E_impl_inSize.run a = funK C_impl_inSize Try.f92 E_impl_inSize.params E_impl_inSize.results a (fun o r => some (N_impl_inSize o r)) := by
  kernel_rfl
theorem W_impl_inSize : loopsOf D_impl_inSize = [B_impl_inSize_L2] := by kernel_rfl
theorem R_impl_inSize_L2 : firstReg B_impl_inSize_L2 = 2 := by kernel_rfl
theorem Q_impl_inSize : Try.prog.funcs[92]? = some Try.f92 ∧ (Try.f92.name == "runtime.NumGoroutine") = false ∧ Try.f92.body = some D_impl_inSize := ⟨Try.func92, by kernel_rfl, by kernel_rfl⟩
theorem H_impl_inSize : Holds Try.prog 92 E_impl_inSize :=
  holds_of (cx := C_impl_inSize) (tabOk_ok tabT rfl).1 (allT_ok trivial) mixT Q_impl_inSize.1 Q_impl_inSize.2.2 (loops_of W_impl_inSize ⟨loop_of (cx := C_impl_inSize) (L := S_impl_inSize_L2 fuel) rfl (by rw [R_impl_inSize_L2]; rfl) ⟨impl_inSize_L2, fun _ => rfl, fun n x => K_impl_inSize_L2 n x, fuel, fun _ => rfl⟩, trivial⟩) (enc := N_impl_inSize) (fun _ _ => ⟨rfl, rfl⟩) F_impl_inSize

theorem K_impl_compareLists_L2 (n : Nat) (x : (List Int) × (List Int) × Int) : impl_compareLists_L2 (n + 1) x = roundK C_impl_compareLists B_impl_compareLists_L2 (S_impl_compareLists_L2 fuel) x (impl_compareLists_L2 n) := by
  obtain ⟨s, t, i⟩ := x
  kernel_rfl
theorem F_impl_compareLists (a : dens E_impl_compareLists.params) : E_impl_compareLists.run a = funK C_impl_compareLists Try.f102 E_impl_compareLists.params E_impl_compareLists.results a (fun o r => some (N_impl_compareLists o r)) := by
  kernel_rfl
theorem W_impl_compareLists : loopsOf D_impl_compareLists = [B_impl_compareLists_L2] := by kernel_rfl
theorem R_impl_compareLists_L2 : firstReg B_impl_compareLists_L2 = 2 := by kernel_rfl
theorem Q_impl_compareLists : Try.prog.funcs[102]? = some Try.f102 ∧ (Try.f102.name == "runtime.NumGoroutine") = false ∧ Try.f102.body = some D_impl_compareLists := ⟨Try.func102, by kernel_rfl, by kernel_rfl⟩
theorem H_impl_compareLists : Holds Try.prog 102 E_impl_compareLists :=
  holds_of (cx := C_impl_compareLists) (tabOk_ok tabT rfl).1 (allT_ok trivial) mixT Q_impl_compareLists.1 Q_impl_compareLists.2.2 (loops_of W_impl_compareLists ⟨loop_of (cx := C_impl_compareLists) (L := S_impl_compareLists_L2 fuel) rfl (by rw [R_impl_compareLists_L2]; rfl) ⟨impl_compareLists_L2, fun _ => rfl, fun n x => K_impl_compareLists_L2 n x, fuel, fun _ => rfl⟩, trivial⟩) (enc := N_impl_compareLists) (fun _ _ => ⟨rfl, rfl⟩) F_impl_compareLists

theorem K_impl_isRelation_L4 (n : Nat) (x : Int × (Int × (List (List Int))) × (List (List Int)) × Int × Int) : impl_isRelation_L4 (n + 1) x = roundK C_impl_isRelation B_impl_isRelation_L4 (S_impl_isRelation_L4 fuel) x (impl_isRelation_L4 n) := by
  obtain ⟨n_, r, t16, t17, t18⟩ := x
  kernel_rfl
theorem F_impl_isRelation (a : dens E_impl_isRelation.params) : E_impl_isRelation.run a = funK C_impl_isRelation Try.f91 E_impl_isRelation.params E_impl_isRelation.results a (fun o r => some (N_impl_isRelation o r)) := by
  kernel_rfl
theorem W_impl_isRelation : loopsOf D_impl_isRelation = [B_impl_isRelation_L4] := by kernel_rfl
theorem R_impl_isRelation_L4 : firstReg B_impl_isRelation_L4 = 4 := by kernel_rfl
theorem Q_impl_isRelation : Try.prog.funcs[91]? = some Try.f91 ∧ (Try.f91.name == "runtime.NumGoroutine") = false ∧ Try.f91.body = some D_impl_isRelation := ⟨Try.func91, by kernel_rfl, by kernel_rfl⟩
theorem H_impl_isRelation : Holds Try.prog 91 E_impl_isRelation :=
  holds_of (cx := C_impl_isRelation) (tabOk_ok tabT rfl).1 (allT_ok ⟨⟨H_impl_inSize, _, _, Q_impl_inSize⟩, ⟨⟨H_impl_compareLists, _, _, Q_impl_compareLists⟩, trivial⟩⟩) mixT Q_impl_isRelation.1 Q_impl_isRelation.2.2 (loops_of W_impl_isRelation ⟨loop_of (cx := C_impl_isRelation) (L := S_impl_isRelation_L4 fuel) rfl (by rw [R_impl_isRelation_L4]; rfl) ⟨impl_isRelation_L4, fun _ => rfl, fun n x => K_impl_isRelation_L4 n x, fuel, fun _ => rfl⟩, trivial⟩) (enc := N_impl_isRelation) (fun _ _ => ⟨rfl, rfl⟩) F_impl_isRelation

theorem F_impl_isConstraint (a : dens E_impl_isConstraint.params) : E_impl_isConstraint.run a = funK C_impl_isConstraint Try.f74 E_impl_isConstraint.params E_impl_isConstraint.results a (fun o r => some (N_impl_isConstraint o r)) := by
  kernel_rfl
theorem W_impl_isConstraint : loopsOf D_impl_isConstraint = [] := by kernel_rfl
theorem Q_impl_isConstraint : Try.prog.funcs[74]? = some Try.f74 ∧ (Try.f74.name == "runtime.NumGoroutine") = false ∧ Try.f74.body = some D_impl_isConstraint := ⟨Try.func74, by kernel_rfl, by kernel_rfl⟩
theorem H_impl_isConstraint : Holds Try.prog 74 E_impl_isConstraint :=
  holds_of (cx := C_impl_isConstraint) (tabOk_ok tabT rfl).1 (allT_ok ⟨⟨H_impl_isRelation, _, _, Q_impl_isRelation⟩, ⟨⟨H_impl_inSize, _, _, Q_impl_inSize⟩, trivial⟩⟩) mixT Q_impl_isConstraint.1 Q_impl_isConstraint.2.2 (loops_of W_impl_isConstraint trivial) (enc := N_impl_isConstraint) (fun _ _ => ⟨rfl, rfl⟩) F_impl_isConstraint

theorem K_impl_IsNetwork_L4 (n : Nat) (x : (Int × Int × (List ((List Int) × Int × (List (List Int))))) × (List ((List Int) × Int × (List (List Int)))) × Int × Int) : impl_IsNetwork_L4 (n + 1) x = roundK C_impl_IsNetwork B_impl_IsNetwork_L4 (S_impl_IsNetwork_L4 fuel) x (impl_IsNetwork_L4 n) := by
  obtain ⟨net, t26, t27, t28⟩ := x
  kernel_rfl
theorem F_impl_IsNetwork (a : dens E_impl_IsNetwork.params) : E_impl_IsNetwork.run a = funK C_impl_IsNetwork Try.f55 E_impl_IsNetwork.params E_impl_IsNetwork.results a (fun o r => some (N_impl_IsNetwork o r)) := by
  kernel_rfl
theorem W_impl_IsNetwork : loopsOf D_impl_IsNetwork = [B_impl_IsNetwork_L4] := by kernel_rfl
theorem R_impl_IsNetwork_L4 : firstReg B_impl_IsNetwork_L4 = 4 := by kernel_rfl
theorem Q_impl_IsNetwork : Try.prog.funcs[55]? = some Try.f55 ∧ (Try.f55.name == "runtime.NumGoroutine") = false ∧ Try.f55.body = some D_impl_IsNetwork := ⟨Try.func55, by kernel_rfl, by kernel_rfl⟩
theorem H_impl_IsNetwork : Holds Try.prog 55 E_impl_IsNetwork :=
  holds_of (cx := C_impl_IsNetwork) (tabOk_ok tabT rfl).1 (allT_ok ⟨⟨H_impl_isTemplateSize, _, _, Q_impl_isTemplateSize⟩, ⟨⟨H_impl_isConstraint, _, _, Q_impl_isConstraint⟩, trivial⟩⟩) mixT Q_impl_IsNetwork.1 Q_impl_IsNetwork.2.2 (loops_of W_impl_IsNetwork ⟨loop_of (cx := C_impl_IsNetwork) (L := S_impl_IsNetwork_L4 fuel) rfl (by rw [R_impl_IsNetwork_L4]; rfl) ⟨impl_IsNetwork_L4, fun _ => rfl, fun n x => K_impl_IsNetwork_L4 n x, fuel, fun _ => rfl⟩, trivial⟩) (enc := N_impl_IsNetwork) (fun _ _ => ⟨rfl, rfl⟩) F_impl_IsNetwork

theorem F_impl_isBoolean (a : dens E_impl_isBoolean.params) : E_impl_isBoolean.run a = funK C_impl_isBoolean Try.f43 E_impl_isBoolean.params E_impl_isBoolean.results a (fun o r => some (N_impl_isBoolean o r)) := by
  kernel_rfl
theorem W_impl_isBoolean : loopsOf D_impl_isBoolean = [] := by kernel_rfl
theorem Q_impl_isBoolean : Try.prog.funcs[43]? = some Try.f43 ∧ (Try.f43.name == "runtime.NumGoroutine") = false ∧ Try.f43.body = some D_impl_isBoolean := ⟨Try.func43, by kernel_rfl, by kernel_rfl⟩
theorem H_impl_isBoolean : Holds Try.prog 43 E_impl_isBoolean :=
  holds_of (cx := C_impl_isBoolean) (tabOk_ok tabT rfl).1 (allT_ok ⟨⟨H_impl_IsNetwork, _, _, Q_impl_IsNetwork⟩, trivial⟩) mixT Q_impl_isBoolean.1 Q_impl_isBoolean.2.2 (loops_of W_impl_isBoolean trivial) (enc := N_impl_isBoolean) (fun _ _ => ⟨rfl, rfl⟩) F_impl_isBoolean

theorem K_impl_constantTuple_L3 (n : Nat) (x : Int × (List Int) × Int × Int) : impl_constantTuple_L3 (n + 1) x = roundK C_impl_constantTuple B_impl_constantTuple_L3 (S_impl_constantTuple_L3 fuel) x (impl_constantTuple_L3 n) := by
  obtain ⟨x, t, t10, t11⟩ := x
  kernel_rfl
theorem F_impl_constantTuple (a : dens E_impl_constantTuple.params) : E_impl_constantTuple.run a = funK C_impl_constantTuple Try.f57 E_impl_constantTuple.params E_impl_constantTuple.results a (fun o r => some (N_impl_constantTuple o r)) := by
  kernel_rfl
theorem W_impl_constantTuple : loopsOf D_impl_constantTuple = [B_impl_constantTuple_L3] := by kernel_rfl
theorem R_impl_constantTuple_L3 : firstReg B_impl_constantTuple_L3 = 3 := by kernel_rfl
theorem Q_impl_constantTuple : Try.prog.funcs[57]? = some Try.f57 ∧ (Try.f57.name == "runtime.NumGoroutine") = false ∧ Try.f57.body = some D_impl_constantTuple := ⟨Try.func57, by kernel_rfl, by kernel_rfl⟩
theorem H_impl_constantTuple : Holds Try.prog 57 E_impl_constantTuple :=
  holds_of (cx := C_impl_constantTuple) (tabOk_ok tabT rfl).1 (allT_ok trivial) mixT Q_impl_constantTuple.1 Q_impl_constantTuple.2.2 (loops_of W_impl_constantTuple ⟨loop_of (cx := C_impl_constantTuple) (L := S_impl_constantTuple_L3 fuel) rfl (by rw [R_impl_constantTuple_L3]; rfl) ⟨impl_constantTuple_L3, fun _ => rfl, fun n x => K_impl_constantTuple_L3 n x, fuel, fun _ => rfl⟩, trivial⟩) (enc := N_impl_constantTuple) (fun _ _ => ⟨rfl, rfl⟩) F_impl_constantTuple

theorem K_impl_sameList_L4 (n : Nat) (x : (List Int) × (List Int) × Int × Int) : impl_sameList_L4 (n + 1) x = roundK C_impl_sameList B_impl_sameList_L4 (S_impl_sameList_L4 fuel) x (impl_sameList_L4 n) := by
  obtain ⟨b, t12, t13, t14⟩ := x
  kernel_rfl
theorem F_impl_sameList (a : dens E_impl_sameList.params) : E_impl_sameList.run a = funK C_impl_sameList Try.f75 E_impl_sameList.params E_impl_sameList.results a (fun o r => some (N_impl_sameList o r)) := by
  kernel_rfl
theorem W_impl_sameList : loopsOf D_impl_sameList = [B_impl_sameList_L4] := by kernel_rfl
theorem R_impl_sameList_L4 : firstReg B_impl_sameList_L4 = 4 := by kernel_rfl
theorem Q_impl_sameList : Try.prog.funcs[75]? = some Try.f75 ∧ (Try.f75.name == "runtime.NumGoroutine") = false ∧ Try.f75.body = some D_impl_sameList := ⟨Try.func75, by kernel_rfl, by kernel_rfl⟩
theorem H_impl_sameList : Holds Try.prog 75 E_impl_sameList :=
  holds_of (cx := C_impl_sameList) (tabOk_ok tabT rfl).1 (allT_ok trivial) mixT Q_impl_sameList.1 Q_impl_sameList.2.2 (loops_of W_impl_sameList ⟨loop_of (cx := C_impl_sameList) (L := S_impl_sameList_L4 fuel) rfl (by rw [R_impl_sameList_L4]; rfl) ⟨impl_sameList_L4, fun _ => rfl, fun n x => K_impl_sameList_L4 n x, fuel, fun _ => rfl⟩, trivial⟩) (enc := N_impl_sameList) (fun _ _ => ⟨rfl, rfl⟩) F_impl_sameList

theorem K_impl_hasRow_L2 (n : Nat) (x : (List Int) × (List (List Int)) × Int × Int) : impl_hasRow_L2 (n + 1) x = roundK C_impl_hasRow B_impl_hasRow_L2 (S_impl_hasRow_L2 fuel) x (impl_hasRow_L2 n) := by
  obtain ⟨t, t8, t9, t10⟩ := x
  kernel_rfl
theorem F_impl_hasRow (a : dens E_impl_hasRow.params) : E_impl_hasRow.run a = funK C_impl_hasRow Try.f56 E_impl_hasRow.params E_impl_hasRow.results a (fun o r => some (N_impl_hasRow o r)) := by
  kernel_rfl
theorem W_impl_hasRow : loopsOf D_impl_hasRow = [B_impl_hasRow_L2] := by kernel_rfl
theorem R_impl_hasRow_L2 : firstReg B_impl_hasRow_L2 = 2 := by kernel_rfl
theorem Q_impl_hasRow : Try.prog.funcs[56]? = some Try.f56 ∧ (Try.f56.name == "runtime.NumGoroutine") = false ∧ Try.f56.body = some D_impl_hasRow := ⟨Try.func56, by kernel_rfl, by kernel_rfl⟩
theorem H_impl_hasRow : Holds Try.prog 56 E_impl_hasRow :=
  holds_of (cx := C_impl_hasRow) (tabOk_ok tabT rfl).1 (allT_ok ⟨⟨H_impl_sameList, _, _, Q_impl_sameList⟩, trivial⟩) mixT Q_impl_hasRow.1 Q_impl_hasRow.2.2 (loops_of W_impl_hasRow ⟨loop_of (cx := C_impl_hasRow) (L := S_impl_hasRow_L2 fuel) rfl (by rw [R_impl_hasRow_L2]; rfl) ⟨impl_hasRow_L2, fun _ => rfl, fun n x => K_impl_hasRow_L2 n x, fuel, fun _ => rfl⟩, trivial⟩) (enc := N_impl_hasRow) (fun _ _ => ⟨rfl, rfl⟩) F_impl_hasRow

theorem F_impl_booleanOps_c1 (a : dens E_impl_booleanOps_c1.params) : E_impl_booleanOps_c1.run a = funK C_impl_booleanOps_c1 Try.f76 E_impl_booleanOps_c1.params E_impl_booleanOps_c1.results a (fun o r => some (N_impl_booleanOps_c1 o r)) := by
  kernel_rfl
theorem W_impl_booleanOps_c1 : loopsOf D_impl_booleanOps_c1 = [] := by kernel_rfl
theorem Q_impl_booleanOps_c1 : Try.prog.funcs[76]? = some Try.f76 ∧ (Try.f76.name == "runtime.NumGoroutine") = false ∧ Try.f76.body = some D_impl_booleanOps_c1 := ⟨Try.func76, by kernel_rfl, by kernel_rfl⟩
theorem H_impl_booleanOps_c1 : Holds Try.prog 76 E_impl_booleanOps_c1 :=
  holds_of (cx := C_impl_booleanOps_c1) (tabOk_ok tabT rfl).1 (allT_ok trivial) mixT Q_impl_booleanOps_c1.1 Q_impl_booleanOps_c1.2.2 (loops_of W_impl_booleanOps_c1 trivial) (enc := N_impl_booleanOps_c1) (fun _ _ => ⟨rfl, rfl⟩) F_impl_booleanOps_c1

theorem K_impl_ternary_impl_booleanOps_c1_L3 (n : Nat) (x : Int × Unit × (Int × (List Int)) × (Int × (List Int)) × Int) : impl_ternary_impl_booleanOps_c1_L3 (n + 1) x = roundK C_impl_ternary_impl_booleanOps_c1 B_impl_ternary_impl_booleanOps_c1_L3 (S_impl_ternary_impl_booleanOps_c1_L3 fuel) x (impl_ternary_impl_booleanOps_c1_L3 n) := by
  obtain ⟨n_, value, t4, f, i⟩ := x
  kernel_rfl
theorem F_impl_ternary_impl_booleanOps_c1 (a : dens E_impl_ternary_impl_booleanOps_c1.params) : E_impl_ternary_impl_booleanOps_c1.run a = funK C_impl_ternary_impl_booleanOps_c1 Try.f37 E_impl_ternary_impl_booleanOps_c1.params E_impl_ternary_impl_booleanOps_c1.results a (fun o r => some (N_impl_ternary_impl_booleanOps_c1 o r)) := by
  kernel_rfl
theorem W_impl_ternary_impl_booleanOps_c1 : loopsOf D_impl_ternary_impl_booleanOps_c1 = [B_impl_ternary_impl_booleanOps_c1_L3] := by kernel_rfl
theorem R_impl_ternary_impl_booleanOps_c1_L3 : firstReg B_impl_ternary_impl_booleanOps_c1_L3 = 3 := by kernel_rfl
theorem Q_impl_ternary_impl_booleanOps_c1 : Try.prog.funcs[37]? = some Try.f37 ∧ (Try.f37.name == "runtime.NumGoroutine") = false ∧ Try.f37.body = some D_impl_ternary_impl_booleanOps_c1 := ⟨Try.func37, by kernel_rfl, by kernel_rfl⟩
theorem H_impl_ternary_impl_booleanOps_c1 : Holds Try.prog 37 E_impl_ternary_impl_booleanOps_c1 :=
  holds_of (cx := C_impl_ternary_impl_booleanOps_c1) (tabOk_ok tabT rfl).1 (allT_ok ⟨⟨H_impl_booleanOps_c1, _, _, Q_impl_booleanOps_c1⟩, trivial⟩) mixT Q_impl_ternary_impl_booleanOps_c1.1 Q_impl_ternary_impl_booleanOps_c1.2.2 (loops_of W_impl_ternary_impl_booleanOps_c1 ⟨loop_of (cx := C_impl_ternary_impl_booleanOps_c1) (L := S_impl_ternary_impl_booleanOps_c1_L3 fuel) rfl (by rw [R_impl_ternary_impl_booleanOps_c1_L3]; rfl) ⟨impl_ternary_impl_booleanOps_c1_L3, fun _ => rfl, fun n x => K_impl_ternary_impl_booleanOps_c1_L3 n x, fuel, fun _ => rfl⟩, trivial⟩) (enc := N_impl_ternary_impl_booleanOps_c1) (fun _ _ => ⟨rfl, rfl⟩) F_impl_ternary_impl_booleanOps_c1

theorem F_impl_booleanOps_c2 (a : dens E_impl_booleanOps_c2.params) : E_impl_booleanOps_c2.run a = funK C_impl_booleanOps_c2 Try.f77 E_impl_booleanOps_c2.params E_impl_booleanOps_c2.results a (fun o r => some (N_impl_booleanOps_c2 o r)) := by
  kernel_rfl
theorem W_impl_booleanOps_c2 : loopsOf D_impl_booleanOps_c2 = [] := by kernel_rfl
theorem Q_impl_booleanOps_c2 : Try.prog.funcs[77]? = some Try.f77 ∧ (Try.f77.name == "runtime.NumGoroutine") = false ∧ Try.f77.body = some D_impl_booleanOps_c2 := ⟨Try.func77, by kernel_rfl, by kernel_rfl⟩
theorem H_impl_booleanOps_c2 : Holds Try.prog 77 E_impl_booleanOps_c2 :=
  holds_of (cx := C_impl_booleanOps_c2) (tabOk_ok tabT rfl).1 (allT_ok trivial) mixT Q_impl_booleanOps_c2.1 Q_impl_booleanOps_c2.2.2 (loops_of W_impl_booleanOps_c2 trivial) (enc := N_impl_booleanOps_c2) (fun _ _ => ⟨rfl, rfl⟩) F_impl_booleanOps_c2

theorem K_impl_ternary_impl_booleanOps_c2_L3 (n : Nat) (x : Int × Unit × (Int × (List Int)) × (Int × (List Int)) × Int) : impl_ternary_impl_booleanOps_c2_L3 (n + 1) x = roundK C_impl_ternary_impl_booleanOps_c2 B_impl_ternary_impl_booleanOps_c2_L3 (S_impl_ternary_impl_booleanOps_c2_L3 fuel) x (impl_ternary_impl_booleanOps_c2_L3 n) := by
  obtain ⟨n_, value, t4, f, i⟩ := x
  kernel_rfl
theorem F_impl_ternary_impl_booleanOps_c2 (a : dens E_impl_ternary_impl_booleanOps_c2.params) : E_impl_ternary_impl_booleanOps_c2.run a = funK C_impl_ternary_impl_booleanOps_c2 Try.f37 E_impl_ternary_impl_booleanOps_c2.params E_impl_ternary_impl_booleanOps_c2.results a (fun o r => some (N_impl_ternary_impl_booleanOps_c2 o r)) := by
  kernel_rfl
theorem W_impl_ternary_impl_booleanOps_c2 : loopsOf D_impl_ternary_impl_booleanOps_c2 = [B_impl_ternary_impl_booleanOps_c2_L3] := by kernel_rfl
theorem R_impl_ternary_impl_booleanOps_c2_L3 : firstReg B_impl_ternary_impl_booleanOps_c2_L3 = 3 := by kernel_rfl
theorem Q_impl_ternary_impl_booleanOps_c2 : Try.prog.funcs[37]? = some Try.f37 ∧ (Try.f37.name == "runtime.NumGoroutine") = false ∧ Try.f37.body = some D_impl_ternary_impl_booleanOps_c2 := ⟨Try.func37, by kernel_rfl, by kernel_rfl⟩
theorem H_impl_ternary_impl_booleanOps_c2 : Holds Try.prog 37 E_impl_ternary_impl_booleanOps_c2 :=
  holds_of (cx := C_impl_ternary_impl_booleanOps_c2) (tabOk_ok tabT rfl).1 (allT_ok ⟨⟨H_impl_booleanOps_c2, _, _, Q_impl_booleanOps_c2⟩, trivial⟩) mixT Q_impl_ternary_impl_booleanOps_c2.1 Q_impl_ternary_impl_booleanOps_c2.2.2 (loops_of W_impl_ternary_impl_booleanOps_c2 ⟨loop_of (cx := C_impl_ternary_impl_booleanOps_c2) (L := S_impl_ternary_impl_booleanOps_c2_L3 fuel) rfl (by rw [R_impl_ternary_impl_booleanOps_c2_L3]; rfl) ⟨impl_ternary_impl_booleanOps_c2_L3, fun _ => rfl, fun n x => K_impl_ternary_impl_booleanOps_c2_L3 n x, fuel, fun _ => rfl⟩, trivial⟩) (enc := N_impl_ternary_impl_booleanOps_c2) (fun _ _ => ⟨rfl, rfl⟩) F_impl_ternary_impl_booleanOps_c2

theorem F_impl_booleanOps (a : dens E_impl_booleanOps.params) : E_impl_booleanOps.run a = funK C_impl_booleanOps Try.f58 E_impl_booleanOps.params E_impl_booleanOps.results a (fun o r => some (N_impl_booleanOps o r)) := by
  kernel_rfl
theorem W_impl_booleanOps : loopsOf D_impl_booleanOps = [] := by kernel_rfl
theorem Q_impl_booleanOps : Try.prog.funcs[58]? = some Try.f58 ∧ (Try.f58.name == "runtime.NumGoroutine") = false ∧ Try.f58.body = some D_impl_booleanOps := ⟨Try.func58, by kernel_rfl, by kernel_rfl⟩
theorem H_impl_booleanOps : Holds Try.prog 58 E_impl_booleanOps :=
  holds_of (cx := C_impl_booleanOps) (tabOk_ok tabT rfl).1 (allT_ok ⟨⟨H_impl_ternary_impl_booleanOps_c1, _, _, Q_impl_ternary_impl_booleanOps_c1⟩, ⟨⟨H_impl_ternary_impl_booleanOps_c2, _, _, Q_impl_ternary_impl_booleanOps_c2⟩, trivial⟩⟩) mixT Q_impl_booleanOps.1 Q_impl_booleanOps.2.2 (loops_of W_impl_booleanOps trivial) (enc := N_impl_booleanOps) (fun _ _ => ⟨rfl, rfl⟩) F_impl_booleanOps

theorem K_impl_keyOf_L3 (n : Nat) (x : (List Int) × (List Int) × Int × Int) : impl_keyOf_L3 (n + 1) x = roundK C_impl_keyOf B_impl_keyOf_L3 (S_impl_keyOf_L3 fuel) x (impl_keyOf_L3 n) := by
  obtain ⟨b, t10, t11, t12⟩ := x
  kernel_rfl
theorem F_impl_keyOf (a : dens E_impl_keyOf.params) : E_impl_keyOf.run a = funK C_impl_keyOf Try.f95 E_impl_keyOf.params E_impl_keyOf.results a (fun o r => some (N_impl_keyOf o r)) := by
  kernel_rfl
theorem W_impl_keyOf : loopsOf D_impl_keyOf = [B_impl_keyOf_L3] := by kernel_rfl
theorem R_impl_keyOf_L3 : firstReg B_impl_keyOf_L3 = 3 := by kernel_rfl
theorem Q_impl_keyOf : Try.prog.funcs[95]? = some Try.f95 ∧ (Try.f95.name == "runtime.NumGoroutine") = false ∧ Try.f95.body = some D_impl_keyOf := ⟨Try.func95, by kernel_rfl, by kernel_rfl⟩
theorem H_impl_keyOf : Holds Try.prog 95 E_impl_keyOf :=
  holds_of (cx := C_impl_keyOf) (tabOk_ok tabT rfl).1 (allT_ok trivial) mixT Q_impl_keyOf.1 Q_impl_keyOf.2.2 (loops_of W_impl_keyOf ⟨loop_of (cx := C_impl_keyOf) (L := S_impl_keyOf_L3 fuel) rfl (by rw [R_impl_keyOf_L3]; rfl) ⟨impl_keyOf_L3, fun _ => rfl, fun n x => K_impl_keyOf_L3 n x, fuel, fun _ => rfl⟩, trivial⟩) (enc := N_impl_keyOf) (fun _ _ => ⟨rfl, rfl⟩) F_impl_keyOf

theorem K_impl_tupleSet_L3 (n : Nat) (x : (List ByteArray) × (List (List Int)) × Int × Int) : impl_tupleSet_L3 (n + 1) x = roundK C_impl_tupleSet B_impl_tupleSet_L3 (S_impl_tupleSet_L3 fuel) x (impl_tupleSet_L3 n) := by
  obtain ⟨set, t8, t9, t10⟩ := x
  kernel_rfl
theorem F_impl_tupleSet (a : dens E_impl_tupleSet.params) : E_impl_tupleSet.run a = funK C_impl_tupleSet Try.f93 E_impl_tupleSet.params E_impl_tupleSet.results a (fun o r => some (N_impl_tupleSet o r)) := by
  kernel_rfl
theorem W_impl_tupleSet : loopsOf D_impl_tupleSet = [B_impl_tupleSet_L3] := by kernel_rfl
theorem R_impl_tupleSet_L3 : firstReg B_impl_tupleSet_L3 = 3 := by kernel_rfl
theorem Q_impl_tupleSet : Try.prog.funcs[93]? = some Try.f93 ∧ (Try.f93.name == "runtime.NumGoroutine") = false ∧ Try.f93.body = some D_impl_tupleSet := ⟨Try.func93, by kernel_rfl, by kernel_rfl⟩
theorem H_impl_tupleSet : Holds Try.prog 93 E_impl_tupleSet :=
  holds_of (cx := C_impl_tupleSet) (tabOk_ok tabT rfl).1 (allT_ok ⟨⟨H_impl_keyOf, _, _, Q_impl_keyOf⟩, trivial⟩) mixT Q_impl_tupleSet.1 Q_impl_tupleSet.2.2 (loops_of W_impl_tupleSet ⟨loop_of (cx := C_impl_tupleSet) (L := S_impl_tupleSet_L3 fuel) rfl (by rw [R_impl_tupleSet_L3]; rfl) ⟨impl_tupleSet_L3, fun _ => rfl, fun n x => K_impl_tupleSet_L3 n x, fuel, fun _ => rfl⟩, trivial⟩) (enc := N_impl_tupleSet) (fun _ _ => ⟨rfl, rfl⟩) F_impl_tupleSet

theorem K_impl_power_L2 (n : Nat) (x : Int × Int × Int) : impl_power_L2 (n + 1) x = roundK C_impl_power B_impl_power_L2 (S_impl_power_L2 fuel) x (impl_power_L2 n) := by
  obtain ⟨n_, k, p⟩ := x
  kernel_rfl
theorem F_impl_power (a : dens E_impl_power.params) : E_impl_power.run a = funK C_impl_power Try.f94 E_impl_power.params E_impl_power.results a (fun o r => some (N_impl_power o r)) := by
  kernel_rfl
theorem W_impl_power : loopsOf D_impl_power = [B_impl_power_L2] := by kernel_rfl
theorem R_impl_power_L2 : firstReg B_impl_power_L2 = 2 := by kernel_rfl
theorem Q_impl_power : Try.prog.funcs[94]? = some Try.f94 ∧ (Try.f94.name == "runtime.NumGoroutine") = false ∧ Try.f94.body = some D_impl_power := ⟨Try.func94, by kernel_rfl, by kernel_rfl⟩
theorem H_impl_power : Holds Try.prog 94 E_impl_power :=
  holds_of (cx := C_impl_power) (tabOk_ok tabT rfl).1 (allT_ok trivial) mixT Q_impl_power.1 Q_impl_power.2.2 (loops_of W_impl_power ⟨loop_of (cx := C_impl_power) (L := S_impl_power_L2 fuel) rfl (by rw [R_impl_power_L2]; rfl) ⟨impl_power_L2, fun _ => rfl, fun n x => K_impl_power_L2 n x, fuel, fun _ => rfl⟩, trivial⟩) (enc := N_impl_power) (fun _ _ => ⟨rfl, rfl⟩) F_impl_power

theorem K_impl_firstBreak_L10 (n : Nat) (x : Int × (Int × (List Int)) × (Int × (List (List Int))) × (List ByteArray) × Int × (List Int) × (List Int) × Int × Int × Int) : impl_firstBreak_L10 (n + 1) x = roundK C_impl_firstBreak B_impl_firstBreak_L10 (S_impl_firstBreak_L10 fuel) x (impl_firstBreak_L10 n) := by
  obtain ⟨t0, t4, t5, t9, t10, t11, t12, t13, t14, t15⟩ := x
  kernel_rfl
theorem K_impl_firstBreak_L19 (n : Nat) (x : Unit × Int × (Int × (List Int)) × (Int × (List (List Int))) × (List ByteArray) × Int × (List Int) × (List Int) × Int × Int × Int × Int × Int × Int × Int) : impl_firstBreak_L19 (n + 1) x = roundK C_impl_firstBreak B_impl_firstBreak_L19 (S_impl_firstBreak_L19 fuel) x (impl_firstBreak_L19 n) := by
  obtain ⟨al61, t0, t4, t5, t9, t10, t11, t12, t13, t16, t17, t57, t58, t62, t63⟩ := x
  kernel_rfl
theorem K_impl_firstBreak_L15 (n : Nat) (x : Int × (Int × (List Int)) × (Int × (List (List Int))) × (List ByteArray) × Int × (List Int) × (List Int) × Int × Int × Int) : impl_firstBreak_L15 (n + 1) x = roundK C_impl_firstBreak B_impl_firstBreak_L15 (S_impl_firstBreak_L15 fuel) x (impl_firstBreak_L15 n) := by
  obtain ⟨t0, t4, t5, t9, t10, t11, t12, t13, t57, t58⟩ := x
  kernel_rfl
theorem K_impl_firstBreak_L6 (n : Nat) (x : Int × (Int × (List Int)) × (Int × (List (List Int))) × (List ByteArray) × Int × (List Int) × (List Int) × Int) : impl_firstBreak_L6 (n + 1) x = roundK C_impl_firstBreak B_impl_firstBreak_L6 (S_impl_firstBreak_L6 fuel) x (impl_firstBreak_L6 n) := by
  obtain ⟨t0, t4, t5, t9, t10, t11, t12, t13⟩ := x
  kernel_rfl
theorem F_impl_firstBreak (a : dens E_impl_firstBreak.params) : E_impl_firstBreak.run a = funK C_impl_firstBreak Try.f78 E_impl_firstBreak.params E_impl_firstBreak.results a (fun o r => some (N_impl_firstBreak o r)) := by
  kernel_rfl
theorem W_impl_firstBreak : loopsOf D_impl_firstBreak = [B_impl_firstBreak_L6, B_impl_firstBreak_L10, B_impl_firstBreak_L15, B_impl_firstBreak_L19] := by kernel_rfl
theorem R_impl_firstBreak_L10 : firstReg B_impl_firstBreak_L10 = 10 := by kernel_rfl
theorem R_impl_firstBreak_L19 : firstReg B_impl_firstBreak_L19 = 19 := by kernel_rfl
theorem R_impl_firstBreak_L15 : firstReg B_impl_firstBreak_L15 = 15 := by kernel_rfl
theorem R_impl_firstBreak_L6 : firstReg B_impl_firstBreak_L6 = 6 := by kernel_rfl
theorem Q_impl_firstBreak : Try.prog.funcs[78]? = some Try.f78 ∧ (Try.f78.name == "runtime.NumGoroutine") = false ∧ Try.f78.body = some D_impl_firstBreak := ⟨Try.func78, by kernel_rfl, by kernel_rfl⟩
theorem H_impl_firstBreak : Holds Try.prog 78 E_impl_firstBreak :=
  holds_of (cx := C_impl_firstBreak) (tabOk_ok tabT rfl).1 (allT_ok ⟨⟨H_impl_tupleSet, _, _, Q_impl_tupleSet⟩, ⟨⟨H_impl_power, _, _, Q_impl_power⟩, ⟨⟨H_impl_keyOf, _, _, Q_impl_keyOf⟩, trivial⟩⟩⟩) mixT Q_impl_firstBreak.1 Q_impl_firstBreak.2.2 (loops_of W_impl_firstBreak ⟨loop_of (cx := C_impl_firstBreak) (L := S_impl_firstBreak_L6 fuel) rfl (by rw [R_impl_firstBreak_L6]; rfl) ⟨impl_firstBreak_L6, fun _ => rfl, fun n x => K_impl_firstBreak_L6 n x, fuel, fun _ => rfl⟩, ⟨loop_of (cx := C_impl_firstBreak) (L := S_impl_firstBreak_L10 fuel) rfl (by rw [R_impl_firstBreak_L10]; rfl) ⟨impl_firstBreak_L10, fun _ => rfl, fun n x => K_impl_firstBreak_L10 n x, fuel, fun _ => rfl⟩, ⟨loop_of (cx := C_impl_firstBreak) (L := S_impl_firstBreak_L15 fuel) rfl (by rw [R_impl_firstBreak_L15]; rfl) ⟨impl_firstBreak_L15, fun _ => rfl, fun n x => K_impl_firstBreak_L15 n x, fuel, fun _ => rfl⟩, ⟨loop_of (cx := C_impl_firstBreak) (L := S_impl_firstBreak_L19 fuel) rfl (by rw [R_impl_firstBreak_L19]; rfl) ⟨impl_firstBreak_L19, fun _ => rfl, fun n x => K_impl_firstBreak_L19 n x, fuel, fun _ => rfl⟩, trivial⟩⟩⟩⟩) (enc := N_impl_firstBreak) (fun _ _ => ⟨rfl, rfl⟩) F_impl_firstBreak

theorem K_impl_keepsAll_L2 (n : Nat) (x : Int × (Int × (List Int)) × (List (Int × (List (List Int)))) × Int × Int) : impl_keepsAll_L2 (n + 1) x = roundK C_impl_keepsAll B_impl_keepsAll_L2 (S_impl_keepsAll_L2 fuel) x (impl_keepsAll_L2 n) := by
  obtain ⟨n_, op, t12, t13, t14⟩ := x
  kernel_rfl
theorem F_impl_keepsAll (a : dens E_impl_keepsAll.params) : E_impl_keepsAll.run a = funK C_impl_keepsAll Try.f59 E_impl_keepsAll.params E_impl_keepsAll.results a (fun o r => some (N_impl_keepsAll o r)) := by
  kernel_rfl
theorem W_impl_keepsAll : loopsOf D_impl_keepsAll = [B_impl_keepsAll_L2] := by kernel_rfl
theorem R_impl_keepsAll_L2 : firstReg B_impl_keepsAll_L2 = 2 := by kernel_rfl
theorem Q_impl_keepsAll : Try.prog.funcs[59]? = some Try.f59 ∧ (Try.f59.name == "runtime.NumGoroutine") = false ∧ Try.f59.body = some D_impl_keepsAll := ⟨Try.func59, by kernel_rfl, by kernel_rfl⟩
theorem H_impl_keepsAll : Holds Try.prog 59 E_impl_keepsAll :=
  holds_of (cx := C_impl_keepsAll) (tabOk_ok tabT rfl).1 (allT_ok ⟨⟨H_impl_firstBreak, _, _, Q_impl_firstBreak⟩, trivial⟩) mixT Q_impl_keepsAll.1 Q_impl_keepsAll.2.2 (loops_of W_impl_keepsAll ⟨loop_of (cx := C_impl_keepsAll) (L := S_impl_keepsAll_L2 fuel) rfl (by rw [R_impl_keepsAll_L2]; rfl) ⟨impl_keepsAll_L2, fun _ => rfl, fun n x => K_impl_keepsAll_L2 n x, fuel, fun _ => rfl⟩, trivial⟩) (enc := N_impl_keepsAll) (fun _ _ => ⟨rfl, rfl⟩) F_impl_keepsAll

theorem K_impl_booleanClasses_L6 (n : Nat) (x : (List Bool) × ((List Int) × Int × (List (List Int))) × Int × (List ((List Int) × Int × (List (List Int)))) × Int × Int) : impl_booleanClasses_L6 (n + 1) x = roundK C_impl_booleanClasses B_impl_booleanClasses_L6 (S_impl_booleanClasses_L6 fuel) x (impl_booleanClasses_L6 n) := by
  obtain ⟨in_, c, x, t10, t11, t12⟩ := x
  kernel_rfl
theorem K_impl_booleanClasses_L10 (n : Nat) (x : (List Bool) × ((List Int) × Int × (List (List Int))) × (List ((List Int) × Int × (List (List Int)))) × Int × Int × (List (Int × (List Int))) × Int × Int) : impl_booleanClasses_L10 (n + 1) x = roundK C_impl_booleanClasses B_impl_booleanClasses_L10 (S_impl_booleanClasses_L10 fuel) x (impl_booleanClasses_L10 n) := by
  obtain ⟨in_, c, t10, t11, t12, t37, t38, t39⟩ := x
  kernel_rfl
theorem K_impl_booleanClasses_L3 (n : Nat) (x : (List Bool) × (List ((List Int) × Int × (List (List Int)))) × Int × Int) : impl_booleanClasses_L3 (n + 1) x = roundK C_impl_booleanClasses B_impl_booleanClasses_L3 (S_impl_booleanClasses_L3 fuel) x (impl_booleanClasses_L3 n) := by
  obtain ⟨in_, t10, t11, t12⟩ := x
  kernel_rfl
theorem F_impl_booleanClasses (a : dens E_impl_booleanClasses.params) : E_impl_booleanClasses.run a = funK C_impl_booleanClasses Try.f44 E_impl_booleanClasses.params E_impl_booleanClasses.results a (fun o r => some (N_impl_booleanClasses o r)) := by
  kernel_rfl
theorem W_impl_booleanClasses : loopsOf D_impl_booleanClasses = [B_impl_booleanClasses_L3, B_impl_booleanClasses_L6, B_impl_booleanClasses_L10] := by kernel_rfl
theorem R_impl_booleanClasses_L6 : firstReg B_impl_booleanClasses_L6 = 6 := by kernel_rfl
theorem R_impl_booleanClasses_L10 : firstReg B_impl_booleanClasses_L10 = 10 := by kernel_rfl
theorem R_impl_booleanClasses_L3 : firstReg B_impl_booleanClasses_L3 = 3 := by kernel_rfl
theorem Q_impl_booleanClasses : Try.prog.funcs[44]? = some Try.f44 ∧ (Try.f44.name == "runtime.NumGoroutine") = false ∧ Try.f44.body = some D_impl_booleanClasses := ⟨Try.func44, by kernel_rfl, by kernel_rfl⟩
theorem H_impl_booleanClasses : Holds Try.prog 44 E_impl_booleanClasses :=
  holds_of (cx := C_impl_booleanClasses) (tabOk_ok tabT rfl).1 (allT_ok ⟨⟨H_impl_hasRow, _, _, Q_impl_hasRow⟩, ⟨⟨H_impl_constantTuple, _, _, Q_impl_constantTuple⟩, ⟨⟨H_impl_booleanOps, _, _, Q_impl_booleanOps⟩, ⟨⟨H_impl_keepsAll, _, _, Q_impl_keepsAll⟩, trivial⟩⟩⟩⟩) mixT Q_impl_booleanClasses.1 Q_impl_booleanClasses.2.2 (loops_of W_impl_booleanClasses ⟨loop_of (cx := C_impl_booleanClasses) (L := S_impl_booleanClasses_L3 fuel) rfl (by rw [R_impl_booleanClasses_L3]; rfl) ⟨impl_booleanClasses_L3, fun _ => rfl, fun n x => K_impl_booleanClasses_L3 n x, fuel, fun _ => rfl⟩, ⟨loop_of (cx := C_impl_booleanClasses) (L := S_impl_booleanClasses_L6 fuel) rfl (by rw [R_impl_booleanClasses_L6]; rfl) ⟨impl_booleanClasses_L6, fun _ => rfl, fun n x => K_impl_booleanClasses_L6 n x, fuel, fun _ => rfl⟩, ⟨loop_of (cx := C_impl_booleanClasses) (L := S_impl_booleanClasses_L10 fuel) rfl (by rw [R_impl_booleanClasses_L10]; rfl) ⟨impl_booleanClasses_L10, fun _ => rfl, fun n x => K_impl_booleanClasses_L10 n x, fuel, fun _ => rfl⟩, trivial⟩⟩⟩) (enc := N_impl_booleanClasses) (fun _ _ => ⟨rfl, rfl⟩) F_impl_booleanClasses

theorem F_impl_inClass (a : dens E_impl_inClass.params) : E_impl_inClass.run a = funK C_impl_inClass Try.f49 E_impl_inClass.params E_impl_inClass.results a (fun o r => some (N_impl_inClass o r)) := by
  kernel_rfl
theorem W_impl_inClass : loopsOf D_impl_inClass = [] := by kernel_rfl
theorem Q_impl_inClass : Try.prog.funcs[49]? = some Try.f49 ∧ (Try.f49.name == "runtime.NumGoroutine") = false ∧ Try.f49.body = some D_impl_inClass := ⟨Try.func49, by kernel_rfl, by kernel_rfl⟩
theorem H_impl_inClass : Holds Try.prog 49 E_impl_inClass :=
  holds_of (cx := C_impl_inClass) (tabOk_ok tabT rfl).1 (allT_ok ⟨⟨H_impl_isBoolean, _, _, Q_impl_isBoolean⟩, ⟨⟨H_impl_booleanClasses, _, _, Q_impl_booleanClasses⟩, trivial⟩⟩) mixT Q_impl_inClass.1 Q_impl_inClass.2.2 (loops_of W_impl_inClass trivial) (enc := N_impl_inClass) (fun _ _ => ⟨rfl, rfl⟩) F_impl_inClass

theorem K_impl_compose_L3 (n : Nat) (x : (List Int) × (List Int) × (List Int) × Int × Int) : impl_compose_L3 (n + 1) x = roundK C_impl_compose B_impl_compose_L3 (S_impl_compose_L3 fuel) x (impl_compose_L3 n) := by
  obtain ⟨g, h, t11, t12, t13⟩ := x
  kernel_rfl
theorem F_impl_compose (a : dens E_impl_compose.params) : E_impl_compose.run a = funK C_impl_compose Try.f85 E_impl_compose.params E_impl_compose.results a (fun o r => some (N_impl_compose o r)) := by
  kernel_rfl
theorem W_impl_compose : loopsOf D_impl_compose = [B_impl_compose_L3] := by kernel_rfl
theorem R_impl_compose_L3 : firstReg B_impl_compose_L3 = 3 := by kernel_rfl
theorem Q_impl_compose : Try.prog.funcs[85]? = some Try.f85 ∧ (Try.f85.name == "runtime.NumGoroutine") = false ∧ Try.f85.body = some D_impl_compose := ⟨Try.func85, by kernel_rfl, by kernel_rfl⟩
theorem H_impl_compose : Holds Try.prog 85 E_impl_compose :=
  holds_of (cx := C_impl_compose) (tabOk_ok tabT rfl).1 (allT_ok trivial) mixT Q_impl_compose.1 Q_impl_compose.2.2 (loops_of W_impl_compose ⟨loop_of (cx := C_impl_compose) (L := S_impl_compose_L3 fuel) rfl (by rw [R_impl_compose_L3]; rfl) ⟨impl_compose_L3, fun _ => rfl, fun n x => K_impl_compose_L3 n x, fuel, fun _ => rfl⟩, trivial⟩) (enc := N_impl_compose) (fun _ _ => ⟨rfl, rfl⟩) F_impl_compose

theorem K_impl_unsatisfied_L2 (n : Nat) (x : (List Int) × (List ((List Int) × Int × (List (List Int)))) × Int × Int) : impl_unsatisfied_L2 (n + 1) x = roundK C_impl_unsatisfied B_impl_unsatisfied_L2 (S_impl_unsatisfied_L2 fuel) x (impl_unsatisfied_L2 n) := by
  obtain ⟨values, t8, t9, t10⟩ := x
  kernel_rfl
theorem F_impl_unsatisfied (a : dens E_impl_unsatisfied.params) : E_impl_unsatisfied.run a = funK C_impl_unsatisfied Try.f66 E_impl_unsatisfied.params E_impl_unsatisfied.results a (fun o r => some (N_impl_unsatisfied o r)) := by
  kernel_rfl
theorem W_impl_unsatisfied : loopsOf D_impl_unsatisfied = [B_impl_unsatisfied_L2] := by kernel_rfl
theorem R_impl_unsatisfied_L2 : firstReg B_impl_unsatisfied_L2 = 2 := by kernel_rfl
theorem Q_impl_unsatisfied : Try.prog.funcs[66]? = some Try.f66 ∧ (Try.f66.name == "runtime.NumGoroutine") = false ∧ Try.f66.body = some D_impl_unsatisfied := ⟨Try.func66, by kernel_rfl, by kernel_rfl⟩
theorem H_impl_unsatisfied : Holds Try.prog 66 E_impl_unsatisfied :=
  holds_of (cx := C_impl_unsatisfied) (tabOk_ok tabT rfl).1 (allT_ok ⟨⟨H_impl_hasRow, _, _, Q_impl_hasRow⟩, ⟨⟨H_impl_compose, _, _, Q_impl_compose⟩, trivial⟩⟩) mixT Q_impl_unsatisfied.1 Q_impl_unsatisfied.2.2 (loops_of W_impl_unsatisfied ⟨loop_of (cx := C_impl_unsatisfied) (L := S_impl_unsatisfied_L2 fuel) rfl (by rw [R_impl_unsatisfied_L2]; rfl) ⟨impl_unsatisfied_L2, fun _ => rfl, fun n x => K_impl_unsatisfied_L2 n x, fuel, fun _ => rfl⟩, trivial⟩) (enc := N_impl_unsatisfied) (fun _ _ => ⟨rfl, rfl⟩) F_impl_unsatisfied

theorem K_impl_agrees_L5 (n : Nat) (x : (List Int) × (List Int) × Int × Int × (List Int) × Int × Int × (List Int) × Int × Int) : impl_agrees_L5 (n + 1) x = roundK C_impl_agrees B_impl_agrees_L5 (S_impl_agrees_L5 fuel) x (impl_agrees_L5 n) := by
  obtain ⟨scope, t, i, v, t9, t10, t11, t18, t19, t20⟩ := x
  kernel_rfl
theorem K_impl_agrees_L2 (n : Nat) (x : (List Int) × (List Int) × (List Int) × Int × Int) : impl_agrees_L2 (n + 1) x = roundK C_impl_agrees B_impl_agrees_L2 (S_impl_agrees_L2 fuel) x (impl_agrees_L2 n) := by
  obtain ⟨scope, t, t9, t10, t11⟩ := x
  kernel_rfl
theorem F_impl_agrees (a : dens E_impl_agrees.params) : E_impl_agrees.run a = funK C_impl_agrees Try.f86 E_impl_agrees.params E_impl_agrees.results a (fun o r => some (N_impl_agrees o r)) := by
  kernel_rfl
theorem W_impl_agrees : loopsOf D_impl_agrees = [B_impl_agrees_L2, B_impl_agrees_L5] := by kernel_rfl
theorem R_impl_agrees_L5 : firstReg B_impl_agrees_L5 = 5 := by kernel_rfl
theorem R_impl_agrees_L2 : firstReg B_impl_agrees_L2 = 2 := by kernel_rfl
theorem Q_impl_agrees : Try.prog.funcs[86]? = some Try.f86 ∧ (Try.f86.name == "runtime.NumGoroutine") = false ∧ Try.f86.body = some D_impl_agrees := ⟨Try.func86, by kernel_rfl, by kernel_rfl⟩
theorem H_impl_agrees : Holds Try.prog 86 E_impl_agrees :=
  holds_of (cx := C_impl_agrees) (tabOk_ok tabT rfl).1 (allT_ok trivial) mixT Q_impl_agrees.1 Q_impl_agrees.2.2 (loops_of W_impl_agrees ⟨loop_of (cx := C_impl_agrees) (L := S_impl_agrees_L2 fuel) rfl (by rw [R_impl_agrees_L2]; rfl) ⟨impl_agrees_L2, fun _ => rfl, fun n x => K_impl_agrees_L2 n x, fuel, fun _ => rfl⟩, ⟨loop_of (cx := C_impl_agrees) (L := S_impl_agrees_L5 fuel) rfl (by rw [R_impl_agrees_L5]; rfl) ⟨impl_agrees_L5, fun _ => rfl, fun n x => K_impl_agrees_L5 n x, fuel, fun _ => rfl⟩, trivial⟩⟩) (enc := N_impl_agrees) (fun _ _ => ⟨rfl, rfl⟩) F_impl_agrees

theorem K_impl_raise_L3 (n : Nat) (x : (List Int) × Int × ((List Int) × Int × (List (List Int))) × (List Bool) × Int × Int) : impl_raise_L3 (n + 1) x = roundK C_impl_raise B_impl_raise_L3 (S_impl_raise_L3 fuel) x (impl_raise_L3 n) := by
  obtain ⟨t1, t2, t3, t7, t24, t25⟩ := x
  kernel_rfl
theorem K_impl_raise_L13 (n : Nat) (x : (List Int) × Int × ((List Int) × Int × (List (List Int))) × (List Bool) × Bool × (List Int) × Bool × (List (List Int)) × Int × Int × (List Int) × Int × Int) : impl_raise_L13 (n + 1) x = roundK C_impl_raise B_impl_raise_L13 (S_impl_raise_L13 fuel) x (impl_raise_L13 n) := by
  obtain ⟨t1, t2, t3, t7, t9, t11, t12, t34, t35, t36, t44, t45, t46⟩ := x
  kernel_rfl
theorem K_impl_raise_L20 (n : Nat) (x : (List Int) × Int × ((List Int) × Int × (List (List Int))) × (List Bool) × Bool × (List (List Int)) × Int × Int × (List Int) × Int × Int) : impl_raise_L20 (n + 1) x = roundK C_impl_raise B_impl_raise_L20 (S_impl_raise_L20 fuel) x (impl_raise_L20 n) := by
  obtain ⟨t1, t2, t3, t7, t9, t34, t35, t36, t72, t73, t74⟩ := x
  kernel_rfl
theorem K_impl_raise_L9 (n : Nat) (x : (List Int) × Int × ((List Int) × Int × (List (List Int))) × (List Bool) × Bool × (List (List Int)) × Int × Int) : impl_raise_L9 (n + 1) x = roundK C_impl_raise B_impl_raise_L9 (S_impl_raise_L9 fuel) x (impl_raise_L9 n) := by
  obtain ⟨t1, t2, t3, t7, t9, t34, t35, t36⟩ := x
  kernel_rfl
theorem K_impl_raise_L26 (n : Nat) (x : (List Int) × Int × (List Bool) × Bool × (List Int) × Int × Int) : impl_raise_L26 (n + 1) x = roundK C_impl_raise B_impl_raise_L26 (S_impl_raise_L26 fuel) x (impl_raise_L26 n) := by
  obtain ⟨t1, t2, t7, t9, t94, t95, t96⟩ := x
  kernel_rfl
theorem F_impl_raise (a : dens E_impl_raise.params) : E_impl_raise.run a = funK C_impl_raise Try.f67 E_impl_raise.params E_impl_raise.results a (fun o r => some (N_impl_raise o r)) := by
  kernel_rfl
theorem W_impl_raise : loopsOf D_impl_raise = [B_impl_raise_L3, B_impl_raise_L9, B_impl_raise_L13, B_impl_raise_L20, B_impl_raise_L26] := by kernel_rfl
theorem R_impl_raise_L3 : firstReg B_impl_raise_L3 = 3 := by kernel_rfl
theorem R_impl_raise_L13 : firstReg B_impl_raise_L13 = 13 := by kernel_rfl
theorem R_impl_raise_L20 : firstReg B_impl_raise_L20 = 20 := by kernel_rfl
theorem R_impl_raise_L9 : firstReg B_impl_raise_L9 = 9 := by kernel_rfl
theorem R_impl_raise_L26 : firstReg B_impl_raise_L26 = 26 := by kernel_rfl
theorem Q_impl_raise : Try.prog.funcs[67]? = some Try.f67 ∧ (Try.f67.name == "runtime.NumGoroutine") = false ∧ Try.f67.body = some D_impl_raise := ⟨Try.func67, by kernel_rfl, by kernel_rfl⟩
theorem H_impl_raise : Holds Try.prog 67 E_impl_raise :=
  holds_of (cx := C_impl_raise) (tabOk_ok tabT rfl).1 (allT_ok ⟨⟨H_impl_agrees, _, _, Q_impl_agrees⟩, trivial⟩) mixT Q_impl_raise.1 Q_impl_raise.2.2 (loops_of W_impl_raise ⟨loop_of (cx := C_impl_raise) (L := S_impl_raise_L3 fuel) rfl (by rw [R_impl_raise_L3]; rfl) ⟨impl_raise_L3, fun _ => rfl, fun n x => K_impl_raise_L3 n x, fuel, fun _ => rfl⟩, ⟨loop_of (cx := C_impl_raise) (L := S_impl_raise_L9 fuel) rfl (by rw [R_impl_raise_L9]; rfl) ⟨impl_raise_L9, fun _ => rfl, fun n x => K_impl_raise_L9 n x, fuel, fun _ => rfl⟩, ⟨loop_of (cx := C_impl_raise) (L := S_impl_raise_L13 fuel) rfl (by rw [R_impl_raise_L13]; rfl) ⟨impl_raise_L13, fun _ => rfl, fun n x => K_impl_raise_L13 n x, fuel, fun _ => rfl⟩, ⟨loop_of (cx := C_impl_raise) (L := S_impl_raise_L20 fuel) rfl (by rw [R_impl_raise_L20]; rfl) ⟨impl_raise_L20, fun _ => rfl, fun n x => K_impl_raise_L20 n x, fuel, fun _ => rfl⟩, ⟨loop_of (cx := C_impl_raise) (L := S_impl_raise_L26 fuel) rfl (by rw [R_impl_raise_L26]; rfl) ⟨impl_raise_L26, fun _ => rfl, fun n x => K_impl_raise_L26 n x, fuel, fun _ => rfl⟩, trivial⟩⟩⟩⟩⟩) (enc := N_impl_raise) (fun _ _ => ⟨rfl, rfl⟩) F_impl_raise

theorem K_impl_raiseAll_L3 (n : Nat) (x : Int × (Int × Int × (List ((List Int) × Int × (List (List Int))))) × (List Int) × (List Int)) : impl_raiseAll_L3 (n + 1) x = roundK C_impl_raiseAll B_impl_raiseAll_L3 (S_impl_raiseAll_L3 fuel) x (impl_raiseAll_L3 n) := by
  obtain ⟨one, net, values, steps⟩ := x
  kernel_rfl
theorem F_impl_raiseAll (a : dens E_impl_raiseAll.params) : E_impl_raiseAll.run a = funK C_impl_raiseAll Try.f50 E_impl_raiseAll.params E_impl_raiseAll.results a (fun o r => some (N_impl_raiseAll o r)) := by
  kernel_rfl
theorem W_impl_raiseAll : loopsOf D_impl_raiseAll = [B_impl_raiseAll_L3] := by kernel_rfl
theorem R_impl_raiseAll_L3 : firstReg B_impl_raiseAll_L3 = 3 := by kernel_rfl
theorem Q_impl_raiseAll : Try.prog.funcs[50]? = some Try.f50 ∧ (Try.f50.name == "runtime.NumGoroutine") = false ∧ Try.f50.body = some D_impl_raiseAll := ⟨Try.func50, by kernel_rfl, by kernel_rfl⟩
theorem H_impl_raiseAll : Holds Try.prog 50 E_impl_raiseAll :=
  holds_of (cx := C_impl_raiseAll) (tabOk_ok tabT rfl).1 (allT_ok ⟨⟨H_impl_constantTuple, _, _, Q_impl_constantTuple⟩, ⟨⟨H_impl_unsatisfied, _, _, Q_impl_unsatisfied⟩, ⟨⟨H_impl_raise, _, _, Q_impl_raise⟩, trivial⟩⟩⟩) mixT Q_impl_raiseAll.1 Q_impl_raiseAll.2.2 (loops_of W_impl_raiseAll ⟨loop_of (cx := C_impl_raiseAll) (L := S_impl_raiseAll_L3 fuel) rfl (by rw [R_impl_raiseAll_L3]; rfl) ⟨impl_raiseAll_L3, fun _ => rfl, fun n x => K_impl_raiseAll_L3 n x, fuel, fun _ => rfl⟩, trivial⟩) (enc := N_impl_raiseAll) (fun _ _ => ⟨rfl, rfl⟩) F_impl_raiseAll

theorem F_impl_RaiseSteps (a : dens E_impl_RaiseSteps.params) : E_impl_RaiseSteps.run a = funK C_impl_RaiseSteps Try.f33 E_impl_RaiseSteps.params E_impl_RaiseSteps.results a (fun o r => some (N_impl_RaiseSteps o r)) := by
  kernel_rfl
theorem W_impl_RaiseSteps : loopsOf D_impl_RaiseSteps = [] := by kernel_rfl
theorem Q_impl_RaiseSteps : Try.prog.funcs[33]? = some Try.f33 ∧ (Try.f33.name == "runtime.NumGoroutine") = false ∧ Try.f33.body = some D_impl_RaiseSteps := ⟨Try.func33, by kernel_rfl, by kernel_rfl⟩
theorem H_impl_RaiseSteps : Holds Try.prog 33 E_impl_RaiseSteps :=
  holds_of (cx := C_impl_RaiseSteps) (tabOk_ok tabT rfl).1 (allT_ok ⟨⟨H_impl_inClass, _, _, Q_impl_inClass⟩, ⟨⟨H_impl_raiseAll, _, _, Q_impl_raiseAll⟩, trivial⟩⟩) mixT Q_impl_RaiseSteps.1 Q_impl_RaiseSteps.2.2 (loops_of W_impl_RaiseSteps trivial) (enc := N_impl_RaiseSteps) (fun _ _ => ⟨rfl, rfl⟩) F_impl_RaiseSteps

theorem K_laws_eqIntS_L4 (n : Nat) (x : (List Int) × (List Int) × Int) : laws_eqIntS_L4 (n + 1) x = roundK C_laws_eqIntS B_laws_eqIntS_L4 (S_laws_eqIntS_L4 fuel) x (laws_eqIntS_L4 n) := by
  obtain ⟨a, b, i⟩ := x
  kernel_rfl
theorem F_laws_eqIntS (a : dens E_laws_eqIntS.params) : E_laws_eqIntS.run a = funK C_laws_eqIntS Try.f27 E_laws_eqIntS.params E_laws_eqIntS.results a (fun o r => some (N_laws_eqIntS o r)) := by
  kernel_rfl
theorem W_laws_eqIntS : loopsOf D_laws_eqIntS = [B_laws_eqIntS_L4] := by kernel_rfl
theorem R_laws_eqIntS_L4 : firstReg B_laws_eqIntS_L4 = 4 := by kernel_rfl
theorem Q_laws_eqIntS : Try.prog.funcs[27]? = some Try.f27 ∧ (Try.f27.name == "runtime.NumGoroutine") = false ∧ Try.f27.body = some D_laws_eqIntS := ⟨Try.func27, by kernel_rfl, by kernel_rfl⟩
theorem H_laws_eqIntS : Holds Try.prog 27 E_laws_eqIntS :=
  holds_of (cx := C_laws_eqIntS) (tabOk_ok tabT rfl).1 (allT_ok trivial) mixT Q_laws_eqIntS.1 Q_laws_eqIntS.2.2 (loops_of W_laws_eqIntS ⟨loop_of (cx := C_laws_eqIntS) (L := S_laws_eqIntS_L4 fuel) rfl (by rw [R_laws_eqIntS_L4]; rfl) ⟨laws_eqIntS_L4, fun _ => rfl, fun n x => K_laws_eqIntS_L4 n x, fuel, fun _ => rfl⟩, trivial⟩) (enc := N_laws_eqIntS) (fun _ _ => ⟨rfl, rfl⟩) F_laws_eqIntS

theorem K_laws_eqIntSS_L4 (n : Nat) (x : (List (List Int)) × (List (List Int)) × Int) : laws_eqIntSS_L4 (n + 1) x = roundK C_laws_eqIntSS B_laws_eqIntSS_L4 (S_laws_eqIntSS_L4 fuel) x (laws_eqIntSS_L4 n) := by
  obtain ⟨a, b, i⟩ := x
  kernel_rfl
theorem F_laws_eqIntSS (a : dens E_laws_eqIntSS.params) : E_laws_eqIntSS.run a = funK C_laws_eqIntSS Try.f96 E_laws_eqIntSS.params E_laws_eqIntSS.results a (fun o r => some (N_laws_eqIntSS o r)) := by
  kernel_rfl
theorem W_laws_eqIntSS : loopsOf D_laws_eqIntSS = [B_laws_eqIntSS_L4] := by kernel_rfl
theorem R_laws_eqIntSS_L4 : firstReg B_laws_eqIntSS_L4 = 4 := by kernel_rfl
theorem Q_laws_eqIntSS : Try.prog.funcs[96]? = some Try.f96 ∧ (Try.f96.name == "runtime.NumGoroutine") = false ∧ Try.f96.body = some D_laws_eqIntSS := ⟨Try.func96, by kernel_rfl, by kernel_rfl⟩
theorem H_laws_eqIntSS : Holds Try.prog 96 E_laws_eqIntSS :=
  holds_of (cx := C_laws_eqIntSS) (tabOk_ok tabT rfl).1 (allT_ok ⟨⟨H_laws_eqIntS, _, _, Q_laws_eqIntS⟩, trivial⟩) mixT Q_laws_eqIntSS.1 Q_laws_eqIntSS.2.2 (loops_of W_laws_eqIntSS ⟨loop_of (cx := C_laws_eqIntSS) (L := S_laws_eqIntSS_L4 fuel) rfl (by rw [R_laws_eqIntSS_L4]; rfl) ⟨laws_eqIntSS_L4, fun _ => rfl, fun n x => K_laws_eqIntSS_L4 n x, fuel, fun _ => rfl⟩, trivial⟩) (enc := N_laws_eqIntSS) (fun _ _ => ⟨rfl, rfl⟩) F_laws_eqIntSS

theorem F_laws_eqRelation (a : dens E_laws_eqRelation.params) : E_laws_eqRelation.run a = funK C_laws_eqRelation Try.f79 E_laws_eqRelation.params E_laws_eqRelation.results a (fun o r => some (N_laws_eqRelation o r)) := by
  kernel_rfl
theorem W_laws_eqRelation : loopsOf D_laws_eqRelation = [] := by kernel_rfl
theorem Q_laws_eqRelation : Try.prog.funcs[79]? = some Try.f79 ∧ (Try.f79.name == "runtime.NumGoroutine") = false ∧ Try.f79.body = some D_laws_eqRelation := ⟨Try.func79, by kernel_rfl, by kernel_rfl⟩
theorem H_laws_eqRelation : Holds Try.prog 79 E_laws_eqRelation :=
  holds_of (cx := C_laws_eqRelation) (tabOk_ok tabT rfl).1 (allT_ok ⟨⟨H_laws_eqIntSS, _, _, Q_laws_eqIntSS⟩, trivial⟩) mixT Q_laws_eqRelation.1 Q_laws_eqRelation.2.2 (loops_of W_laws_eqRelation trivial) (enc := N_laws_eqRelation) (fun _ _ => ⟨rfl, rfl⟩) F_laws_eqRelation

theorem F_laws_eqConstraint (a : dens E_laws_eqConstraint.params) : E_laws_eqConstraint.run a = funK C_laws_eqConstraint Try.f60 E_laws_eqConstraint.params E_laws_eqConstraint.results a (fun o r => some (N_laws_eqConstraint o r)) := by
  kernel_rfl
theorem W_laws_eqConstraint : loopsOf D_laws_eqConstraint = [] := by kernel_rfl
theorem Q_laws_eqConstraint : Try.prog.funcs[60]? = some Try.f60 ∧ (Try.f60.name == "runtime.NumGoroutine") = false ∧ Try.f60.body = some D_laws_eqConstraint := ⟨Try.func60, by kernel_rfl, by kernel_rfl⟩
theorem H_laws_eqConstraint : Holds Try.prog 60 E_laws_eqConstraint :=
  holds_of (cx := C_laws_eqConstraint) (tabOk_ok tabT rfl).1 (allT_ok ⟨⟨H_laws_eqIntS, _, _, Q_laws_eqIntS⟩, ⟨⟨H_laws_eqRelation, _, _, Q_laws_eqRelation⟩, trivial⟩⟩) mixT Q_laws_eqConstraint.1 Q_laws_eqConstraint.2.2 (loops_of W_laws_eqConstraint trivial) (enc := N_laws_eqConstraint) (fun _ _ => ⟨rfl, rfl⟩) F_laws_eqConstraint

theorem K_laws_eqConstraintS_L4 (n : Nat) (x : (List ((List Int) × Int × (List (List Int)))) × (List ((List Int) × Int × (List (List Int)))) × Int) : laws_eqConstraintS_L4 (n + 1) x = roundK C_laws_eqConstraintS B_laws_eqConstraintS_L4 (S_laws_eqConstraintS_L4 fuel) x (laws_eqConstraintS_L4 n) := by
  obtain ⟨a, b, i⟩ := x
  kernel_rfl
theorem F_laws_eqConstraintS (a : dens E_laws_eqConstraintS.params) : E_laws_eqConstraintS.run a = funK C_laws_eqConstraintS Try.f45 E_laws_eqConstraintS.params E_laws_eqConstraintS.results a (fun o r => some (N_laws_eqConstraintS o r)) := by
  kernel_rfl
theorem W_laws_eqConstraintS : loopsOf D_laws_eqConstraintS = [B_laws_eqConstraintS_L4] := by kernel_rfl
theorem R_laws_eqConstraintS_L4 : firstReg B_laws_eqConstraintS_L4 = 4 := by kernel_rfl
theorem Q_laws_eqConstraintS : Try.prog.funcs[45]? = some Try.f45 ∧ (Try.f45.name == "runtime.NumGoroutine") = false ∧ Try.f45.body = some D_laws_eqConstraintS := ⟨Try.func45, by kernel_rfl, by kernel_rfl⟩
theorem H_laws_eqConstraintS : Holds Try.prog 45 E_laws_eqConstraintS :=
  holds_of (cx := C_laws_eqConstraintS) (tabOk_ok tabT rfl).1 (allT_ok ⟨⟨H_laws_eqConstraint, _, _, Q_laws_eqConstraint⟩, trivial⟩) mixT Q_laws_eqConstraintS.1 Q_laws_eqConstraintS.2.2 (loops_of W_laws_eqConstraintS ⟨loop_of (cx := C_laws_eqConstraintS) (L := S_laws_eqConstraintS_L4 fuel) rfl (by rw [R_laws_eqConstraintS_L4]; rfl) ⟨laws_eqConstraintS_L4, fun _ => rfl, fun n x => K_laws_eqConstraintS_L4 n x, fuel, fun _ => rfl⟩, trivial⟩) (enc := N_laws_eqConstraintS) (fun _ _ => ⟨rfl, rfl⟩) F_laws_eqConstraintS

theorem F_laws_eqNetwork (a : dens E_laws_eqNetwork.params) : E_laws_eqNetwork.run a = funK C_laws_eqNetwork Try.f18 E_laws_eqNetwork.params E_laws_eqNetwork.results a (fun o r => some (N_laws_eqNetwork o r)) := by
  kernel_rfl
theorem W_laws_eqNetwork : loopsOf D_laws_eqNetwork = [] := by kernel_rfl
theorem Q_laws_eqNetwork : Try.prog.funcs[18]? = some Try.f18 ∧ (Try.f18.name == "runtime.NumGoroutine") = false ∧ Try.f18.body = some D_laws_eqNetwork := ⟨Try.func18, by kernel_rfl, by kernel_rfl⟩
theorem H_laws_eqNetwork : Holds Try.prog 18 E_laws_eqNetwork :=
  holds_of (cx := C_laws_eqNetwork) (tabOk_ok tabT rfl).1 (allT_ok ⟨⟨H_laws_eqConstraintS, _, _, Q_laws_eqConstraintS⟩, trivial⟩) mixT Q_laws_eqNetwork.1 Q_laws_eqNetwork.2.2 (loops_of W_laws_eqNetwork trivial) (enc := N_laws_eqNetwork) (fun _ _ => ⟨rfl, rfl⟩) F_laws_eqNetwork

theorem K_laws_markIntS_L2 (n : Nat) (x : (List Int) × Int × Int) : laws_markIntS_L2 (n + 1) x = roundK C_laws_markIntS B_laws_markIntS_L2 (S_laws_markIntS_L2 fuel) x (laws_markIntS_L2 n) := by
  obtain ⟨a, k, i⟩ := x
  kernel_rfl
theorem F_laws_markIntS (a : dens E_laws_markIntS.params) : E_laws_markIntS.run a = funK C_laws_markIntS Try.f28 E_laws_markIntS.params E_laws_markIntS.results a (fun o r => some (N_laws_markIntS o r)) := by
  kernel_rfl
theorem W_laws_markIntS : loopsOf D_laws_markIntS = [B_laws_markIntS_L2] := by kernel_rfl
theorem R_laws_markIntS_L2 : firstReg B_laws_markIntS_L2 = 2 := by kernel_rfl
theorem Q_laws_markIntS : Try.prog.funcs[28]? = some Try.f28 ∧ (Try.f28.name == "runtime.NumGoroutine") = false ∧ Try.f28.body = some D_laws_markIntS := ⟨Try.func28, by kernel_rfl, by kernel_rfl⟩
theorem H_laws_markIntS : Holds Try.prog 28 E_laws_markIntS :=
  holds_of (cx := C_laws_markIntS) (tabOk_ok tabT rfl).1 (allT_ok trivial) mixT Q_laws_markIntS.1 Q_laws_markIntS.2.2 (loops_of W_laws_markIntS ⟨loop_of (cx := C_laws_markIntS) (L := S_laws_markIntS_L2 fuel) rfl (by rw [R_laws_markIntS_L2]; rfl) ⟨laws_markIntS_L2, fun _ => rfl, fun n x => K_laws_markIntS_L2 n x, fuel, fun _ => rfl⟩, trivial⟩) (enc := N_laws_markIntS) (fun _ _ => ⟨rfl, rfl⟩) F_laws_markIntS

theorem K_laws_markIntSS_L2 (n : Nat) (x : (List (List Int)) × Int × Int) : laws_markIntSS_L2 (n + 1) x = roundK C_laws_markIntSS B_laws_markIntSS_L2 (S_laws_markIntSS_L2 fuel) x (laws_markIntSS_L2 n) := by
  obtain ⟨a, k, i⟩ := x
  kernel_rfl
theorem F_laws_markIntSS (a : dens E_laws_markIntSS.params) : E_laws_markIntSS.run a = funK C_laws_markIntSS Try.f62 E_laws_markIntSS.params E_laws_markIntSS.results a (fun o r => some (N_laws_markIntSS o r)) := by
  kernel_rfl
theorem W_laws_markIntSS : loopsOf D_laws_markIntSS = [B_laws_markIntSS_L2] := by kernel_rfl
theorem R_laws_markIntSS_L2 : firstReg B_laws_markIntSS_L2 = 2 := by kernel_rfl
theorem Q_laws_markIntSS : Try.prog.funcs[62]? = some Try.f62 ∧ (Try.f62.name == "runtime.NumGoroutine") = false ∧ Try.f62.body = some D_laws_markIntSS := ⟨Try.func62, by kernel_rfl, by kernel_rfl⟩
theorem H_laws_markIntSS : Holds Try.prog 62 E_laws_markIntSS :=
  holds_of (cx := C_laws_markIntSS) (tabOk_ok tabT rfl).1 (allT_ok ⟨⟨H_laws_markIntS, _, _, Q_laws_markIntS⟩, trivial⟩) mixT Q_laws_markIntSS.1 Q_laws_markIntSS.2.2 (loops_of W_laws_markIntSS ⟨loop_of (cx := C_laws_markIntSS) (L := S_laws_markIntSS_L2 fuel) rfl (by rw [R_laws_markIntSS_L2]; rfl) ⟨laws_markIntSS_L2, fun _ => rfl, fun n x => K_laws_markIntSS_L2 n x, fuel, fun _ => rfl⟩, trivial⟩) (enc := N_laws_markIntSS) (fun _ _ => ⟨rfl, rfl⟩) F_laws_markIntSS

theorem K_laws_markConstraintS_L2 (n : Nat) (x : (List ((List Int) × Int × (List (List Int)))) × Int × Int) : laws_markConstraintS_L2 (n + 1) x = roundK C_laws_markConstraintS B_laws_markConstraintS_L2 (S_laws_markConstraintS_L2 fuel) x (laws_markConstraintS_L2 n) := by
  obtain ⟨a, k, i⟩ := x
  kernel_rfl
theorem F_laws_markConstraintS (a : dens E_laws_markConstraintS.params) : E_laws_markConstraintS.run a = funK C_laws_markConstraintS Try.f47 E_laws_markConstraintS.params E_laws_markConstraintS.results a (fun o r => some (N_laws_markConstraintS o r)) := by
  kernel_rfl
theorem W_laws_markConstraintS : loopsOf D_laws_markConstraintS = [B_laws_markConstraintS_L2] := by kernel_rfl
theorem R_laws_markConstraintS_L2 : firstReg B_laws_markConstraintS_L2 = 2 := by kernel_rfl
theorem Q_laws_markConstraintS : Try.prog.funcs[47]? = some Try.f47 ∧ (Try.f47.name == "runtime.NumGoroutine") = false ∧ Try.f47.body = some D_laws_markConstraintS := ⟨Try.func47, by kernel_rfl, by kernel_rfl⟩
theorem H_laws_markConstraintS : Holds Try.prog 47 E_laws_markConstraintS :=
  holds_of (cx := C_laws_markConstraintS) (tabOk_ok tabT rfl).1 (allT_ok ⟨⟨H_laws_markIntS, _, _, Q_laws_markIntS⟩, ⟨⟨H_laws_markIntSS, _, _, Q_laws_markIntSS⟩, trivial⟩⟩) mixT Q_laws_markConstraintS.1 Q_laws_markConstraintS.2.2 (loops_of W_laws_markConstraintS ⟨loop_of (cx := C_laws_markConstraintS) (L := S_laws_markConstraintS_L2 fuel) rfl (by rw [R_laws_markConstraintS_L2]; rfl) ⟨laws_markConstraintS_L2, fun _ => rfl, fun n x => K_laws_markConstraintS_L2 n x, fuel, fun _ => rfl⟩, trivial⟩) (enc := N_laws_markConstraintS) (fun _ _ => ⟨rfl, rfl⟩) F_laws_markConstraintS

theorem F_laws_markNetwork (a : dens E_laws_markNetwork.params) : E_laws_markNetwork.run a = funK C_laws_markNetwork Try.f22 E_laws_markNetwork.params E_laws_markNetwork.results a (fun o r => some (N_laws_markNetwork o r)) := by
  kernel_rfl
theorem W_laws_markNetwork : loopsOf D_laws_markNetwork = [] := by kernel_rfl
theorem Q_laws_markNetwork : Try.prog.funcs[22]? = some Try.f22 ∧ (Try.f22.name == "runtime.NumGoroutine") = false ∧ Try.f22.body = some D_laws_markNetwork := ⟨Try.func22, by kernel_rfl, by kernel_rfl⟩
theorem H_laws_markNetwork : Holds Try.prog 22 E_laws_markNetwork :=
  holds_of (cx := C_laws_markNetwork) (tabOk_ok tabT rfl).1 (allT_ok ⟨⟨H_laws_markConstraintS, _, _, Q_laws_markConstraintS⟩, trivial⟩) mixT Q_laws_markNetwork.1 Q_laws_markNetwork.2.2 (loops_of W_laws_markNetwork trivial) (enc := N_laws_markNetwork) (fun _ _ => ⟨rfl, rfl⟩) F_laws_markNetwork

theorem K_laws_heldIntS_L2 (n : Nat) (x : (List Int) × Int × Int) : laws_heldIntS_L2 (n + 1) x = roundK C_laws_heldIntS B_laws_heldIntS_L2 (S_laws_heldIntS_L2 fuel) x (laws_heldIntS_L2 n) := by
  obtain ⟨a, k, i⟩ := x
  kernel_rfl
theorem F_laws_heldIntS (a : dens E_laws_heldIntS.params) : E_laws_heldIntS.run a = funK C_laws_heldIntS Try.f29 E_laws_heldIntS.params E_laws_heldIntS.results a (fun o r => some (N_laws_heldIntS o r)) := by
  kernel_rfl
theorem W_laws_heldIntS : loopsOf D_laws_heldIntS = [B_laws_heldIntS_L2] := by kernel_rfl
theorem R_laws_heldIntS_L2 : firstReg B_laws_heldIntS_L2 = 2 := by kernel_rfl
theorem Q_laws_heldIntS : Try.prog.funcs[29]? = some Try.f29 ∧ (Try.f29.name == "runtime.NumGoroutine") = false ∧ Try.f29.body = some D_laws_heldIntS := ⟨Try.func29, by kernel_rfl, by kernel_rfl⟩
theorem H_laws_heldIntS : Holds Try.prog 29 E_laws_heldIntS :=
  holds_of (cx := C_laws_heldIntS) (tabOk_ok tabT rfl).1 (allT_ok trivial) mixT Q_laws_heldIntS.1 Q_laws_heldIntS.2.2 (loops_of W_laws_heldIntS ⟨loop_of (cx := C_laws_heldIntS) (L := S_laws_heldIntS_L2 fuel) rfl (by rw [R_laws_heldIntS_L2]; rfl) ⟨laws_heldIntS_L2, fun _ => rfl, fun n x => K_laws_heldIntS_L2 n x, fuel, fun _ => rfl⟩, trivial⟩) (enc := N_laws_heldIntS) (fun _ _ => ⟨rfl, rfl⟩) F_laws_heldIntS

theorem F_laws_FnExactRaiseSteps (a : dens E_laws_FnExactRaiseSteps.params) : E_laws_FnExactRaiseSteps.run a = funK C_laws_FnExactRaiseSteps Try.f8 E_laws_FnExactRaiseSteps.params E_laws_FnExactRaiseSteps.results a (fun o r => some (N_laws_FnExactRaiseSteps o r)) := by
  kernel_rfl
theorem W_laws_FnExactRaiseSteps : loopsOf D_laws_FnExactRaiseSteps = [] := by kernel_rfl
theorem Q_laws_FnExactRaiseSteps : Try.prog.funcs[8]? = some Try.f8 ∧ (Try.f8.name == "runtime.NumGoroutine") = false ∧ Try.f8.body = some D_laws_FnExactRaiseSteps := ⟨Try.func8, by kernel_rfl, by kernel_rfl⟩
theorem H_laws_FnExactRaiseSteps : Holds Try.prog 8 E_laws_FnExactRaiseSteps :=
  holds_of (cx := C_laws_FnExactRaiseSteps) (tabOk_ok tabT rfl).1 (allT_ok ⟨⟨H_laws_szNetwork, _, _, Q_laws_szNetwork⟩, ⟨⟨H_laws_toNetwork, _, _, Q_laws_toNetwork⟩, ⟨⟨H_laws_eqNetwork, _, _, Q_laws_eqNetwork⟩, ⟨⟨H_laws_markNetwork, _, _, Q_laws_markNetwork⟩, ⟨⟨H_laws_eqIntS, _, _, Q_laws_eqIntS⟩, ⟨⟨H_laws_markIntS, _, _, Q_laws_markIntS⟩, ⟨⟨H_laws_heldIntS, _, _, Q_laws_heldIntS⟩, ⟨⟨H_spec_RaiseSteps, _, _, Q_spec_RaiseSteps⟩, ⟨⟨H_impl_RaiseSteps, _, _, Q_impl_RaiseSteps⟩, trivial⟩⟩⟩⟩⟩⟩⟩⟩⟩) mixT Q_laws_FnExactRaiseSteps.1 Q_laws_FnExactRaiseSteps.2.2 (loops_of W_laws_FnExactRaiseSteps trivial) (enc := N_laws_FnExactRaiseSteps) (fun _ _ => ⟨rfl, rfl⟩) F_laws_FnExactRaiseSteps
end T
