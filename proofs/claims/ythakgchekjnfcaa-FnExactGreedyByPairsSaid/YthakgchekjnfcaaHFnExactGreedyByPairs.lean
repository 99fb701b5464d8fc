/- Each typed function is what the program computes; no conditions. -/
import Derived.Test.YthakgchekjnfcaaCFnExactGreedyByPairs
set_option linter.all false
set_option maxRecDepth 10000
open Go Go.Va Go.Proofs
namespace T

theorem F_laws_szIntS (a : dens E_laws_szIntS.params) : E_laws_szIntS.run a = funK C_laws_szIntS Try.f52 E_laws_szIntS.params E_laws_szIntS.results a (fun o r => some (N_laws_szIntS o r)) := by
  kernel_rfl
theorem W_laws_szIntS : loopsOf D_laws_szIntS = [] := by kernel_rfl
theorem Q_laws_szIntS : Try.prog.funcs[52]? = some Try.f52 ∧ (Try.f52.name == "runtime.NumGoroutine") = false ∧ Try.f52.body = some D_laws_szIntS := ⟨Try.func52, by kernel_rfl, by kernel_rfl⟩
theorem H_laws_szIntS : Holds Try.prog 52 E_laws_szIntS :=
  holds_of (cx := C_laws_szIntS) (tabOk_ok tabT rfl).1 (allT_ok trivial) mixT Q_laws_szIntS.1 Q_laws_szIntS.2.2 (loops_of W_laws_szIntS trivial) (enc := N_laws_szIntS) (fun _ _ => ⟨rfl, rfl⟩) F_laws_szIntS

theorem K_laws_szIntSS_L5 (n : Nat) (x : (List (List Int)) × Int × Int) : laws_szIntSS_L5 (n + 1) x = roundK C_laws_szIntSS B_laws_szIntSS_L5 (S_laws_szIntSS_L5 fuel) x (laws_szIntSS_L5 n) := by
  obtain ⟨a, left, i⟩ := x
  kernel_rfl
theorem F_laws_szIntSS (a : dens E_laws_szIntSS.params) : E_laws_szIntSS.run a = funK C_laws_szIntSS Try.f65 E_laws_szIntSS.params E_laws_szIntSS.results a (fun o r => some (N_laws_szIntSS o r)) := by
  kernel_rfl
theorem W_laws_szIntSS : loopsOf D_laws_szIntSS = [B_laws_szIntSS_L5] := by kernel_rfl
theorem R_laws_szIntSS_L5 : firstReg B_laws_szIntSS_L5 = 5 := by kernel_rfl
theorem Q_laws_szIntSS : Try.prog.funcs[65]? = some Try.f65 ∧ (Try.f65.name == "runtime.NumGoroutine") = false ∧ Try.f65.body = some D_laws_szIntSS := ⟨Try.func65, by kernel_rfl, by kernel_rfl⟩
theorem H_laws_szIntSS : Holds Try.prog 65 E_laws_szIntSS :=
  holds_of (cx := C_laws_szIntSS) (tabOk_ok tabT rfl).1 (allT_ok ⟨⟨H_laws_szIntS, _, _, Q_laws_szIntS⟩, trivial⟩) mixT Q_laws_szIntSS.1 Q_laws_szIntSS.2.2 (loops_of W_laws_szIntSS ⟨loop_of (cx := C_laws_szIntSS) (L := S_laws_szIntSS_L5 fuel) rfl (by rw [R_laws_szIntSS_L5]; rfl) ⟨laws_szIntSS_L5, fun _ => rfl, fun n x => K_laws_szIntSS_L5 n x, fuel, fun _ => rfl⟩, trivial⟩) (enc := N_laws_szIntSS) (fun _ _ => ⟨rfl, rfl⟩) F_laws_szIntSS

theorem F_laws_szRelation (a : dens E_laws_szRelation.params) : E_laws_szRelation.run a = funK C_laws_szRelation Try.f53 E_laws_szRelation.params E_laws_szRelation.results a (fun o r => some (N_laws_szRelation o r)) := by
  kernel_rfl
theorem W_laws_szRelation : loopsOf D_laws_szRelation = [] := by kernel_rfl
theorem Q_laws_szRelation : Try.prog.funcs[53]? = some Try.f53 ∧ (Try.f53.name == "runtime.NumGoroutine") = false ∧ Try.f53.body = some D_laws_szRelation := ⟨Try.func53, by kernel_rfl, by kernel_rfl⟩
theorem H_laws_szRelation : Holds Try.prog 53 E_laws_szRelation :=
  holds_of (cx := C_laws_szRelation) (tabOk_ok tabT rfl).1 (allT_ok ⟨⟨H_laws_szIntSS, _, _, Q_laws_szIntSS⟩, trivial⟩) mixT Q_laws_szRelation.1 Q_laws_szRelation.2.2 (loops_of W_laws_szRelation trivial) (enc := N_laws_szRelation) (fun _ _ => ⟨rfl, rfl⟩) F_laws_szRelation

theorem F_laws_szConstraint (a : dens E_laws_szConstraint.params) : E_laws_szConstraint.run a = funK C_laws_szConstraint Try.f37 E_laws_szConstraint.params E_laws_szConstraint.results a (fun o r => some (N_laws_szConstraint o r)) := by
  kernel_rfl
theorem W_laws_szConstraint : loopsOf D_laws_szConstraint = [] := by kernel_rfl
theorem Q_laws_szConstraint : Try.prog.funcs[37]? = some Try.f37 ∧ (Try.f37.name == "runtime.NumGoroutine") = false ∧ Try.f37.body = some D_laws_szConstraint := ⟨Try.func37, by kernel_rfl, by kernel_rfl⟩
theorem H_laws_szConstraint : Holds Try.prog 37 E_laws_szConstraint :=
  holds_of (cx := C_laws_szConstraint) (tabOk_ok tabT rfl).1 (allT_ok ⟨⟨H_laws_szIntS, _, _, Q_laws_szIntS⟩, ⟨⟨H_laws_szRelation, _, _, Q_laws_szRelation⟩, trivial⟩⟩) mixT Q_laws_szConstraint.1 Q_laws_szConstraint.2.2 (loops_of W_laws_szConstraint trivial) (enc := N_laws_szConstraint) (fun _ _ => ⟨rfl, rfl⟩) F_laws_szConstraint

theorem K_laws_szConstraintS_L5 (n : Nat) (x : (List ((List Int) × Int × (List (List Int)))) × Int × Int) : laws_szConstraintS_L5 (n + 1) x = roundK C_laws_szConstraintS B_laws_szConstraintS_L5 (S_laws_szConstraintS_L5 fuel) x (laws_szConstraintS_L5 n) := by
  obtain ⟨a, left, i⟩ := x
  kernel_rfl
theorem F_laws_szConstraintS (a : dens E_laws_szConstraintS.params) : E_laws_szConstraintS.run a = funK C_laws_szConstraintS Try.f22 E_laws_szConstraintS.params E_laws_szConstraintS.results a (fun o r => some (N_laws_szConstraintS o r)) := by
  kernel_rfl
theorem W_laws_szConstraintS : loopsOf D_laws_szConstraintS = [B_laws_szConstraintS_L5] := by kernel_rfl
theorem R_laws_szConstraintS_L5 : firstReg B_laws_szConstraintS_L5 = 5 := by kernel_rfl
theorem Q_laws_szConstraintS : Try.prog.funcs[22]? = some Try.f22 ∧ (Try.f22.name == "runtime.NumGoroutine") = false ∧ Try.f22.body = some D_laws_szConstraintS := ⟨Try.func22, by kernel_rfl, by kernel_rfl⟩
theorem H_laws_szConstraintS : Holds Try.prog 22 E_laws_szConstraintS :=
  holds_of (cx := C_laws_szConstraintS) (tabOk_ok tabT rfl).1 (allT_ok ⟨⟨H_laws_szConstraint, _, _, Q_laws_szConstraint⟩, trivial⟩) mixT Q_laws_szConstraintS.1 Q_laws_szConstraintS.2.2 (loops_of W_laws_szConstraintS ⟨loop_of (cx := C_laws_szConstraintS) (L := S_laws_szConstraintS_L5 fuel) rfl (by rw [R_laws_szConstraintS_L5]; rfl) ⟨laws_szConstraintS_L5, fun _ => rfl, fun n x => K_laws_szConstraintS_L5 n x, fuel, fun _ => rfl⟩, trivial⟩) (enc := N_laws_szConstraintS) (fun _ _ => ⟨rfl, rfl⟩) F_laws_szConstraintS

theorem F_laws_szNetwork (a : dens E_laws_szNetwork.params) : E_laws_szNetwork.run a = funK C_laws_szNetwork Try.f6 E_laws_szNetwork.params E_laws_szNetwork.results a (fun o r => some (N_laws_szNetwork o r)) := by
  kernel_rfl
theorem W_laws_szNetwork : loopsOf D_laws_szNetwork = [] := by kernel_rfl
theorem Q_laws_szNetwork : Try.prog.funcs[6]? = some Try.f6 ∧ (Try.f6.name == "runtime.NumGoroutine") = false ∧ Try.f6.body = some D_laws_szNetwork := ⟨Try.func6, by kernel_rfl, by kernel_rfl⟩
theorem H_laws_szNetwork : Holds Try.prog 6 E_laws_szNetwork :=
  holds_of (cx := C_laws_szNetwork) (tabOk_ok tabT rfl).1 (allT_ok ⟨⟨H_laws_szConstraintS, _, _, Q_laws_szConstraintS⟩, trivial⟩) mixT Q_laws_szNetwork.1 Q_laws_szNetwork.2.2 (loops_of W_laws_szNetwork trivial) (enc := N_laws_szNetwork) (fun _ _ => ⟨rfl, rfl⟩) F_laws_szNetwork

theorem K_laws_toIntS_L3 (n : Nat) (x : (List Int) × (List Int) × Int) : laws_toIntS_L3 (n + 1) x = roundK C_laws_toIntS B_laws_toIntS_L3 (S_laws_toIntS_L3 fuel) x (laws_toIntS_L3 n) := by
  obtain ⟨a, out, i⟩ := x
  kernel_rfl
theorem F_laws_toIntS (a : dens E_laws_toIntS.params) : E_laws_toIntS.run a = funK C_laws_toIntS Try.f58 E_laws_toIntS.params E_laws_toIntS.results a (fun o r => some (N_laws_toIntS o r)) := by
  kernel_rfl
theorem W_laws_toIntS : loopsOf D_laws_toIntS = [B_laws_toIntS_L3] := by kernel_rfl
theorem R_laws_toIntS_L3 : firstReg B_laws_toIntS_L3 = 3 := by kernel_rfl
theorem Q_laws_toIntS : Try.prog.funcs[58]? = some Try.f58 ∧ (Try.f58.name == "runtime.NumGoroutine") = false ∧ Try.f58.body = some D_laws_toIntS := ⟨Try.func58, by kernel_rfl, by kernel_rfl⟩
theorem H_laws_toIntS : Holds Try.prog 58 E_laws_toIntS :=
  holds_of (cx := C_laws_toIntS) (tabOk_ok tabT rfl).1 (allT_ok trivial) mixT Q_laws_toIntS.1 Q_laws_toIntS.2.2 (loops_of W_laws_toIntS ⟨loop_of (cx := C_laws_toIntS) (L := S_laws_toIntS_L3 fuel) rfl (by rw [R_laws_toIntS_L3]; rfl) ⟨laws_toIntS_L3, fun _ => rfl, fun n x => K_laws_toIntS_L3 n x, fuel, fun _ => rfl⟩, trivial⟩) (enc := N_laws_toIntS) (fun _ _ => ⟨rfl, rfl⟩) F_laws_toIntS

theorem K_laws_toIntSS_L3 (n : Nat) (x : (List (List Int)) × (List (List Int)) × Int) : laws_toIntSS_L3 (n + 1) x = roundK C_laws_toIntSS B_laws_toIntSS_L3 (S_laws_toIntSS_L3 fuel) x (laws_toIntSS_L3 n) := by
  obtain ⟨a, out, i⟩ := x
  kernel_rfl
theorem F_laws_toIntSS (a : dens E_laws_toIntSS.params) : E_laws_toIntSS.run a = funK C_laws_toIntSS Try.f70 E_laws_toIntSS.params E_laws_toIntSS.results a (fun o r => some (N_laws_toIntSS o r)) := by
  kernel_rfl
theorem W_laws_toIntSS : loopsOf D_laws_toIntSS = [B_laws_toIntSS_L3] := by kernel_rfl
theorem R_laws_toIntSS_L3 : firstReg B_laws_toIntSS_L3 = 3 := by kernel_rfl
theorem Q_laws_toIntSS : Try.prog.funcs[70]? = some Try.f70 ∧ (Try.f70.name == "runtime.NumGoroutine") = false ∧ Try.f70.body = some D_laws_toIntSS := ⟨Try.func70, by kernel_rfl, by kernel_rfl⟩
theorem H_laws_toIntSS : Holds Try.prog 70 E_laws_toIntSS :=
  holds_of (cx := C_laws_toIntSS) (tabOk_ok tabT rfl).1 (allT_ok ⟨⟨H_laws_toIntS, _, _, Q_laws_toIntS⟩, trivial⟩) mixT Q_laws_toIntSS.1 Q_laws_toIntSS.2.2 (loops_of W_laws_toIntSS ⟨loop_of (cx := C_laws_toIntSS) (L := S_laws_toIntSS_L3 fuel) rfl (by rw [R_laws_toIntSS_L3]; rfl) ⟨laws_toIntSS_L3, fun _ => rfl, fun n x => K_laws_toIntSS_L3 n x, fuel, fun _ => rfl⟩, trivial⟩) (enc := N_laws_toIntSS) (fun _ _ => ⟨rfl, rfl⟩) F_laws_toIntSS

theorem F_laws_toRelation (a : dens E_laws_toRelation.params) : E_laws_toRelation.run a = funK C_laws_toRelation Try.f59 E_laws_toRelation.params E_laws_toRelation.results a (fun o r => some (N_laws_toRelation o r)) := by
  kernel_rfl
theorem W_laws_toRelation : loopsOf D_laws_toRelation = [] := by kernel_rfl
theorem Q_laws_toRelation : Try.prog.funcs[59]? = some Try.f59 ∧ (Try.f59.name == "runtime.NumGoroutine") = false ∧ Try.f59.body = some D_laws_toRelation := ⟨Try.func59, by kernel_rfl, by kernel_rfl⟩
theorem H_laws_toRelation : Holds Try.prog 59 E_laws_toRelation :=
  holds_of (cx := C_laws_toRelation) (tabOk_ok tabT rfl).1 (allT_ok ⟨⟨H_laws_toIntSS, _, _, Q_laws_toIntSS⟩, trivial⟩) mixT Q_laws_toRelation.1 Q_laws_toRelation.2.2 (loops_of W_laws_toRelation trivial) (enc := N_laws_toRelation) (fun _ _ => ⟨rfl, rfl⟩) F_laws_toRelation

theorem F_laws_toConstraint (a : dens E_laws_toConstraint.params) : E_laws_toConstraint.run a = funK C_laws_toConstraint Try.f43 E_laws_toConstraint.params E_laws_toConstraint.results a (fun o r => some (N_laws_toConstraint o r)) := by
  kernel_rfl
theorem W_laws_toConstraint : loopsOf D_laws_toConstraint = [] := by kernel_rfl
theorem Q_laws_toConstraint : Try.prog.funcs[43]? = some Try.f43 ∧ (Try.f43.name == "runtime.NumGoroutine") = false ∧ Try.f43.body = some D_laws_toConstraint := ⟨Try.func43, by kernel_rfl, by kernel_rfl⟩
theorem H_laws_toConstraint : Holds Try.prog 43 E_laws_toConstraint :=
  holds_of (cx := C_laws_toConstraint) (tabOk_ok tabT rfl).1 (allT_ok ⟨⟨H_laws_toIntS, _, _, Q_laws_toIntS⟩, ⟨⟨H_laws_toRelation, _, _, Q_laws_toRelation⟩, trivial⟩⟩) mixT Q_laws_toConstraint.1 Q_laws_toConstraint.2.2 (loops_of W_laws_toConstraint trivial) (enc := N_laws_toConstraint) (fun _ _ => ⟨rfl, rfl⟩) F_laws_toConstraint

theorem K_laws_toConstraintS_L3 (n : Nat) (x : (List ((List Int) × Int × (List (List Int)))) × (List ((List Int) × Int × (List (List Int)))) × Int) : laws_toConstraintS_L3 (n + 1) x = roundK C_laws_toConstraintS B_laws_toConstraintS_L3 (S_laws_toConstraintS_L3 fuel) x (laws_toConstraintS_L3 n) := by
  obtain ⟨a, out, i⟩ := x
  kernel_rfl
theorem F_laws_toConstraintS (a : dens E_laws_toConstraintS.params) : E_laws_toConstraintS.run a = funK C_laws_toConstraintS Try.f26 E_laws_toConstraintS.params E_laws_toConstraintS.results a (fun o r => some (N_laws_toConstraintS o r)) := by
  kernel_rfl
theorem W_laws_toConstraintS : loopsOf D_laws_toConstraintS = [B_laws_toConstraintS_L3] := by kernel_rfl
theorem R_laws_toConstraintS_L3 : firstReg B_laws_toConstraintS_L3 = 3 := by kernel_rfl
theorem Q_laws_toConstraintS : Try.prog.funcs[26]? = some Try.f26 ∧ (Try.f26.name == "runtime.NumGoroutine") = false ∧ Try.f26.body = some D_laws_toConstraintS := ⟨Try.func26, by kernel_rfl, by kernel_rfl⟩
theorem H_laws_toConstraintS : Holds Try.prog 26 E_laws_toConstraintS :=
  holds_of (cx := C_laws_toConstraintS) (tabOk_ok tabT rfl).1 (allT_ok ⟨⟨H_laws_toConstraint, _, _, Q_laws_toConstraint⟩, trivial⟩) mixT Q_laws_toConstraintS.1 Q_laws_toConstraintS.2.2 (loops_of W_laws_toConstraintS ⟨loop_of (cx := C_laws_toConstraintS) (L := S_laws_toConstraintS_L3 fuel) rfl (by rw [R_laws_toConstraintS_L3]; rfl) ⟨laws_toConstraintS_L3, fun _ => rfl, fun n x => K_laws_toConstraintS_L3 n x, fuel, fun _ => rfl⟩, trivial⟩) (enc := N_laws_toConstraintS) (fun _ _ => ⟨rfl, rfl⟩) F_laws_toConstraintS

theorem F_laws_toNetwork (a : dens E_laws_toNetwork.params) : E_laws_toNetwork.run a = funK C_laws_toNetwork Try.f8 E_laws_toNetwork.params E_laws_toNetwork.results a (fun o r => some (N_laws_toNetwork o r)) := by
  kernel_rfl
theorem W_laws_toNetwork : loopsOf D_laws_toNetwork = [] := by kernel_rfl
theorem Q_laws_toNetwork : Try.prog.funcs[8]? = some Try.f8 ∧ (Try.f8.name == "runtime.NumGoroutine") = false ∧ Try.f8.body = some D_laws_toNetwork := ⟨Try.func8, by kernel_rfl, by kernel_rfl⟩
theorem H_laws_toNetwork : Holds Try.prog 8 E_laws_toNetwork :=
  holds_of (cx := C_laws_toNetwork) (tabOk_ok tabT rfl).1 (allT_ok ⟨⟨H_laws_toConstraintS, _, _, Q_laws_toConstraintS⟩, trivial⟩) mixT Q_laws_toNetwork.1 Q_laws_toNetwork.2.2 (loops_of W_laws_toNetwork trivial) (enc := N_laws_toNetwork) (fun _ _ => ⟨rfl, rfl⟩) F_laws_toNetwork

theorem F_spec_l1In (a : dens E_spec_l1In.params) : E_spec_l1In.run a = funK C_spec_l1In Try.f38 E_spec_l1In.params E_spec_l1In.results a (fun o r => some (N_spec_l1In o r)) := by
  kernel_rfl
theorem W_spec_l1In : loopsOf D_spec_l1In = [] := by kernel_rfl
theorem Q_spec_l1In : Try.prog.funcs[38]? = some Try.f38 ∧ (Try.f38.name == "runtime.NumGoroutine") = false ∧ Try.f38.body = some D_spec_l1In := ⟨Try.func38, by kernel_rfl, by kernel_rfl⟩
theorem H_spec_l1In : Holds Try.prog 38 E_spec_l1In :=
  holds_of (cx := C_spec_l1In) (tabOk_ok tabT rfl).1 (allT_ok trivial) mixT Q_spec_l1In.1 Q_spec_l1In.2.2 (loops_of W_spec_l1In trivial) (enc := N_spec_l1In) (fun _ _ => ⟨rfl, rfl⟩) F_spec_l1In

theorem K_spec_l2Pow_L2 (n : Nat) (x : Int × Int × Int) : spec_l2Pow_L2 (n + 1) x = roundK C_spec_l2Pow B_spec_l2Pow_L2 (S_spec_l2Pow_L2 fuel) x (spec_l2Pow_L2 n) := by
  obtain ⟨n_, k, out⟩ := x
  kernel_rfl
theorem F_spec_l2Pow (a : dens E_spec_l2Pow.params) : E_spec_l2Pow.run a = funK C_spec_l2Pow Try.f66 E_spec_l2Pow.params E_spec_l2Pow.results a (fun o r => some (N_spec_l2Pow o r)) := by
  kernel_rfl
theorem W_spec_l2Pow : loopsOf D_spec_l2Pow = [B_spec_l2Pow_L2] := by kernel_rfl
theorem R_spec_l2Pow_L2 : firstReg B_spec_l2Pow_L2 = 2 := by kernel_rfl
theorem Q_spec_l2Pow : Try.prog.funcs[66]? = some Try.f66 ∧ (Try.f66.name == "runtime.NumGoroutine") = false ∧ Try.f66.body = some D_spec_l2Pow := ⟨Try.func66, by kernel_rfl, by kernel_rfl⟩
theorem H_spec_l2Pow : Holds Try.prog 66 E_spec_l2Pow :=
  holds_of (cx := C_spec_l2Pow) (tabOk_ok tabT rfl).1 (allT_ok trivial) mixT Q_spec_l2Pow.1 Q_spec_l2Pow.2.2 (loops_of W_spec_l2Pow ⟨loop_of (cx := C_spec_l2Pow) (L := S_spec_l2Pow_L2 fuel) rfl (by rw [R_spec_l2Pow_L2]; rfl) ⟨spec_l2Pow_L2, fun _ => rfl, fun n x => K_spec_l2Pow_L2 n x, fuel, fun _ => rfl⟩, trivial⟩) (enc := N_spec_l2Pow) (fun _ _ => ⟨rfl, rfl⟩) F_spec_l2Pow

theorem K_spec_l2Elements_L2 (n : Nat) (x : Int × (List Int) × Int) : spec_l2Elements_L2 (n + 1) x = roundK C_spec_l2Elements B_spec_l2Elements_L2 (S_spec_l2Elements_L2 fuel) x (spec_l2Elements_L2 n) := by
  obtain ⟨n_, list, i⟩ := x
  kernel_rfl
theorem F_spec_l2Elements (a : dens E_spec_l2Elements.params) : E_spec_l2Elements.run a = funK C_spec_l2Elements Try.f55 E_spec_l2Elements.params E_spec_l2Elements.results a (fun o r => some (N_spec_l2Elements o r)) := by
  kernel_rfl
theorem W_spec_l2Elements : loopsOf D_spec_l2Elements = [B_spec_l2Elements_L2] := by kernel_rfl
theorem R_spec_l2Elements_L2 : firstReg B_spec_l2Elements_L2 = 2 := by kernel_rfl
theorem Q_spec_l2Elements : Try.prog.funcs[55]? = some Try.f55 ∧ (Try.f55.name == "runtime.NumGoroutine") = false ∧ Try.f55.body = some D_spec_l2Elements := ⟨Try.func55, by kernel_rfl, by kernel_rfl⟩
theorem H_spec_l2Elements : Holds Try.prog 55 E_spec_l2Elements :=
  holds_of (cx := C_spec_l2Elements) (tabOk_ok tabT rfl).1 (allT_ok ⟨⟨H_spec_l1In, _, _, Q_spec_l1In⟩, trivial⟩) mixT Q_spec_l2Elements.1 Q_spec_l2Elements.2.2 (loops_of W_spec_l2Elements ⟨loop_of (cx := C_spec_l2Elements) (L := S_spec_l2Elements_L2 fuel) rfl (by rw [R_spec_l2Elements_L2]; rfl) ⟨spec_l2Elements_L2, fun _ => rfl, fun n x => K_spec_l2Elements_L2 n x, fuel, fun _ => rfl⟩, trivial⟩) (enc := N_spec_l2Elements) (fun _ _ => ⟨rfl, rfl⟩) F_spec_l2Elements

theorem F_spec_l8Tuple (a : dens E_spec_l8Tuple.params) : E_spec_l8Tuple.run a = funK C_spec_l8Tuple Try.f67 E_spec_l8Tuple.params E_spec_l8Tuple.results a (fun o r => some (N_spec_l8Tuple o r)) := by
  kernel_rfl
theorem W_spec_l8Tuple : loopsOf D_spec_l8Tuple = [] := by kernel_rfl
theorem Q_spec_l8Tuple : Try.prog.funcs[67]? = some Try.f67 ∧ (Try.f67.name == "runtime.NumGoroutine") = false ∧ Try.f67.body = some D_spec_l8Tuple := ⟨Try.func67, by kernel_rfl, by kernel_rfl⟩
theorem H_spec_l8Tuple : Holds Try.prog 67 E_spec_l8Tuple :=
  holds_of (cx := C_spec_l8Tuple) (tabOk_ok tabT rfl).1 (allT_ok ⟨⟨H_spec_l2Elements, _, _, Q_spec_l2Elements⟩, trivial⟩) mixT Q_spec_l8Tuple.1 Q_spec_l8Tuple.2.2 (loops_of W_spec_l8Tuple trivial) (enc := N_spec_l8Tuple) (fun _ _ => ⟨rfl, rfl⟩) F_spec_l8Tuple

theorem K_spec_l3Less_L2 (n : Nat) (x : (List Int) × (List Int) × Int) : spec_l3Less_L2 (n + 1) x = roundK C_spec_l3Less B_spec_l3Less_L2 (S_spec_l3Less_L2 fuel) x (spec_l3Less_L2 n) := by
  obtain ⟨a, b, i⟩ := x
  kernel_rfl
theorem F_spec_l3Less (a : dens E_spec_l3Less.params) : E_spec_l3Less.run a = funK C_spec_l3Less Try.f68 E_spec_l3Less.params E_spec_l3Less.results a (fun o r => some (N_spec_l3Less o r)) := by
  kernel_rfl
theorem W_spec_l3Less : loopsOf D_spec_l3Less = [B_spec_l3Less_L2] := by kernel_rfl
theorem R_spec_l3Less_L2 : firstReg B_spec_l3Less_L2 = 2 := by kernel_rfl
theorem Q_spec_l3Less : Try.prog.funcs[68]? = some Try.f68 ∧ (Try.f68.name == "runtime.NumGoroutine") = false ∧ Try.f68.body = some D_spec_l3Less := ⟨Try.func68, by kernel_rfl, by kernel_rfl⟩
theorem H_spec_l3Less : Holds Try.prog 68 E_spec_l3Less :=
  holds_of (cx := C_spec_l3Less) (tabOk_ok tabT rfl).1 (allT_ok trivial) mixT Q_spec_l3Less.1 Q_spec_l3Less.2.2 (loops_of W_spec_l3Less ⟨loop_of (cx := C_spec_l3Less) (L := S_spec_l3Less_L2 fuel) rfl (by rw [R_spec_l3Less_L2]; rfl) ⟨spec_l3Less_L2, fun _ => rfl, fun n x => K_spec_l3Less_L2 n x, fuel, fun _ => rfl⟩, trivial⟩) (enc := N_spec_l3Less) (fun _ _ => ⟨rfl, rfl⟩) F_spec_l3Less

theorem K_spec_l13Good_L4 (n : Nat) (x : Int × (Int × (List (List Int))) × Int) : spec_l13Good_L4 (n + 1) x = roundK C_spec_l13Good B_spec_l13Good_L4 (S_spec_l13Good_L4 fuel) x (spec_l13Good_L4 n) := by
  obtain ⟨n_, r, i⟩ := x
  kernel_rfl
theorem F_spec_l13Good (a : dens E_spec_l13Good.params) : E_spec_l13Good.run a = funK C_spec_l13Good Try.f54 E_spec_l13Good.params E_spec_l13Good.results a (fun o r => some (N_spec_l13Good o r)) := by
  kernel_rfl
theorem W_spec_l13Good : loopsOf D_spec_l13Good = [B_spec_l13Good_L4] := by kernel_rfl
theorem R_spec_l13Good_L4 : firstReg B_spec_l13Good_L4 = 4 := by kernel_rfl
theorem Q_spec_l13Good : Try.prog.funcs[54]? = some Try.f54 ∧ (Try.f54.name == "runtime.NumGoroutine") = false ∧ Try.f54.body = some D_spec_l13Good := ⟨Try.func54, by kernel_rfl, by kernel_rfl⟩
theorem H_spec_l13Good : Holds Try.prog 54 E_spec_l13Good :=
  holds_of (cx := C_spec_l13Good) (tabOk_ok tabT rfl).1 (allT_ok ⟨⟨H_spec_l1In, _, _, Q_spec_l1In⟩, ⟨⟨H_spec_l2Pow, _, _, Q_spec_l2Pow⟩, ⟨⟨H_spec_l8Tuple, _, _, Q_spec_l8Tuple⟩, ⟨⟨H_spec_l3Less, _, _, Q_spec_l3Less⟩, trivial⟩⟩⟩⟩) mixT Q_spec_l13Good.1 Q_spec_l13Good.2.2 (loops_of W_spec_l13Good ⟨loop_of (cx := C_spec_l13Good) (L := S_spec_l13Good_L4 fuel) rfl (by rw [R_spec_l13Good_L4]; rfl) ⟨spec_l13Good_L4, fun _ => rfl, fun n x => K_spec_l13Good_L4 n x, fuel, fun _ => rfl⟩, trivial⟩) (enc := N_spec_l13Good) (fun _ _ => ⟨rfl, rfl⟩) F_spec_l13Good

theorem F_spec_l19Is (a : dens E_spec_l19Is.params) : E_spec_l19Is.run a = funK C_spec_l19Is Try.f39 E_spec_l19Is.params E_spec_l19Is.results a (fun o r => some (N_spec_l19Is o r)) := by
  kernel_rfl
theorem W_spec_l19Is : loopsOf D_spec_l19Is = [] := by kernel_rfl
theorem Q_spec_l19Is : Try.prog.funcs[39]? = some Try.f39 ∧ (Try.f39.name == "runtime.NumGoroutine") = false ∧ Try.f39.body = some D_spec_l19Is := ⟨Try.func39, by kernel_rfl, by kernel_rfl⟩
theorem H_spec_l19Is : Holds Try.prog 39 E_spec_l19Is :=
  holds_of (cx := C_spec_l19Is) (tabOk_ok tabT rfl).1 (allT_ok ⟨⟨H_spec_l13Good, _, _, Q_spec_l13Good⟩, ⟨⟨H_spec_l2Elements, _, _, Q_spec_l2Elements⟩, trivial⟩⟩) mixT Q_spec_l19Is.1 Q_spec_l19Is.2.2 (loops_of W_spec_l19Is trivial) (enc := N_spec_l19Is) (fun _ _ => ⟨rfl, rfl⟩) F_spec_l19Is

theorem K_spec_l19Good_L4 (n : Nat) (x : (Int × Int × (List ((List Int) × Int × (List (List Int))))) × Int) : spec_l19Good_L4 (n + 1) x = roundK C_spec_l19Good B_spec_l19Good_L4 (S_spec_l19Good_L4 fuel) x (spec_l19Good_L4 n) := by
  obtain ⟨net, i⟩ := x
  kernel_rfl
theorem F_spec_l19Good (a : dens E_spec_l19Good.params) : E_spec_l19Good.run a = funK C_spec_l19Good Try.f23 E_spec_l19Good.params E_spec_l19Good.results a (fun o r => some (N_spec_l19Good o r)) := by
  kernel_rfl
theorem W_spec_l19Good : loopsOf D_spec_l19Good = [B_spec_l19Good_L4] := by kernel_rfl
theorem R_spec_l19Good_L4 : firstReg B_spec_l19Good_L4 = 4 := by kernel_rfl
theorem Q_spec_l19Good : Try.prog.funcs[23]? = some Try.f23 ∧ (Try.f23.name == "runtime.NumGoroutine") = false ∧ Try.f23.body = some D_spec_l19Good := ⟨Try.func23, by kernel_rfl, by kernel_rfl⟩
theorem H_spec_l19Good : Holds Try.prog 23 E_spec_l19Good :=
  holds_of (cx := C_spec_l19Good) (tabOk_ok tabT rfl).1 (allT_ok ⟨⟨H_spec_l1In, _, _, Q_spec_l1In⟩, ⟨⟨H_spec_l19Is, _, _, Q_spec_l19Is⟩, trivial⟩⟩) mixT Q_spec_l19Good.1 Q_spec_l19Good.2.2 (loops_of W_spec_l19Good ⟨loop_of (cx := C_spec_l19Good) (L := S_spec_l19Good_L4 fuel) rfl (by rw [R_spec_l19Good_L4]; rfl) ⟨spec_l19Good_L4, fun _ => rfl, fun n x => K_spec_l19Good_L4 n x, fuel, fun _ => rfl⟩, trivial⟩) (enc := N_spec_l19Good) (fun _ _ => ⟨rfl, rfl⟩) F_spec_l19Good

theorem K_spec_l1Has_L2 (n : Nat) (x : (List Int) × Int × Int) : spec_l1Has_L2 (n + 1) x = roundK C_spec_l1Has B_spec_l1Has_L2 (S_spec_l1Has_L2 fuel) x (spec_l1Has_L2 n) := by
  obtain ⟨l, n_, i⟩ := x
  kernel_rfl
theorem F_spec_l1Has (a : dens E_spec_l1Has.params) : E_spec_l1Has.run a = funK C_spec_l1Has Try.f56 E_spec_l1Has.params E_spec_l1Has.results a (fun o r => some (N_spec_l1Has o r)) := by
  kernel_rfl
theorem W_spec_l1Has : loopsOf D_spec_l1Has = [B_spec_l1Has_L2] := by kernel_rfl
theorem R_spec_l1Has_L2 : firstReg B_spec_l1Has_L2 = 2 := by kernel_rfl
theorem Q_spec_l1Has : Try.prog.funcs[56]? = some Try.f56 ∧ (Try.f56.name == "runtime.NumGoroutine") = false ∧ Try.f56.body = some D_spec_l1Has := ⟨Try.func56, by kernel_rfl, by kernel_rfl⟩
theorem H_spec_l1Has : Holds Try.prog 56 E_spec_l1Has :=
  holds_of (cx := C_spec_l1Has) (tabOk_ok tabT rfl).1 (allT_ok trivial) mixT Q_spec_l1Has.1 Q_spec_l1Has.2.2 (loops_of W_spec_l1Has ⟨loop_of (cx := C_spec_l1Has) (L := S_spec_l1Has_L2 fuel) rfl (by rw [R_spec_l1Has_L2]; rfl) ⟨spec_l1Has_L2, fun _ => rfl, fun n x => K_spec_l1Has_L2 n x, fuel, fun _ => rfl⟩, trivial⟩) (enc := N_spec_l1Has) (fun _ _ => ⟨rfl, rfl⟩) F_spec_l1Has

theorem K_spec_l20Inside_L7 (n : Nat) (x : (List Int) × (Int × Int × (List ((List Int) × Int × (List (List Int))))) × (List ((List Int) × Int × (List (List Int)))) × Int × Bool × Int) : spec_l20Inside_L7 (n + 1) x = roundK C_spec_l20Inside B_spec_l20Inside_L7 (S_spec_l20Inside_L7 fuel) x (spec_l20Inside_L7 n) := by
  obtain ⟨vars, net, out, i, inside, k⟩ := x
  kernel_rfl
theorem K_spec_l20Inside_L3 (n : Nat) (x : (List Int) × (Int × Int × (List ((List Int) × Int × (List (List Int))))) × (List ((List Int) × Int × (List (List Int)))) × Int) : spec_l20Inside_L3 (n + 1) x = roundK C_spec_l20Inside B_spec_l20Inside_L3 (S_spec_l20Inside_L3 fuel) x (spec_l20Inside_L3 n) := by
  obtain ⟨vars, net, out, i⟩ := x
  kernel_rfl
theorem F_spec_l20Inside (a : dens E_spec_l20Inside.params) : E_spec_l20Inside.run a = funK C_spec_l20Inside Try.f40 E_spec_l20Inside.params E_spec_l20Inside.results a (fun o r => some (N_spec_l20Inside o r)) := by
  kernel_rfl
theorem W_spec_l20Inside : loopsOf D_spec_l20Inside = [B_spec_l20Inside_L3, B_spec_l20Inside_L7] := by kernel_rfl
theorem R_spec_l20Inside_L7 : firstReg B_spec_l20Inside_L7 = 7 := by kernel_rfl
theorem R_spec_l20Inside_L3 : firstReg B_spec_l20Inside_L3 = 3 := by kernel_rfl
theorem Q_spec_l20Inside : Try.prog.funcs[40]? = some Try.f40 ∧ (Try.f40.name == "runtime.NumGoroutine") = false ∧ Try.f40.body = some D_spec_l20Inside := ⟨Try.func40, by kernel_rfl, by kernel_rfl⟩
theorem H_spec_l20Inside : Holds Try.prog 40 E_spec_l20Inside :=
  holds_of (cx := C_spec_l20Inside) (tabOk_ok tabT rfl).1 (allT_ok ⟨⟨H_spec_l1Has, _, _, Q_spec_l1Has⟩, trivial⟩) mixT Q_spec_l20Inside.1 Q_spec_l20Inside.2.2 (loops_of W_spec_l20Inside ⟨loop_of (cx := C_spec_l20Inside) (L := S_spec_l20Inside_L3 fuel) rfl (by rw [R_spec_l20Inside_L3]; rfl) ⟨spec_l20Inside_L3, fun _ => rfl, fun n x => K_spec_l20Inside_L3 n x, fuel, fun _ => rfl⟩, ⟨loop_of (cx := C_spec_l20Inside) (L := S_spec_l20Inside_L7 fuel) rfl (by rw [R_spec_l20Inside_L7]; rfl) ⟨spec_l20Inside_L7, fun _ => rfl, fun n x => K_spec_l20Inside_L7 n x, fuel, fun _ => rfl⟩, trivial⟩⟩) (enc := N_spec_l20Inside) (fun _ _ => ⟨rfl, rfl⟩) F_spec_l20Inside

theorem K_spec_l1Same_L4 (n : Nat) (x : (List Int) × (List Int) × Int) : spec_l1Same_L4 (n + 1) x = roundK C_spec_l1Same B_spec_l1Same_L4 (S_spec_l1Same_L4 fuel) x (spec_l1Same_L4 n) := by
  obtain ⟨a, b, i⟩ := x
  kernel_rfl
theorem F_spec_l1Same (a : dens E_spec_l1Same.params) : E_spec_l1Same.run a = funK C_spec_l1Same Try.f78 E_spec_l1Same.params E_spec_l1Same.results a (fun o r => some (N_spec_l1Same o r)) := by
  kernel_rfl
theorem W_spec_l1Same : loopsOf D_spec_l1Same = [B_spec_l1Same_L4] := by kernel_rfl
theorem R_spec_l1Same_L4 : firstReg B_spec_l1Same_L4 = 4 := by kernel_rfl
theorem Q_spec_l1Same : Try.prog.funcs[78]? = some Try.f78 ∧ (Try.f78.name == "runtime.NumGoroutine") = false ∧ Try.f78.body = some D_spec_l1Same := ⟨Try.func78, by kernel_rfl, by kernel_rfl⟩
theorem H_spec_l1Same : Holds Try.prog 78 E_spec_l1Same :=
  holds_of (cx := C_spec_l1Same) (tabOk_ok tabT rfl).1 (allT_ok trivial) mixT Q_spec_l1Same.1 Q_spec_l1Same.2.2 (loops_of W_spec_l1Same ⟨loop_of (cx := C_spec_l1Same) (L := S_spec_l1Same_L4 fuel) rfl (by rw [R_spec_l1Same_L4]; rfl) ⟨spec_l1Same_L4, fun _ => rfl, fun n x => K_spec_l1Same_L4 n x, fuel, fun _ => rfl⟩, trivial⟩) (enc := N_spec_l1Same) (fun _ _ => ⟨rfl, rfl⟩) F_spec_l1Same

theorem K_spec_l8Find_L2 (n : Nat) (x : (List (List Int)) × (List Int) × Int × Int) : spec_l8Find_L2 (n + 1) x = roundK C_spec_l8Find B_spec_l8Find_L2 (S_spec_l8Find_L2 fuel) x (spec_l8Find_L2 n) := by
  obtain ⟨list, t, from_, to⟩ := x
  kernel_rfl
theorem F_spec_l8Find (a : dens E_spec_l8Find.params) : E_spec_l8Find.run a = funK C_spec_l8Find Try.f76 E_spec_l8Find.params E_spec_l8Find.results a (fun o r => some (N_spec_l8Find o r)) := by
  kernel_rfl
theorem W_spec_l8Find : loopsOf D_spec_l8Find = [B_spec_l8Find_L2] := by kernel_rfl
theorem R_spec_l8Find_L2 : firstReg B_spec_l8Find_L2 = 2 := by kernel_rfl
theorem Q_spec_l8Find : Try.prog.funcs[76]? = some Try.f76 ∧ (Try.f76.name == "runtime.NumGoroutine") = false ∧ Try.f76.body = some D_spec_l8Find := ⟨Try.func76, by kernel_rfl, by kernel_rfl⟩
theorem H_spec_l8Find : Holds Try.prog 76 E_spec_l8Find :=
  holds_of (cx := C_spec_l8Find) (tabOk_ok tabT rfl).1 (allT_ok ⟨⟨H_spec_l3Less, _, _, Q_spec_l3Less⟩, ⟨⟨H_spec_l1Same, _, _, Q_spec_l1Same⟩, trivial⟩⟩) mixT Q_spec_l8Find.1 Q_spec_l8Find.2.2 (loops_of W_spec_l8Find ⟨loop_of (cx := C_spec_l8Find) (L := S_spec_l8Find_L2 fuel) rfl (by rw [R_spec_l8Find_L2]; rfl) ⟨spec_l8Find_L2, fun _ => rfl, fun n x => K_spec_l8Find_L2 n x, fuel, fun _ => rfl⟩, trivial⟩) (enc := N_spec_l8Find) (fun _ _ => ⟨rfl, rfl⟩) F_spec_l8Find

theorem F_spec_l13Has (a : dens E_spec_l13Has.params) : E_spec_l13Has.run a = funK C_spec_l13Has Try.f69 E_spec_l13Has.params E_spec_l13Has.results a (fun o r => some (N_spec_l13Has o r)) := by
  kernel_rfl
theorem W_spec_l13Has : loopsOf D_spec_l13Has = [] := by kernel_rfl
theorem Q_spec_l13Has : Try.prog.funcs[69]? = some Try.f69 ∧ (Try.f69.name == "runtime.NumGoroutine") = false ∧ Try.f69.body = some D_spec_l13Has := ⟨Try.func69, by kernel_rfl, by kernel_rfl⟩
theorem H_spec_l13Has : Holds Try.prog 69 E_spec_l13Has :=
  holds_of (cx := C_spec_l13Has) (tabOk_ok tabT rfl).1 (allT_ok ⟨⟨H_spec_l8Find, _, _, Q_spec_l8Find⟩, trivial⟩) mixT Q_spec_l13Has.1 Q_spec_l13Has.2.2 (loops_of W_spec_l13Has trivial) (enc := N_spec_l13Has) (fun _ _ => ⟨rfl, rfl⟩) F_spec_l13Has

theorem K_spec_l19Satisfies_L3 (n : Nat) (x : (List Int) × ((List Int) × Int × (List (List Int))) × (List Int) × Int) : spec_l19Satisfies_L3 (n + 1) x = roundK C_spec_l19Satisfies B_spec_l19Satisfies_L3 (S_spec_l19Satisfies_L3 fuel) x (spec_l19Satisfies_L3 n) := by
  obtain ⟨values, c, t, i⟩ := x
  kernel_rfl
theorem F_spec_l19Satisfies (a : dens E_spec_l19Satisfies.params) : E_spec_l19Satisfies.run a = funK C_spec_l19Satisfies Try.f57 E_spec_l19Satisfies.params E_spec_l19Satisfies.results a (fun o r => some (N_spec_l19Satisfies o r)) := by
  kernel_rfl
theorem W_spec_l19Satisfies : loopsOf D_spec_l19Satisfies = [B_spec_l19Satisfies_L3] := by kernel_rfl
theorem R_spec_l19Satisfies_L3 : firstReg B_spec_l19Satisfies_L3 = 3 := by kernel_rfl
theorem Q_spec_l19Satisfies : Try.prog.funcs[57]? = some Try.f57 ∧ (Try.f57.name == "runtime.NumGoroutine") = false ∧ Try.f57.body = some D_spec_l19Satisfies := ⟨Try.func57, by kernel_rfl, by kernel_rfl⟩
theorem H_spec_l19Satisfies : Holds Try.prog 57 E_spec_l19Satisfies :=
  holds_of (cx := C_spec_l19Satisfies) (tabOk_ok tabT rfl).1 (allT_ok ⟨⟨H_spec_l13Has, _, _, Q_spec_l13Has⟩, trivial⟩) mixT Q_spec_l19Satisfies.1 Q_spec_l19Satisfies.2.2 (loops_of W_spec_l19Satisfies ⟨loop_of (cx := C_spec_l19Satisfies) (L := S_spec_l19Satisfies_L3 fuel) rfl (by rw [R_spec_l19Satisfies_L3]; rfl) ⟨spec_l19Satisfies_L3, fun _ => rfl, fun n x => K_spec_l19Satisfies_L3 n x, fuel, fun _ => rfl⟩, trivial⟩) (enc := N_spec_l19Satisfies) (fun _ _ => ⟨rfl, rfl⟩) F_spec_l19Satisfies

theorem K_spec_l20Hold_L2 (n : Nat) (x : (List ((List Int) × Int × (List (List Int)))) × (List Int) × Int) : spec_l20Hold_L2 (n + 1) x = roundK C_spec_l20Hold B_spec_l20Hold_L2 (S_spec_l20Hold_L2 fuel) x (spec_l20Hold_L2 n) := by
  obtain ⟨list, values, i⟩ := x
  kernel_rfl
theorem F_spec_l20Hold (a : dens E_spec_l20Hold.params) : E_spec_l20Hold.run a = funK C_spec_l20Hold Try.f41 E_spec_l20Hold.params E_spec_l20Hold.results a (fun o r => some (N_spec_l20Hold o r)) := by
  kernel_rfl
theorem W_spec_l20Hold : loopsOf D_spec_l20Hold = [B_spec_l20Hold_L2] := by kernel_rfl
theorem R_spec_l20Hold_L2 : firstReg B_spec_l20Hold_L2 = 2 := by kernel_rfl
theorem Q_spec_l20Hold : Try.prog.funcs[41]? = some Try.f41 ∧ (Try.f41.name == "runtime.NumGoroutine") = false ∧ Try.f41.body = some D_spec_l20Hold := ⟨Try.func41, by kernel_rfl, by kernel_rfl⟩
theorem H_spec_l20Hold : Holds Try.prog 41 E_spec_l20Hold :=
  holds_of (cx := C_spec_l20Hold) (tabOk_ok tabT rfl).1 (allT_ok ⟨⟨H_spec_l19Satisfies, _, _, Q_spec_l19Satisfies⟩, trivial⟩) mixT Q_spec_l20Hold.1 Q_spec_l20Hold.2.2 (loops_of W_spec_l20Hold ⟨loop_of (cx := C_spec_l20Hold) (L := S_spec_l20Hold_L2 fuel) rfl (by rw [R_spec_l20Hold_L2]; rfl) ⟨spec_l20Hold_L2, fun _ => rfl, fun n x => K_spec_l20Hold_L2 n x, fuel, fun _ => rfl⟩, trivial⟩) (enc := N_spec_l20Hold) (fun _ _ => ⟨rfl, rfl⟩) F_spec_l20Hold

theorem F_spec_l20At (a : dens E_spec_l20At.params) : E_spec_l20At.run a = funK C_spec_l20At Try.f30 E_spec_l20At.params E_spec_l20At.results a (fun o r => some (N_spec_l20At o r)) := by
  kernel_rfl
theorem W_spec_l20At : loopsOf D_spec_l20At = [] := by kernel_rfl
theorem Q_spec_l20At : Try.prog.funcs[30]? = some Try.f30 ∧ (Try.f30.name == "runtime.NumGoroutine") = false ∧ Try.f30.body = some D_spec_l20At := ⟨Try.func30, by kernel_rfl, by kernel_rfl⟩
theorem H_spec_l20At : Holds Try.prog 30 E_spec_l20At :=
  holds_of (cx := C_spec_l20At) (tabOk_ok tabT rfl).1 (allT_ok trivial) mixT Q_spec_l20At.1 Q_spec_l20At.2.2 (loops_of W_spec_l20At trivial) (enc := N_spec_l20At) (fun _ _ => ⟨rfl, rfl⟩) F_spec_l20At

theorem K_spec_l20Shrink_L10 (n : Nat) (x : (List (List (List Bool))) × Int × Int × Int × (Int × Int × (List ((List Int) × Int × (List (List Int))))) × Int × (List ((List Int) × Int × (List (List Int)))) × Bool × Int × Bool × Int) : spec_l20Shrink_L10 (n + 1) x = roundK C_spec_l20Shrink B_spec_l20Shrink_L10 (S_spec_l20Shrink_L10 fuel) x (spec_l20Shrink_L10 n) := by
  obtain ⟨t1, t2, t3, t4, t5, t11, t12, t13, t14, t15, t16⟩ := x
  kernel_rfl
theorem K_spec_l20Shrink_L5 (n : Nat) (x : (List (List (List Bool))) × Int × Int × Int × (Int × Int × (List ((List Int) × Int × (List (List Int))))) × Int × (List ((List Int) × Int × (List (List Int)))) × Bool × Int) : spec_l20Shrink_L5 (n + 1) x = roundK C_spec_l20Shrink B_spec_l20Shrink_L5 (S_spec_l20Shrink_L5 fuel) x (spec_l20Shrink_L5 n) := by
  obtain ⟨t1, t2, t3, t4, t5, t11, t12, t13, t14⟩ := x
  kernel_rfl
theorem F_spec_l20Shrink (a : dens E_spec_l20Shrink.params) : E_spec_l20Shrink.run a = funK C_spec_l20Shrink Try.f42 E_spec_l20Shrink.params E_spec_l20Shrink.results a (fun o r => some (N_spec_l20Shrink o r)) := by
  kernel_rfl
theorem W_spec_l20Shrink : loopsOf D_spec_l20Shrink = [B_spec_l20Shrink_L5, B_spec_l20Shrink_L10] := by kernel_rfl
theorem R_spec_l20Shrink_L10 : firstReg B_spec_l20Shrink_L10 = 10 := by kernel_rfl
theorem R_spec_l20Shrink_L5 : firstReg B_spec_l20Shrink_L5 = 5 := by kernel_rfl
theorem Q_spec_l20Shrink : Try.prog.funcs[42]? = some Try.f42 ∧ (Try.f42.name == "runtime.NumGoroutine") = false ∧ Try.f42.body = some D_spec_l20Shrink := ⟨Try.func42, by kernel_rfl, by kernel_rfl⟩
theorem H_spec_l20Shrink : Holds Try.prog 42 E_spec_l20Shrink :=
  holds_of (cx := C_spec_l20Shrink) (tabOk_ok tabT rfl).1 (allT_ok ⟨⟨H_spec_l20At, _, _, Q_spec_l20At⟩, ⟨⟨H_spec_l20Inside, _, _, Q_spec_l20Inside⟩, ⟨⟨H_spec_l20Hold, _, _, Q_spec_l20Hold⟩, trivial⟩⟩⟩) mixT Q_spec_l20Shrink.1 Q_spec_l20Shrink.2.2 (loops_of W_spec_l20Shrink ⟨loop_of (cx := C_spec_l20Shrink) (L := S_spec_l20Shrink_L5 fuel) rfl (by rw [R_spec_l20Shrink_L5]; rfl) ⟨spec_l20Shrink_L5, fun _ => rfl, fun n x => K_spec_l20Shrink_L5 n x, fuel, fun _ => rfl⟩, ⟨loop_of (cx := C_spec_l20Shrink) (L := S_spec_l20Shrink_L10 fuel) rfl (by rw [R_spec_l20Shrink_L10]; rfl) ⟨spec_l20Shrink_L10, fun _ => rfl, fun n x => K_spec_l20Shrink_L10 n x, fuel, fun _ => rfl⟩, trivial⟩⟩) (enc := N_spec_l20Shrink) (fun _ _ => ⟨rfl, rfl⟩) F_spec_l20Shrink

theorem K_spec_l20Pairs_L13 (n : Nat) (x : (Int × Int × (List ((List Int) × Int × (List (List Int))))) × Int × Int × (List (List (List Bool))) × Int × (List (List Bool)) × Int × (List Bool) × (List ((List Int) × Int × (List (List Int)))) × Int) : spec_l20Pairs_L13 (n + 1) x = roundK C_spec_l20Pairs B_spec_l20Pairs_L13 (S_spec_l20Pairs_L13 fuel) x (spec_l20Pairs_L13 n) := by
  obtain ⟨t1, t3, t4, t5, t6, t7, t8, t9, t10, t11⟩ := x
  kernel_rfl
theorem K_spec_l20Pairs_L8 (n : Nat) (x : (Int × Int × (List ((List Int) × Int × (List (List Int))))) × Int × Int × (List (List (List Bool))) × Int × (List (List Bool)) × Int) : spec_l20Pairs_L8 (n + 1) x = roundK C_spec_l20Pairs B_spec_l20Pairs_L8 (S_spec_l20Pairs_L8 fuel) x (spec_l20Pairs_L8 n) := by
  obtain ⟨t1, t3, t4, t5, t6, t7, t8⟩ := x
  kernel_rfl
theorem K_spec_l20Pairs_L4 (n : Nat) (x : (Int × Int × (List ((List Int) × Int × (List (List Int))))) × Int × Int × (List (List (List Bool))) × Int) : spec_l20Pairs_L4 (n + 1) x = roundK C_spec_l20Pairs B_spec_l20Pairs_L4 (S_spec_l20Pairs_L4 fuel) x (spec_l20Pairs_L4 n) := by
  obtain ⟨t1, t3, t4, t5, t6⟩ := x
  kernel_rfl
theorem K_spec_l20Pairs_L31 (n : Nat) (x : (Int × Int × (List ((List Int) × Int × (List (List Int))))) × Int × (List (List (List Bool))) × Bool × Int × Int × Int) : spec_l20Pairs_L31 (n + 1) x = roundK C_spec_l20Pairs B_spec_l20Pairs_L31 (S_spec_l20Pairs_L31 fuel) x (spec_l20Pairs_L31 n) := by
  obtain ⟨t1, t3, t5, t13, t14, t15, t16⟩ := x
  kernel_rfl
theorem K_spec_l20Pairs_L28 (n : Nat) (x : (Int × Int × (List ((List Int) × Int × (List (List Int))))) × Int × (List (List (List Bool))) × Bool × Int × Int) : spec_l20Pairs_L28 (n + 1) x = roundK C_spec_l20Pairs B_spec_l20Pairs_L28 (S_spec_l20Pairs_L28 fuel) x (spec_l20Pairs_L28 n) := by
  obtain ⟨t1, t3, t5, t13, t14, t15⟩ := x
  kernel_rfl
theorem K_spec_l20Pairs_L25 (n : Nat) (x : (Int × Int × (List ((List Int) × Int × (List (List Int))))) × Int × (List (List (List Bool))) × Bool × Int) : spec_l20Pairs_L25 (n + 1) x = roundK C_spec_l20Pairs B_spec_l20Pairs_L25 (S_spec_l20Pairs_L25 fuel) x (spec_l20Pairs_L25 n) := by
  obtain ⟨t1, t3, t5, t13, t14⟩ := x
  kernel_rfl
theorem K_spec_l20Pairs_L22 (n : Nat) (x : (Int × Int × (List ((List Int) × Int × (List (List Int))))) × Int × (List (List (List Bool))) × Bool) : spec_l20Pairs_L22 (n + 1) x = roundK C_spec_l20Pairs B_spec_l20Pairs_L22 (S_spec_l20Pairs_L22 fuel) x (spec_l20Pairs_L22 n) := by
  obtain ⟨t1, t3, t5, t13⟩ := x
  kernel_rfl
theorem F_spec_l20Pairs (a : dens E_spec_l20Pairs.params) : E_spec_l20Pairs.run a = funK C_spec_l20Pairs Try.f24 E_spec_l20Pairs.params E_spec_l20Pairs.results a (fun o r => some (N_spec_l20Pairs o r)) := by
  kernel_rfl
theorem W_spec_l20Pairs : loopsOf D_spec_l20Pairs = [B_spec_l20Pairs_L4, B_spec_l20Pairs_L8, B_spec_l20Pairs_L13, B_spec_l20Pairs_L22, B_spec_l20Pairs_L25, B_spec_l20Pairs_L28, B_spec_l20Pairs_L31] := by kernel_rfl
theorem R_spec_l20Pairs_L13 : firstReg B_spec_l20Pairs_L13 = 13 := by kernel_rfl
theorem R_spec_l20Pairs_L8 : firstReg B_spec_l20Pairs_L8 = 8 := by kernel_rfl
theorem R_spec_l20Pairs_L4 : firstReg B_spec_l20Pairs_L4 = 4 := by kernel_rfl
theorem R_spec_l20Pairs_L31 : firstReg B_spec_l20Pairs_L31 = 31 := by kernel_rfl
theorem R_spec_l20Pairs_L28 : firstReg B_spec_l20Pairs_L28 = 28 := by kernel_rfl
theorem R_spec_l20Pairs_L25 : firstReg B_spec_l20Pairs_L25 = 25 := by kernel_rfl
theorem R_spec_l20Pairs_L22 : firstReg B_spec_l20Pairs_L22 = 22 := by kernel_rfl
theorem Q_spec_l20Pairs : Try.prog.funcs[24]? = some Try.f24 ∧ (Try.f24.name == "runtime.NumGoroutine") = false ∧ Try.f24.body = some D_spec_l20Pairs := ⟨Try.func24, by kernel_rfl, by kernel_rfl⟩
theorem H_spec_l20Pairs : Holds Try.prog 24 E_spec_l20Pairs :=
  holds_of (cx := C_spec_l20Pairs) (tabOk_ok tabT rfl).1 (allT_ok ⟨⟨H_spec_l20Inside, _, _, Q_spec_l20Inside⟩, ⟨⟨H_spec_l20Hold, _, _, Q_spec_l20Hold⟩, ⟨⟨H_spec_l20Shrink, _, _, Q_spec_l20Shrink⟩, trivial⟩⟩⟩) mixT Q_spec_l20Pairs.1 Q_spec_l20Pairs.2.2 (loops_of W_spec_l20Pairs ⟨loop_of (cx := C_spec_l20Pairs) (L := S_spec_l20Pairs_L4 fuel) rfl (by rw [R_spec_l20Pairs_L4]; rfl) ⟨spec_l20Pairs_L4, fun _ => rfl, fun n x => K_spec_l20Pairs_L4 n x, fuel, fun _ => rfl⟩, ⟨loop_of (cx := C_spec_l20Pairs) (L := S_spec_l20Pairs_L8 fuel) rfl (by rw [R_spec_l20Pairs_L8]; rfl) ⟨spec_l20Pairs_L8, fun _ => rfl, fun n x => K_spec_l20Pairs_L8 n x, fuel, fun _ => rfl⟩, ⟨loop_of (cx := C_spec_l20Pairs) (L := S_spec_l20Pairs_L13 fuel) rfl (by rw [R_spec_l20Pairs_L13]; rfl) ⟨spec_l20Pairs_L13, fun _ => rfl, fun n x => K_spec_l20Pairs_L13 n x, fuel, fun _ => rfl⟩, ⟨loop_of (cx := C_spec_l20Pairs) (L := S_spec_l20Pairs_L22 fuel) rfl (by rw [R_spec_l20Pairs_L22]; rfl) ⟨spec_l20Pairs_L22, fun _ => rfl, fun n x => K_spec_l20Pairs_L22 n x, fuel, fun _ => rfl⟩, ⟨loop_of (cx := C_spec_l20Pairs) (L := S_spec_l20Pairs_L25 fuel) rfl (by rw [R_spec_l20Pairs_L25]; rfl) ⟨spec_l20Pairs_L25, fun _ => rfl, fun n x => K_spec_l20Pairs_L25 n x, fuel, fun _ => rfl⟩, ⟨loop_of (cx := C_spec_l20Pairs) (L := S_spec_l20Pairs_L28 fuel) rfl (by rw [R_spec_l20Pairs_L28]; rfl) ⟨spec_l20Pairs_L28, fun _ => rfl, fun n x => K_spec_l20Pairs_L28 n x, fuel, fun _ => rfl⟩, ⟨loop_of (cx := C_spec_l20Pairs) (L := S_spec_l20Pairs_L31 fuel) rfl (by rw [R_spec_l20Pairs_L31]; rfl) ⟨spec_l20Pairs_L31, fun _ => rfl, fun n x => K_spec_l20Pairs_L31 n x, fuel, fun _ => rfl⟩, trivial⟩⟩⟩⟩⟩⟩⟩) (enc := N_spec_l20Pairs) (fun _ _ => ⟨rfl, rfl⟩) F_spec_l20Pairs

theorem K_spec_GreedyByPairs_L14 (n : Nat) (x : (Int × Int × (List ((List Int) × Int × (List (List Int))))) × (List (List (List Bool))) × (List Int) × Int × Int × Int × Bool × Int) : spec_GreedyByPairs_L14 (n + 1) x = roundK C_spec_GreedyByPairs B_spec_GreedyByPairs_L14 (S_spec_GreedyByPairs_L14 fuel) x (spec_GreedyByPairs_L14 n) := by
  obtain ⟨t1, t4, t5, t6, t7, t8, t9, t10⟩ := x
  kernel_rfl
theorem K_spec_GreedyByPairs_L20 (n : Nat) (x : (Int × Int × (List ((List Int) × Int × (List (List Int))))) × (List (List (List Bool))) × (List Int) × Int × Int × Int × Bool × Int) : spec_GreedyByPairs_L20 (n + 1) x = roundK C_spec_GreedyByPairs B_spec_GreedyByPairs_L20 (S_spec_GreedyByPairs_L20 fuel) x (spec_GreedyByPairs_L20 n) := by
  obtain ⟨t1, t4, t5, t6, t7, t8, t9, t11⟩ := x
  kernel_rfl
theorem K_spec_GreedyByPairs_L10 (n : Nat) (x : (Int × Int × (List ((List Int) × Int × (List (List Int))))) × (List (List (List Bool))) × (List Int) × Int × Int × Int) : spec_GreedyByPairs_L10 (n + 1) x = roundK C_spec_GreedyByPairs B_spec_GreedyByPairs_L10 (S_spec_GreedyByPairs_L10 fuel) x (spec_GreedyByPairs_L10 n) := by
  obtain ⟨t1, t4, t5, t6, t7, t8⟩ := x
  kernel_rfl
theorem K_spec_GreedyByPairs_L6 (n : Nat) (x : (Int × Int × (List ((List Int) × Int × (List (List Int))))) × (List (List (List Bool))) × (List Int) × Int) : spec_GreedyByPairs_L6 (n + 1) x = roundK C_spec_GreedyByPairs B_spec_GreedyByPairs_L6 (S_spec_GreedyByPairs_L6 fuel) x (spec_GreedyByPairs_L6 n) := by
  obtain ⟨t1, t4, t5, t6⟩ := x
  kernel_rfl
theorem F_spec_GreedyByPairs (a : dens E_spec_GreedyByPairs.params) : E_spec_GreedyByPairs.run a = funK C_spec_GreedyByPairs Try.f11 E_spec_GreedyByPairs.params E_spec_GreedyByPairs.results a (fun o r => some (N_spec_GreedyByPairs o r)) := by
  kernel_rfl
theorem W_spec_GreedyByPairs : loopsOf D_spec_GreedyByPairs = [B_spec_GreedyByPairs_L6, B_spec_GreedyByPairs_L10, B_spec_GreedyByPairs_L14, B_spec_GreedyByPairs_L20] := by kernel_rfl
theorem R_spec_GreedyByPairs_L14 : firstReg B_spec_GreedyByPairs_L14 = 14 := by kernel_rfl
theorem R_spec_GreedyByPairs_L20 : firstReg B_spec_GreedyByPairs_L20 = 20 := by kernel_rfl
theorem R_spec_GreedyByPairs_L10 : firstReg B_spec_GreedyByPairs_L10 = 10 := by kernel_rfl
theorem R_spec_GreedyByPairs_L6 : firstReg B_spec_GreedyByPairs_L6 = 6 := by kernel_rfl
theorem Q_spec_GreedyByPairs : Try.prog.funcs[11]? = some Try.f11 ∧ (Try.f11.name == "runtime.NumGoroutine") = false ∧ Try.f11.body = some D_spec_GreedyByPairs := ⟨Try.func11, by kernel_rfl, by kernel_rfl⟩
theorem H_spec_GreedyByPairs : Holds Try.prog 11 E_spec_GreedyByPairs :=
  holds_of (cx := C_spec_GreedyByPairs) (tabOk_ok tabT rfl).1 (allT_ok ⟨⟨H_spec_l19Good, _, _, Q_spec_l19Good⟩, ⟨⟨H_spec_l20Pairs, _, _, Q_spec_l20Pairs⟩, ⟨⟨H_spec_l20At, _, _, Q_spec_l20At⟩, trivial⟩⟩⟩) mixT Q_spec_GreedyByPairs.1 Q_spec_GreedyByPairs.2.2 (loops_of W_spec_GreedyByPairs ⟨loop_of (cx := C_spec_GreedyByPairs) (L := S_spec_GreedyByPairs_L6 fuel) rfl (by rw [R_spec_GreedyByPairs_L6]; rfl) ⟨spec_GreedyByPairs_L6, fun _ => rfl, fun n x => K_spec_GreedyByPairs_L6 n x, fuel, fun _ => rfl⟩, ⟨loop_of (cx := C_spec_GreedyByPairs) (L := S_spec_GreedyByPairs_L10 fuel) rfl (by rw [R_spec_GreedyByPairs_L10]; rfl) ⟨spec_GreedyByPairs_L10, fun _ => rfl, fun n x => K_spec_GreedyByPairs_L10 n x, fuel, fun _ => rfl⟩, ⟨loop_of (cx := C_spec_GreedyByPairs) (L := S_spec_GreedyByPairs_L14 fuel) rfl (by rw [R_spec_GreedyByPairs_L14]; rfl) ⟨spec_GreedyByPairs_L14, fun _ => rfl, fun n x => K_spec_GreedyByPairs_L14 n x, fuel, fun _ => rfl⟩, ⟨loop_of (cx := C_spec_GreedyByPairs) (L := S_spec_GreedyByPairs_L20 fuel) rfl (by rw [R_spec_GreedyByPairs_L20]; rfl) ⟨spec_GreedyByPairs_L20, fun _ => rfl, fun n x => K_spec_GreedyByPairs_L20 n x, fuel, fun _ => rfl⟩, trivial⟩⟩⟩⟩) (enc := N_spec_GreedyByPairs) (fun _ _ => ⟨rfl, rfl⟩) F_spec_GreedyByPairs

theorem F_impl_isTemplateSize (a : dens E_impl_isTemplateSize.params) : E_impl_isTemplateSize.run a = funK C_impl_isTemplateSize Try.f44 E_impl_isTemplateSize.params E_impl_isTemplateSize.results a (fun o r => some (N_impl_isTemplateSize o r)) := by
  kernel_rfl
theorem W_impl_isTemplateSize : loopsOf D_impl_isTemplateSize = [] := by kernel_rfl
theorem Q_impl_isTemplateSize : Try.prog.funcs[44]? = some Try.f44 ∧ (Try.f44.name == "runtime.NumGoroutine") = false ∧ Try.f44.body = some D_impl_isTemplateSize := ⟨Try.func44, by kernel_rfl, by kernel_rfl⟩
theorem H_impl_isTemplateSize : Holds Try.prog 44 E_impl_isTemplateSize :=
  holds_of (cx := C_impl_isTemplateSize) (tabOk_ok tabT rfl).1 (allT_ok trivial) mixT Q_impl_isTemplateSize.1 Q_impl_isTemplateSize.2.2 (loops_of W_impl_isTemplateSize trivial) (enc := N_impl_isTemplateSize) (fun _ _ => ⟨rfl, rfl⟩) F_impl_isTemplateSize

theorem K_impl_inSize_L2 (n : Nat) (x : Int × (List Int) × Int × Int) : impl_inSize_L2 (n + 1) x = roundK C_impl_inSize B_impl_inSize_L2 (S_impl_inSize_L2 fuel) x (impl_inSize_L2 n) := by
  obtain ⟨n_, t7, t8, t9⟩ := x
  kernel_rfl
theorem F_impl_inSize (a : dens E_impl_inSize.params) : E_impl_inSize.run a = funK C_impl_inSize Try.f61 E_impl_inSize.params E_impl_inSize.results a (fun o r => some (N_impl_inSize o r)) := by
  kernel_rfl
theorem W_impl_inSize : loopsOf D_impl_inSize = [B_impl_inSize_L2] := by kernel_rfl
theorem R_impl_inSize_L2 : firstReg B_impl_inSize_L2 = 2 := by kernel_rfl
theorem Q_impl_inSize : Try.prog.funcs[61]? = some Try.f61 ∧ (Try.f61.name == "runtime.NumGoroutine") = false ∧ Try.f61.body = some D_impl_inSize := ⟨Try.func61, by kernel_rfl, by kernel_rfl⟩
theorem H_impl_inSize : Holds Try.prog 61 E_impl_inSize :=
  holds_of (cx := C_impl_inSize) (tabOk_ok tabT rfl).1 (allT_ok trivial) mixT Q_impl_inSize.1 Q_impl_inSize.2.2 (loops_of W_impl_inSize ⟨loop_of (cx := C_impl_inSize) (L := S_impl_inSize_L2 fuel) rfl (by rw [R_impl_inSize_L2]; rfl) ⟨impl_inSize_L2, fun _ => rfl, fun n x => K_impl_inSize_L2 n x, fuel, fun _ => rfl⟩, trivial⟩) (enc := N_impl_inSize) (fun _ _ => ⟨rfl, rfl⟩) F_impl_inSize

theorem K_impl_compareLists_L2 (n : Nat) (x : (List Int) × (List Int) × Int) : impl_compareLists_L2 (n + 1) x = roundK C_impl_compareLists B_impl_compareLists_L2 (S_impl_compareLists_L2 fuel) x (impl_compareLists_L2 n) := by
  obtain ⟨s, t, i⟩ := x
  kernel_rfl
theorem F_impl_compareLists (a : dens E_impl_compareLists.params) : E_impl_compareLists.run a = funK C_impl_compareLists Try.f71 E_impl_compareLists.params E_impl_compareLists.results a (fun o r => some (N_impl_compareLists o r)) := by
  kernel_rfl
theorem W_impl_compareLists : loopsOf D_impl_compareLists = [B_impl_compareLists_L2] := by kernel_rfl
theorem R_impl_compareLists_L2 : firstReg B_impl_compareLists_L2 = 2 := by kernel_rfl
theorem Q_impl_compareLists : Try.prog.funcs[71]? = some Try.f71 ∧ (Try.f71.name == "runtime.NumGoroutine") = false ∧ Try.f71.body = some D_impl_compareLists := ⟨Try.func71, by kernel_rfl, by kernel_rfl⟩
theorem H_impl_compareLists : Holds Try.prog 71 E_impl_compareLists :=
  holds_of (cx := C_impl_compareLists) (tabOk_ok tabT rfl).1 (allT_ok trivial) mixT Q_impl_compareLists.1 Q_impl_compareLists.2.2 (loops_of W_impl_compareLists ⟨loop_of (cx := C_impl_compareLists) (L := S_impl_compareLists_L2 fuel) rfl (by rw [R_impl_compareLists_L2]; rfl) ⟨impl_compareLists_L2, fun _ => rfl, fun n x => K_impl_compareLists_L2 n x, fuel, fun _ => rfl⟩, trivial⟩) (enc := N_impl_compareLists) (fun _ _ => ⟨rfl, rfl⟩) F_impl_compareLists

theorem K_impl_isRelation_L4 (n : Nat) (x : Int × (Int × (List (List Int))) × (List (List Int)) × Int × Int) : impl_isRelation_L4 (n + 1) x = roundK C_impl_isRelation B_impl_isRelation_L4 (S_impl_isRelation_L4 fuel) x (impl_isRelation_L4 n) := by
  obtain ⟨n_, r, t16, t17, t18⟩ := x
  kernel_rfl
theorem F_impl_isRelation (a : dens E_impl_isRelation.params) : E_impl_isRelation.run a = funK C_impl_isRelation Try.f60 E_impl_isRelation.params E_impl_isRelation.results a (fun o r => some (N_impl_isRelation o r)) := by
  kernel_rfl
theorem W_impl_isRelation : loopsOf D_impl_isRelation = [B_impl_isRelation_L4] := by kernel_rfl
theorem R_impl_isRelation_L4 : firstReg B_impl_isRelation_L4 = 4 := by kernel_rfl
theorem Q_impl_isRelation : Try.prog.funcs[60]? = some Try.f60 ∧ (Try.f60.name == "runtime.NumGoroutine") = false ∧ Try.f60.body = some D_impl_isRelation := ⟨Try.func60, by kernel_rfl, by kernel_rfl⟩
theorem H_impl_isRelation : Holds Try.prog 60 E_impl_isRelation :=
  holds_of (cx := C_impl_isRelation) (tabOk_ok tabT rfl).1 (allT_ok ⟨⟨H_impl_inSize, _, _, Q_impl_inSize⟩, ⟨⟨H_impl_compareLists, _, _, Q_impl_compareLists⟩, trivial⟩⟩) mixT Q_impl_isRelation.1 Q_impl_isRelation.2.2 (loops_of W_impl_isRelation ⟨loop_of (cx := C_impl_isRelation) (L := S_impl_isRelation_L4 fuel) rfl (by rw [R_impl_isRelation_L4]; rfl) ⟨impl_isRelation_L4, fun _ => rfl, fun n x => K_impl_isRelation_L4 n x, fuel, fun _ => rfl⟩, trivial⟩) (enc := N_impl_isRelation) (fun _ _ => ⟨rfl, rfl⟩) F_impl_isRelation

theorem F_impl_isConstraint (a : dens E_impl_isConstraint.params) : E_impl_isConstraint.run a = funK C_impl_isConstraint Try.f45 E_impl_isConstraint.params E_impl_isConstraint.results a (fun o r => some (N_impl_isConstraint o r)) := by
  kernel_rfl
theorem W_impl_isConstraint : loopsOf D_impl_isConstraint = [] := by kernel_rfl
theorem Q_impl_isConstraint : Try.prog.funcs[45]? = some Try.f45 ∧ (Try.f45.name == "runtime.NumGoroutine") = false ∧ Try.f45.body = some D_impl_isConstraint := ⟨Try.func45, by kernel_rfl, by kernel_rfl⟩
theorem H_impl_isConstraint : Holds Try.prog 45 E_impl_isConstraint :=
  holds_of (cx := C_impl_isConstraint) (tabOk_ok tabT rfl).1 (allT_ok ⟨⟨H_impl_isRelation, _, _, Q_impl_isRelation⟩, ⟨⟨H_impl_inSize, _, _, Q_impl_inSize⟩, trivial⟩⟩) mixT Q_impl_isConstraint.1 Q_impl_isConstraint.2.2 (loops_of W_impl_isConstraint trivial) (enc := N_impl_isConstraint) (fun _ _ => ⟨rfl, rfl⟩) F_impl_isConstraint

theorem K_impl_IsNetwork_L4 (n : Nat) (x : (Int × Int × (List ((List Int) × Int × (List (List Int))))) × (List ((List Int) × Int × (List (List Int)))) × Int × Int) : impl_IsNetwork_L4 (n + 1) x = roundK C_impl_IsNetwork B_impl_IsNetwork_L4 (S_impl_IsNetwork_L4 fuel) x (impl_IsNetwork_L4 n) := by
  obtain ⟨net, t26, t27, t28⟩ := x
  kernel_rfl
theorem F_impl_IsNetwork (a : dens E_impl_IsNetwork.params) : E_impl_IsNetwork.run a = funK C_impl_IsNetwork Try.f27 E_impl_IsNetwork.params E_impl_IsNetwork.results a (fun o r => some (N_impl_IsNetwork o r)) := by
  kernel_rfl
theorem W_impl_IsNetwork : loopsOf D_impl_IsNetwork = [B_impl_IsNetwork_L4] := by kernel_rfl
theorem R_impl_IsNetwork_L4 : firstReg B_impl_IsNetwork_L4 = 4 := by kernel_rfl
theorem Q_impl_IsNetwork : Try.prog.funcs[27]? = some Try.f27 ∧ (Try.f27.name == "runtime.NumGoroutine") = false ∧ Try.f27.body = some D_impl_IsNetwork := ⟨Try.func27, by kernel_rfl, by kernel_rfl⟩
theorem H_impl_IsNetwork : Holds Try.prog 27 E_impl_IsNetwork :=
  holds_of (cx := C_impl_IsNetwork) (tabOk_ok tabT rfl).1 (allT_ok ⟨⟨H_impl_isTemplateSize, _, _, Q_impl_isTemplateSize⟩, ⟨⟨H_impl_isConstraint, _, _, Q_impl_isConstraint⟩, trivial⟩⟩) mixT Q_impl_IsNetwork.1 Q_impl_IsNetwork.2.2 (loops_of W_impl_IsNetwork ⟨loop_of (cx := C_impl_IsNetwork) (L := S_impl_IsNetwork_L4 fuel) rfl (by rw [R_impl_IsNetwork_L4]; rfl) ⟨impl_IsNetwork_L4, fun _ => rfl, fun n x => K_impl_IsNetwork_L4 n x, fuel, fun _ => rfl⟩, trivial⟩) (enc := N_impl_IsNetwork) (fun _ _ => ⟨rfl, rfl⟩) F_impl_IsNetwork

theorem K_impl_hasNot_L2 (n : Nat) (x : Int × (List Int) × Int × Int) : impl_hasNot_L2 (n + 1) x = roundK C_impl_hasNot B_impl_hasNot_L2 (S_impl_hasNot_L2 fuel) x (impl_hasNot_L2 n) := by
  obtain ⟨x, t7, t8, t9⟩ := x
  kernel_rfl
theorem F_impl_hasNot (a : dens E_impl_hasNot.params) : E_impl_hasNot.run a = funK C_impl_hasNot Try.f75 E_impl_hasNot.params E_impl_hasNot.results a (fun o r => some (N_impl_hasNot o r)) := by
  kernel_rfl
theorem W_impl_hasNot : loopsOf D_impl_hasNot = [B_impl_hasNot_L2] := by kernel_rfl
theorem R_impl_hasNot_L2 : firstReg B_impl_hasNot_L2 = 2 := by kernel_rfl
theorem Q_impl_hasNot : Try.prog.funcs[75]? = some Try.f75 ∧ (Try.f75.name == "runtime.NumGoroutine") = false ∧ Try.f75.body = some D_impl_hasNot := ⟨Try.func75, by kernel_rfl, by kernel_rfl⟩
theorem H_impl_hasNot : Holds Try.prog 75 E_impl_hasNot :=
  holds_of (cx := C_impl_hasNot) (tabOk_ok tabT rfl).1 (allT_ok trivial) mixT Q_impl_hasNot.1 Q_impl_hasNot.2.2 (loops_of W_impl_hasNot ⟨loop_of (cx := C_impl_hasNot) (L := S_impl_hasNot_L2 fuel) rfl (by rw [R_impl_hasNot_L2]; rfl) ⟨impl_hasNot_L2, fun _ => rfl, fun n x => K_impl_hasNot_L2 n x, fuel, fun _ => rfl⟩, trivial⟩) (enc := N_impl_hasNot) (fun _ _ => ⟨rfl, rfl⟩) F_impl_hasNot

theorem K_impl_isPart_L2 (n : Nat) (x : (List Int) × (List Int) × Int × Int) : impl_isPart_L2 (n + 1) x = roundK C_impl_isPart B_impl_isPart_L2 (S_impl_isPart_L2 fuel) x (impl_isPart_L2 n) := by
  obtain ⟨y, t7, t8, t9⟩ := x
  kernel_rfl
theorem F_impl_isPart (a : dens E_impl_isPart.params) : E_impl_isPart.run a = funK C_impl_isPart Try.f64 E_impl_isPart.params E_impl_isPart.results a (fun o r => some (N_impl_isPart o r)) := by
  kernel_rfl
theorem W_impl_isPart : loopsOf D_impl_isPart = [B_impl_isPart_L2] := by kernel_rfl
theorem R_impl_isPart_L2 : firstReg B_impl_isPart_L2 = 2 := by kernel_rfl
theorem Q_impl_isPart : Try.prog.funcs[64]? = some Try.f64 ∧ (Try.f64.name == "runtime.NumGoroutine") = false ∧ Try.f64.body = some D_impl_isPart := ⟨Try.func64, by kernel_rfl, by kernel_rfl⟩
theorem H_impl_isPart : Holds Try.prog 64 E_impl_isPart :=
  holds_of (cx := C_impl_isPart) (tabOk_ok tabT rfl).1 (allT_ok ⟨⟨H_impl_hasNot, _, _, Q_impl_hasNot⟩, trivial⟩) mixT Q_impl_isPart.1 Q_impl_isPart.2.2 (loops_of W_impl_isPart ⟨loop_of (cx := C_impl_isPart) (L := S_impl_isPart_L2 fuel) rfl (by rw [R_impl_isPart_L2]; rfl) ⟨impl_isPart_L2, fun _ => rfl, fun n x => K_impl_isPart_L2 n x, fuel, fun _ => rfl⟩, trivial⟩) (enc := N_impl_isPart) (fun _ _ => ⟨rfl, rfl⟩) F_impl_isPart

theorem K_impl_within_L3 (n : Nat) (x : (List Int) × (List ((List Int) × Int × (List (List Int)))) × (List ((List Int) × Int × (List (List Int)))) × Int × Int) : impl_within_L3 (n + 1) x = roundK C_impl_within B_impl_within_L3 (S_impl_within_L3 fuel) x (impl_within_L3 n) := by
  obtain ⟨vars, list, t10, t11, t12⟩ := x
  kernel_rfl
theorem F_impl_within (a : dens E_impl_within.params) : E_impl_within.run a = funK C_impl_within Try.f48 E_impl_within.params E_impl_within.results a (fun o r => some (N_impl_within o r)) := by
  kernel_rfl
theorem W_impl_within : loopsOf D_impl_within = [B_impl_within_L3] := by kernel_rfl
theorem R_impl_within_L3 : firstReg B_impl_within_L3 = 3 := by kernel_rfl
theorem Q_impl_within : Try.prog.funcs[48]? = some Try.f48 ∧ (Try.f48.name == "runtime.NumGoroutine") = false ∧ Try.f48.body = some D_impl_within := ⟨Try.func48, by kernel_rfl, by kernel_rfl⟩
theorem H_impl_within : Holds Try.prog 48 E_impl_within :=
  holds_of (cx := C_impl_within) (tabOk_ok tabT rfl).1 (allT_ok ⟨⟨H_impl_isPart, _, _, Q_impl_isPart⟩, trivial⟩) mixT Q_impl_within.1 Q_impl_within.2.2 (loops_of W_impl_within ⟨loop_of (cx := C_impl_within) (L := S_impl_within_L3 fuel) rfl (by rw [R_impl_within_L3]; rfl) ⟨impl_within_L3, fun _ => rfl, fun n x => K_impl_within_L3 n x, fuel, fun _ => rfl⟩, trivial⟩) (enc := N_impl_within) (fun _ _ => ⟨rfl, rfl⟩) F_impl_within

theorem K_impl_compose_L3 (n : Nat) (x : (List Int) × (List Int) × (List Int) × Int × Int) : impl_compose_L3 (n + 1) x = roundK C_impl_compose B_impl_compose_L3 (S_impl_compose_L3 fuel) x (impl_compose_L3 n) := by
  obtain ⟨g, h, t11, t12, t13⟩ := x
  kernel_rfl
theorem F_impl_compose (a : dens E_impl_compose.params) : E_impl_compose.run a = funK C_impl_compose Try.f74 E_impl_compose.params E_impl_compose.results a (fun o r => some (N_impl_compose o r)) := by
  kernel_rfl
theorem W_impl_compose : loopsOf D_impl_compose = [B_impl_compose_L3] := by kernel_rfl
theorem R_impl_compose_L3 : firstReg B_impl_compose_L3 = 3 := by kernel_rfl
theorem Q_impl_compose : Try.prog.funcs[74]? = some Try.f74 ∧ (Try.f74.name == "runtime.NumGoroutine") = false ∧ Try.f74.body = some D_impl_compose := ⟨Try.func74, by kernel_rfl, by kernel_rfl⟩
theorem H_impl_compose : Holds Try.prog 74 E_impl_compose :=
  holds_of (cx := C_impl_compose) (tabOk_ok tabT rfl).1 (allT_ok trivial) mixT Q_impl_compose.1 Q_impl_compose.2.2 (loops_of W_impl_compose ⟨loop_of (cx := C_impl_compose) (L := S_impl_compose_L3 fuel) rfl (by rw [R_impl_compose_L3]; rfl) ⟨impl_compose_L3, fun _ => rfl, fun n x => K_impl_compose_L3 n x, fuel, fun _ => rfl⟩, trivial⟩) (enc := N_impl_compose) (fun _ _ => ⟨rfl, rfl⟩) F_impl_compose

theorem K_impl_sameList_L4 (n : Nat) (x : (List Int) × (List Int) × Int × Int) : impl_sameList_L4 (n + 1) x = roundK C_impl_sameList B_impl_sameList_L4 (S_impl_sameList_L4 fuel) x (impl_sameList_L4 n) := by
  obtain ⟨b, t12, t13, t14⟩ := x
  kernel_rfl
theorem F_impl_sameList (a : dens E_impl_sameList.params) : E_impl_sameList.run a = funK C_impl_sameList Try.f77 E_impl_sameList.params E_impl_sameList.results a (fun o r => some (N_impl_sameList o r)) := by
  kernel_rfl
theorem W_impl_sameList : loopsOf D_impl_sameList = [B_impl_sameList_L4] := by kernel_rfl
theorem R_impl_sameList_L4 : firstReg B_impl_sameList_L4 = 4 := by kernel_rfl
theorem Q_impl_sameList : Try.prog.funcs[77]? = some Try.f77 ∧ (Try.f77.name == "runtime.NumGoroutine") = false ∧ Try.f77.body = some D_impl_sameList := ⟨Try.func77, by kernel_rfl, by kernel_rfl⟩
theorem H_impl_sameList : Holds Try.prog 77 E_impl_sameList :=
  holds_of (cx := C_impl_sameList) (tabOk_ok tabT rfl).1 (allT_ok trivial) mixT Q_impl_sameList.1 Q_impl_sameList.2.2 (loops_of W_impl_sameList ⟨loop_of (cx := C_impl_sameList) (L := S_impl_sameList_L4 fuel) rfl (by rw [R_impl_sameList_L4]; rfl) ⟨impl_sameList_L4, fun _ => rfl, fun n x => K_impl_sameList_L4 n x, fuel, fun _ => rfl⟩, trivial⟩) (enc := N_impl_sameList) (fun _ _ => ⟨rfl, rfl⟩) F_impl_sameList

theorem K_impl_hasRow_L2 (n : Nat) (x : (List Int) × (List (List Int)) × Int × Int) : impl_hasRow_L2 (n + 1) x = roundK C_impl_hasRow B_impl_hasRow_L2 (S_impl_hasRow_L2 fuel) x (impl_hasRow_L2 n) := by
  obtain ⟨t, t8, t9, t10⟩ := x
  kernel_rfl
theorem F_impl_hasRow (a : dens E_impl_hasRow.params) : E_impl_hasRow.run a = funK C_impl_hasRow Try.f73 E_impl_hasRow.params E_impl_hasRow.results a (fun o r => some (N_impl_hasRow o r)) := by
  kernel_rfl
theorem W_impl_hasRow : loopsOf D_impl_hasRow = [B_impl_hasRow_L2] := by kernel_rfl
theorem R_impl_hasRow_L2 : firstReg B_impl_hasRow_L2 = 2 := by kernel_rfl
theorem Q_impl_hasRow : Try.prog.funcs[73]? = some Try.f73 ∧ (Try.f73.name == "runtime.NumGoroutine") = false ∧ Try.f73.body = some D_impl_hasRow := ⟨Try.func73, by kernel_rfl, by kernel_rfl⟩
theorem H_impl_hasRow : Holds Try.prog 73 E_impl_hasRow :=
  holds_of (cx := C_impl_hasRow) (tabOk_ok tabT rfl).1 (allT_ok ⟨⟨H_impl_sameList, _, _, Q_impl_sameList⟩, trivial⟩) mixT Q_impl_hasRow.1 Q_impl_hasRow.2.2 (loops_of W_impl_hasRow ⟨loop_of (cx := C_impl_hasRow) (L := S_impl_hasRow_L2 fuel) rfl (by rw [R_impl_hasRow_L2]; rfl) ⟨impl_hasRow_L2, fun _ => rfl, fun n x => K_impl_hasRow_L2 n x, fuel, fun _ => rfl⟩, trivial⟩) (enc := N_impl_hasRow) (fun _ _ => ⟨rfl, rfl⟩) F_impl_hasRow

theorem K_impl_satisfies_L2 (n : Nat) (x : (List Int) × (List ((List Int) × Int × (List (List Int)))) × Int × Int) : impl_satisfies_L2 (n + 1) x = roundK C_impl_satisfies B_impl_satisfies_L2 (S_impl_satisfies_L2 fuel) x (impl_satisfies_L2 n) := by
  obtain ⟨values, t7, t8, t9⟩ := x
  kernel_rfl
theorem F_impl_satisfies (a : dens E_impl_satisfies.params) : E_impl_satisfies.run a = funK C_impl_satisfies Try.f63 E_impl_satisfies.params E_impl_satisfies.results a (fun o r => some (N_impl_satisfies o r)) := by
  kernel_rfl
theorem W_impl_satisfies : loopsOf D_impl_satisfies = [B_impl_satisfies_L2] := by kernel_rfl
theorem R_impl_satisfies_L2 : firstReg B_impl_satisfies_L2 = 2 := by kernel_rfl
theorem Q_impl_satisfies : Try.prog.funcs[63]? = some Try.f63 ∧ (Try.f63.name == "runtime.NumGoroutine") = false ∧ Try.f63.body = some D_impl_satisfies := ⟨Try.func63, by kernel_rfl, by kernel_rfl⟩
theorem H_impl_satisfies : Holds Try.prog 63 E_impl_satisfies :=
  holds_of (cx := C_impl_satisfies) (tabOk_ok tabT rfl).1 (allT_ok ⟨⟨H_impl_hasRow, _, _, Q_impl_hasRow⟩, ⟨⟨H_impl_compose, _, _, Q_impl_compose⟩, trivial⟩⟩) mixT Q_impl_satisfies.1 Q_impl_satisfies.2.2 (loops_of W_impl_satisfies ⟨loop_of (cx := C_impl_satisfies) (L := S_impl_satisfies_L2 fuel) rfl (by rw [R_impl_satisfies_L2]; rfl) ⟨impl_satisfies_L2, fun _ => rfl, fun n x => K_impl_satisfies_L2 n x, fuel, fun _ => rfl⟩, trivial⟩) (enc := N_impl_satisfies) (fun _ _ => ⟨rfl, rfl⟩) F_impl_satisfies

theorem K_impl_firstPairs_L11 (n : Nat) (x : (Int × Int × (List ((List Int) × Int × (List (List Int))))) × (List (List (List (List Bool)))) × Int × Int × Int × Int × Int × Int × Int × Int) : impl_firstPairs_L11 (n + 1) x = roundK C_impl_firstPairs B_impl_firstPairs_L11 (S_impl_firstPairs_L11 fuel) x (impl_firstPairs_L11 n) := by
  obtain ⟨t1, t3, t4, t5, t18, t19, t32, t33, t52, t53⟩ := x
  kernel_rfl
theorem K_impl_firstPairs_L7 (n : Nat) (x : (Int × Int × (List ((List Int) × Int × (List (List Int))))) × (List (List (List (List Bool)))) × Int × Int × Int × Int × Int) : impl_firstPairs_L7 (n + 1) x = roundK C_impl_firstPairs B_impl_firstPairs_L7 (S_impl_firstPairs_L7 fuel) x (impl_firstPairs_L7 n) := by
  obtain ⟨t1, t3, t4, t18, t19, t32, t33⟩ := x
  kernel_rfl
theorem K_impl_firstPairs_L3 (n : Nat) (x : (Int × Int × (List ((List Int) × Int × (List (List Int))))) × (List (List (List (List Bool)))) × Int × Int) : impl_firstPairs_L3 (n + 1) x = roundK C_impl_firstPairs B_impl_firstPairs_L3 (S_impl_firstPairs_L3 fuel) x (impl_firstPairs_L3 n) := by
  obtain ⟨t1, t3, t18, t19⟩ := x
  kernel_rfl
theorem K_impl_firstPairs_L29 (n : Nat) (x : (Int × Int × (List ((List Int) × Int × (List (List Int))))) × (List (List (List (List Bool)))) × (List Int) × Int × Int × (List ((List Int) × Int × (List (List Int)))) × Int × Int × Int × Int) : impl_firstPairs_L29 (n + 1) x = roundK C_impl_firstPairs B_impl_firstPairs_L29 (S_impl_firstPairs_L29 fuel) x (impl_firstPairs_L29 n) := by
  obtain ⟨t1, t3, t7, t8, t9, t10, t11, t12, t75, t76⟩ := x
  kernel_rfl
theorem K_impl_firstPairs_L26 (n : Nat) (x : (Int × Int × (List ((List Int) × Int × (List (List Int))))) × (List (List (List (List Bool)))) × (List Int) × Int × Int × (List ((List Int) × Int × (List (List Int)))) × Int × Int × Int) : impl_firstPairs_L26 (n + 1) x = roundK C_impl_firstPairs B_impl_firstPairs_L26 (S_impl_firstPairs_L26 fuel) x (impl_firstPairs_L26 n) := by
  obtain ⟨t1, t3, t7, t8, t9, t10, t11, t75, t76⟩ := x
  kernel_rfl
theorem K_impl_firstPairs_L22 (n : Nat) (x : (Int × Int × (List ((List Int) × Int × (List (List Int))))) × (List (List (List (List Bool)))) × (List Int) × Int × Int × Int × Int) : impl_firstPairs_L22 (n + 1) x = roundK C_impl_firstPairs B_impl_firstPairs_L22 (S_impl_firstPairs_L22 fuel) x (impl_firstPairs_L22 n) := by
  obtain ⟨t1, t3, t7, t8, t9, t75, t76⟩ := x
  kernel_rfl
theorem K_impl_firstPairs_L19 (n : Nat) (x : (Int × Int × (List ((List Int) × Int × (List (List Int))))) × (List (List (List (List Bool)))) × (List Int) × Int × Int) : impl_firstPairs_L19 (n + 1) x = roundK C_impl_firstPairs B_impl_firstPairs_L19 (S_impl_firstPairs_L19 fuel) x (impl_firstPairs_L19 n) := by
  obtain ⟨t1, t3, t7, t75, t76⟩ := x
  kernel_rfl
theorem F_impl_firstPairs (a : dens E_impl_firstPairs.params) : E_impl_firstPairs.run a = funK C_impl_firstPairs Try.f47 E_impl_firstPairs.params E_impl_firstPairs.results a (fun o r => some (N_impl_firstPairs o r)) := by
  kernel_rfl
theorem W_impl_firstPairs : loopsOf D_impl_firstPairs = [B_impl_firstPairs_L3, B_impl_firstPairs_L7, B_impl_firstPairs_L11, B_impl_firstPairs_L19, B_impl_firstPairs_L22, B_impl_firstPairs_L26, B_impl_firstPairs_L29] := by kernel_rfl
theorem R_impl_firstPairs_L11 : firstReg B_impl_firstPairs_L11 = 11 := by kernel_rfl
theorem R_impl_firstPairs_L7 : firstReg B_impl_firstPairs_L7 = 7 := by kernel_rfl
theorem R_impl_firstPairs_L3 : firstReg B_impl_firstPairs_L3 = 3 := by kernel_rfl
theorem R_impl_firstPairs_L29 : firstReg B_impl_firstPairs_L29 = 29 := by kernel_rfl
theorem R_impl_firstPairs_L26 : firstReg B_impl_firstPairs_L26 = 26 := by kernel_rfl
theorem R_impl_firstPairs_L22 : firstReg B_impl_firstPairs_L22 = 22 := by kernel_rfl
theorem R_impl_firstPairs_L19 : firstReg B_impl_firstPairs_L19 = 19 := by kernel_rfl
theorem Q_impl_firstPairs : Try.prog.funcs[47]? = some Try.f47 ∧ (Try.f47.name == "runtime.NumGoroutine") = false ∧ Try.f47.body = some D_impl_firstPairs := ⟨Try.func47, by kernel_rfl, by kernel_rfl⟩
theorem H_impl_firstPairs : Holds Try.prog 47 E_impl_firstPairs :=
  holds_of (cx := C_impl_firstPairs) (tabOk_ok tabT rfl).1 (allT_ok ⟨⟨H_impl_within, _, _, Q_impl_within⟩, ⟨⟨H_impl_satisfies, _, _, Q_impl_satisfies⟩, trivial⟩⟩) mixT Q_impl_firstPairs.1 Q_impl_firstPairs.2.2 (loops_of W_impl_firstPairs ⟨loop_of (cx := C_impl_firstPairs) (L := S_impl_firstPairs_L3 fuel) rfl (by rw [R_impl_firstPairs_L3]; rfl) ⟨impl_firstPairs_L3, fun _ => rfl, fun n x => K_impl_firstPairs_L3 n x, fuel, fun _ => rfl⟩, ⟨loop_of (cx := C_impl_firstPairs) (L := S_impl_firstPairs_L7 fuel) rfl (by rw [R_impl_firstPairs_L7]; rfl) ⟨impl_firstPairs_L7, fun _ => rfl, fun n x => K_impl_firstPairs_L7 n x, fuel, fun _ => rfl⟩, ⟨loop_of (cx := C_impl_firstPairs) (L := S_impl_firstPairs_L11 fuel) rfl (by rw [R_impl_firstPairs_L11]; rfl) ⟨impl_firstPairs_L11, fun _ => rfl, fun n x => K_impl_firstPairs_L11 n x, fuel, fun _ => rfl⟩, ⟨loop_of (cx := C_impl_firstPairs) (L := S_impl_firstPairs_L19 fuel) rfl (by rw [R_impl_firstPairs_L19]; rfl) ⟨impl_firstPairs_L19, fun _ => rfl, fun n x => K_impl_firstPairs_L19 n x, fuel, fun _ => rfl⟩, ⟨loop_of (cx := C_impl_firstPairs) (L := S_impl_firstPairs_L22 fuel) rfl (by rw [R_impl_firstPairs_L22]; rfl) ⟨impl_firstPairs_L22, fun _ => rfl, fun n x => K_impl_firstPairs_L22 n x, fuel, fun _ => rfl⟩, ⟨loop_of (cx := C_impl_firstPairs) (L := S_impl_firstPairs_L26 fuel) rfl (by rw [R_impl_firstPairs_L26]; rfl) ⟨impl_firstPairs_L26, fun _ => rfl, fun n x => K_impl_firstPairs_L26 n x, fuel, fun _ => rfl⟩, ⟨loop_of (cx := C_impl_firstPairs) (L := S_impl_firstPairs_L29 fuel) rfl (by rw [R_impl_firstPairs_L29]; rfl) ⟨impl_firstPairs_L29, fun _ => rfl, fun n x => K_impl_firstPairs_L29 n x, fuel, fun _ => rfl⟩, trivial⟩⟩⟩⟩⟩⟩⟩) (enc := N_impl_firstPairs) (fun _ _ => ⟨rfl, rfl⟩) F_impl_firstPairs

theorem K_impl_pairTable_holds_L2 (n : Nat) (x : (List (List (List (List Bool)))) × (List ((List Int) × Int × (List (List Int)))) × (List Int) × Int × Int × Int × (Int × Int × (List ((List Int) × Int × (List (List Int))))) × Int) : impl_pairTable_holds_L2 (n + 1) x = roundK C_impl_pairTable_holds B_impl_pairTable_holds_L2 (S_impl_pairTable_holds_L2 fuel) x (impl_pairTable_holds_L2 n) := by
  obtain ⟨t0, t2, t3, t4, t5, t6, t8, t15⟩ := x
  kernel_rfl
theorem F_impl_pairTable_holds (a : dens E_impl_pairTable_holds.params) : E_impl_pairTable_holds.run a = funK C_impl_pairTable_holds Try.f49 E_impl_pairTable_holds.params E_impl_pairTable_holds.results a (fun o r => some (N_impl_pairTable_holds o r)) := by
  kernel_rfl
theorem W_impl_pairTable_holds : loopsOf D_impl_pairTable_holds = [B_impl_pairTable_holds_L2] := by kernel_rfl
theorem R_impl_pairTable_holds_L2 : firstReg B_impl_pairTable_holds_L2 = 2 := by kernel_rfl
theorem Q_impl_pairTable_holds : Try.prog.funcs[49]? = some Try.f49 ∧ (Try.f49.name == "runtime.NumGoroutine") = false ∧ Try.f49.body = some D_impl_pairTable_holds := ⟨Try.func49, by kernel_rfl, by kernel_rfl⟩
theorem H_impl_pairTable_holds : Holds Try.prog 49 E_impl_pairTable_holds :=
  holds_of (cx := C_impl_pairTable_holds) (tabOk_ok tabT rfl).1 (allT_ok ⟨⟨H_impl_satisfies, _, _, Q_impl_satisfies⟩, trivial⟩) mixT Q_impl_pairTable_holds.1 Q_impl_pairTable_holds.2.2 (loops_of W_impl_pairTable_holds ⟨loop_of (cx := C_impl_pairTable_holds) (L := S_impl_pairTable_holds_L2 fuel) rfl (by rw [R_impl_pairTable_holds_L2]; rfl) ⟨impl_pairTable_holds_L2, fun _ => rfl, fun n x => K_impl_pairTable_holds_L2 n x, fuel, fun _ => rfl⟩, trivial⟩) (enc := N_impl_pairTable_holds) (fun _ _ => ⟨rfl, rfl⟩) F_impl_pairTable_holds

theorem K_impl_minimalPairs_L18 (n : Nat) (x : (Int × Int × (List ((List Int) × Int × (List (List Int))))) × (List (List (List (List Bool)))) × (List Int) × Bool × Int × Int × Int × (List ((List Int) × Int × (List (List Int)))) × Int × Int × Int × Int × Int) : impl_minimalPairs_L18 (n + 1) x = roundK C_impl_minimalPairs B_impl_minimalPairs_L18 (S_impl_minimalPairs_L18 fuel) x (impl_minimalPairs_L18 n) := by
  obtain ⟨t1, t3, t4, t5, t6, t7, t8, t9, t10, t18, t19, t31, t32⟩ := x
  kernel_rfl
theorem K_impl_minimalPairs_L13 (n : Nat) (x : (Int × Int × (List ((List Int) × Int × (List (List Int))))) × (List (List (List (List Bool)))) × (List Int) × Bool × Int × Int × Int × Int × Int × Int) : impl_minimalPairs_L13 (n + 1) x = roundK C_impl_minimalPairs B_impl_minimalPairs_L13 (S_impl_minimalPairs_L13 fuel) x (impl_minimalPairs_L13 n) := by
  obtain ⟨t1, t3, t4, t5, t6, t7, t18, t19, t31, t32⟩ := x
  kernel_rfl
theorem K_impl_minimalPairs_L10 (n : Nat) (x : (Int × Int × (List ((List Int) × Int × (List (List Int))))) × (List (List (List (List Bool)))) × (List Int) × Bool × Int × Int × Int × Int) : impl_minimalPairs_L10 (n + 1) x = roundK C_impl_minimalPairs B_impl_minimalPairs_L10 (S_impl_minimalPairs_L10 fuel) x (impl_minimalPairs_L10 n) := by
  obtain ⟨t1, t3, t4, t5, t6, t7, t18, t19⟩ := x
  kernel_rfl
theorem K_impl_minimalPairs_L7 (n : Nat) (x : (Int × Int × (List ((List Int) × Int × (List (List Int))))) × (List (List (List (List Bool)))) × (List Int) × Bool × Int × Int) : impl_minimalPairs_L7 (n + 1) x = roundK C_impl_minimalPairs B_impl_minimalPairs_L7 (S_impl_minimalPairs_L7 fuel) x (impl_minimalPairs_L7 n) := by
  obtain ⟨t1, t3, t4, t5, t18, t19⟩ := x
  kernel_rfl
theorem K_impl_minimalPairs_L4 (n : Nat) (x : (Int × Int × (List ((List Int) × Int × (List (List Int))))) × (List (List (List (List Bool)))) × (List Int) × Bool) : impl_minimalPairs_L4 (n + 1) x = roundK C_impl_minimalPairs B_impl_minimalPairs_L4 (S_impl_minimalPairs_L4 fuel) x (impl_minimalPairs_L4 n) := by
  obtain ⟨t1, t3, t4, t5⟩ := x
  kernel_rfl
theorem F_impl_minimalPairs (a : dens E_impl_minimalPairs.params) : E_impl_minimalPairs.run a = funK C_impl_minimalPairs Try.f31 E_impl_minimalPairs.params E_impl_minimalPairs.results a (fun o r => some (N_impl_minimalPairs o r)) := by
  kernel_rfl
theorem W_impl_minimalPairs : loopsOf D_impl_minimalPairs = [B_impl_minimalPairs_L4, B_impl_minimalPairs_L7, B_impl_minimalPairs_L10, B_impl_minimalPairs_L13, B_impl_minimalPairs_L18] := by kernel_rfl
theorem R_impl_minimalPairs_L18 : firstReg B_impl_minimalPairs_L18 = 18 := by kernel_rfl
theorem R_impl_minimalPairs_L13 : firstReg B_impl_minimalPairs_L13 = 13 := by kernel_rfl
theorem R_impl_minimalPairs_L10 : firstReg B_impl_minimalPairs_L10 = 10 := by kernel_rfl
theorem R_impl_minimalPairs_L7 : firstReg B_impl_minimalPairs_L7 = 7 := by kernel_rfl
theorem R_impl_minimalPairs_L4 : firstReg B_impl_minimalPairs_L4 = 4 := by kernel_rfl
theorem Q_impl_minimalPairs : Try.prog.funcs[31]? = some Try.f31 ∧ (Try.f31.name == "runtime.NumGoroutine") = false ∧ Try.f31.body = some D_impl_minimalPairs := ⟨Try.func31, by kernel_rfl, by kernel_rfl⟩
theorem H_impl_minimalPairs : Holds Try.prog 31 E_impl_minimalPairs :=
  holds_of (cx := C_impl_minimalPairs) (tabOk_ok tabT rfl).1 (allT_ok ⟨⟨H_impl_firstPairs, _, _, Q_impl_firstPairs⟩, ⟨⟨H_impl_within, _, _, Q_impl_within⟩, ⟨⟨H_impl_pairTable_holds, _, _, Q_impl_pairTable_holds⟩, trivial⟩⟩⟩) mixT Q_impl_minimalPairs.1 Q_impl_minimalPairs.2.2 (loops_of W_impl_minimalPairs ⟨loop_of (cx := C_impl_minimalPairs) (L := S_impl_minimalPairs_L4 fuel) rfl (by rw [R_impl_minimalPairs_L4]; rfl) ⟨impl_minimalPairs_L4, fun _ => rfl, fun n x => K_impl_minimalPairs_L4 n x, fuel, fun _ => rfl⟩, ⟨loop_of (cx := C_impl_minimalPairs) (L := S_impl_minimalPairs_L7 fuel) rfl (by rw [R_impl_minimalPairs_L7]; rfl) ⟨impl_minimalPairs_L7, fun _ => rfl, fun n x => K_impl_minimalPairs_L7 n x, fuel, fun _ => rfl⟩, ⟨loop_of (cx := C_impl_minimalPairs) (L := S_impl_minimalPairs_L10 fuel) rfl (by rw [R_impl_minimalPairs_L10]; rfl) ⟨impl_minimalPairs_L10, fun _ => rfl, fun n x => K_impl_minimalPairs_L10 n x, fuel, fun _ => rfl⟩, ⟨loop_of (cx := C_impl_minimalPairs) (L := S_impl_minimalPairs_L13 fuel) rfl (by rw [R_impl_minimalPairs_L13]; rfl) ⟨impl_minimalPairs_L13, fun _ => rfl, fun n x => K_impl_minimalPairs_L13 n x, fuel, fun _ => rfl⟩, ⟨loop_of (cx := C_impl_minimalPairs) (L := S_impl_minimalPairs_L18 fuel) rfl (by rw [R_impl_minimalPairs_L18]; rfl) ⟨impl_minimalPairs_L18, fun _ => rfl, fun n x => K_impl_minimalPairs_L18 n x, fuel, fun _ => rfl⟩, trivial⟩⟩⟩⟩⟩) (enc := N_impl_minimalPairs) (fun _ _ => ⟨rfl, rfl⟩) F_impl_minimalPairs

theorem K_impl_marked_L3 (n : Nat) (x : (List Int) × (List Bool) × Int × Int) : impl_marked_L3 (n + 1) x = roundK C_impl_marked B_impl_marked_L3 (S_impl_marked_L3 fuel) x (impl_marked_L3 n) := by
  obtain ⟨list, t7, t8, t9⟩ := x
  kernel_rfl
theorem F_impl_marked (a : dens E_impl_marked.params) : E_impl_marked.run a = funK C_impl_marked Try.f32 E_impl_marked.params E_impl_marked.results a (fun o r => some (N_impl_marked o r)) := by
  kernel_rfl
theorem W_impl_marked : loopsOf D_impl_marked = [B_impl_marked_L3] := by kernel_rfl
theorem R_impl_marked_L3 : firstReg B_impl_marked_L3 = 3 := by kernel_rfl
theorem Q_impl_marked : Try.prog.funcs[32]? = some Try.f32 ∧ (Try.f32.name == "runtime.NumGoroutine") = false ∧ Try.f32.body = some D_impl_marked := ⟨Try.func32, by kernel_rfl, by kernel_rfl⟩
theorem H_impl_marked : Holds Try.prog 32 E_impl_marked :=
  holds_of (cx := C_impl_marked) (tabOk_ok tabT rfl).1 (allT_ok trivial) mixT Q_impl_marked.1 Q_impl_marked.2.2 (loops_of W_impl_marked ⟨loop_of (cx := C_impl_marked) (L := S_impl_marked_L3 fuel) rfl (by rw [R_impl_marked_L3]; rfl) ⟨impl_marked_L3, fun _ => rfl, fun n x => K_impl_marked_L3 n x, fuel, fun _ => rfl⟩, trivial⟩) (enc := N_impl_marked) (fun _ _ => ⟨rfl, rfl⟩) F_impl_marked

theorem K_impl_GreedyByPairs_L6 (n : Nat) (x : (Int × Int × (List ((List Int) × Int × (List (List Int))))) × (List (List (List (List Bool)))) × (List Int) × Int) : impl_GreedyByPairs_L6 (n + 1) x = roundK C_impl_GreedyByPairs B_impl_GreedyByPairs_L6 (S_impl_GreedyByPairs_L6 fuel) x (impl_GreedyByPairs_L6 n) := by
  obtain ⟨t1, t4, t5, t6⟩ := x
  kernel_rfl
theorem K_impl_GreedyByPairs_L18 (n : Nat) (x : Unit × (Int × Int × (List ((List Int) × Int × (List (List Int))))) × (List (List (List (List Bool)))) × (List Int) × Int × Int × Bool × Int × Int) : impl_GreedyByPairs_L18 (n + 1) x = roundK C_impl_GreedyByPairs B_impl_GreedyByPairs_L18 (S_impl_GreedyByPairs_L18 fuel) x (impl_GreedyByPairs_L18 n) := by
  obtain ⟨al74, t1, t4, t5, t7, t8, t9, t75, t76⟩ := x
  kernel_rfl
theorem K_impl_GreedyByPairs_L14 (n : Nat) (x : (Int × Int × (List ((List Int) × Int × (List (List Int))))) × (List (List (List (List Bool)))) × (List Int) × Int × Int) : impl_GreedyByPairs_L14 (n + 1) x = roundK C_impl_GreedyByPairs B_impl_GreedyByPairs_L14 (S_impl_GreedyByPairs_L14 fuel) x (impl_GreedyByPairs_L14 n) := by
  obtain ⟨t1, t4, t5, t7, t8⟩ := x
  kernel_rfl
theorem K_impl_GreedyByPairs_L11 (n : Nat) (x : (Int × Int × (List ((List Int) × Int × (List (List Int))))) × (List (List (List (List Bool)))) × (List Int) × Int) : impl_GreedyByPairs_L11 (n + 1) x = roundK C_impl_GreedyByPairs B_impl_GreedyByPairs_L11 (S_impl_GreedyByPairs_L11 fuel) x (impl_GreedyByPairs_L11 n) := by
  obtain ⟨t1, t4, t5, t7⟩ := x
  kernel_rfl
theorem F_impl_GreedyByPairs (a : dens E_impl_GreedyByPairs.params) : E_impl_GreedyByPairs.run a = funK C_impl_GreedyByPairs Try.f12 E_impl_GreedyByPairs.params E_impl_GreedyByPairs.results a (fun o r => some (N_impl_GreedyByPairs o r)) := by
  kernel_rfl
theorem W_impl_GreedyByPairs : loopsOf D_impl_GreedyByPairs = [B_impl_GreedyByPairs_L6, B_impl_GreedyByPairs_L11, B_impl_GreedyByPairs_L14, B_impl_GreedyByPairs_L18] := by kernel_rfl
theorem R_impl_GreedyByPairs_L6 : firstReg B_impl_GreedyByPairs_L6 = 6 := by kernel_rfl
theorem R_impl_GreedyByPairs_L18 : firstReg B_impl_GreedyByPairs_L18 = 18 := by kernel_rfl
theorem R_impl_GreedyByPairs_L14 : firstReg B_impl_GreedyByPairs_L14 = 14 := by kernel_rfl
theorem R_impl_GreedyByPairs_L11 : firstReg B_impl_GreedyByPairs_L11 = 11 := by kernel_rfl
theorem Q_impl_GreedyByPairs : Try.prog.funcs[12]? = some Try.f12 ∧ (Try.f12.name == "runtime.NumGoroutine") = false ∧ Try.f12.body = some D_impl_GreedyByPairs := ⟨Try.func12, by kernel_rfl, by kernel_rfl⟩
theorem H_impl_GreedyByPairs : Holds Try.prog 12 E_impl_GreedyByPairs :=
  holds_of (cx := C_impl_GreedyByPairs) (tabOk_ok tabT rfl).1 (allT_ok ⟨⟨H_impl_IsNetwork, _, _, Q_impl_IsNetwork⟩, ⟨⟨H_impl_minimalPairs, _, _, Q_impl_minimalPairs⟩, ⟨⟨H_impl_marked, _, _, Q_impl_marked⟩, trivial⟩⟩⟩) mixT Q_impl_GreedyByPairs.1 Q_impl_GreedyByPairs.2.2 (loops_of W_impl_GreedyByPairs ⟨loop_of (cx := C_impl_GreedyByPairs) (L := S_impl_GreedyByPairs_L6 fuel) rfl (by rw [R_impl_GreedyByPairs_L6]; rfl) ⟨impl_GreedyByPairs_L6, fun _ => rfl, fun n x => K_impl_GreedyByPairs_L6 n x, fuel, fun _ => rfl⟩, ⟨loop_of (cx := C_impl_GreedyByPairs) (L := S_impl_GreedyByPairs_L11 fuel) rfl (by rw [R_impl_GreedyByPairs_L11]; rfl) ⟨impl_GreedyByPairs_L11, fun _ => rfl, fun n x => K_impl_GreedyByPairs_L11 n x, fuel, fun _ => rfl⟩, ⟨loop_of (cx := C_impl_GreedyByPairs) (L := S_impl_GreedyByPairs_L14 fuel) rfl (by rw [R_impl_GreedyByPairs_L14]; rfl) ⟨impl_GreedyByPairs_L14, fun _ => rfl, fun n x => K_impl_GreedyByPairs_L14 n x, fuel, fun _ => rfl⟩, ⟨loop_of (cx := C_impl_GreedyByPairs) (L := S_impl_GreedyByPairs_L18 fuel) rfl (by rw [R_impl_GreedyByPairs_L18]; rfl) ⟨impl_GreedyByPairs_L18, fun _ => rfl, fun n x => K_impl_GreedyByPairs_L18 n x, fuel, fun _ => rfl⟩, trivial⟩⟩⟩⟩) (enc := N_impl_GreedyByPairs) (fun _ _ => ⟨rfl, rfl⟩) F_impl_GreedyByPairs

theorem K_laws_eqIntS_L4 (n : Nat) (x : (List Int) × (List Int) × Int) : laws_eqIntS_L4 (n + 1) x = roundK C_laws_eqIntS B_laws_eqIntS_L4 (S_laws_eqIntS_L4 fuel) x (laws_eqIntS_L4 n) := by
  obtain ⟨a, b, i⟩ := x
  kernel_rfl
theorem F_laws_eqIntS (a : dens E_laws_eqIntS.params) : E_laws_eqIntS.run a = funK C_laws_eqIntS Try.f13 E_laws_eqIntS.params E_laws_eqIntS.results a (fun o r => some (N_laws_eqIntS o r)) := by
  kernel_rfl
theorem W_laws_eqIntS : loopsOf D_laws_eqIntS = [B_laws_eqIntS_L4] := by kernel_rfl
theorem R_laws_eqIntS_L4 : firstReg B_laws_eqIntS_L4 = 4 := by kernel_rfl
theorem Q_laws_eqIntS : Try.prog.funcs[13]? = some Try.f13 ∧ (Try.f13.name == "runtime.NumGoroutine") = false ∧ Try.f13.body = some D_laws_eqIntS := ⟨Try.func13, by kernel_rfl, by kernel_rfl⟩
theorem H_laws_eqIntS : Holds Try.prog 13 E_laws_eqIntS :=
  holds_of (cx := C_laws_eqIntS) (tabOk_ok tabT rfl).1 (allT_ok trivial) mixT Q_laws_eqIntS.1 Q_laws_eqIntS.2.2 (loops_of W_laws_eqIntS ⟨loop_of (cx := C_laws_eqIntS) (L := S_laws_eqIntS_L4 fuel) rfl (by rw [R_laws_eqIntS_L4]; rfl) ⟨laws_eqIntS_L4, fun _ => rfl, fun n x => K_laws_eqIntS_L4 n x, fuel, fun _ => rfl⟩, trivial⟩) (enc := N_laws_eqIntS) (fun _ _ => ⟨rfl, rfl⟩) F_laws_eqIntS

theorem K_laws_eqIntSS_L4 (n : Nat) (x : (List (List Int)) × (List (List Int)) × Int) : laws_eqIntSS_L4 (n + 1) x = roundK C_laws_eqIntSS B_laws_eqIntSS_L4 (S_laws_eqIntSS_L4 fuel) x (laws_eqIntSS_L4 n) := by
  obtain ⟨a, b, i⟩ := x
  kernel_rfl
theorem F_laws_eqIntSS (a : dens E_laws_eqIntSS.params) : E_laws_eqIntSS.run a = funK C_laws_eqIntSS Try.f72 E_laws_eqIntSS.params E_laws_eqIntSS.results a (fun o r => some (N_laws_eqIntSS o r)) := by
  kernel_rfl
theorem W_laws_eqIntSS : loopsOf D_laws_eqIntSS = [B_laws_eqIntSS_L4] := by kernel_rfl
theorem R_laws_eqIntSS_L4 : firstReg B_laws_eqIntSS_L4 = 4 := by kernel_rfl
theorem Q_laws_eqIntSS : Try.prog.funcs[72]? = some Try.f72 ∧ (Try.f72.name == "runtime.NumGoroutine") = false ∧ Try.f72.body = some D_laws_eqIntSS := ⟨Try.func72, by kernel_rfl, by kernel_rfl⟩
theorem H_laws_eqIntSS : Holds Try.prog 72 E_laws_eqIntSS :=
  holds_of (cx := C_laws_eqIntSS) (tabOk_ok tabT rfl).1 (allT_ok ⟨⟨H_laws_eqIntS, _, _, Q_laws_eqIntS⟩, trivial⟩) mixT Q_laws_eqIntSS.1 Q_laws_eqIntSS.2.2 (loops_of W_laws_eqIntSS ⟨loop_of (cx := C_laws_eqIntSS) (L := S_laws_eqIntSS_L4 fuel) rfl (by rw [R_laws_eqIntSS_L4]; rfl) ⟨laws_eqIntSS_L4, fun _ => rfl, fun n x => K_laws_eqIntSS_L4 n x, fuel, fun _ => rfl⟩, trivial⟩) (enc := N_laws_eqIntSS) (fun _ _ => ⟨rfl, rfl⟩) F_laws_eqIntSS

theorem F_laws_eqRelation (a : dens E_laws_eqRelation.params) : E_laws_eqRelation.run a = funK C_laws_eqRelation Try.f62 E_laws_eqRelation.params E_laws_eqRelation.results a (fun o r => some (N_laws_eqRelation o r)) := by
  kernel_rfl
theorem W_laws_eqRelation : loopsOf D_laws_eqRelation = [] := by kernel_rfl
theorem Q_laws_eqRelation : Try.prog.funcs[62]? = some Try.f62 ∧ (Try.f62.name == "runtime.NumGoroutine") = false ∧ Try.f62.body = some D_laws_eqRelation := ⟨Try.func62, by kernel_rfl, by kernel_rfl⟩
theorem H_laws_eqRelation : Holds Try.prog 62 E_laws_eqRelation :=
  holds_of (cx := C_laws_eqRelation) (tabOk_ok tabT rfl).1 (allT_ok ⟨⟨H_laws_eqIntSS, _, _, Q_laws_eqIntSS⟩, trivial⟩) mixT Q_laws_eqRelation.1 Q_laws_eqRelation.2.2 (loops_of W_laws_eqRelation trivial) (enc := N_laws_eqRelation) (fun _ _ => ⟨rfl, rfl⟩) F_laws_eqRelation

theorem F_laws_eqConstraint (a : dens E_laws_eqConstraint.params) : E_laws_eqConstraint.run a = funK C_laws_eqConstraint Try.f46 E_laws_eqConstraint.params E_laws_eqConstraint.results a (fun o r => some (N_laws_eqConstraint o r)) := by
  kernel_rfl
theorem W_laws_eqConstraint : loopsOf D_laws_eqConstraint = [] := by kernel_rfl
theorem Q_laws_eqConstraint : Try.prog.funcs[46]? = some Try.f46 ∧ (Try.f46.name == "runtime.NumGoroutine") = false ∧ Try.f46.body = some D_laws_eqConstraint := ⟨Try.func46, by kernel_rfl, by kernel_rfl⟩
theorem H_laws_eqConstraint : Holds Try.prog 46 E_laws_eqConstraint :=
  holds_of (cx := C_laws_eqConstraint) (tabOk_ok tabT rfl).1 (allT_ok ⟨⟨H_laws_eqIntS, _, _, Q_laws_eqIntS⟩, ⟨⟨H_laws_eqRelation, _, _, Q_laws_eqRelation⟩, trivial⟩⟩) mixT Q_laws_eqConstraint.1 Q_laws_eqConstraint.2.2 (loops_of W_laws_eqConstraint trivial) (enc := N_laws_eqConstraint) (fun _ _ => ⟨rfl, rfl⟩) F_laws_eqConstraint

theorem K_laws_eqConstraintS_L4 (n : Nat) (x : (List ((List Int) × Int × (List (List Int)))) × (List ((List Int) × Int × (List (List Int)))) × Int) : laws_eqConstraintS_L4 (n + 1) x = roundK C_laws_eqConstraintS B_laws_eqConstraintS_L4 (S_laws_eqConstraintS_L4 fuel) x (laws_eqConstraintS_L4 n) := by
  obtain ⟨a, b, i⟩ := x
  kernel_rfl
theorem F_laws_eqConstraintS (a : dens E_laws_eqConstraintS.params) : E_laws_eqConstraintS.run a = funK C_laws_eqConstraintS Try.f29 E_laws_eqConstraintS.params E_laws_eqConstraintS.results a (fun o r => some (N_laws_eqConstraintS o r)) := by
  kernel_rfl
theorem W_laws_eqConstraintS : loopsOf D_laws_eqConstraintS = [B_laws_eqConstraintS_L4] := by kernel_rfl
theorem R_laws_eqConstraintS_L4 : firstReg B_laws_eqConstraintS_L4 = 4 := by kernel_rfl
theorem Q_laws_eqConstraintS : Try.prog.funcs[29]? = some Try.f29 ∧ (Try.f29.name == "runtime.NumGoroutine") = false ∧ Try.f29.body = some D_laws_eqConstraintS := ⟨Try.func29, by kernel_rfl, by kernel_rfl⟩
theorem H_laws_eqConstraintS : Holds Try.prog 29 E_laws_eqConstraintS :=
  holds_of (cx := C_laws_eqConstraintS) (tabOk_ok tabT rfl).1 (allT_ok ⟨⟨H_laws_eqConstraint, _, _, Q_laws_eqConstraint⟩, trivial⟩) mixT Q_laws_eqConstraintS.1 Q_laws_eqConstraintS.2.2 (loops_of W_laws_eqConstraintS ⟨loop_of (cx := C_laws_eqConstraintS) (L := S_laws_eqConstraintS_L4 fuel) rfl (by rw [R_laws_eqConstraintS_L4]; rfl) ⟨laws_eqConstraintS_L4, fun _ => rfl, fun n x => K_laws_eqConstraintS_L4 n x, fuel, fun _ => rfl⟩, trivial⟩) (enc := N_laws_eqConstraintS) (fun _ _ => ⟨rfl, rfl⟩) F_laws_eqConstraintS

theorem F_laws_eqNetwork (a : dens E_laws_eqNetwork.params) : E_laws_eqNetwork.run a = funK C_laws_eqNetwork Try.f10 E_laws_eqNetwork.params E_laws_eqNetwork.results a (fun o r => some (N_laws_eqNetwork o r)) := by
  kernel_rfl
theorem W_laws_eqNetwork : loopsOf D_laws_eqNetwork = [] := by kernel_rfl
theorem Q_laws_eqNetwork : Try.prog.funcs[10]? = some Try.f10 ∧ (Try.f10.name == "runtime.NumGoroutine") = false ∧ Try.f10.body = some D_laws_eqNetwork := ⟨Try.func10, by kernel_rfl, by kernel_rfl⟩
theorem H_laws_eqNetwork : Holds Try.prog 10 E_laws_eqNetwork :=
  holds_of (cx := C_laws_eqNetwork) (tabOk_ok tabT rfl).1 (allT_ok ⟨⟨H_laws_eqConstraintS, _, _, Q_laws_eqConstraintS⟩, trivial⟩) mixT Q_laws_eqNetwork.1 Q_laws_eqNetwork.2.2 (loops_of W_laws_eqNetwork trivial) (enc := N_laws_eqNetwork) (fun _ _ => ⟨rfl, rfl⟩) F_laws_eqNetwork

theorem K_laws_markIntS_L2 (n : Nat) (x : (List Int) × Int × Int) : laws_markIntS_L2 (n + 1) x = roundK C_laws_markIntS B_laws_markIntS_L2 (S_laws_markIntS_L2 fuel) x (laws_markIntS_L2 n) := by
  obtain ⟨a, k, i⟩ := x
  kernel_rfl
theorem F_laws_markIntS (a : dens E_laws_markIntS.params) : E_laws_markIntS.run a = funK C_laws_markIntS Try.f15 E_laws_markIntS.params E_laws_markIntS.results a (fun o r => some (N_laws_markIntS o r)) := by
  kernel_rfl
theorem W_laws_markIntS : loopsOf D_laws_markIntS = [B_laws_markIntS_L2] := by kernel_rfl
theorem R_laws_markIntS_L2 : firstReg B_laws_markIntS_L2 = 2 := by kernel_rfl
theorem Q_laws_markIntS : Try.prog.funcs[15]? = some Try.f15 ∧ (Try.f15.name == "runtime.NumGoroutine") = false ∧ Try.f15.body = some D_laws_markIntS := ⟨Try.func15, by kernel_rfl, by kernel_rfl⟩
theorem H_laws_markIntS : Holds Try.prog 15 E_laws_markIntS :=
  holds_of (cx := C_laws_markIntS) (tabOk_ok tabT rfl).1 (allT_ok trivial) mixT Q_laws_markIntS.1 Q_laws_markIntS.2.2 (loops_of W_laws_markIntS ⟨loop_of (cx := C_laws_markIntS) (L := S_laws_markIntS_L2 fuel) rfl (by rw [R_laws_markIntS_L2]; rfl) ⟨laws_markIntS_L2, fun _ => rfl, fun n x => K_laws_markIntS_L2 n x, fuel, fun _ => rfl⟩, trivial⟩) (enc := N_laws_markIntS) (fun _ _ => ⟨rfl, rfl⟩) F_laws_markIntS

theorem K_laws_markIntSS_L2 (n : Nat) (x : (List (List Int)) × Int × Int) : laws_markIntSS_L2 (n + 1) x = roundK C_laws_markIntSS B_laws_markIntSS_L2 (S_laws_markIntSS_L2 fuel) x (laws_markIntSS_L2 n) := by
  obtain ⟨a, k, i⟩ := x
  kernel_rfl
theorem F_laws_markIntSS (a : dens E_laws_markIntSS.params) : E_laws_markIntSS.run a = funK C_laws_markIntSS Try.f50 E_laws_markIntSS.params E_laws_markIntSS.results a (fun o r => some (N_laws_markIntSS o r)) := by
  kernel_rfl
theorem W_laws_markIntSS : loopsOf D_laws_markIntSS = [B_laws_markIntSS_L2] := by kernel_rfl
theorem R_laws_markIntSS_L2 : firstReg B_laws_markIntSS_L2 = 2 := by kernel_rfl
theorem Q_laws_markIntSS : Try.prog.funcs[50]? = some Try.f50 ∧ (Try.f50.name == "runtime.NumGoroutine") = false ∧ Try.f50.body = some D_laws_markIntSS := ⟨Try.func50, by kernel_rfl, by kernel_rfl⟩
theorem H_laws_markIntSS : Holds Try.prog 50 E_laws_markIntSS :=
  holds_of (cx := C_laws_markIntSS) (tabOk_ok tabT rfl).1 (allT_ok ⟨⟨H_laws_markIntS, _, _, Q_laws_markIntS⟩, trivial⟩) mixT Q_laws_markIntSS.1 Q_laws_markIntSS.2.2 (loops_of W_laws_markIntSS ⟨loop_of (cx := C_laws_markIntSS) (L := S_laws_markIntSS_L2 fuel) rfl (by rw [R_laws_markIntSS_L2]; rfl) ⟨laws_markIntSS_L2, fun _ => rfl, fun n x => K_laws_markIntSS_L2 n x, fuel, fun _ => rfl⟩, trivial⟩) (enc := N_laws_markIntSS) (fun _ _ => ⟨rfl, rfl⟩) F_laws_markIntSS

theorem K_laws_markConstraintS_L2 (n : Nat) (x : (List ((List Int) × Int × (List (List Int)))) × Int × Int) : laws_markConstraintS_L2 (n + 1) x = roundK C_laws_markConstraintS B_laws_markConstraintS_L2 (S_laws_markConstraintS_L2 fuel) x (laws_markConstraintS_L2 n) := by
  obtain ⟨a, k, i⟩ := x
  kernel_rfl
theorem F_laws_markConstraintS (a : dens E_laws_markConstraintS.params) : E_laws_markConstraintS.run a = funK C_laws_markConstraintS Try.f33 E_laws_markConstraintS.params E_laws_markConstraintS.results a (fun o r => some (N_laws_markConstraintS o r)) := by
  kernel_rfl
theorem W_laws_markConstraintS : loopsOf D_laws_markConstraintS = [B_laws_markConstraintS_L2] := by kernel_rfl
theorem R_laws_markConstraintS_L2 : firstReg B_laws_markConstraintS_L2 = 2 := by kernel_rfl
theorem Q_laws_markConstraintS : Try.prog.funcs[33]? = some Try.f33 ∧ (Try.f33.name == "runtime.NumGoroutine") = false ∧ Try.f33.body = some D_laws_markConstraintS := ⟨Try.func33, by kernel_rfl, by kernel_rfl⟩
theorem H_laws_markConstraintS : Holds Try.prog 33 E_laws_markConstraintS :=
  holds_of (cx := C_laws_markConstraintS) (tabOk_ok tabT rfl).1 (allT_ok ⟨⟨H_laws_markIntS, _, _, Q_laws_markIntS⟩, ⟨⟨H_laws_markIntSS, _, _, Q_laws_markIntSS⟩, trivial⟩⟩) mixT Q_laws_markConstraintS.1 Q_laws_markConstraintS.2.2 (loops_of W_laws_markConstraintS ⟨loop_of (cx := C_laws_markConstraintS) (L := S_laws_markConstraintS_L2 fuel) rfl (by rw [R_laws_markConstraintS_L2]; rfl) ⟨laws_markConstraintS_L2, fun _ => rfl, fun n x => K_laws_markConstraintS_L2 n x, fuel, fun _ => rfl⟩, trivial⟩) (enc := N_laws_markConstraintS) (fun _ _ => ⟨rfl, rfl⟩) F_laws_markConstraintS

theorem F_laws_markNetwork (a : dens E_laws_markNetwork.params) : E_laws_markNetwork.run a = funK C_laws_markNetwork Try.f14 E_laws_markNetwork.params E_laws_markNetwork.results a (fun o r => some (N_laws_markNetwork o r)) := by
  kernel_rfl
theorem W_laws_markNetwork : loopsOf D_laws_markNetwork = [] := by kernel_rfl
theorem Q_laws_markNetwork : Try.prog.funcs[14]? = some Try.f14 ∧ (Try.f14.name == "runtime.NumGoroutine") = false ∧ Try.f14.body = some D_laws_markNetwork := ⟨Try.func14, by kernel_rfl, by kernel_rfl⟩
theorem H_laws_markNetwork : Holds Try.prog 14 E_laws_markNetwork :=
  holds_of (cx := C_laws_markNetwork) (tabOk_ok tabT rfl).1 (allT_ok ⟨⟨H_laws_markConstraintS, _, _, Q_laws_markConstraintS⟩, trivial⟩) mixT Q_laws_markNetwork.1 Q_laws_markNetwork.2.2 (loops_of W_laws_markNetwork trivial) (enc := N_laws_markNetwork) (fun _ _ => ⟨rfl, rfl⟩) F_laws_markNetwork

theorem K_laws_heldIntS_L2 (n : Nat) (x : (List Int) × Int × Int) : laws_heldIntS_L2 (n + 1) x = roundK C_laws_heldIntS B_laws_heldIntS_L2 (S_laws_heldIntS_L2 fuel) x (laws_heldIntS_L2 n) := by
  obtain ⟨a, k, i⟩ := x
  kernel_rfl
theorem F_laws_heldIntS (a : dens E_laws_heldIntS.params) : E_laws_heldIntS.run a = funK C_laws_heldIntS Try.f16 E_laws_heldIntS.params E_laws_heldIntS.results a (fun o r => some (N_laws_heldIntS o r)) := by
  kernel_rfl
theorem W_laws_heldIntS : loopsOf D_laws_heldIntS = [B_laws_heldIntS_L2] := by kernel_rfl
theorem R_laws_heldIntS_L2 : firstReg B_laws_heldIntS_L2 = 2 := by kernel_rfl
theorem Q_laws_heldIntS : Try.prog.funcs[16]? = some Try.f16 ∧ (Try.f16.name == "runtime.NumGoroutine") = false ∧ Try.f16.body = some D_laws_heldIntS := ⟨Try.func16, by kernel_rfl, by kernel_rfl⟩
theorem H_laws_heldIntS : Holds Try.prog 16 E_laws_heldIntS :=
  holds_of (cx := C_laws_heldIntS) (tabOk_ok tabT rfl).1 (allT_ok trivial) mixT Q_laws_heldIntS.1 Q_laws_heldIntS.2.2 (loops_of W_laws_heldIntS ⟨loop_of (cx := C_laws_heldIntS) (L := S_laws_heldIntS_L2 fuel) rfl (by rw [R_laws_heldIntS_L2]; rfl) ⟨laws_heldIntS_L2, fun _ => rfl, fun n x => K_laws_heldIntS_L2 n x, fuel, fun _ => rfl⟩, trivial⟩) (enc := N_laws_heldIntS) (fun _ _ => ⟨rfl, rfl⟩) F_laws_heldIntS

theorem F_laws_FnExactGreedyByPairs (a : dens E_laws_FnExactGreedyByPairs.params) : E_laws_FnExactGreedyByPairs.run a = funK C_laws_FnExactGreedyByPairs Try.f4 E_laws_FnExactGreedyByPairs.params E_laws_FnExactGreedyByPairs.results a (fun o r => some (N_laws_FnExactGreedyByPairs o r)) := by
  kernel_rfl
theorem W_laws_FnExactGreedyByPairs : loopsOf D_laws_FnExactGreedyByPairs = [] := by kernel_rfl
theorem Q_laws_FnExactGreedyByPairs : Try.prog.funcs[4]? = some Try.f4 ∧ (Try.f4.name == "runtime.NumGoroutine") = false ∧ Try.f4.body = some D_laws_FnExactGreedyByPairs := ⟨Try.func4, by kernel_rfl, by kernel_rfl⟩
theorem H_laws_FnExactGreedyByPairs : Holds Try.prog 4 E_laws_FnExactGreedyByPairs :=
  holds_of (cx := C_laws_FnExactGreedyByPairs) (tabOk_ok tabT rfl).1 (allT_ok ⟨⟨H_laws_szNetwork, _, _, Q_laws_szNetwork⟩, ⟨⟨H_laws_toNetwork, _, _, Q_laws_toNetwork⟩, ⟨⟨H_laws_eqNetwork, _, _, Q_laws_eqNetwork⟩, ⟨⟨H_spec_GreedyByPairs, _, _, Q_spec_GreedyByPairs⟩, ⟨⟨H_impl_GreedyByPairs, _, _, Q_impl_GreedyByPairs⟩, ⟨⟨H_laws_eqIntS, _, _, Q_laws_eqIntS⟩, ⟨⟨H_laws_markNetwork, _, _, Q_laws_markNetwork⟩, ⟨⟨H_laws_markIntS, _, _, Q_laws_markIntS⟩, ⟨⟨H_laws_heldIntS, _, _, Q_laws_heldIntS⟩, trivial⟩⟩⟩⟩⟩⟩⟩⟩⟩) mixT Q_laws_FnExactGreedyByPairs.1 Q_laws_FnExactGreedyByPairs.2.2 (loops_of W_laws_FnExactGreedyByPairs trivial) (enc := N_laws_FnExactGreedyByPairs) (fun _ _ => ⟨rfl, rfl⟩) F_laws_FnExactGreedyByPairs
end T
