/- Each typed function is what the program computes; no conditions. -/
import Derived.Test.YtmikbobckddodaaCFnExactFoldedSolution
set_option linter.all false
set_option maxRecDepth 10000
open Go Go.Va Go.Proofs
namespace T

theorem F_laws_szIntS (a : dens E_laws_szIntS.params) : E_laws_szIntS.run a = funK C_laws_szIntS Try.f40 E_laws_szIntS.params E_laws_szIntS.results a (fun o r => some (N_laws_szIntS o r)) := by
  kernel_rfl
theorem W_laws_szIntS : loopsOf D_laws_szIntS = [] := by kernel_rfl
theorem Q_laws_szIntS : Try.prog.funcs[40]? = some Try.f40 ∧ (Try.f40.name == "runtime.NumGoroutine") = false ∧ Try.f40.body = some D_laws_szIntS := ⟨Try.func40, by kernel_rfl, by kernel_rfl⟩
theorem H_laws_szIntS : Holds Try.prog 40 E_laws_szIntS :=
  holds_of (cx := C_laws_szIntS) (tabOk_ok tabT rfl).1 (allT_ok trivial) mixT Q_laws_szIntS.1 Q_laws_szIntS.2.2 (loops_of W_laws_szIntS trivial) (enc := N_laws_szIntS) (fun _ _ => ⟨rfl, rfl⟩) F_laws_szIntS

theorem K_laws_szIntSS_L5 (n : Nat) (x : (List (List Int)) × Int × Int) : laws_szIntSS_L5 (n + 1) x = roundK C_laws_szIntSS B_laws_szIntSS_L5 (S_laws_szIntSS_L5 fuel) x (laws_szIntSS_L5 n) := by
  obtain ⟨a, left, i⟩ := x
  kernel_rfl
theorem F_laws_szIntSS (a : dens E_laws_szIntSS.params) : E_laws_szIntSS.run a = funK C_laws_szIntSS Try.f73 E_laws_szIntSS.params E_laws_szIntSS.results a (fun o r => some (N_laws_szIntSS o r)) := by
  kernel_rfl
theorem W_laws_szIntSS : loopsOf D_laws_szIntSS = [B_laws_szIntSS_L5] := by kernel_rfl
theorem R_laws_szIntSS_L5 : firstReg B_laws_szIntSS_L5 = 5 := by kernel_rfl
theorem Q_laws_szIntSS : Try.prog.funcs[73]? = some Try.f73 ∧ (Try.f73.name == "runtime.NumGoroutine") = false ∧ Try.f73.body = some D_laws_szIntSS := ⟨Try.func73, by kernel_rfl, by kernel_rfl⟩
theorem H_laws_szIntSS : Holds Try.prog 73 E_laws_szIntSS :=
  holds_of (cx := C_laws_szIntSS) (tabOk_ok tabT rfl).1 (allT_ok ⟨⟨H_laws_szIntS, _, _, Q_laws_szIntS⟩, trivial⟩) mixT Q_laws_szIntSS.1 Q_laws_szIntSS.2.2 (loops_of W_laws_szIntSS ⟨loop_of (cx := C_laws_szIntSS) (L := S_laws_szIntSS_L5 fuel) rfl (by rw [R_laws_szIntSS_L5]; rfl) ⟨laws_szIntSS_L5, fun _ => rfl, fun n x => K_laws_szIntSS_L5 n x, fuel, fun _ => rfl⟩, trivial⟩) (enc := N_laws_szIntSS) (fun _ _ => ⟨rfl, rfl⟩) F_laws_szIntSS

theorem F_laws_szRelation (a : dens E_laws_szRelation.params) : E_laws_szRelation.run a = funK C_laws_szRelation Try.f65 E_laws_szRelation.params E_laws_szRelation.results a (fun o r => some (N_laws_szRelation o r)) := by
  kernel_rfl
theorem W_laws_szRelation : loopsOf D_laws_szRelation = [] := by kernel_rfl
theorem Q_laws_szRelation : Try.prog.funcs[65]? = some Try.f65 ∧ (Try.f65.name == "runtime.NumGoroutine") = false ∧ Try.f65.body = some D_laws_szRelation := ⟨Try.func65, by kernel_rfl, by kernel_rfl⟩
theorem H_laws_szRelation : Holds Try.prog 65 E_laws_szRelation :=
  holds_of (cx := C_laws_szRelation) (tabOk_ok tabT rfl).1 (allT_ok ⟨⟨H_laws_szIntSS, _, _, Q_laws_szIntSS⟩, trivial⟩) mixT Q_laws_szRelation.1 Q_laws_szRelation.2.2 (loops_of W_laws_szRelation trivial) (enc := N_laws_szRelation) (fun _ _ => ⟨rfl, rfl⟩) F_laws_szRelation

theorem F_laws_szConstraint (a : dens E_laws_szConstraint.params) : E_laws_szConstraint.run a = funK C_laws_szConstraint Try.f47 E_laws_szConstraint.params E_laws_szConstraint.results a (fun o r => some (N_laws_szConstraint o r)) := by
  kernel_rfl
theorem W_laws_szConstraint : loopsOf D_laws_szConstraint = [] := by kernel_rfl
theorem Q_laws_szConstraint : Try.prog.funcs[47]? = some Try.f47 ∧ (Try.f47.name == "runtime.NumGoroutine") = false ∧ Try.f47.body = some D_laws_szConstraint := ⟨Try.func47, by kernel_rfl, by kernel_rfl⟩
theorem H_laws_szConstraint : Holds Try.prog 47 E_laws_szConstraint :=
  holds_of (cx := C_laws_szConstraint) (tabOk_ok tabT rfl).1 (allT_ok ⟨⟨H_laws_szIntS, _, _, Q_laws_szIntS⟩, ⟨⟨H_laws_szRelation, _, _, Q_laws_szRelation⟩, trivial⟩⟩) mixT Q_laws_szConstraint.1 Q_laws_szConstraint.2.2 (loops_of W_laws_szConstraint trivial) (enc := N_laws_szConstraint) (fun _ _ => ⟨rfl, rfl⟩) F_laws_szConstraint

theorem K_laws_szConstraintS_L5 (n : Nat) (x : (List ((List Int) × Int × (List (List Int)))) × Int × Int) : laws_szConstraintS_L5 (n + 1) x = roundK C_laws_szConstraintS B_laws_szConstraintS_L5 (S_laws_szConstraintS_L5 fuel) x (laws_szConstraintS_L5 n) := by
  obtain ⟨a, left, i⟩ := x
  kernel_rfl
theorem F_laws_szConstraintS (a : dens E_laws_szConstraintS.params) : E_laws_szConstraintS.run a = funK C_laws_szConstraintS Try.f26 E_laws_szConstraintS.params E_laws_szConstraintS.results a (fun o r => some (N_laws_szConstraintS o r)) := by
  kernel_rfl
theorem W_laws_szConstraintS : loopsOf D_laws_szConstraintS = [B_laws_szConstraintS_L5] := by kernel_rfl
theorem R_laws_szConstraintS_L5 : firstReg B_laws_szConstraintS_L5 = 5 := by kernel_rfl
theorem Q_laws_szConstraintS : Try.prog.funcs[26]? = some Try.f26 ∧ (Try.f26.name == "runtime.NumGoroutine") = false ∧ Try.f26.body = some D_laws_szConstraintS := ⟨Try.func26, by kernel_rfl, by kernel_rfl⟩
theorem H_laws_szConstraintS : Holds Try.prog 26 E_laws_szConstraintS :=
  holds_of (cx := C_laws_szConstraintS) (tabOk_ok tabT rfl).1 (allT_ok ⟨⟨H_laws_szConstraint, _, _, Q_laws_szConstraint⟩, trivial⟩) mixT Q_laws_szConstraintS.1 Q_laws_szConstraintS.2.2 (loops_of W_laws_szConstraintS ⟨loop_of (cx := C_laws_szConstraintS) (L := S_laws_szConstraintS_L5 fuel) rfl (by rw [R_laws_szConstraintS_L5]; rfl) ⟨laws_szConstraintS_L5, fun _ => rfl, fun n x => K_laws_szConstraintS_L5 n x, fuel, fun _ => rfl⟩, trivial⟩) (enc := N_laws_szConstraintS) (fun _ _ => ⟨rfl, rfl⟩) F_laws_szConstraintS

theorem F_laws_szNetwork (a : dens E_laws_szNetwork.params) : E_laws_szNetwork.run a = funK C_laws_szNetwork Try.f6 E_laws_szNetwork.params E_laws_szNetwork.results a (fun o r => some (N_laws_szNetwork o r)) := by
  kernel_rfl
theorem W_laws_szNetwork : loopsOf D_laws_szNetwork = [] := by kernel_rfl
theorem Q_laws_szNetwork : Try.prog.funcs[6]? = some Try.f6 ∧ (Try.f6.name == "runtime.NumGoroutine") = false ∧ Try.f6.body = some D_laws_szNetwork := ⟨Try.func6, by kernel_rfl, by kernel_rfl⟩
theorem H_laws_szNetwork : Holds Try.prog 6 E_laws_szNetwork :=
  holds_of (cx := C_laws_szNetwork) (tabOk_ok tabT rfl).1 (allT_ok ⟨⟨H_laws_szConstraintS, _, _, Q_laws_szConstraintS⟩, trivial⟩) mixT Q_laws_szNetwork.1 Q_laws_szNetwork.2.2 (loops_of W_laws_szNetwork trivial) (enc := N_laws_szNetwork) (fun _ _ => ⟨rfl, rfl⟩) F_laws_szNetwork

theorem F_laws_szOp (a : dens E_laws_szOp.params) : E_laws_szOp.run a = funK C_laws_szOp Try.f15 E_laws_szOp.params E_laws_szOp.results a (fun o r => some (N_laws_szOp o r)) := by
  kernel_rfl
theorem W_laws_szOp : loopsOf D_laws_szOp = [] := by kernel_rfl
theorem Q_laws_szOp : Try.prog.funcs[15]? = some Try.f15 ∧ (Try.f15.name == "runtime.NumGoroutine") = false ∧ Try.f15.body = some D_laws_szOp := ⟨Try.func15, by kernel_rfl, by kernel_rfl⟩
theorem H_laws_szOp : Holds Try.prog 15 E_laws_szOp :=
  holds_of (cx := C_laws_szOp) (tabOk_ok tabT rfl).1 (allT_ok ⟨⟨H_laws_szIntS, _, _, Q_laws_szIntS⟩, trivial⟩) mixT Q_laws_szOp.1 Q_laws_szOp.2.2 (loops_of W_laws_szOp trivial) (enc := N_laws_szOp) (fun _ _ => ⟨rfl, rfl⟩) F_laws_szOp

theorem K_laws_toIntS_L3 (n : Nat) (x : (List Int) × (List Int) × Int) : laws_toIntS_L3 (n + 1) x = roundK C_laws_toIntS B_laws_toIntS_L3 (S_laws_toIntS_L3 fuel) x (laws_toIntS_L3 n) := by
  obtain ⟨a, out, i⟩ := x
  kernel_rfl
theorem F_laws_toIntS (a : dens E_laws_toIntS.params) : E_laws_toIntS.run a = funK C_laws_toIntS Try.f42 E_laws_toIntS.params E_laws_toIntS.results a (fun o r => some (N_laws_toIntS o r)) := by
  kernel_rfl
theorem W_laws_toIntS : loopsOf D_laws_toIntS = [B_laws_toIntS_L3] := by kernel_rfl
theorem R_laws_toIntS_L3 : firstReg B_laws_toIntS_L3 = 3 := by kernel_rfl
theorem Q_laws_toIntS : Try.prog.funcs[42]? = some Try.f42 ∧ (Try.f42.name == "runtime.NumGoroutine") = false ∧ Try.f42.body = some D_laws_toIntS := ⟨Try.func42, by kernel_rfl, by kernel_rfl⟩
theorem H_laws_toIntS : Holds Try.prog 42 E_laws_toIntS :=
  holds_of (cx := C_laws_toIntS) (tabOk_ok tabT rfl).1 (allT_ok trivial) mixT Q_laws_toIntS.1 Q_laws_toIntS.2.2 (loops_of W_laws_toIntS ⟨loop_of (cx := C_laws_toIntS) (L := S_laws_toIntS_L3 fuel) rfl (by rw [R_laws_toIntS_L3]; rfl) ⟨laws_toIntS_L3, fun _ => rfl, fun n x => K_laws_toIntS_L3 n x, fuel, fun _ => rfl⟩, trivial⟩) (enc := N_laws_toIntS) (fun _ _ => ⟨rfl, rfl⟩) F_laws_toIntS

theorem K_laws_toIntSS_L3 (n : Nat) (x : (List (List Int)) × (List (List Int)) × Int) : laws_toIntSS_L3 (n + 1) x = roundK C_laws_toIntSS B_laws_toIntSS_L3 (S_laws_toIntSS_L3 fuel) x (laws_toIntSS_L3 n) := by
  obtain ⟨a, out, i⟩ := x
  kernel_rfl
theorem F_laws_toIntSS (a : dens E_laws_toIntSS.params) : E_laws_toIntSS.run a = funK C_laws_toIntSS Try.f77 E_laws_toIntSS.params E_laws_toIntSS.results a (fun o r => some (N_laws_toIntSS o r)) := by
  kernel_rfl
theorem W_laws_toIntSS : loopsOf D_laws_toIntSS = [B_laws_toIntSS_L3] := by kernel_rfl
theorem R_laws_toIntSS_L3 : firstReg B_laws_toIntSS_L3 = 3 := by kernel_rfl
theorem Q_laws_toIntSS : Try.prog.funcs[77]? = some Try.f77 ∧ (Try.f77.name == "runtime.NumGoroutine") = false ∧ Try.f77.body = some D_laws_toIntSS := ⟨Try.func77, by kernel_rfl, by kernel_rfl⟩
theorem H_laws_toIntSS : Holds Try.prog 77 E_laws_toIntSS :=
  holds_of (cx := C_laws_toIntSS) (tabOk_ok tabT rfl).1 (allT_ok ⟨⟨H_laws_toIntS, _, _, Q_laws_toIntS⟩, trivial⟩) mixT Q_laws_toIntSS.1 Q_laws_toIntSS.2.2 (loops_of W_laws_toIntSS ⟨loop_of (cx := C_laws_toIntSS) (L := S_laws_toIntSS_L3 fuel) rfl (by rw [R_laws_toIntSS_L3]; rfl) ⟨laws_toIntSS_L3, fun _ => rfl, fun n x => K_laws_toIntSS_L3 n x, fuel, fun _ => rfl⟩, trivial⟩) (enc := N_laws_toIntSS) (fun _ _ => ⟨rfl, rfl⟩) F_laws_toIntSS

theorem F_laws_toRelation (a : dens E_laws_toRelation.params) : E_laws_toRelation.run a = funK C_laws_toRelation Try.f69 E_laws_toRelation.params E_laws_toRelation.results a (fun o r => some (N_laws_toRelation o r)) := by
  kernel_rfl
theorem W_laws_toRelation : loopsOf D_laws_toRelation = [] := by kernel_rfl
theorem Q_laws_toRelation : Try.prog.funcs[69]? = some Try.f69 ∧ (Try.f69.name == "runtime.NumGoroutine") = false ∧ Try.f69.body = some D_laws_toRelation := ⟨Try.func69, by kernel_rfl, by kernel_rfl⟩
theorem H_laws_toRelation : Holds Try.prog 69 E_laws_toRelation :=
  holds_of (cx := C_laws_toRelation) (tabOk_ok tabT rfl).1 (allT_ok ⟨⟨H_laws_toIntSS, _, _, Q_laws_toIntSS⟩, trivial⟩) mixT Q_laws_toRelation.1 Q_laws_toRelation.2.2 (loops_of W_laws_toRelation trivial) (enc := N_laws_toRelation) (fun _ _ => ⟨rfl, rfl⟩) F_laws_toRelation

theorem F_laws_toConstraint (a : dens E_laws_toConstraint.params) : E_laws_toConstraint.run a = funK C_laws_toConstraint Try.f53 E_laws_toConstraint.params E_laws_toConstraint.results a (fun o r => some (N_laws_toConstraint o r)) := by
  kernel_rfl
theorem W_laws_toConstraint : loopsOf D_laws_toConstraint = [] := by kernel_rfl
theorem Q_laws_toConstraint : Try.prog.funcs[53]? = some Try.f53 ∧ (Try.f53.name == "runtime.NumGoroutine") = false ∧ Try.f53.body = some D_laws_toConstraint := ⟨Try.func53, by kernel_rfl, by kernel_rfl⟩
theorem H_laws_toConstraint : Holds Try.prog 53 E_laws_toConstraint :=
  holds_of (cx := C_laws_toConstraint) (tabOk_ok tabT rfl).1 (allT_ok ⟨⟨H_laws_toIntS, _, _, Q_laws_toIntS⟩, ⟨⟨H_laws_toRelation, _, _, Q_laws_toRelation⟩, trivial⟩⟩) mixT Q_laws_toConstraint.1 Q_laws_toConstraint.2.2 (loops_of W_laws_toConstraint trivial) (enc := N_laws_toConstraint) (fun _ _ => ⟨rfl, rfl⟩) F_laws_toConstraint

theorem K_laws_toConstraintS_L3 (n : Nat) (x : (List ((List Int) × Int × (List (List Int)))) × (List ((List Int) × Int × (List (List Int)))) × Int) : laws_toConstraintS_L3 (n + 1) x = roundK C_laws_toConstraintS B_laws_toConstraintS_L3 (S_laws_toConstraintS_L3 fuel) x (laws_toConstraintS_L3 n) := by
  obtain ⟨a, out, i⟩ := x
  kernel_rfl
theorem F_laws_toConstraintS (a : dens E_laws_toConstraintS.params) : E_laws_toConstraintS.run a = funK C_laws_toConstraintS Try.f32 E_laws_toConstraintS.params E_laws_toConstraintS.results a (fun o r => some (N_laws_toConstraintS o r)) := by
  kernel_rfl
theorem W_laws_toConstraintS : loopsOf D_laws_toConstraintS = [B_laws_toConstraintS_L3] := by kernel_rfl
theorem R_laws_toConstraintS_L3 : firstReg B_laws_toConstraintS_L3 = 3 := by kernel_rfl
theorem Q_laws_toConstraintS : Try.prog.funcs[32]? = some Try.f32 ∧ (Try.f32.name == "runtime.NumGoroutine") = false ∧ Try.f32.body = some D_laws_toConstraintS := ⟨Try.func32, by kernel_rfl, by kernel_rfl⟩
theorem H_laws_toConstraintS : Holds Try.prog 32 E_laws_toConstraintS :=
  holds_of (cx := C_laws_toConstraintS) (tabOk_ok tabT rfl).1 (allT_ok ⟨⟨H_laws_toConstraint, _, _, Q_laws_toConstraint⟩, trivial⟩) mixT Q_laws_toConstraintS.1 Q_laws_toConstraintS.2.2 (loops_of W_laws_toConstraintS ⟨loop_of (cx := C_laws_toConstraintS) (L := S_laws_toConstraintS_L3 fuel) rfl (by rw [R_laws_toConstraintS_L3]; rfl) ⟨laws_toConstraintS_L3, fun _ => rfl, fun n x => K_laws_toConstraintS_L3 n x, fuel, fun _ => rfl⟩, trivial⟩) (enc := N_laws_toConstraintS) (fun _ _ => ⟨rfl, rfl⟩) F_laws_toConstraintS

theorem F_laws_toNetwork (a : dens E_laws_toNetwork.params) : E_laws_toNetwork.run a = funK C_laws_toNetwork Try.f8 E_laws_toNetwork.params E_laws_toNetwork.results a (fun o r => some (N_laws_toNetwork o r)) := by
  kernel_rfl
theorem W_laws_toNetwork : loopsOf D_laws_toNetwork = [] := by kernel_rfl
theorem Q_laws_toNetwork : Try.prog.funcs[8]? = some Try.f8 ∧ (Try.f8.name == "runtime.NumGoroutine") = false ∧ Try.f8.body = some D_laws_toNetwork := ⟨Try.func8, by kernel_rfl, by kernel_rfl⟩
theorem H_laws_toNetwork : Holds Try.prog 8 E_laws_toNetwork :=
  holds_of (cx := C_laws_toNetwork) (tabOk_ok tabT rfl).1 (allT_ok ⟨⟨H_laws_toConstraintS, _, _, Q_laws_toConstraintS⟩, trivial⟩) mixT Q_laws_toNetwork.1 Q_laws_toNetwork.2.2 (loops_of W_laws_toNetwork trivial) (enc := N_laws_toNetwork) (fun _ _ => ⟨rfl, rfl⟩) F_laws_toNetwork

theorem F_laws_toOp (a : dens E_laws_toOp.params) : E_laws_toOp.run a = funK C_laws_toOp Try.f17 E_laws_toOp.params E_laws_toOp.results a (fun o r => some (N_laws_toOp o r)) := by
  kernel_rfl
theorem W_laws_toOp : loopsOf D_laws_toOp = [] := by kernel_rfl
theorem Q_laws_toOp : Try.prog.funcs[17]? = some Try.f17 ∧ (Try.f17.name == "runtime.NumGoroutine") = false ∧ Try.f17.body = some D_laws_toOp := ⟨Try.func17, by kernel_rfl, by kernel_rfl⟩
theorem H_laws_toOp : Holds Try.prog 17 E_laws_toOp :=
  holds_of (cx := C_laws_toOp) (tabOk_ok tabT rfl).1 (allT_ok ⟨⟨H_laws_toIntS, _, _, Q_laws_toIntS⟩, trivial⟩) mixT Q_laws_toOp.1 Q_laws_toOp.2.2 (loops_of W_laws_toOp trivial) (enc := N_laws_toOp) (fun _ _ => ⟨rfl, rfl⟩) F_laws_toOp

theorem F_spec_l1In (a : dens E_spec_l1In.params) : E_spec_l1In.run a = funK C_spec_l1In Try.f28 E_spec_l1In.params E_spec_l1In.results a (fun o r => some (N_spec_l1In o r)) := by
  kernel_rfl
theorem W_spec_l1In : loopsOf D_spec_l1In = [] := by kernel_rfl
theorem Q_spec_l1In : Try.prog.funcs[28]? = some Try.f28 ∧ (Try.f28.name == "runtime.NumGoroutine") = false ∧ Try.f28.body = some D_spec_l1In := ⟨Try.func28, by kernel_rfl, by kernel_rfl⟩
theorem H_spec_l1In : Holds Try.prog 28 E_spec_l1In :=
  holds_of (cx := C_spec_l1In) (tabOk_ok tabT rfl).1 (allT_ok trivial) mixT Q_spec_l1In.1 Q_spec_l1In.2.2 (loops_of W_spec_l1In trivial) (enc := N_spec_l1In) (fun _ _ => ⟨rfl, rfl⟩) F_spec_l1In

theorem K_spec_l2Pow_L2 (n : Nat) (x : Int × Int × Int) : spec_l2Pow_L2 (n + 1) x = roundK C_spec_l2Pow B_spec_l2Pow_L2 (S_spec_l2Pow_L2 fuel) x (spec_l2Pow_L2 n) := by
  obtain ⟨n_, k, out⟩ := x
  kernel_rfl
theorem F_spec_l2Pow (a : dens E_spec_l2Pow.params) : E_spec_l2Pow.run a = funK C_spec_l2Pow Try.f59 E_spec_l2Pow.params E_spec_l2Pow.results a (fun o r => some (N_spec_l2Pow o r)) := by
  kernel_rfl
theorem W_spec_l2Pow : loopsOf D_spec_l2Pow = [B_spec_l2Pow_L2] := by kernel_rfl
theorem R_spec_l2Pow_L2 : firstReg B_spec_l2Pow_L2 = 2 := by kernel_rfl
theorem Q_spec_l2Pow : Try.prog.funcs[59]? = some Try.f59 ∧ (Try.f59.name == "runtime.NumGoroutine") = false ∧ Try.f59.body = some D_spec_l2Pow := ⟨Try.func59, by kernel_rfl, by kernel_rfl⟩
theorem H_spec_l2Pow : Holds Try.prog 59 E_spec_l2Pow :=
  holds_of (cx := C_spec_l2Pow) (tabOk_ok tabT rfl).1 (allT_ok trivial) mixT Q_spec_l2Pow.1 Q_spec_l2Pow.2.2 (loops_of W_spec_l2Pow ⟨loop_of (cx := C_spec_l2Pow) (L := S_spec_l2Pow_L2 fuel) rfl (by rw [R_spec_l2Pow_L2]; rfl) ⟨spec_l2Pow_L2, fun _ => rfl, fun n x => K_spec_l2Pow_L2 n x, fuel, fun _ => rfl⟩, trivial⟩) (enc := N_spec_l2Pow) (fun _ _ => ⟨rfl, rfl⟩) F_spec_l2Pow

theorem K_spec_l2Elements_L2 (n : Nat) (x : Int × (List Int) × Int) : spec_l2Elements_L2 (n + 1) x = roundK C_spec_l2Elements B_spec_l2Elements_L2 (S_spec_l2Elements_L2 fuel) x (spec_l2Elements_L2 n) := by
  obtain ⟨n_, list, i⟩ := x
  kernel_rfl
theorem F_spec_l2Elements (a : dens E_spec_l2Elements.params) : E_spec_l2Elements.run a = funK C_spec_l2Elements Try.f67 E_spec_l2Elements.params E_spec_l2Elements.results a (fun o r => some (N_spec_l2Elements o r)) := by
  kernel_rfl
theorem W_spec_l2Elements : loopsOf D_spec_l2Elements = [B_spec_l2Elements_L2] := by kernel_rfl
theorem R_spec_l2Elements_L2 : firstReg B_spec_l2Elements_L2 = 2 := by kernel_rfl
theorem Q_spec_l2Elements : Try.prog.funcs[67]? = some Try.f67 ∧ (Try.f67.name == "runtime.NumGoroutine") = false ∧ Try.f67.body = some D_spec_l2Elements := ⟨Try.func67, by kernel_rfl, by kernel_rfl⟩
theorem H_spec_l2Elements : Holds Try.prog 67 E_spec_l2Elements :=
  holds_of (cx := C_spec_l2Elements) (tabOk_ok tabT rfl).1 (allT_ok ⟨⟨H_spec_l1In, _, _, Q_spec_l1In⟩, trivial⟩) mixT Q_spec_l2Elements.1 Q_spec_l2Elements.2.2 (loops_of W_spec_l2Elements ⟨loop_of (cx := C_spec_l2Elements) (L := S_spec_l2Elements_L2 fuel) rfl (by rw [R_spec_l2Elements_L2]; rfl) ⟨spec_l2Elements_L2, fun _ => rfl, fun n x => K_spec_l2Elements_L2 n x, fuel, fun _ => rfl⟩, trivial⟩) (enc := N_spec_l2Elements) (fun _ _ => ⟨rfl, rfl⟩) F_spec_l2Elements

theorem F_spec_l8Tuple (a : dens E_spec_l8Tuple.params) : E_spec_l8Tuple.run a = funK C_spec_l8Tuple Try.f74 E_spec_l8Tuple.params E_spec_l8Tuple.results a (fun o r => some (N_spec_l8Tuple o r)) := by
  kernel_rfl
theorem W_spec_l8Tuple : loopsOf D_spec_l8Tuple = [] := by kernel_rfl
theorem Q_spec_l8Tuple : Try.prog.funcs[74]? = some Try.f74 ∧ (Try.f74.name == "runtime.NumGoroutine") = false ∧ Try.f74.body = some D_spec_l8Tuple := ⟨Try.func74, by kernel_rfl, by kernel_rfl⟩
theorem H_spec_l8Tuple : Holds Try.prog 74 E_spec_l8Tuple :=
  holds_of (cx := C_spec_l8Tuple) (tabOk_ok tabT rfl).1 (allT_ok ⟨⟨H_spec_l2Elements, _, _, Q_spec_l2Elements⟩, trivial⟩) mixT Q_spec_l8Tuple.1 Q_spec_l8Tuple.2.2 (loops_of W_spec_l8Tuple trivial) (enc := N_spec_l8Tuple) (fun _ _ => ⟨rfl, rfl⟩) F_spec_l8Tuple

theorem K_spec_l3Less_L2 (n : Nat) (x : (List Int) × (List Int) × Int) : spec_l3Less_L2 (n + 1) x = roundK C_spec_l3Less B_spec_l3Less_L2 (S_spec_l3Less_L2 fuel) x (spec_l3Less_L2 n) := by
  obtain ⟨a, b, i⟩ := x
  kernel_rfl
theorem F_spec_l3Less (a : dens E_spec_l3Less.params) : E_spec_l3Less.run a = funK C_spec_l3Less Try.f75 E_spec_l3Less.params E_spec_l3Less.results a (fun o r => some (N_spec_l3Less o r)) := by
  kernel_rfl
theorem W_spec_l3Less : loopsOf D_spec_l3Less = [B_spec_l3Less_L2] := by kernel_rfl
theorem R_spec_l3Less_L2 : firstReg B_spec_l3Less_L2 = 2 := by kernel_rfl
theorem Q_spec_l3Less : Try.prog.funcs[75]? = some Try.f75 ∧ (Try.f75.name == "runtime.NumGoroutine") = false ∧ Try.f75.body = some D_spec_l3Less := ⟨Try.func75, by kernel_rfl, by kernel_rfl⟩
theorem H_spec_l3Less : Holds Try.prog 75 E_spec_l3Less :=
  holds_of (cx := C_spec_l3Less) (tabOk_ok tabT rfl).1 (allT_ok trivial) mixT Q_spec_l3Less.1 Q_spec_l3Less.2.2 (loops_of W_spec_l3Less ⟨loop_of (cx := C_spec_l3Less) (L := S_spec_l3Less_L2 fuel) rfl (by rw [R_spec_l3Less_L2]; rfl) ⟨spec_l3Less_L2, fun _ => rfl, fun n x => K_spec_l3Less_L2 n x, fuel, fun _ => rfl⟩, trivial⟩) (enc := N_spec_l3Less) (fun _ _ => ⟨rfl, rfl⟩) F_spec_l3Less

theorem K_spec_l13Good_L4 (n : Nat) (x : Int × (Int × (List (List Int))) × Int) : spec_l13Good_L4 (n + 1) x = roundK C_spec_l13Good B_spec_l13Good_L4 (S_spec_l13Good_L4 fuel) x (spec_l13Good_L4 n) := by
  obtain ⟨n_, r, i⟩ := x
  kernel_rfl
theorem F_spec_l13Good (a : dens E_spec_l13Good.params) : E_spec_l13Good.run a = funK C_spec_l13Good Try.f66 E_spec_l13Good.params E_spec_l13Good.results a (fun o r => some (N_spec_l13Good o r)) := by
  kernel_rfl
theorem W_spec_l13Good : loopsOf D_spec_l13Good = [B_spec_l13Good_L4] := by kernel_rfl
theorem R_spec_l13Good_L4 : firstReg B_spec_l13Good_L4 = 4 := by kernel_rfl
theorem Q_spec_l13Good : Try.prog.funcs[66]? = some Try.f66 ∧ (Try.f66.name == "runtime.NumGoroutine") = false ∧ Try.f66.body = some D_spec_l13Good := ⟨Try.func66, by kernel_rfl, by kernel_rfl⟩
theorem H_spec_l13Good : Holds Try.prog 66 E_spec_l13Good :=
  holds_of (cx := C_spec_l13Good) (tabOk_ok tabT rfl).1 (allT_ok ⟨⟨H_spec_l1In, _, _, Q_spec_l1In⟩, ⟨⟨H_spec_l2Pow, _, _, Q_spec_l2Pow⟩, ⟨⟨H_spec_l8Tuple, _, _, Q_spec_l8Tuple⟩, ⟨⟨H_spec_l3Less, _, _, Q_spec_l3Less⟩, trivial⟩⟩⟩⟩) mixT Q_spec_l13Good.1 Q_spec_l13Good.2.2 (loops_of W_spec_l13Good ⟨loop_of (cx := C_spec_l13Good) (L := S_spec_l13Good_L4 fuel) rfl (by rw [R_spec_l13Good_L4]; rfl) ⟨spec_l13Good_L4, fun _ => rfl, fun n x => K_spec_l13Good_L4 n x, fuel, fun _ => rfl⟩, trivial⟩) (enc := N_spec_l13Good) (fun _ _ => ⟨rfl, rfl⟩) F_spec_l13Good

theorem F_spec_l19Is (a : dens E_spec_l19Is.params) : E_spec_l19Is.run a = funK C_spec_l19Is Try.f48 E_spec_l19Is.params E_spec_l19Is.results a (fun o r => some (N_spec_l19Is o r)) := by
  kernel_rfl
theorem W_spec_l19Is : loopsOf D_spec_l19Is = [] := by kernel_rfl
theorem Q_spec_l19Is : Try.prog.funcs[48]? = some Try.f48 ∧ (Try.f48.name == "runtime.NumGoroutine") = false ∧ Try.f48.body = some D_spec_l19Is := ⟨Try.func48, by kernel_rfl, by kernel_rfl⟩
theorem H_spec_l19Is : Holds Try.prog 48 E_spec_l19Is :=
  holds_of (cx := C_spec_l19Is) (tabOk_ok tabT rfl).1 (allT_ok ⟨⟨H_spec_l13Good, _, _, Q_spec_l13Good⟩, ⟨⟨H_spec_l2Elements, _, _, Q_spec_l2Elements⟩, trivial⟩⟩) mixT Q_spec_l19Is.1 Q_spec_l19Is.2.2 (loops_of W_spec_l19Is trivial) (enc := N_spec_l19Is) (fun _ _ => ⟨rfl, rfl⟩) F_spec_l19Is

theorem K_spec_l19Good_L4 (n : Nat) (x : (Int × Int × (List ((List Int) × Int × (List (List Int))))) × Int) : spec_l19Good_L4 (n + 1) x = roundK C_spec_l19Good B_spec_l19Good_L4 (S_spec_l19Good_L4 fuel) x (spec_l19Good_L4 n) := by
  obtain ⟨net, i⟩ := x
  kernel_rfl
theorem F_spec_l19Good (a : dens E_spec_l19Good.params) : E_spec_l19Good.run a = funK C_spec_l19Good Try.f27 E_spec_l19Good.params E_spec_l19Good.results a (fun o r => some (N_spec_l19Good o r)) := by
  kernel_rfl
theorem W_spec_l19Good : loopsOf D_spec_l19Good = [B_spec_l19Good_L4] := by kernel_rfl
theorem R_spec_l19Good_L4 : firstReg B_spec_l19Good_L4 = 4 := by kernel_rfl
theorem Q_spec_l19Good : Try.prog.funcs[27]? = some Try.f27 ∧ (Try.f27.name == "runtime.NumGoroutine") = false ∧ Try.f27.body = some D_spec_l19Good := ⟨Try.func27, by kernel_rfl, by kernel_rfl⟩
theorem H_spec_l19Good : Holds Try.prog 27 E_spec_l19Good :=
  holds_of (cx := C_spec_l19Good) (tabOk_ok tabT rfl).1 (allT_ok ⟨⟨H_spec_l1In, _, _, Q_spec_l1In⟩, ⟨⟨H_spec_l19Is, _, _, Q_spec_l19Is⟩, trivial⟩⟩) mixT Q_spec_l19Good.1 Q_spec_l19Good.2.2 (loops_of W_spec_l19Good ⟨loop_of (cx := C_spec_l19Good) (L := S_spec_l19Good_L4 fuel) rfl (by rw [R_spec_l19Good_L4]; rfl) ⟨spec_l19Good_L4, fun _ => rfl, fun n x => K_spec_l19Good_L4 n x, fuel, fun _ => rfl⟩, trivial⟩) (enc := N_spec_l19Good) (fun _ _ => ⟨rfl, rfl⟩) F_spec_l19Good

theorem K_spec_l2Op_L4 (n : Nat) (x : Int × (Int × (List Int)) × Int) : spec_l2Op_L4 (n + 1) x = roundK C_spec_l2Op B_spec_l2Op_L4 (S_spec_l2Op_L4 fuel) x (spec_l2Op_L4 n) := by
  obtain ⟨n_, op, i⟩ := x
  kernel_rfl
theorem F_spec_l2Op (a : dens E_spec_l2Op.params) : E_spec_l2Op.run a = funK C_spec_l2Op Try.f41 E_spec_l2Op.params E_spec_l2Op.results a (fun o r => some (N_spec_l2Op o r)) := by
  kernel_rfl
theorem W_spec_l2Op : loopsOf D_spec_l2Op = [B_spec_l2Op_L4] := by kernel_rfl
theorem R_spec_l2Op_L4 : firstReg B_spec_l2Op_L4 = 4 := by kernel_rfl
theorem Q_spec_l2Op : Try.prog.funcs[41]? = some Try.f41 ∧ (Try.f41.name == "runtime.NumGoroutine") = false ∧ Try.f41.body = some D_spec_l2Op := ⟨Try.func41, by kernel_rfl, by kernel_rfl⟩
theorem H_spec_l2Op : Holds Try.prog 41 E_spec_l2Op :=
  holds_of (cx := C_spec_l2Op) (tabOk_ok tabT rfl).1 (allT_ok ⟨⟨H_spec_l1In, _, _, Q_spec_l1In⟩, ⟨⟨H_spec_l2Pow, _, _, Q_spec_l2Pow⟩, trivial⟩⟩) mixT Q_spec_l2Op.1 Q_spec_l2Op.2.2 (loops_of W_spec_l2Op ⟨loop_of (cx := C_spec_l2Op) (L := S_spec_l2Op_L4 fuel) rfl (by rw [R_spec_l2Op_L4]; rfl) ⟨spec_l2Op_L4, fun _ => rfl, fun n x => K_spec_l2Op_L4 n x, fuel, fun _ => rfl⟩, trivial⟩) (enc := N_spec_l2Op) (fun _ _ => ⟨rfl, rfl⟩) F_spec_l2Op

theorem K_spec_l6Identity_L3 (n : Nat) (x : Int × (List Int) × Int) : spec_l6Identity_L3 (n + 1) x = roundK C_spec_l6Identity B_spec_l6Identity_L3 (S_spec_l6Identity_L3 fuel) x (spec_l6Identity_L3 n) := by
  obtain ⟨n_, out, x⟩ := x
  kernel_rfl
theorem F_spec_l6Identity (a : dens E_spec_l6Identity.params) : E_spec_l6Identity.run a = funK C_spec_l6Identity Try.f49 E_spec_l6Identity.params E_spec_l6Identity.results a (fun o r => some (N_spec_l6Identity o r)) := by
  kernel_rfl
theorem W_spec_l6Identity : loopsOf D_spec_l6Identity = [B_spec_l6Identity_L3] := by kernel_rfl
theorem R_spec_l6Identity_L3 : firstReg B_spec_l6Identity_L3 = 3 := by kernel_rfl
theorem Q_spec_l6Identity : Try.prog.funcs[49]? = some Try.f49 ∧ (Try.f49.name == "runtime.NumGoroutine") = false ∧ Try.f49.body = some D_spec_l6Identity := ⟨Try.func49, by kernel_rfl, by kernel_rfl⟩
theorem H_spec_l6Identity : Holds Try.prog 49 E_spec_l6Identity :=
  holds_of (cx := C_spec_l6Identity) (tabOk_ok tabT rfl).1 (allT_ok trivial) mixT Q_spec_l6Identity.1 Q_spec_l6Identity.2.2 (loops_of W_spec_l6Identity ⟨loop_of (cx := C_spec_l6Identity) (L := S_spec_l6Identity_L3 fuel) rfl (by rw [R_spec_l6Identity_L3]; rfl) ⟨spec_l6Identity_L3, fun _ => rfl, fun n x => K_spec_l6Identity_L3 n x, fuel, fun _ => rfl⟩, trivial⟩) (enc := N_spec_l6Identity) (fun _ _ => ⟨rfl, rfl⟩) F_spec_l6Identity

theorem K_spec_l20Full_L3 (n : Nat) (x : (Int × Int × (List ((List Int) × Int × (List (List Int))))) × (List (List Int)) × Int) : spec_l20Full_L3 (n + 1) x = roundK C_spec_l20Full B_spec_l20Full_L3 (S_spec_l20Full_L3 fuel) x (spec_l20Full_L3 n) := by
  obtain ⟨net, out, v⟩ := x
  kernel_rfl
theorem F_spec_l20Full (a : dens E_spec_l20Full.params) : E_spec_l20Full.run a = funK C_spec_l20Full Try.f29 E_spec_l20Full.params E_spec_l20Full.results a (fun o r => some (N_spec_l20Full o r)) := by
  kernel_rfl
theorem W_spec_l20Full : loopsOf D_spec_l20Full = [B_spec_l20Full_L3] := by kernel_rfl
theorem R_spec_l20Full_L3 : firstReg B_spec_l20Full_L3 = 3 := by kernel_rfl
theorem Q_spec_l20Full : Try.prog.funcs[29]? = some Try.f29 ∧ (Try.f29.name == "runtime.NumGoroutine") = false ∧ Try.f29.body = some D_spec_l20Full := ⟨Try.func29, by kernel_rfl, by kernel_rfl⟩
theorem H_spec_l20Full : Holds Try.prog 29 E_spec_l20Full :=
  holds_of (cx := C_spec_l20Full) (tabOk_ok tabT rfl).1 (allT_ok ⟨⟨H_spec_l6Identity, _, _, Q_spec_l6Identity⟩, trivial⟩) mixT Q_spec_l20Full.1 Q_spec_l20Full.2.2 (loops_of W_spec_l20Full ⟨loop_of (cx := C_spec_l20Full) (L := S_spec_l20Full_L3 fuel) rfl (by rw [R_spec_l20Full_L3]; rfl) ⟨spec_l20Full_L3, fun _ => rfl, fun n x => K_spec_l20Full_L3 n x, fuel, fun _ => rfl⟩, trivial⟩) (enc := N_spec_l20Full) (fun _ _ => ⟨rfl, rfl⟩) F_spec_l20Full

theorem K_spec_l1Has_L2 (n : Nat) (x : (List Int) × Int × Int) : spec_l1Has_L2 (n + 1) x = roundK C_spec_l1Has B_spec_l1Has_L2 (S_spec_l1Has_L2 fuel) x (spec_l1Has_L2 n) := by
  obtain ⟨l, n_, i⟩ := x
  kernel_rfl
theorem F_spec_l1Has (a : dens E_spec_l1Has.params) : E_spec_l1Has.run a = funK C_spec_l1Has Try.f76 E_spec_l1Has.params E_spec_l1Has.results a (fun o r => some (N_spec_l1Has o r)) := by
  kernel_rfl
theorem W_spec_l1Has : loopsOf D_spec_l1Has = [B_spec_l1Has_L2] := by kernel_rfl
theorem R_spec_l1Has_L2 : firstReg B_spec_l1Has_L2 = 2 := by kernel_rfl
theorem Q_spec_l1Has : Try.prog.funcs[76]? = some Try.f76 ∧ (Try.f76.name == "runtime.NumGoroutine") = false ∧ Try.f76.body = some D_spec_l1Has := ⟨Try.func76, by kernel_rfl, by kernel_rfl⟩
theorem H_spec_l1Has : Holds Try.prog 76 E_spec_l1Has :=
  holds_of (cx := C_spec_l1Has) (tabOk_ok tabT rfl).1 (allT_ok trivial) mixT Q_spec_l1Has.1 Q_spec_l1Has.2.2 (loops_of W_spec_l1Has ⟨loop_of (cx := C_spec_l1Has) (L := S_spec_l1Has_L2 fuel) rfl (by rw [R_spec_l1Has_L2]; rfl) ⟨spec_l1Has_L2, fun _ => rfl, fun n x => K_spec_l1Has_L2 n x, fuel, fun _ => rfl⟩, trivial⟩) (enc := N_spec_l1Has) (fun _ _ => ⟨rfl, rfl⟩) F_spec_l1Has

theorem K_spec_l20Fits_L7 (n : Nat) (x : (List Int) × (List (List Int)) × ((List Int) × Int × (List (List Int))) × Int × Int) : spec_l20Fits_L7 (n + 1) x = roundK C_spec_l20Fits B_spec_l20Fits_L7 (S_spec_l20Fits_L7 fuel) x (spec_l20Fits_L7 n) := by
  obtain ⟨t, domains, c, i, k⟩ := x
  kernel_rfl
theorem K_spec_l20Fits_L2 (n : Nat) (x : (List Int) × (List (List Int)) × ((List Int) × Int × (List (List Int))) × Int) : spec_l20Fits_L2 (n + 1) x = roundK C_spec_l20Fits B_spec_l20Fits_L2 (S_spec_l20Fits_L2 fuel) x (spec_l20Fits_L2 n) := by
  obtain ⟨t, domains, c, i⟩ := x
  kernel_rfl
theorem F_spec_l20Fits (a : dens E_spec_l20Fits.params) : E_spec_l20Fits.run a = funK C_spec_l20Fits Try.f68 E_spec_l20Fits.params E_spec_l20Fits.results a (fun o r => some (N_spec_l20Fits o r)) := by
  kernel_rfl
theorem W_spec_l20Fits : loopsOf D_spec_l20Fits = [B_spec_l20Fits_L2, B_spec_l20Fits_L7] := by kernel_rfl
theorem R_spec_l20Fits_L7 : firstReg B_spec_l20Fits_L7 = 7 := by kernel_rfl
theorem R_spec_l20Fits_L2 : firstReg B_spec_l20Fits_L2 = 2 := by kernel_rfl
theorem Q_spec_l20Fits : Try.prog.funcs[68]? = some Try.f68 ∧ (Try.f68.name == "runtime.NumGoroutine") = false ∧ Try.f68.body = some D_spec_l20Fits := ⟨Try.func68, by kernel_rfl, by kernel_rfl⟩
theorem H_spec_l20Fits : Holds Try.prog 68 E_spec_l20Fits :=
  holds_of (cx := C_spec_l20Fits) (tabOk_ok tabT rfl).1 (allT_ok ⟨⟨H_spec_l1Has, _, _, Q_spec_l1Has⟩, trivial⟩) mixT Q_spec_l20Fits.1 Q_spec_l20Fits.2.2 (loops_of W_spec_l20Fits ⟨loop_of (cx := C_spec_l20Fits) (L := S_spec_l20Fits_L2 fuel) rfl (by rw [R_spec_l20Fits_L2]; rfl) ⟨spec_l20Fits_L2, fun _ => rfl, fun n x => K_spec_l20Fits_L2 n x, fuel, fun _ => rfl⟩, ⟨loop_of (cx := C_spec_l20Fits) (L := S_spec_l20Fits_L7 fuel) rfl (by rw [R_spec_l20Fits_L7]; rfl) ⟨spec_l20Fits_L7, fun _ => rfl, fun n x => K_spec_l20Fits_L7 n x, fuel, fun _ => rfl⟩, trivial⟩⟩) (enc := N_spec_l20Fits) (fun _ _ => ⟨rfl, rfl⟩) F_spec_l20Fits

theorem K_spec_l20Support_L2 (n : Nat) (x : Int × Int × (List (List Int)) × ((List Int) × Int × (List (List Int))) × Int) : spec_l20Support_L2 (n + 1) x = roundK C_spec_l20Support B_spec_l20Support_L2 (S_spec_l20Support_L2 fuel) x (spec_l20Support_L2 n) := by
  obtain ⟨place, value, domains, c, i⟩ := x
  kernel_rfl
theorem F_spec_l20Support (a : dens E_spec_l20Support.params) : E_spec_l20Support.run a = funK C_spec_l20Support Try.f50 E_spec_l20Support.params E_spec_l20Support.results a (fun o r => some (N_spec_l20Support o r)) := by
  kernel_rfl
theorem W_spec_l20Support : loopsOf D_spec_l20Support = [B_spec_l20Support_L2] := by kernel_rfl
theorem R_spec_l20Support_L2 : firstReg B_spec_l20Support_L2 = 2 := by kernel_rfl
theorem Q_spec_l20Support : Try.prog.funcs[50]? = some Try.f50 ∧ (Try.f50.name == "runtime.NumGoroutine") = false ∧ Try.f50.body = some D_spec_l20Support := ⟨Try.func50, by kernel_rfl, by kernel_rfl⟩
theorem H_spec_l20Support : Holds Try.prog 50 E_spec_l20Support :=
  holds_of (cx := C_spec_l20Support) (tabOk_ok tabT rfl).1 (allT_ok ⟨⟨H_spec_l20Fits, _, _, Q_spec_l20Fits⟩, trivial⟩) mixT Q_spec_l20Support.1 Q_spec_l20Support.2.2 (loops_of W_spec_l20Support ⟨loop_of (cx := C_spec_l20Support) (L := S_spec_l20Support_L2 fuel) rfl (by rw [R_spec_l20Support_L2]; rfl) ⟨spec_l20Support_L2, fun _ => rfl, fun n x => K_spec_l20Support_L2 n x, fuel, fun _ => rfl⟩, trivial⟩) (enc := N_spec_l20Support) (fun _ _ => ⟨rfl, rfl⟩) F_spec_l20Support

theorem K_spec_l20Without_L3 (n : Nat) (x : (List Int) × Int × (List Int) × Int) : spec_l20Without_L3 (n + 1) x = roundK C_spec_l20Without B_spec_l20Without_L3 (S_spec_l20Without_L3 fuel) x (spec_l20Without_L3 n) := by
  obtain ⟨list, x, out, i⟩ := x
  kernel_rfl
theorem F_spec_l20Without (a : dens E_spec_l20Without.params) : E_spec_l20Without.run a = funK C_spec_l20Without Try.f51 E_spec_l20Without.params E_spec_l20Without.results a (fun o r => some (N_spec_l20Without o r)) := by
  kernel_rfl
theorem W_spec_l20Without : loopsOf D_spec_l20Without = [B_spec_l20Without_L3] := by kernel_rfl
theorem R_spec_l20Without_L3 : firstReg B_spec_l20Without_L3 = 3 := by kernel_rfl
theorem Q_spec_l20Without : Try.prog.funcs[51]? = some Try.f51 ∧ (Try.f51.name == "runtime.NumGoroutine") = false ∧ Try.f51.body = some D_spec_l20Without := ⟨Try.func51, by kernel_rfl, by kernel_rfl⟩
theorem H_spec_l20Without : Holds Try.prog 51 E_spec_l20Without :=
  holds_of (cx := C_spec_l20Without) (tabOk_ok tabT rfl).1 (allT_ok trivial) mixT Q_spec_l20Without.1 Q_spec_l20Without.2.2 (loops_of W_spec_l20Without ⟨loop_of (cx := C_spec_l20Without) (L := S_spec_l20Without_L3 fuel) rfl (by rw [R_spec_l20Without_L3]; rfl) ⟨spec_l20Without_L3, fun _ => rfl, fun n x => K_spec_l20Without_L3 n x, fuel, fun _ => rfl⟩, trivial⟩) (enc := N_spec_l20Without) (fun _ _ => ⟨rfl, rfl⟩) F_spec_l20Without

theorem K_spec_l20Arc_L15 (n : Nat) (x : (Int × Int × (List ((List Int) × Int × (List (List Int))))) × (List (Int × Int × Int)) × (List (List Int)) × Int × Int × ((List Int) × Int × (List (List Int))) × Int × (List Int) × Int) : spec_l20Arc_L15 (n + 1) x = roundK C_spec_l20Arc B_spec_l20Arc_L15 (S_spec_l20Arc_L15 fuel) x (spec_l20Arc_L15 n) := by
  obtain ⟨t2, t6, t7, t8, t9, t10, t11, t12, t13⟩ := x
  kernel_rfl
theorem K_spec_l20Arc_L11 (n : Nat) (x : (Int × Int × (List ((List Int) × Int × (List (List Int))))) × (List (Int × Int × Int)) × (List (List Int)) × Int × Int × ((List Int) × Int × (List (List Int))) × Int) : spec_l20Arc_L11 (n + 1) x = roundK C_spec_l20Arc B_spec_l20Arc_L11 (S_spec_l20Arc_L11 fuel) x (spec_l20Arc_L11 n) := by
  obtain ⟨t2, t6, t7, t8, t9, t10, t11⟩ := x
  kernel_rfl
theorem K_spec_l20Arc_L7 (n : Nat) (x : (Int × Int × (List ((List Int) × Int × (List (List Int))))) × (List (Int × Int × Int)) × (List (List Int)) × Int × Int) : spec_l20Arc_L7 (n + 1) x = roundK C_spec_l20Arc B_spec_l20Arc_L7 (S_spec_l20Arc_L7 fuel) x (spec_l20Arc_L7 n) := by
  obtain ⟨t2, t6, t7, t8, t9⟩ := x
  kernel_rfl
theorem K_spec_l20Arc_L4 (n : Nat) (x : (Int × Int × (List ((List Int) × Int × (List (List Int))))) × (List (Int × Int × Int)) × (List (List Int)) × Int) : spec_l20Arc_L4 (n + 1) x = roundK C_spec_l20Arc B_spec_l20Arc_L4 (S_spec_l20Arc_L4 fuel) x (spec_l20Arc_L4 n) := by
  obtain ⟨t2, t6, t7, t8⟩ := x
  kernel_rfl
theorem F_spec_l20Arc (a : dens E_spec_l20Arc.params) : E_spec_l20Arc.run a = funK C_spec_l20Arc Try.f30 E_spec_l20Arc.params E_spec_l20Arc.results a (fun o r => some (N_spec_l20Arc o r)) := by
  kernel_rfl
theorem W_spec_l20Arc : loopsOf D_spec_l20Arc = [B_spec_l20Arc_L4, B_spec_l20Arc_L7, B_spec_l20Arc_L11, B_spec_l20Arc_L15] := by kernel_rfl
theorem R_spec_l20Arc_L15 : firstReg B_spec_l20Arc_L15 = 15 := by kernel_rfl
theorem R_spec_l20Arc_L11 : firstReg B_spec_l20Arc_L11 = 11 := by kernel_rfl
theorem R_spec_l20Arc_L7 : firstReg B_spec_l20Arc_L7 = 7 := by kernel_rfl
theorem R_spec_l20Arc_L4 : firstReg B_spec_l20Arc_L4 = 4 := by kernel_rfl
theorem Q_spec_l20Arc : Try.prog.funcs[30]? = some Try.f30 ∧ (Try.f30.name == "runtime.NumGoroutine") = false ∧ Try.f30.body = some D_spec_l20Arc := ⟨Try.func30, by kernel_rfl, by kernel_rfl⟩
theorem H_spec_l20Arc : Holds Try.prog 30 E_spec_l20Arc :=
  holds_of (cx := C_spec_l20Arc) (tabOk_ok tabT rfl).1 (allT_ok ⟨⟨H_spec_l20Support, _, _, Q_spec_l20Support⟩, ⟨⟨H_spec_l20Without, _, _, Q_spec_l20Without⟩, trivial⟩⟩) mixT Q_spec_l20Arc.1 Q_spec_l20Arc.2.2 (loops_of W_spec_l20Arc ⟨loop_of (cx := C_spec_l20Arc) (L := S_spec_l20Arc_L4 fuel) rfl (by rw [R_spec_l20Arc_L4]; rfl) ⟨spec_l20Arc_L4, fun _ => rfl, fun n x => K_spec_l20Arc_L4 n x, fuel, fun _ => rfl⟩, ⟨loop_of (cx := C_spec_l20Arc) (L := S_spec_l20Arc_L7 fuel) rfl (by rw [R_spec_l20Arc_L7]; rfl) ⟨spec_l20Arc_L7, fun _ => rfl, fun n x => K_spec_l20Arc_L7 n x, fuel, fun _ => rfl⟩, ⟨loop_of (cx := C_spec_l20Arc) (L := S_spec_l20Arc_L11 fuel) rfl (by rw [R_spec_l20Arc_L11]; rfl) ⟨spec_l20Arc_L11, fun _ => rfl, fun n x => K_spec_l20Arc_L11 n x, fuel, fun _ => rfl⟩, ⟨loop_of (cx := C_spec_l20Arc) (L := S_spec_l20Arc_L15 fuel) rfl (by rw [R_spec_l20Arc_L15]; rfl) ⟨spec_l20Arc_L15, fun _ => rfl, fun n x => K_spec_l20Arc_L15 n x, fuel, fun _ => rfl⟩, trivial⟩⟩⟩⟩) (enc := N_spec_l20Arc) (fun _ _ => ⟨rfl, rfl⟩) F_spec_l20Arc

theorem K_spec_FoldedSolution_L12 (n : Nat) (x : (Int × Int × (List ((List Int) × Int × (List (List Int))))) × (Int × (List Int)) × (List (List Int)) × (List Int) × Int × Int × Int) : spec_FoldedSolution_L12 (n + 1) x = roundK C_spec_FoldedSolution B_spec_FoldedSolution_L12 (S_spec_FoldedSolution_L12 fuel) x (spec_FoldedSolution_L12 n) := by
  obtain ⟨t2, t3, t6, t8, t9, t10, t11⟩ := x
  kernel_rfl
theorem K_spec_FoldedSolution_L6 (n : Nat) (x : (Int × Int × (List ((List Int) × Int × (List (List Int))))) × (Int × (List Int)) × (List (List Int)) × (List Int) × Int) : spec_FoldedSolution_L6 (n + 1) x = roundK C_spec_FoldedSolution B_spec_FoldedSolution_L6 (S_spec_FoldedSolution_L6 fuel) x (spec_FoldedSolution_L6 n) := by
  obtain ⟨t2, t3, t6, t8, t9⟩ := x
  kernel_rfl
theorem F_spec_FoldedSolution (a : dens E_spec_FoldedSolution.params) : E_spec_FoldedSolution.run a = funK C_spec_FoldedSolution Try.f16 E_spec_FoldedSolution.params E_spec_FoldedSolution.results a (fun o r => some (N_spec_FoldedSolution o r)) := by
  kernel_rfl
theorem W_spec_FoldedSolution : loopsOf D_spec_FoldedSolution = [B_spec_FoldedSolution_L6, B_spec_FoldedSolution_L12] := by kernel_rfl
theorem R_spec_FoldedSolution_L12 : firstReg B_spec_FoldedSolution_L12 = 12 := by kernel_rfl
theorem R_spec_FoldedSolution_L6 : firstReg B_spec_FoldedSolution_L6 = 6 := by kernel_rfl
theorem Q_spec_FoldedSolution : Try.prog.funcs[16]? = some Try.f16 ∧ (Try.f16.name == "runtime.NumGoroutine") = false ∧ Try.f16.body = some D_spec_FoldedSolution := ⟨Try.func16, by kernel_rfl, by kernel_rfl⟩
theorem H_spec_FoldedSolution : Holds Try.prog 16 E_spec_FoldedSolution :=
  holds_of (cx := C_spec_FoldedSolution) (tabOk_ok tabT rfl).1 (allT_ok ⟨⟨H_spec_l19Good, _, _, Q_spec_l19Good⟩, ⟨⟨H_spec_l20Full, _, _, Q_spec_l20Full⟩, ⟨⟨H_spec_l20Arc, _, _, Q_spec_l20Arc⟩, ⟨⟨H_spec_l2Op, _, _, Q_spec_l2Op⟩, trivial⟩⟩⟩⟩) mixT Q_spec_FoldedSolution.1 Q_spec_FoldedSolution.2.2 (loops_of W_spec_FoldedSolution ⟨loop_of (cx := C_spec_FoldedSolution) (L := S_spec_FoldedSolution_L6 fuel) rfl (by rw [R_spec_FoldedSolution_L6]; rfl) ⟨spec_FoldedSolution_L6, fun _ => rfl, fun n x => K_spec_FoldedSolution_L6 n x, fuel, fun _ => rfl⟩, ⟨loop_of (cx := C_spec_FoldedSolution) (L := S_spec_FoldedSolution_L12 fuel) rfl (by rw [R_spec_FoldedSolution_L12]; rfl) ⟨spec_FoldedSolution_L12, fun _ => rfl, fun n x => K_spec_FoldedSolution_L12 n x, fuel, fun _ => rfl⟩, trivial⟩⟩) (enc := N_spec_FoldedSolution) (fun _ _ => ⟨rfl, rfl⟩) F_spec_FoldedSolution

theorem F_impl_isTemplateSize (a : dens E_impl_isTemplateSize.params) : E_impl_isTemplateSize.run a = funK C_impl_isTemplateSize Try.f54 E_impl_isTemplateSize.params E_impl_isTemplateSize.results a (fun o r => some (N_impl_isTemplateSize o r)) := by
  kernel_rfl
theorem W_impl_isTemplateSize : loopsOf D_impl_isTemplateSize = [] := by kernel_rfl
theorem Q_impl_isTemplateSize : Try.prog.funcs[54]? = some Try.f54 ∧ (Try.f54.name == "runtime.NumGoroutine") = false ∧ Try.f54.body = some D_impl_isTemplateSize := ⟨Try.func54, by kernel_rfl, by kernel_rfl⟩
theorem H_impl_isTemplateSize : Holds Try.prog 54 E_impl_isTemplateSize :=
  holds_of (cx := C_impl_isTemplateSize) (tabOk_ok tabT rfl).1 (allT_ok trivial) mixT Q_impl_isTemplateSize.1 Q_impl_isTemplateSize.2.2 (loops_of W_impl_isTemplateSize trivial) (enc := N_impl_isTemplateSize) (fun _ _ => ⟨rfl, rfl⟩) F_impl_isTemplateSize

theorem K_impl_inSize_L2 (n : Nat) (x : Int × (List Int) × Int × Int) : impl_inSize_L2 (n + 1) x = roundK C_impl_inSize B_impl_inSize_L2 (S_impl_inSize_L2 fuel) x (impl_inSize_L2 n) := by
  obtain ⟨n_, t7, t8, t9⟩ := x
  kernel_rfl
theorem F_impl_inSize (a : dens E_impl_inSize.params) : E_impl_inSize.run a = funK C_impl_inSize Try.f61 E_impl_inSize.params E_impl_inSize.results a (fun o r => some (N_impl_inSize o r)) := by
  kernel_rfl
theorem W_impl_inSize : loopsOf D_impl_inSize = [B_impl_inSize_L2] := by kernel_rfl
theorem R_impl_inSize_L2 : firstReg B_impl_inSize_L2 = 2 := by kernel_rfl
theorem Q_impl_inSize : Try.prog.funcs[61]? = some Try.f61 ∧ (Try.f61.name == "runtime.NumGoroutine") = false ∧ Try.f61.body = some D_impl_inSize := ⟨Try.func61, by kernel_rfl, by kernel_rfl⟩
theorem H_impl_inSize : Holds Try.prog 61 E_impl_inSize :=
  holds_of (cx := C_impl_inSize) (tabOk_ok tabT rfl).1 (allT_ok trivial) mixT Q_impl_inSize.1 Q_impl_inSize.2.2 (loops_of W_impl_inSize ⟨loop_of (cx := C_impl_inSize) (L := S_impl_inSize_L2 fuel) rfl (by rw [R_impl_inSize_L2]; rfl) ⟨impl_inSize_L2, fun _ => rfl, fun n x => K_impl_inSize_L2 n x, fuel, fun _ => rfl⟩, trivial⟩) (enc := N_impl_inSize) (fun _ _ => ⟨rfl, rfl⟩) F_impl_inSize

theorem K_impl_compareLists_L2 (n : Nat) (x : (List Int) × (List Int) × Int) : impl_compareLists_L2 (n + 1) x = roundK C_impl_compareLists B_impl_compareLists_L2 (S_impl_compareLists_L2 fuel) x (impl_compareLists_L2 n) := by
  obtain ⟨s, t, i⟩ := x
  kernel_rfl
theorem F_impl_compareLists (a : dens E_impl_compareLists.params) : E_impl_compareLists.run a = funK C_impl_compareLists Try.f78 E_impl_compareLists.params E_impl_compareLists.results a (fun o r => some (N_impl_compareLists o r)) := by
  kernel_rfl
theorem W_impl_compareLists : loopsOf D_impl_compareLists = [B_impl_compareLists_L2] := by kernel_rfl
theorem R_impl_compareLists_L2 : firstReg B_impl_compareLists_L2 = 2 := by kernel_rfl
theorem Q_impl_compareLists : Try.prog.funcs[78]? = some Try.f78 ∧ (Try.f78.name == "runtime.NumGoroutine") = false ∧ Try.f78.body = some D_impl_compareLists := ⟨Try.func78, by kernel_rfl, by kernel_rfl⟩
theorem H_impl_compareLists : Holds Try.prog 78 E_impl_compareLists :=
  holds_of (cx := C_impl_compareLists) (tabOk_ok tabT rfl).1 (allT_ok trivial) mixT Q_impl_compareLists.1 Q_impl_compareLists.2.2 (loops_of W_impl_compareLists ⟨loop_of (cx := C_impl_compareLists) (L := S_impl_compareLists_L2 fuel) rfl (by rw [R_impl_compareLists_L2]; rfl) ⟨impl_compareLists_L2, fun _ => rfl, fun n x => K_impl_compareLists_L2 n x, fuel, fun _ => rfl⟩, trivial⟩) (enc := N_impl_compareLists) (fun _ _ => ⟨rfl, rfl⟩) F_impl_compareLists

theorem K_impl_isRelation_L4 (n : Nat) (x : Int × (Int × (List (List Int))) × (List (List Int)) × Int × Int) : impl_isRelation_L4 (n + 1) x = roundK C_impl_isRelation B_impl_isRelation_L4 (S_impl_isRelation_L4 fuel) x (impl_isRelation_L4 n) := by
  obtain ⟨n_, r, t16, t17, t18⟩ := x
  kernel_rfl
theorem F_impl_isRelation (a : dens E_impl_isRelation.params) : E_impl_isRelation.run a = funK C_impl_isRelation Try.f70 E_impl_isRelation.params E_impl_isRelation.results a (fun o r => some (N_impl_isRelation o r)) := by
  kernel_rfl
theorem W_impl_isRelation : loopsOf D_impl_isRelation = [B_impl_isRelation_L4] := by kernel_rfl
theorem R_impl_isRelation_L4 : firstReg B_impl_isRelation_L4 = 4 := by kernel_rfl
theorem Q_impl_isRelation : Try.prog.funcs[70]? = some Try.f70 ∧ (Try.f70.name == "runtime.NumGoroutine") = false ∧ Try.f70.body = some D_impl_isRelation := ⟨Try.func70, by kernel_rfl, by kernel_rfl⟩
theorem H_impl_isRelation : Holds Try.prog 70 E_impl_isRelation :=
  holds_of (cx := C_impl_isRelation) (tabOk_ok tabT rfl).1 (allT_ok ⟨⟨H_impl_inSize, _, _, Q_impl_inSize⟩, ⟨⟨H_impl_compareLists, _, _, Q_impl_compareLists⟩, trivial⟩⟩) mixT Q_impl_isRelation.1 Q_impl_isRelation.2.2 (loops_of W_impl_isRelation ⟨loop_of (cx := C_impl_isRelation) (L := S_impl_isRelation_L4 fuel) rfl (by rw [R_impl_isRelation_L4]; rfl) ⟨impl_isRelation_L4, fun _ => rfl, fun n x => K_impl_isRelation_L4 n x, fuel, fun _ => rfl⟩, trivial⟩) (enc := N_impl_isRelation) (fun _ _ => ⟨rfl, rfl⟩) F_impl_isRelation

theorem F_impl_isConstraint (a : dens E_impl_isConstraint.params) : E_impl_isConstraint.run a = funK C_impl_isConstraint Try.f55 E_impl_isConstraint.params E_impl_isConstraint.results a (fun o r => some (N_impl_isConstraint o r)) := by
  kernel_rfl
theorem W_impl_isConstraint : loopsOf D_impl_isConstraint = [] := by kernel_rfl
theorem Q_impl_isConstraint : Try.prog.funcs[55]? = some Try.f55 ∧ (Try.f55.name == "runtime.NumGoroutine") = false ∧ Try.f55.body = some D_impl_isConstraint := ⟨Try.func55, by kernel_rfl, by kernel_rfl⟩
theorem H_impl_isConstraint : Holds Try.prog 55 E_impl_isConstraint :=
  holds_of (cx := C_impl_isConstraint) (tabOk_ok tabT rfl).1 (allT_ok ⟨⟨H_impl_inSize, _, _, Q_impl_inSize⟩, ⟨⟨H_impl_isRelation, _, _, Q_impl_isRelation⟩, trivial⟩⟩) mixT Q_impl_isConstraint.1 Q_impl_isConstraint.2.2 (loops_of W_impl_isConstraint trivial) (enc := N_impl_isConstraint) (fun _ _ => ⟨rfl, rfl⟩) F_impl_isConstraint

theorem K_impl_IsNetwork_L4 (n : Nat) (x : (Int × Int × (List ((List Int) × Int × (List (List Int))))) × (List ((List Int) × Int × (List (List Int)))) × Int × Int) : impl_IsNetwork_L4 (n + 1) x = roundK C_impl_IsNetwork B_impl_IsNetwork_L4 (S_impl_IsNetwork_L4 fuel) x (impl_IsNetwork_L4 n) := by
  obtain ⟨net, t26, t27, t28⟩ := x
  kernel_rfl
theorem F_impl_IsNetwork (a : dens E_impl_IsNetwork.params) : E_impl_IsNetwork.run a = funK C_impl_IsNetwork Try.f33 E_impl_IsNetwork.params E_impl_IsNetwork.results a (fun o r => some (N_impl_IsNetwork o r)) := by
  kernel_rfl
theorem W_impl_IsNetwork : loopsOf D_impl_IsNetwork = [B_impl_IsNetwork_L4] := by kernel_rfl
theorem R_impl_IsNetwork_L4 : firstReg B_impl_IsNetwork_L4 = 4 := by kernel_rfl
theorem Q_impl_IsNetwork : Try.prog.funcs[33]? = some Try.f33 ∧ (Try.f33.name == "runtime.NumGoroutine") = false ∧ Try.f33.body = some D_impl_IsNetwork := ⟨Try.func33, by kernel_rfl, by kernel_rfl⟩
theorem H_impl_IsNetwork : Holds Try.prog 33 E_impl_IsNetwork :=
  holds_of (cx := C_impl_IsNetwork) (tabOk_ok tabT rfl).1 (allT_ok ⟨⟨H_impl_isTemplateSize, _, _, Q_impl_isTemplateSize⟩, ⟨⟨H_impl_isConstraint, _, _, Q_impl_isConstraint⟩, trivial⟩⟩) mixT Q_impl_IsNetwork.1 Q_impl_IsNetwork.2.2 (loops_of W_impl_IsNetwork ⟨loop_of (cx := C_impl_IsNetwork) (L := S_impl_IsNetwork_L4 fuel) rfl (by rw [R_impl_IsNetwork_L4]; rfl) ⟨impl_IsNetwork_L4, fun _ => rfl, fun n x => K_impl_IsNetwork_L4 n x, fuel, fun _ => rfl⟩, trivial⟩) (enc := N_impl_IsNetwork) (fun _ _ => ⟨rfl, rfl⟩) F_impl_IsNetwork

theorem K_impl_power_L2 (n : Nat) (x : Int × Int × Int) : impl_power_L2 (n + 1) x = roundK C_impl_power B_impl_power_L2 (S_impl_power_L2 fuel) x (impl_power_L2 n) := by
  obtain ⟨n_, k, p⟩ := x
  kernel_rfl
theorem F_impl_power (a : dens E_impl_power.params) : E_impl_power.run a = funK C_impl_power Try.f60 E_impl_power.params E_impl_power.results a (fun o r => some (N_impl_power o r)) := by
  kernel_rfl
theorem W_impl_power : loopsOf D_impl_power = [B_impl_power_L2] := by kernel_rfl
theorem R_impl_power_L2 : firstReg B_impl_power_L2 = 2 := by kernel_rfl
theorem Q_impl_power : Try.prog.funcs[60]? = some Try.f60 ∧ (Try.f60.name == "runtime.NumGoroutine") = false ∧ Try.f60.body = some D_impl_power := ⟨Try.func60, by kernel_rfl, by kernel_rfl⟩
theorem H_impl_power : Holds Try.prog 60 E_impl_power :=
  holds_of (cx := C_impl_power) (tabOk_ok tabT rfl).1 (allT_ok trivial) mixT Q_impl_power.1 Q_impl_power.2.2 (loops_of W_impl_power ⟨loop_of (cx := C_impl_power) (L := S_impl_power_L2 fuel) rfl (by rw [R_impl_power_L2]; rfl) ⟨impl_power_L2, fun _ => rfl, fun n x => K_impl_power_L2 n x, fuel, fun _ => rfl⟩, trivial⟩) (enc := N_impl_power) (fun _ _ => ⟨rfl, rfl⟩) F_impl_power

theorem F_impl_isOp (a : dens E_impl_isOp.params) : E_impl_isOp.run a = funK C_impl_isOp Try.f43 E_impl_isOp.params E_impl_isOp.results a (fun o r => some (N_impl_isOp o r)) := by
  kernel_rfl
theorem W_impl_isOp : loopsOf D_impl_isOp = [] := by kernel_rfl
theorem Q_impl_isOp : Try.prog.funcs[43]? = some Try.f43 ∧ (Try.f43.name == "runtime.NumGoroutine") = false ∧ Try.f43.body = some D_impl_isOp := ⟨Try.func43, by kernel_rfl, by kernel_rfl⟩
theorem H_impl_isOp : Holds Try.prog 43 E_impl_isOp :=
  holds_of (cx := C_impl_isOp) (tabOk_ok tabT rfl).1 (allT_ok ⟨⟨H_impl_power, _, _, Q_impl_power⟩, ⟨⟨H_impl_inSize, _, _, Q_impl_inSize⟩, trivial⟩⟩) mixT Q_impl_isOp.1 Q_impl_isOp.2.2 (loops_of W_impl_isOp trivial) (enc := N_impl_isOp) (fun _ _ => ⟨rfl, rfl⟩) F_impl_isOp

theorem K_impl_wholeDomains_L7 (n : Nat) (x : (Int × Int × (List ((List Int) × Int × (List (List Int))))) × (List (List Bool)) × Int × Int × Int × Int × Int) : impl_wholeDomains_L7 (n + 1) x = roundK C_impl_wholeDomains B_impl_wholeDomains_L7 (S_impl_wholeDomains_L7 fuel) x (impl_wholeDomains_L7 n) := by
  obtain ⟨net, d, v, t10, t11, t24, t25⟩ := x
  kernel_rfl
theorem K_impl_wholeDomains_L3 (n : Nat) (x : (Int × Int × (List ((List Int) × Int × (List (List Int))))) × (List (List Bool)) × Int × Int) : impl_wholeDomains_L3 (n + 1) x = roundK C_impl_wholeDomains B_impl_wholeDomains_L3 (S_impl_wholeDomains_L3 fuel) x (impl_wholeDomains_L3 n) := by
  obtain ⟨net, d, t10, t11⟩ := x
  kernel_rfl
theorem F_impl_wholeDomains (a : dens E_impl_wholeDomains.params) : E_impl_wholeDomains.run a = funK C_impl_wholeDomains Try.f34 E_impl_wholeDomains.params E_impl_wholeDomains.results a (fun o r => some (N_impl_wholeDomains o r)) := by
  kernel_rfl
theorem W_impl_wholeDomains : loopsOf D_impl_wholeDomains = [B_impl_wholeDomains_L3, B_impl_wholeDomains_L7] := by kernel_rfl
theorem R_impl_wholeDomains_L7 : firstReg B_impl_wholeDomains_L7 = 7 := by kernel_rfl
theorem R_impl_wholeDomains_L3 : firstReg B_impl_wholeDomains_L3 = 3 := by kernel_rfl
theorem Q_impl_wholeDomains : Try.prog.funcs[34]? = some Try.f34 ∧ (Try.f34.name == "runtime.NumGoroutine") = false ∧ Try.f34.body = some D_impl_wholeDomains := ⟨Try.func34, by kernel_rfl, by kernel_rfl⟩
theorem H_impl_wholeDomains : Holds Try.prog 34 E_impl_wholeDomains :=
  holds_of (cx := C_impl_wholeDomains) (tabOk_ok tabT rfl).1 (allT_ok trivial) mixT Q_impl_wholeDomains.1 Q_impl_wholeDomains.2.2 (loops_of W_impl_wholeDomains ⟨loop_of (cx := C_impl_wholeDomains) (L := S_impl_wholeDomains_L3 fuel) rfl (by rw [R_impl_wholeDomains_L3]; rfl) ⟨impl_wholeDomains_L3, fun _ => rfl, fun n x => K_impl_wholeDomains_L3 n x, fuel, fun _ => rfl⟩, ⟨loop_of (cx := C_impl_wholeDomains) (L := S_impl_wholeDomains_L7 fuel) rfl (by rw [R_impl_wholeDomains_L7]; rfl) ⟨impl_wholeDomains_L7, fun _ => rfl, fun n x => K_impl_wholeDomains_L7 n x, fuel, fun _ => rfl⟩, trivial⟩⟩) (enc := N_impl_wholeDomains) (fun _ _ => ⟨rfl, rfl⟩) F_impl_wholeDomains

theorem K_impl_agrees_L5 (n : Nat) (x : (List Int) × (List Int) × Int × Int × (List Int) × Int × Int × (List Int) × Int × Int) : impl_agrees_L5 (n + 1) x = roundK C_impl_agrees B_impl_agrees_L5 (S_impl_agrees_L5 fuel) x (impl_agrees_L5 n) := by
  obtain ⟨scope, t, i, v, t9, t10, t11, t18, t19, t20⟩ := x
  kernel_rfl
theorem K_impl_agrees_L2 (n : Nat) (x : (List Int) × (List Int) × (List Int) × Int × Int) : impl_agrees_L2 (n + 1) x = roundK C_impl_agrees B_impl_agrees_L2 (S_impl_agrees_L2 fuel) x (impl_agrees_L2 n) := by
  obtain ⟨scope, t, t9, t10, t11⟩ := x
  kernel_rfl
theorem F_impl_agrees (a : dens E_impl_agrees.params) : E_impl_agrees.run a = funK C_impl_agrees Try.f71 E_impl_agrees.params E_impl_agrees.results a (fun o r => some (N_impl_agrees o r)) := by
  kernel_rfl
theorem W_impl_agrees : loopsOf D_impl_agrees = [B_impl_agrees_L2, B_impl_agrees_L5] := by kernel_rfl
theorem R_impl_agrees_L5 : firstReg B_impl_agrees_L5 = 5 := by kernel_rfl
theorem R_impl_agrees_L2 : firstReg B_impl_agrees_L2 = 2 := by kernel_rfl
theorem Q_impl_agrees : Try.prog.funcs[71]? = some Try.f71 ∧ (Try.f71.name == "runtime.NumGoroutine") = false ∧ Try.f71.body = some D_impl_agrees := ⟨Try.func71, by kernel_rfl, by kernel_rfl⟩
theorem H_impl_agrees : Holds Try.prog 71 E_impl_agrees :=
  holds_of (cx := C_impl_agrees) (tabOk_ok tabT rfl).1 (allT_ok trivial) mixT Q_impl_agrees.1 Q_impl_agrees.2.2 (loops_of W_impl_agrees ⟨loop_of (cx := C_impl_agrees) (L := S_impl_agrees_L2 fuel) rfl (by rw [R_impl_agrees_L2]; rfl) ⟨impl_agrees_L2, fun _ => rfl, fun n x => K_impl_agrees_L2 n x, fuel, fun _ => rfl⟩, ⟨loop_of (cx := C_impl_agrees) (L := S_impl_agrees_L5 fuel) rfl (by rw [R_impl_agrees_L5]; rfl) ⟨impl_agrees_L5, fun _ => rfl, fun n x => K_impl_agrees_L5 n x, fuel, fun _ => rfl⟩, trivial⟩⟩) (enc := N_impl_agrees) (fun _ _ => ⟨rfl, rfl⟩) F_impl_agrees

theorem K_impl_domains_supports_L7 (n : Nat) (x : (List (List Bool)) × Int × Int × ((List Int) × Int × (List (List Int))) × Bool × (List (List Int)) × Int × Int × (List Int) × Int × Int) : impl_domains_supports_L7 (n + 1) x = roundK C_impl_domains_supports B_impl_domains_supports_L7 (S_impl_domains_supports_L7 fuel) x (impl_domains_supports_L7 n) := by
  obtain ⟨d, place, value, c, in_, t16, t17, t18, t35, t36, t37⟩ := x
  kernel_rfl
theorem K_impl_domains_supports_L2 (n : Nat) (x : (List (List Bool)) × Int × Int × ((List Int) × Int × (List (List Int))) × (List (List Int)) × Int × Int) : impl_domains_supports_L2 (n + 1) x = roundK C_impl_domains_supports B_impl_domains_supports_L2 (S_impl_domains_supports_L2 fuel) x (impl_domains_supports_L2 n) := by
  obtain ⟨d, place, value, c, t16, t17, t18⟩ := x
  kernel_rfl
theorem F_impl_domains_supports (a : dens E_impl_domains_supports.params) : E_impl_domains_supports.run a = funK C_impl_domains_supports Try.f56 E_impl_domains_supports.params E_impl_domains_supports.results a (fun o r => some (N_impl_domains_supports o r)) := by
  kernel_rfl
theorem W_impl_domains_supports : loopsOf D_impl_domains_supports = [B_impl_domains_supports_L2, B_impl_domains_supports_L7] := by kernel_rfl
theorem R_impl_domains_supports_L7 : firstReg B_impl_domains_supports_L7 = 7 := by kernel_rfl
theorem R_impl_domains_supports_L2 : firstReg B_impl_domains_supports_L2 = 2 := by kernel_rfl
theorem Q_impl_domains_supports : Try.prog.funcs[56]? = some Try.f56 ∧ (Try.f56.name == "runtime.NumGoroutine") = false ∧ Try.f56.body = some D_impl_domains_supports := ⟨Try.func56, by kernel_rfl, by kernel_rfl⟩
theorem H_impl_domains_supports : Holds Try.prog 56 E_impl_domains_supports :=
  holds_of (cx := C_impl_domains_supports) (tabOk_ok tabT rfl).1 (allT_ok ⟨⟨H_impl_agrees, _, _, Q_impl_agrees⟩, trivial⟩) mixT Q_impl_domains_supports.1 Q_impl_domains_supports.2.2 (loops_of W_impl_domains_supports ⟨loop_of (cx := C_impl_domains_supports) (L := S_impl_domains_supports_L2 fuel) rfl (by rw [R_impl_domains_supports_L2]; rfl) ⟨impl_domains_supports_L2, fun _ => rfl, fun n x => K_impl_domains_supports_L2 n x, fuel, fun _ => rfl⟩, ⟨loop_of (cx := C_impl_domains_supports) (L := S_impl_domains_supports_L7 fuel) rfl (by rw [R_impl_domains_supports_L7]; rfl) ⟨impl_domains_supports_L7, fun _ => rfl, fun n x => K_impl_domains_supports_L7 n x, fuel, fun _ => rfl⟩, trivial⟩⟩) (enc := N_impl_domains_supports) (fun _ _ => ⟨rfl, rfl⟩) F_impl_domains_supports

theorem K_impl_domains_reduce_L12 (n : Nat) (x : (List (List Bool)) × (Int × Int × (List ((List Int) × Int × (List (List Int))))) × (List (Int × Int × Int)) × Bool × Int × ((List Int) × Int × (List (List Int))) × Int × Int × (List ((List Int) × Int × (List (List Int)))) × Int × Int × (List Int) × Int × Int × Int × Int) : impl_domains_reduce_L12 (n + 1) x = roundK C_impl_domains_reduce B_impl_domains_reduce_L12 (S_impl_domains_reduce_L12 fuel) x (impl_domains_reduce_L12 n) := by
  obtain ⟨t0, t3, t5, t6, t7, t8, t9, t10, t15, t16, t17, t23, t24, t25, t34, t35⟩ := x
  kernel_rfl
theorem K_impl_domains_reduce_L9 (n : Nat) (x : (List (List Bool)) × (Int × Int × (List ((List Int) × Int × (List (List Int))))) × (List (Int × Int × Int)) × Bool × Int × ((List Int) × Int × (List (List Int))) × (List ((List Int) × Int × (List (List Int)))) × Int × Int × (List Int) × Int × Int) : impl_domains_reduce_L9 (n + 1) x = roundK C_impl_domains_reduce B_impl_domains_reduce_L9 (S_impl_domains_reduce_L9 fuel) x (impl_domains_reduce_L9 n) := by
  obtain ⟨t0, t3, t5, t6, t7, t8, t15, t16, t17, t23, t24, t25⟩ := x
  kernel_rfl
theorem K_impl_domains_reduce_L6 (n : Nat) (x : (List (List Bool)) × (Int × Int × (List ((List Int) × Int × (List (List Int))))) × (List (Int × Int × Int)) × Bool × (List ((List Int) × Int × (List (List Int)))) × Int × Int) : impl_domains_reduce_L6 (n + 1) x = roundK C_impl_domains_reduce B_impl_domains_reduce_L6 (S_impl_domains_reduce_L6 fuel) x (impl_domains_reduce_L6 n) := by
  obtain ⟨t0, t3, t5, t6, t15, t16, t17⟩ := x
  kernel_rfl
theorem K_impl_domains_reduce_L3 (n : Nat) (x : (List (List Bool)) × (Int × Int × (List ((List Int) × Int × (List (List Int))))) × (List (Int × Int × Int)) × Bool) : impl_domains_reduce_L3 (n + 1) x = roundK C_impl_domains_reduce B_impl_domains_reduce_L3 (S_impl_domains_reduce_L3 fuel) x (impl_domains_reduce_L3 n) := by
  obtain ⟨t0, t3, t5, t6⟩ := x
  kernel_rfl
theorem F_impl_domains_reduce (a : dens E_impl_domains_reduce.params) : E_impl_domains_reduce.run a = funK C_impl_domains_reduce Try.f36 E_impl_domains_reduce.params E_impl_domains_reduce.results a (fun o r => some (N_impl_domains_reduce o r)) := by
  kernel_rfl
theorem W_impl_domains_reduce : loopsOf D_impl_domains_reduce = [B_impl_domains_reduce_L3, B_impl_domains_reduce_L6, B_impl_domains_reduce_L9, B_impl_domains_reduce_L12] := by kernel_rfl
theorem R_impl_domains_reduce_L12 : firstReg B_impl_domains_reduce_L12 = 12 := by kernel_rfl
theorem R_impl_domains_reduce_L9 : firstReg B_impl_domains_reduce_L9 = 9 := by kernel_rfl
theorem R_impl_domains_reduce_L6 : firstReg B_impl_domains_reduce_L6 = 6 := by kernel_rfl
theorem R_impl_domains_reduce_L3 : firstReg B_impl_domains_reduce_L3 = 3 := by kernel_rfl
theorem Q_impl_domains_reduce : Try.prog.funcs[36]? = some Try.f36 ∧ (Try.f36.name == "runtime.NumGoroutine") = false ∧ Try.f36.body = some D_impl_domains_reduce := ⟨Try.func36, by kernel_rfl, by kernel_rfl⟩
theorem H_impl_domains_reduce : Holds Try.prog 36 E_impl_domains_reduce :=
  holds_of (cx := C_impl_domains_reduce) (tabOk_ok tabT rfl).1 (allT_ok ⟨⟨H_impl_domains_supports, _, _, Q_impl_domains_supports⟩, trivial⟩) mixT Q_impl_domains_reduce.1 Q_impl_domains_reduce.2.2 (loops_of W_impl_domains_reduce ⟨loop_of (cx := C_impl_domains_reduce) (L := S_impl_domains_reduce_L3 fuel) rfl (by rw [R_impl_domains_reduce_L3]; rfl) ⟨impl_domains_reduce_L3, fun _ => rfl, fun n x => K_impl_domains_reduce_L3 n x, fuel, fun _ => rfl⟩, ⟨loop_of (cx := C_impl_domains_reduce) (L := S_impl_domains_reduce_L6 fuel) rfl (by rw [R_impl_domains_reduce_L6]; rfl) ⟨impl_domains_reduce_L6, fun _ => rfl, fun n x => K_impl_domains_reduce_L6 n x, fuel, fun _ => rfl⟩, ⟨loop_of (cx := C_impl_domains_reduce) (L := S_impl_domains_reduce_L9 fuel) rfl (by rw [R_impl_domains_reduce_L9]; rfl) ⟨impl_domains_reduce_L9, fun _ => rfl, fun n x => K_impl_domains_reduce_L9 n x, fuel, fun _ => rfl⟩, ⟨loop_of (cx := C_impl_domains_reduce) (L := S_impl_domains_reduce_L12 fuel) rfl (by rw [R_impl_domains_reduce_L12]; rfl) ⟨impl_domains_reduce_L12, fun _ => rfl, fun n x => K_impl_domains_reduce_L12 n x, fuel, fun _ => rfl⟩, trivial⟩⟩⟩⟩) (enc := N_impl_domains_reduce) (fun _ _ => ⟨rfl, rfl⟩) F_impl_domains_reduce

theorem F_impl_arcDomains (a : dens E_impl_arcDomains.params) : E_impl_arcDomains.run a = funK C_impl_arcDomains Try.f44 E_impl_arcDomains.params E_impl_arcDomains.results a (fun o r => some (N_impl_arcDomains o r)) := by
  kernel_rfl
theorem W_impl_arcDomains : loopsOf D_impl_arcDomains = [] := by kernel_rfl
theorem Q_impl_arcDomains : Try.prog.funcs[44]? = some Try.f44 ∧ (Try.f44.name == "runtime.NumGoroutine") = false ∧ Try.f44.body = some D_impl_arcDomains := ⟨Try.func44, by kernel_rfl, by kernel_rfl⟩
theorem H_impl_arcDomains : Holds Try.prog 44 E_impl_arcDomains :=
  holds_of (cx := C_impl_arcDomains) (tabOk_ok tabT rfl).1 (allT_ok ⟨⟨H_impl_wholeDomains, _, _, Q_impl_wholeDomains⟩, ⟨⟨H_impl_domains_reduce, _, _, Q_impl_domains_reduce⟩, trivial⟩⟩) mixT Q_impl_arcDomains.1 Q_impl_arcDomains.2.2 (loops_of W_impl_arcDomains trivial) (enc := N_impl_arcDomains) (fun _ _ => ⟨rfl, rfl⟩) F_impl_arcDomains

theorem K_impl_marked_L3 (n : Nat) (x : (List Int) × (List Bool) × Int × Int) : impl_marked_L3 (n + 1) x = roundK C_impl_marked B_impl_marked_L3 (S_impl_marked_L3 fuel) x (impl_marked_L3 n) := by
  obtain ⟨list, t7, t8, t9⟩ := x
  kernel_rfl
theorem F_impl_marked (a : dens E_impl_marked.params) : E_impl_marked.run a = funK C_impl_marked Try.f57 E_impl_marked.params E_impl_marked.results a (fun o r => some (N_impl_marked o r)) := by
  kernel_rfl
theorem W_impl_marked : loopsOf D_impl_marked = [B_impl_marked_L3] := by kernel_rfl
theorem R_impl_marked_L3 : firstReg B_impl_marked_L3 = 3 := by kernel_rfl
theorem Q_impl_marked : Try.prog.funcs[57]? = some Try.f57 ∧ (Try.f57.name == "runtime.NumGoroutine") = false ∧ Try.f57.body = some D_impl_marked := ⟨Try.func57, by kernel_rfl, by kernel_rfl⟩
theorem H_impl_marked : Holds Try.prog 57 E_impl_marked :=
  holds_of (cx := C_impl_marked) (tabOk_ok tabT rfl).1 (allT_ok trivial) mixT Q_impl_marked.1 Q_impl_marked.2.2 (loops_of W_impl_marked ⟨loop_of (cx := C_impl_marked) (L := S_impl_marked_L3 fuel) rfl (by rw [R_impl_marked_L3]; rfl) ⟨impl_marked_L3, fun _ => rfl, fun n x => K_impl_marked_L3 n x, fuel, fun _ => rfl⟩, trivial⟩) (enc := N_impl_marked) (fun _ _ => ⟨rfl, rfl⟩) F_impl_marked

theorem K_impl_domains_lists_L3 (n : Nat) (x : (List (List Int)) × (List (List Bool)) × Int × Int) : impl_domains_lists_L3 (n + 1) x = roundK C_impl_domains_lists B_impl_domains_lists_L3 (S_impl_domains_lists_L3 fuel) x (impl_domains_lists_L3 n) := by
  obtain ⟨list, t7, t8, t9⟩ := x
  kernel_rfl
theorem F_impl_domains_lists (a : dens E_impl_domains_lists.params) : E_impl_domains_lists.run a = funK C_impl_domains_lists Try.f37 E_impl_domains_lists.params E_impl_domains_lists.results a (fun o r => some (N_impl_domains_lists o r)) := by
  kernel_rfl
theorem W_impl_domains_lists : loopsOf D_impl_domains_lists = [B_impl_domains_lists_L3] := by kernel_rfl
theorem R_impl_domains_lists_L3 : firstReg B_impl_domains_lists_L3 = 3 := by kernel_rfl
theorem Q_impl_domains_lists : Try.prog.funcs[37]? = some Try.f37 ∧ (Try.f37.name == "runtime.NumGoroutine") = false ∧ Try.f37.body = some D_impl_domains_lists := ⟨Try.func37, by kernel_rfl, by kernel_rfl⟩
theorem H_impl_domains_lists : Holds Try.prog 37 E_impl_domains_lists :=
  holds_of (cx := C_impl_domains_lists) (tabOk_ok tabT rfl).1 (allT_ok ⟨⟨H_impl_marked, _, _, Q_impl_marked⟩, trivial⟩) mixT Q_impl_domains_lists.1 Q_impl_domains_lists.2.2 (loops_of W_impl_domains_lists ⟨loop_of (cx := C_impl_domains_lists) (L := S_impl_domains_lists_L3 fuel) rfl (by rw [R_impl_domains_lists_L3]; rfl) ⟨impl_domains_lists_L3, fun _ => rfl, fun n x => K_impl_domains_lists_L3 n x, fuel, fun _ => rfl⟩, trivial⟩) (enc := N_impl_domains_lists) (fun _ _ => ⟨rfl, rfl⟩) F_impl_domains_lists

theorem K_impl_FoldedSolution_L11 (n : Nat) (x : (Int × Int × (List ((List Int) × Int × (List (List Int))))) × (Int × (List Int)) × (List Int) × Int × (List (List Int)) × Int × Int × (List Int) × Int × Int) : impl_FoldedSolution_L11 (n + 1) x = roundK C_impl_FoldedSolution B_impl_FoldedSolution_L11 (S_impl_FoldedSolution_L11 fuel) x (impl_FoldedSolution_L11 n) := by
  obtain ⟨t2, t3, t6, t9, t31, t32, t33, t45, t46, t47⟩ := x
  kernel_rfl
theorem K_impl_FoldedSolution_L5 (n : Nat) (x : (Int × Int × (List ((List Int) × Int × (List (List Int))))) × (Int × (List Int)) × (List Int) × (List (List Int)) × Int × Int) : impl_FoldedSolution_L5 (n + 1) x = roundK C_impl_FoldedSolution B_impl_FoldedSolution_L5 (S_impl_FoldedSolution_L5 fuel) x (impl_FoldedSolution_L5 n) := by
  obtain ⟨t2, t3, t6, t31, t32, t33⟩ := x
  kernel_rfl
theorem F_impl_FoldedSolution (a : dens E_impl_FoldedSolution.params) : E_impl_FoldedSolution.run a = funK C_impl_FoldedSolution Try.f18 E_impl_FoldedSolution.params E_impl_FoldedSolution.results a (fun o r => some (N_impl_FoldedSolution o r)) := by
  kernel_rfl
theorem W_impl_FoldedSolution : loopsOf D_impl_FoldedSolution = [B_impl_FoldedSolution_L5, B_impl_FoldedSolution_L11] := by kernel_rfl
theorem R_impl_FoldedSolution_L11 : firstReg B_impl_FoldedSolution_L11 = 11 := by kernel_rfl
theorem R_impl_FoldedSolution_L5 : firstReg B_impl_FoldedSolution_L5 = 5 := by kernel_rfl
theorem Q_impl_FoldedSolution : Try.prog.funcs[18]? = some Try.f18 ∧ (Try.f18.name == "runtime.NumGoroutine") = false ∧ Try.f18.body = some D_impl_FoldedSolution := ⟨Try.func18, by kernel_rfl, by kernel_rfl⟩
theorem H_impl_FoldedSolution : Holds Try.prog 18 E_impl_FoldedSolution :=
  holds_of (cx := C_impl_FoldedSolution) (tabOk_ok tabT rfl).1 (allT_ok ⟨⟨H_impl_IsNetwork, _, _, Q_impl_IsNetwork⟩, ⟨⟨H_impl_domains_lists, _, _, Q_impl_domains_lists⟩, ⟨⟨H_impl_isOp, _, _, Q_impl_isOp⟩, ⟨⟨H_impl_arcDomains, _, _, Q_impl_arcDomains⟩, trivial⟩⟩⟩⟩) mixT Q_impl_FoldedSolution.1 Q_impl_FoldedSolution.2.2 (loops_of W_impl_FoldedSolution ⟨loop_of (cx := C_impl_FoldedSolution) (L := S_impl_FoldedSolution_L5 fuel) rfl (by rw [R_impl_FoldedSolution_L5]; rfl) ⟨impl_FoldedSolution_L5, fun _ => rfl, fun n x => K_impl_FoldedSolution_L5 n x, fuel, fun _ => rfl⟩, ⟨loop_of (cx := C_impl_FoldedSolution) (L := S_impl_FoldedSolution_L11 fuel) rfl (by rw [R_impl_FoldedSolution_L11]; rfl) ⟨impl_FoldedSolution_L11, fun _ => rfl, fun n x => K_impl_FoldedSolution_L11 n x, fuel, fun _ => rfl⟩, trivial⟩⟩) (enc := N_impl_FoldedSolution) (fun _ _ => ⟨rfl, rfl⟩) F_impl_FoldedSolution

theorem K_laws_eqIntS_L4 (n : Nat) (x : (List Int) × (List Int) × Int) : laws_eqIntS_L4 (n + 1) x = roundK C_laws_eqIntS B_laws_eqIntS_L4 (S_laws_eqIntS_L4 fuel) x (laws_eqIntS_L4 n) := by
  obtain ⟨a, b, i⟩ := x
  kernel_rfl
theorem F_laws_eqIntS (a : dens E_laws_eqIntS.params) : E_laws_eqIntS.run a = funK C_laws_eqIntS Try.f19 E_laws_eqIntS.params E_laws_eqIntS.results a (fun o r => some (N_laws_eqIntS o r)) := by
  kernel_rfl
theorem W_laws_eqIntS : loopsOf D_laws_eqIntS = [B_laws_eqIntS_L4] := by kernel_rfl
theorem R_laws_eqIntS_L4 : firstReg B_laws_eqIntS_L4 = 4 := by kernel_rfl
theorem Q_laws_eqIntS : Try.prog.funcs[19]? = some Try.f19 ∧ (Try.f19.name == "runtime.NumGoroutine") = false ∧ Try.f19.body = some D_laws_eqIntS := ⟨Try.func19, by kernel_rfl, by kernel_rfl⟩
theorem H_laws_eqIntS : Holds Try.prog 19 E_laws_eqIntS :=
  holds_of (cx := C_laws_eqIntS) (tabOk_ok tabT rfl).1 (allT_ok trivial) mixT Q_laws_eqIntS.1 Q_laws_eqIntS.2.2 (loops_of W_laws_eqIntS ⟨loop_of (cx := C_laws_eqIntS) (L := S_laws_eqIntS_L4 fuel) rfl (by rw [R_laws_eqIntS_L4]; rfl) ⟨laws_eqIntS_L4, fun _ => rfl, fun n x => K_laws_eqIntS_L4 n x, fuel, fun _ => rfl⟩, trivial⟩) (enc := N_laws_eqIntS) (fun _ _ => ⟨rfl, rfl⟩) F_laws_eqIntS

theorem K_laws_eqIntSS_L4 (n : Nat) (x : (List (List Int)) × (List (List Int)) × Int) : laws_eqIntSS_L4 (n + 1) x = roundK C_laws_eqIntSS B_laws_eqIntSS_L4 (S_laws_eqIntSS_L4 fuel) x (laws_eqIntSS_L4 n) := by
  obtain ⟨a, b, i⟩ := x
  kernel_rfl
theorem F_laws_eqIntSS (a : dens E_laws_eqIntSS.params) : E_laws_eqIntSS.run a = funK C_laws_eqIntSS Try.f10 E_laws_eqIntSS.params E_laws_eqIntSS.results a (fun o r => some (N_laws_eqIntSS o r)) := by
  kernel_rfl
theorem W_laws_eqIntSS : loopsOf D_laws_eqIntSS = [B_laws_eqIntSS_L4] := by kernel_rfl
theorem R_laws_eqIntSS_L4 : firstReg B_laws_eqIntSS_L4 = 4 := by kernel_rfl
theorem Q_laws_eqIntSS : Try.prog.funcs[10]? = some Try.f10 ∧ (Try.f10.name == "runtime.NumGoroutine") = false ∧ Try.f10.body = some D_laws_eqIntSS := ⟨Try.func10, by kernel_rfl, by kernel_rfl⟩
theorem H_laws_eqIntSS : Holds Try.prog 10 E_laws_eqIntSS :=
  holds_of (cx := C_laws_eqIntSS) (tabOk_ok tabT rfl).1 (allT_ok ⟨⟨H_laws_eqIntS, _, _, Q_laws_eqIntS⟩, trivial⟩) mixT Q_laws_eqIntSS.1 Q_laws_eqIntSS.2.2 (loops_of W_laws_eqIntSS ⟨loop_of (cx := C_laws_eqIntSS) (L := S_laws_eqIntSS_L4 fuel) rfl (by rw [R_laws_eqIntSS_L4]; rfl) ⟨laws_eqIntSS_L4, fun _ => rfl, fun n x => K_laws_eqIntSS_L4 n x, fuel, fun _ => rfl⟩, trivial⟩) (enc := N_laws_eqIntSS) (fun _ _ => ⟨rfl, rfl⟩) F_laws_eqIntSS

theorem F_laws_eqRelation (a : dens E_laws_eqRelation.params) : E_laws_eqRelation.run a = funK C_laws_eqRelation Try.f72 E_laws_eqRelation.params E_laws_eqRelation.results a (fun o r => some (N_laws_eqRelation o r)) := by
  kernel_rfl
theorem W_laws_eqRelation : loopsOf D_laws_eqRelation = [] := by kernel_rfl
theorem Q_laws_eqRelation : Try.prog.funcs[72]? = some Try.f72 ∧ (Try.f72.name == "runtime.NumGoroutine") = false ∧ Try.f72.body = some D_laws_eqRelation := ⟨Try.func72, by kernel_rfl, by kernel_rfl⟩
theorem H_laws_eqRelation : Holds Try.prog 72 E_laws_eqRelation :=
  holds_of (cx := C_laws_eqRelation) (tabOk_ok tabT rfl).1 (allT_ok ⟨⟨H_laws_eqIntSS, _, _, Q_laws_eqIntSS⟩, trivial⟩) mixT Q_laws_eqRelation.1 Q_laws_eqRelation.2.2 (loops_of W_laws_eqRelation trivial) (enc := N_laws_eqRelation) (fun _ _ => ⟨rfl, rfl⟩) F_laws_eqRelation

theorem F_laws_eqConstraint (a : dens E_laws_eqConstraint.params) : E_laws_eqConstraint.run a = funK C_laws_eqConstraint Try.f58 E_laws_eqConstraint.params E_laws_eqConstraint.results a (fun o r => some (N_laws_eqConstraint o r)) := by
  kernel_rfl
theorem W_laws_eqConstraint : loopsOf D_laws_eqConstraint = [] := by kernel_rfl
theorem Q_laws_eqConstraint : Try.prog.funcs[58]? = some Try.f58 ∧ (Try.f58.name == "runtime.NumGoroutine") = false ∧ Try.f58.body = some D_laws_eqConstraint := ⟨Try.func58, by kernel_rfl, by kernel_rfl⟩
theorem H_laws_eqConstraint : Holds Try.prog 58 E_laws_eqConstraint :=
  holds_of (cx := C_laws_eqConstraint) (tabOk_ok tabT rfl).1 (allT_ok ⟨⟨H_laws_eqIntS, _, _, Q_laws_eqIntS⟩, ⟨⟨H_laws_eqRelation, _, _, Q_laws_eqRelation⟩, trivial⟩⟩) mixT Q_laws_eqConstraint.1 Q_laws_eqConstraint.2.2 (loops_of W_laws_eqConstraint trivial) (enc := N_laws_eqConstraint) (fun _ _ => ⟨rfl, rfl⟩) F_laws_eqConstraint

theorem K_laws_eqConstraintS_L4 (n : Nat) (x : (List ((List Int) × Int × (List (List Int)))) × (List ((List Int) × Int × (List (List Int)))) × Int) : laws_eqConstraintS_L4 (n + 1) x = roundK C_laws_eqConstraintS B_laws_eqConstraintS_L4 (S_laws_eqConstraintS_L4 fuel) x (laws_eqConstraintS_L4 n) := by
  obtain ⟨a, b, i⟩ := x
  kernel_rfl
theorem F_laws_eqConstraintS (a : dens E_laws_eqConstraintS.params) : E_laws_eqConstraintS.run a = funK C_laws_eqConstraintS Try.f38 E_laws_eqConstraintS.params E_laws_eqConstraintS.results a (fun o r => some (N_laws_eqConstraintS o r)) := by
  kernel_rfl
theorem W_laws_eqConstraintS : loopsOf D_laws_eqConstraintS = [B_laws_eqConstraintS_L4] := by kernel_rfl
theorem R_laws_eqConstraintS_L4 : firstReg B_laws_eqConstraintS_L4 = 4 := by kernel_rfl
theorem Q_laws_eqConstraintS : Try.prog.funcs[38]? = some Try.f38 ∧ (Try.f38.name == "runtime.NumGoroutine") = false ∧ Try.f38.body = some D_laws_eqConstraintS := ⟨Try.func38, by kernel_rfl, by kernel_rfl⟩
theorem H_laws_eqConstraintS : Holds Try.prog 38 E_laws_eqConstraintS :=
  holds_of (cx := C_laws_eqConstraintS) (tabOk_ok tabT rfl).1 (allT_ok ⟨⟨H_laws_eqConstraint, _, _, Q_laws_eqConstraint⟩, trivial⟩) mixT Q_laws_eqConstraintS.1 Q_laws_eqConstraintS.2.2 (loops_of W_laws_eqConstraintS ⟨loop_of (cx := C_laws_eqConstraintS) (L := S_laws_eqConstraintS_L4 fuel) rfl (by rw [R_laws_eqConstraintS_L4]; rfl) ⟨laws_eqConstraintS_L4, fun _ => rfl, fun n x => K_laws_eqConstraintS_L4 n x, fuel, fun _ => rfl⟩, trivial⟩) (enc := N_laws_eqConstraintS) (fun _ _ => ⟨rfl, rfl⟩) F_laws_eqConstraintS

theorem F_laws_eqNetwork (a : dens E_laws_eqNetwork.params) : E_laws_eqNetwork.run a = funK C_laws_eqNetwork Try.f11 E_laws_eqNetwork.params E_laws_eqNetwork.results a (fun o r => some (N_laws_eqNetwork o r)) := by
  kernel_rfl
theorem W_laws_eqNetwork : loopsOf D_laws_eqNetwork = [] := by kernel_rfl
theorem Q_laws_eqNetwork : Try.prog.funcs[11]? = some Try.f11 ∧ (Try.f11.name == "runtime.NumGoroutine") = false ∧ Try.f11.body = some D_laws_eqNetwork := ⟨Try.func11, by kernel_rfl, by kernel_rfl⟩
theorem H_laws_eqNetwork : Holds Try.prog 11 E_laws_eqNetwork :=
  holds_of (cx := C_laws_eqNetwork) (tabOk_ok tabT rfl).1 (allT_ok ⟨⟨H_laws_eqConstraintS, _, _, Q_laws_eqConstraintS⟩, trivial⟩) mixT Q_laws_eqNetwork.1 Q_laws_eqNetwork.2.2 (loops_of W_laws_eqNetwork trivial) (enc := N_laws_eqNetwork) (fun _ _ => ⟨rfl, rfl⟩) F_laws_eqNetwork

theorem F_laws_eqOp (a : dens E_laws_eqOp.params) : E_laws_eqOp.run a = funK C_laws_eqOp Try.f20 E_laws_eqOp.params E_laws_eqOp.results a (fun o r => some (N_laws_eqOp o r)) := by
  kernel_rfl
theorem W_laws_eqOp : loopsOf D_laws_eqOp = [] := by kernel_rfl
theorem Q_laws_eqOp : Try.prog.funcs[20]? = some Try.f20 ∧ (Try.f20.name == "runtime.NumGoroutine") = false ∧ Try.f20.body = some D_laws_eqOp := ⟨Try.func20, by kernel_rfl, by kernel_rfl⟩
theorem H_laws_eqOp : Holds Try.prog 20 E_laws_eqOp :=
  holds_of (cx := C_laws_eqOp) (tabOk_ok tabT rfl).1 (allT_ok ⟨⟨H_laws_eqIntS, _, _, Q_laws_eqIntS⟩, trivial⟩) mixT Q_laws_eqOp.1 Q_laws_eqOp.2.2 (loops_of W_laws_eqOp trivial) (enc := N_laws_eqOp) (fun _ _ => ⟨rfl, rfl⟩) F_laws_eqOp

theorem K_laws_markIntS_L2 (n : Nat) (x : (List Int) × Int × Int) : laws_markIntS_L2 (n + 1) x = roundK C_laws_markIntS B_laws_markIntS_L2 (S_laws_markIntS_L2 fuel) x (laws_markIntS_L2 n) := by
  obtain ⟨a, k, i⟩ := x
  kernel_rfl
theorem F_laws_markIntS (a : dens E_laws_markIntS.params) : E_laws_markIntS.run a = funK C_laws_markIntS Try.f22 E_laws_markIntS.params E_laws_markIntS.results a (fun o r => some (N_laws_markIntS o r)) := by
  kernel_rfl
theorem W_laws_markIntS : loopsOf D_laws_markIntS = [B_laws_markIntS_L2] := by kernel_rfl
theorem R_laws_markIntS_L2 : firstReg B_laws_markIntS_L2 = 2 := by kernel_rfl
theorem Q_laws_markIntS : Try.prog.funcs[22]? = some Try.f22 ∧ (Try.f22.name == "runtime.NumGoroutine") = false ∧ Try.f22.body = some D_laws_markIntS := ⟨Try.func22, by kernel_rfl, by kernel_rfl⟩
theorem H_laws_markIntS : Holds Try.prog 22 E_laws_markIntS :=
  holds_of (cx := C_laws_markIntS) (tabOk_ok tabT rfl).1 (allT_ok trivial) mixT Q_laws_markIntS.1 Q_laws_markIntS.2.2 (loops_of W_laws_markIntS ⟨loop_of (cx := C_laws_markIntS) (L := S_laws_markIntS_L2 fuel) rfl (by rw [R_laws_markIntS_L2]; rfl) ⟨laws_markIntS_L2, fun _ => rfl, fun n x => K_laws_markIntS_L2 n x, fuel, fun _ => rfl⟩, trivial⟩) (enc := N_laws_markIntS) (fun _ _ => ⟨rfl, rfl⟩) F_laws_markIntS

theorem K_laws_markIntSS_L2 (n : Nat) (x : (List (List Int)) × Int × Int) : laws_markIntSS_L2 (n + 1) x = roundK C_laws_markIntSS B_laws_markIntSS_L2 (S_laws_markIntSS_L2 fuel) x (laws_markIntSS_L2 n) := by
  obtain ⟨a, k, i⟩ := x
  kernel_rfl
theorem F_laws_markIntSS (a : dens E_laws_markIntSS.params) : E_laws_markIntSS.run a = funK C_laws_markIntSS Try.f13 E_laws_markIntSS.params E_laws_markIntSS.results a (fun o r => some (N_laws_markIntSS o r)) := by
  kernel_rfl
theorem W_laws_markIntSS : loopsOf D_laws_markIntSS = [B_laws_markIntSS_L2] := by kernel_rfl
theorem R_laws_markIntSS_L2 : firstReg B_laws_markIntSS_L2 = 2 := by kernel_rfl
theorem Q_laws_markIntSS : Try.prog.funcs[13]? = some Try.f13 ∧ (Try.f13.name == "runtime.NumGoroutine") = false ∧ Try.f13.body = some D_laws_markIntSS := ⟨Try.func13, by kernel_rfl, by kernel_rfl⟩
theorem H_laws_markIntSS : Holds Try.prog 13 E_laws_markIntSS :=
  holds_of (cx := C_laws_markIntSS) (tabOk_ok tabT rfl).1 (allT_ok ⟨⟨H_laws_markIntS, _, _, Q_laws_markIntS⟩, trivial⟩) mixT Q_laws_markIntSS.1 Q_laws_markIntSS.2.2 (loops_of W_laws_markIntSS ⟨loop_of (cx := C_laws_markIntSS) (L := S_laws_markIntSS_L2 fuel) rfl (by rw [R_laws_markIntSS_L2]; rfl) ⟨laws_markIntSS_L2, fun _ => rfl, fun n x => K_laws_markIntSS_L2 n x, fuel, fun _ => rfl⟩, trivial⟩) (enc := N_laws_markIntSS) (fun _ _ => ⟨rfl, rfl⟩) F_laws_markIntSS

theorem K_laws_markConstraintS_L2 (n : Nat) (x : (List ((List Int) × Int × (List (List Int)))) × Int × Int) : laws_markConstraintS_L2 (n + 1) x = roundK C_laws_markConstraintS B_laws_markConstraintS_L2 (S_laws_markConstraintS_L2 fuel) x (laws_markConstraintS_L2 n) := by
  obtain ⟨a, k, i⟩ := x
  kernel_rfl
theorem F_laws_markConstraintS (a : dens E_laws_markConstraintS.params) : E_laws_markConstraintS.run a = funK C_laws_markConstraintS Try.f39 E_laws_markConstraintS.params E_laws_markConstraintS.results a (fun o r => some (N_laws_markConstraintS o r)) := by
  kernel_rfl
theorem W_laws_markConstraintS : loopsOf D_laws_markConstraintS = [B_laws_markConstraintS_L2] := by kernel_rfl
theorem R_laws_markConstraintS_L2 : firstReg B_laws_markConstraintS_L2 = 2 := by kernel_rfl
theorem Q_laws_markConstraintS : Try.prog.funcs[39]? = some Try.f39 ∧ (Try.f39.name == "runtime.NumGoroutine") = false ∧ Try.f39.body = some D_laws_markConstraintS := ⟨Try.func39, by kernel_rfl, by kernel_rfl⟩
theorem H_laws_markConstraintS : Holds Try.prog 39 E_laws_markConstraintS :=
  holds_of (cx := C_laws_markConstraintS) (tabOk_ok tabT rfl).1 (allT_ok ⟨⟨H_laws_markIntSS, _, _, Q_laws_markIntSS⟩, ⟨⟨H_laws_markIntS, _, _, Q_laws_markIntS⟩, trivial⟩⟩) mixT Q_laws_markConstraintS.1 Q_laws_markConstraintS.2.2 (loops_of W_laws_markConstraintS ⟨loop_of (cx := C_laws_markConstraintS) (L := S_laws_markConstraintS_L2 fuel) rfl (by rw [R_laws_markConstraintS_L2]; rfl) ⟨laws_markConstraintS_L2, fun _ => rfl, fun n x => K_laws_markConstraintS_L2 n x, fuel, fun _ => rfl⟩, trivial⟩) (enc := N_laws_markConstraintS) (fun _ _ => ⟨rfl, rfl⟩) F_laws_markConstraintS

theorem F_laws_markNetwork (a : dens E_laws_markNetwork.params) : E_laws_markNetwork.run a = funK C_laws_markNetwork Try.f12 E_laws_markNetwork.params E_laws_markNetwork.results a (fun o r => some (N_laws_markNetwork o r)) := by
  kernel_rfl
theorem W_laws_markNetwork : loopsOf D_laws_markNetwork = [] := by kernel_rfl
theorem Q_laws_markNetwork : Try.prog.funcs[12]? = some Try.f12 ∧ (Try.f12.name == "runtime.NumGoroutine") = false ∧ Try.f12.body = some D_laws_markNetwork := ⟨Try.func12, by kernel_rfl, by kernel_rfl⟩
theorem H_laws_markNetwork : Holds Try.prog 12 E_laws_markNetwork :=
  holds_of (cx := C_laws_markNetwork) (tabOk_ok tabT rfl).1 (allT_ok ⟨⟨H_laws_markConstraintS, _, _, Q_laws_markConstraintS⟩, trivial⟩) mixT Q_laws_markNetwork.1 Q_laws_markNetwork.2.2 (loops_of W_laws_markNetwork trivial) (enc := N_laws_markNetwork) (fun _ _ => ⟨rfl, rfl⟩) F_laws_markNetwork

theorem F_laws_markOp (a : dens E_laws_markOp.params) : E_laws_markOp.run a = funK C_laws_markOp Try.f21 E_laws_markOp.params E_laws_markOp.results a (fun o r => some (N_laws_markOp o r)) := by
  kernel_rfl
theorem W_laws_markOp : loopsOf D_laws_markOp = [] := by kernel_rfl
theorem Q_laws_markOp : Try.prog.funcs[21]? = some Try.f21 ∧ (Try.f21.name == "runtime.NumGoroutine") = false ∧ Try.f21.body = some D_laws_markOp := ⟨Try.func21, by kernel_rfl, by kernel_rfl⟩
theorem H_laws_markOp : Holds Try.prog 21 E_laws_markOp :=
  holds_of (cx := C_laws_markOp) (tabOk_ok tabT rfl).1 (allT_ok ⟨⟨H_laws_markIntS, _, _, Q_laws_markIntS⟩, trivial⟩) mixT Q_laws_markOp.1 Q_laws_markOp.2.2 (loops_of W_laws_markOp trivial) (enc := N_laws_markOp) (fun _ _ => ⟨rfl, rfl⟩) F_laws_markOp

theorem K_laws_heldIntS_L2 (n : Nat) (x : (List Int) × Int × Int) : laws_heldIntS_L2 (n + 1) x = roundK C_laws_heldIntS B_laws_heldIntS_L2 (S_laws_heldIntS_L2 fuel) x (laws_heldIntS_L2 n) := by
  obtain ⟨a, k, i⟩ := x
  kernel_rfl
theorem F_laws_heldIntS (a : dens E_laws_heldIntS.params) : E_laws_heldIntS.run a = funK C_laws_heldIntS Try.f23 E_laws_heldIntS.params E_laws_heldIntS.results a (fun o r => some (N_laws_heldIntS o r)) := by
  kernel_rfl
theorem W_laws_heldIntS : loopsOf D_laws_heldIntS = [B_laws_heldIntS_L2] := by kernel_rfl
theorem R_laws_heldIntS_L2 : firstReg B_laws_heldIntS_L2 = 2 := by kernel_rfl
theorem Q_laws_heldIntS : Try.prog.funcs[23]? = some Try.f23 ∧ (Try.f23.name == "runtime.NumGoroutine") = false ∧ Try.f23.body = some D_laws_heldIntS := ⟨Try.func23, by kernel_rfl, by kernel_rfl⟩
theorem H_laws_heldIntS : Holds Try.prog 23 E_laws_heldIntS :=
  holds_of (cx := C_laws_heldIntS) (tabOk_ok tabT rfl).1 (allT_ok trivial) mixT Q_laws_heldIntS.1 Q_laws_heldIntS.2.2 (loops_of W_laws_heldIntS ⟨loop_of (cx := C_laws_heldIntS) (L := S_laws_heldIntS_L2 fuel) rfl (by rw [R_laws_heldIntS_L2]; rfl) ⟨laws_heldIntS_L2, fun _ => rfl, fun n x => K_laws_heldIntS_L2 n x, fuel, fun _ => rfl⟩, trivial⟩) (enc := N_laws_heldIntS) (fun _ _ => ⟨rfl, rfl⟩) F_laws_heldIntS

theorem F_laws_FnExactFoldedSolution (a : dens E_laws_FnExactFoldedSolution.params) : E_laws_FnExactFoldedSolution.run a = funK C_laws_FnExactFoldedSolution Try.f4 E_laws_FnExactFoldedSolution.params E_laws_FnExactFoldedSolution.results a (fun o r => some (N_laws_FnExactFoldedSolution o r)) := by
  kernel_rfl
theorem W_laws_FnExactFoldedSolution : loopsOf D_laws_FnExactFoldedSolution = [] := by kernel_rfl
theorem Q_laws_FnExactFoldedSolution : Try.prog.funcs[4]? = some Try.f4 ∧ (Try.f4.name == "runtime.NumGoroutine") = false ∧ Try.f4.body = some D_laws_FnExactFoldedSolution := ⟨Try.func4, by kernel_rfl, by kernel_rfl⟩
theorem H_laws_FnExactFoldedSolution : Holds Try.prog 4 E_laws_FnExactFoldedSolution :=
  holds_of (cx := C_laws_FnExactFoldedSolution) (tabOk_ok tabT rfl).1 (allT_ok ⟨⟨H_laws_szNetwork, _, _, Q_laws_szNetwork⟩, ⟨⟨H_laws_toNetwork, _, _, Q_laws_toNetwork⟩, ⟨⟨H_laws_eqNetwork, _, _, Q_laws_eqNetwork⟩, ⟨⟨H_laws_markNetwork, _, _, Q_laws_markNetwork⟩, ⟨⟨H_laws_szOp, _, _, Q_laws_szOp⟩, ⟨⟨H_spec_FoldedSolution, _, _, Q_spec_FoldedSolution⟩, ⟨⟨H_laws_toOp, _, _, Q_laws_toOp⟩, ⟨⟨H_impl_FoldedSolution, _, _, Q_impl_FoldedSolution⟩, ⟨⟨H_laws_eqIntS, _, _, Q_laws_eqIntS⟩, ⟨⟨H_laws_eqOp, _, _, Q_laws_eqOp⟩, ⟨⟨H_laws_markOp, _, _, Q_laws_markOp⟩, ⟨⟨H_laws_markIntS, _, _, Q_laws_markIntS⟩, ⟨⟨H_laws_heldIntS, _, _, Q_laws_heldIntS⟩, trivial⟩⟩⟩⟩⟩⟩⟩⟩⟩⟩⟩⟩⟩) mixT Q_laws_FnExactFoldedSolution.1 Q_laws_FnExactFoldedSolution.2.2 (loops_of W_laws_FnExactFoldedSolution trivial) (enc := N_laws_FnExactFoldedSolution) (fun _ _ => ⟨rfl, rfl⟩) F_laws_FnExactFoldedSolution
end T
