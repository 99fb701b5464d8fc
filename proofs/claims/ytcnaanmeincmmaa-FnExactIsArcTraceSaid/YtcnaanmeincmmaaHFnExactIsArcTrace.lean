/- Each typed function is what the program computes; no conditions. -/
import Derived.Test.YtcnaanmeincmmaaCFnExactIsArcTrace
set_option linter.all false
set_option maxRecDepth 10000
open Go Go.Va Go.Proofs
namespace T

theorem F_laws_szIntS (a : dens E_laws_szIntS.params) : E_laws_szIntS.run a = funK C_laws_szIntS Try.f121 E_laws_szIntS.params E_laws_szIntS.results a (fun o r => some (N_laws_szIntS o r)) := by
  kernel_rfl
theorem W_laws_szIntS : loopsOf D_laws_szIntS = [] := by kernel_rfl
theorem Q_laws_szIntS : Try.prog.funcs[121]? = some Try.f121 ∧ (Try.f121.name == "runtime.NumGoroutine") = false ∧ Try.f121.body = some D_laws_szIntS := ⟨Try.func121, by kernel_rfl, by kernel_rfl⟩
theorem H_laws_szIntS : Holds Try.prog 121 E_laws_szIntS :=
  holds_of (cx := C_laws_szIntS) (tabOk_ok tabT rfl).1 (allT_ok trivial) mixT Q_laws_szIntS.1 Q_laws_szIntS.2.2 (loops_of W_laws_szIntS trivial) (enc := N_laws_szIntS) (fun _ _ => ⟨rfl, rfl⟩) F_laws_szIntS

theorem K_laws_szIntSS_L5 (n : Nat) (x : (List (List Int)) × Int × Int) : laws_szIntSS_L5 (n + 1) x = roundK C_laws_szIntSS B_laws_szIntSS_L5 (S_laws_szIntSS_L5 fuel) x (laws_szIntSS_L5 n) := by
  obtain ⟨a, left, i⟩ := x
  kernel_rfl
theorem F_laws_szIntSS (a : dens E_laws_szIntSS.params) : E_laws_szIntSS.run a = funK C_laws_szIntSS Try.f65 E_laws_szIntSS.params E_laws_szIntSS.results a (fun o r => some (N_laws_szIntSS o r)) := by
  kernel_rfl
theorem W_laws_szIntSS : loopsOf D_laws_szIntSS = [B_laws_szIntSS_L5] := by kernel_rfl
theorem R_laws_szIntSS_L5 : firstReg B_laws_szIntSS_L5 = 5 := by kernel_rfl
theorem Q_laws_szIntSS : Try.prog.funcs[65]? = some Try.f65 ∧ (Try.f65.name == "runtime.NumGoroutine") = false ∧ Try.f65.body = some D_laws_szIntSS := ⟨Try.func65, by kernel_rfl, by kernel_rfl⟩
theorem H_laws_szIntSS : Holds Try.prog 65 E_laws_szIntSS :=
  holds_of (cx := C_laws_szIntSS) (tabOk_ok tabT rfl).1 (allT_ok ⟨⟨H_laws_szIntS, _, _, Q_laws_szIntS⟩, trivial⟩) mixT Q_laws_szIntSS.1 Q_laws_szIntSS.2.2 (loops_of W_laws_szIntSS ⟨loop_of (cx := C_laws_szIntSS) (L := S_laws_szIntSS_L5 fuel) rfl (by rw [R_laws_szIntSS_L5]; rfl) ⟨laws_szIntSS_L5, fun _ => rfl, fun n x => K_laws_szIntSS_L5 n x, fuel, fun _ => rfl⟩, trivial⟩) (enc := N_laws_szIntSS) (fun _ _ => ⟨rfl, rfl⟩) F_laws_szIntSS

theorem F_laws_szRelation (a : dens E_laws_szRelation.params) : E_laws_szRelation.run a = funK C_laws_szRelation Try.f145 E_laws_szRelation.params E_laws_szRelation.results a (fun o r => some (N_laws_szRelation o r)) := by
  kernel_rfl
theorem W_laws_szRelation : loopsOf D_laws_szRelation = [] := by kernel_rfl
theorem Q_laws_szRelation : Try.prog.funcs[145]? = some Try.f145 ∧ (Try.f145.name == "runtime.NumGoroutine") = false ∧ Try.f145.body = some D_laws_szRelation := ⟨Try.func145, by kernel_rfl, by kernel_rfl⟩
theorem H_laws_szRelation : Holds Try.prog 145 E_laws_szRelation :=
  holds_of (cx := C_laws_szRelation) (tabOk_ok tabT rfl).1 (allT_ok ⟨⟨H_laws_szIntSS, _, _, Q_laws_szIntSS⟩, trivial⟩) mixT Q_laws_szRelation.1 Q_laws_szRelation.2.2 (loops_of W_laws_szRelation trivial) (enc := N_laws_szRelation) (fun _ _ => ⟨rfl, rfl⟩) F_laws_szRelation

theorem F_laws_szConstraint (a : dens E_laws_szConstraint.params) : E_laws_szConstraint.run a = funK C_laws_szConstraint Try.f130 E_laws_szConstraint.params E_laws_szConstraint.results a (fun o r => some (N_laws_szConstraint o r)) := by
  kernel_rfl
theorem W_laws_szConstraint : loopsOf D_laws_szConstraint = [] := by kernel_rfl
theorem Q_laws_szConstraint : Try.prog.funcs[130]? = some Try.f130 ∧ (Try.f130.name == "runtime.NumGoroutine") = false ∧ Try.f130.body = some D_laws_szConstraint := ⟨Try.func130, by kernel_rfl, by kernel_rfl⟩
theorem H_laws_szConstraint : Holds Try.prog 130 E_laws_szConstraint :=
  holds_of (cx := C_laws_szConstraint) (tabOk_ok tabT rfl).1 (allT_ok ⟨⟨H_laws_szIntS, _, _, Q_laws_szIntS⟩, ⟨⟨H_laws_szRelation, _, _, Q_laws_szRelation⟩, trivial⟩⟩) mixT Q_laws_szConstraint.1 Q_laws_szConstraint.2.2 (loops_of W_laws_szConstraint trivial) (enc := N_laws_szConstraint) (fun _ _ => ⟨rfl, rfl⟩) F_laws_szConstraint

theorem K_laws_szConstraintS_L5 (n : Nat) (x : (List ((List Int) × Int × (List (List Int)))) × Int × Int) : laws_szConstraintS_L5 (n + 1) x = roundK C_laws_szConstraintS B_laws_szConstraintS_L5 (S_laws_szConstraintS_L5 fuel) x (laws_szConstraintS_L5 n) := by
  obtain ⟨a, left, i⟩ := x
  kernel_rfl
theorem F_laws_szConstraintS (a : dens E_laws_szConstraintS.params) : E_laws_szConstraintS.run a = funK C_laws_szConstraintS Try.f82 E_laws_szConstraintS.params E_laws_szConstraintS.results a (fun o r => some (N_laws_szConstraintS o r)) := by
  kernel_rfl
theorem W_laws_szConstraintS : loopsOf D_laws_szConstraintS = [B_laws_szConstraintS_L5] := by kernel_rfl
theorem R_laws_szConstraintS_L5 : firstReg B_laws_szConstraintS_L5 = 5 := by kernel_rfl
theorem Q_laws_szConstraintS : Try.prog.funcs[82]? = some Try.f82 ∧ (Try.f82.name == "runtime.NumGoroutine") = false ∧ Try.f82.body = some D_laws_szConstraintS := ⟨Try.func82, by kernel_rfl, by kernel_rfl⟩
theorem H_laws_szConstraintS : Holds Try.prog 82 E_laws_szConstraintS :=
  holds_of (cx := C_laws_szConstraintS) (tabOk_ok tabT rfl).1 (allT_ok ⟨⟨H_laws_szConstraint, _, _, Q_laws_szConstraint⟩, trivial⟩) mixT Q_laws_szConstraintS.1 Q_laws_szConstraintS.2.2 (loops_of W_laws_szConstraintS ⟨loop_of (cx := C_laws_szConstraintS) (L := S_laws_szConstraintS_L5 fuel) rfl (by rw [R_laws_szConstraintS_L5]; rfl) ⟨laws_szConstraintS_L5, fun _ => rfl, fun n x => K_laws_szConstraintS_L5 n x, fuel, fun _ => rfl⟩, trivial⟩) (enc := N_laws_szConstraintS) (fun _ _ => ⟨rfl, rfl⟩) F_laws_szConstraintS

theorem F_laws_szNetwork (a : dens E_laws_szNetwork.params) : E_laws_szNetwork.run a = funK C_laws_szNetwork Try.f38 E_laws_szNetwork.params E_laws_szNetwork.results a (fun o r => some (N_laws_szNetwork o r)) := by
  kernel_rfl
theorem W_laws_szNetwork : loopsOf D_laws_szNetwork = [] := by kernel_rfl
theorem Q_laws_szNetwork : Try.prog.funcs[38]? = some Try.f38 ∧ (Try.f38.name == "runtime.NumGoroutine") = false ∧ Try.f38.body = some D_laws_szNetwork := ⟨Try.func38, by kernel_rfl, by kernel_rfl⟩
theorem H_laws_szNetwork : Holds Try.prog 38 E_laws_szNetwork :=
  holds_of (cx := C_laws_szNetwork) (tabOk_ok tabT rfl).1 (allT_ok ⟨⟨H_laws_szConstraintS, _, _, Q_laws_szConstraintS⟩, trivial⟩) mixT Q_laws_szNetwork.1 Q_laws_szNetwork.2.2 (loops_of W_laws_szNetwork trivial) (enc := N_laws_szNetwork) (fun _ _ => ⟨rfl, rfl⟩) F_laws_szNetwork

theorem F_laws_szIntA3S (a : dens E_laws_szIntA3S.params) : E_laws_szIntA3S.run a = funK C_laws_szIntA3S Try.f51 E_laws_szIntA3S.params E_laws_szIntA3S.results a (fun o r => some (N_laws_szIntA3S o r)) := by
  kernel_rfl
theorem W_laws_szIntA3S : loopsOf D_laws_szIntA3S = [] := by kernel_rfl
theorem Q_laws_szIntA3S : Try.prog.funcs[51]? = some Try.f51 ∧ (Try.f51.name == "runtime.NumGoroutine") = false ∧ Try.f51.body = some D_laws_szIntA3S := ⟨Try.func51, by kernel_rfl, by kernel_rfl⟩
theorem H_laws_szIntA3S : Holds Try.prog 51 E_laws_szIntA3S :=
  holds_of (cx := C_laws_szIntA3S) (tabOk_ok tabT rfl).1 (allT_ok trivial) mixT Q_laws_szIntA3S.1 Q_laws_szIntA3S.2.2 (loops_of W_laws_szIntA3S trivial) (enc := N_laws_szIntA3S) (fun _ _ => ⟨rfl, rfl⟩) F_laws_szIntA3S

theorem K_laws_toIntS_L3 (n : Nat) (x : (List Int) × (List Int) × Int) : laws_toIntS_L3 (n + 1) x = roundK C_laws_toIntS B_laws_toIntS_L3 (S_laws_toIntS_L3 fuel) x (laws_toIntS_L3 n) := by
  obtain ⟨a, out, i⟩ := x
  kernel_rfl
theorem F_laws_toIntS (a : dens E_laws_toIntS.params) : E_laws_toIntS.run a = funK C_laws_toIntS Try.f41 E_laws_toIntS.params E_laws_toIntS.results a (fun o r => some (N_laws_toIntS o r)) := by
  kernel_rfl
theorem W_laws_toIntS : loopsOf D_laws_toIntS = [B_laws_toIntS_L3] := by kernel_rfl
theorem R_laws_toIntS_L3 : firstReg B_laws_toIntS_L3 = 3 := by kernel_rfl
theorem Q_laws_toIntS : Try.prog.funcs[41]? = some Try.f41 ∧ (Try.f41.name == "runtime.NumGoroutine") = false ∧ Try.f41.body = some D_laws_toIntS := ⟨Try.func41, by kernel_rfl, by kernel_rfl⟩
theorem H_laws_toIntS : Holds Try.prog 41 E_laws_toIntS :=
  holds_of (cx := C_laws_toIntS) (tabOk_ok tabT rfl).1 (allT_ok trivial) mixT Q_laws_toIntS.1 Q_laws_toIntS.2.2 (loops_of W_laws_toIntS ⟨loop_of (cx := C_laws_toIntS) (L := S_laws_toIntS_L3 fuel) rfl (by rw [R_laws_toIntS_L3]; rfl) ⟨laws_toIntS_L3, fun _ => rfl, fun n x => K_laws_toIntS_L3 n x, fuel, fun _ => rfl⟩, trivial⟩) (enc := N_laws_toIntS) (fun _ _ => ⟨rfl, rfl⟩) F_laws_toIntS

theorem K_laws_toIntSS_L3 (n : Nat) (x : (List (List Int)) × (List (List Int)) × Int) : laws_toIntSS_L3 (n + 1) x = roundK C_laws_toIntSS B_laws_toIntSS_L3 (S_laws_toIntSS_L3 fuel) x (laws_toIntSS_L3 n) := by
  obtain ⟨a, out, i⟩ := x
  kernel_rfl
theorem F_laws_toIntSS (a : dens E_laws_toIntSS.params) : E_laws_toIntSS.run a = funK C_laws_toIntSS Try.f70 E_laws_toIntSS.params E_laws_toIntSS.results a (fun o r => some (N_laws_toIntSS o r)) := by
  kernel_rfl
theorem W_laws_toIntSS : loopsOf D_laws_toIntSS = [B_laws_toIntSS_L3] := by kernel_rfl
theorem R_laws_toIntSS_L3 : firstReg B_laws_toIntSS_L3 = 3 := by kernel_rfl
theorem Q_laws_toIntSS : Try.prog.funcs[70]? = some Try.f70 ∧ (Try.f70.name == "runtime.NumGoroutine") = false ∧ Try.f70.body = some D_laws_toIntSS := ⟨Try.func70, by kernel_rfl, by kernel_rfl⟩
theorem H_laws_toIntSS : Holds Try.prog 70 E_laws_toIntSS :=
  holds_of (cx := C_laws_toIntSS) (tabOk_ok tabT rfl).1 (allT_ok ⟨⟨H_laws_toIntS, _, _, Q_laws_toIntS⟩, trivial⟩) mixT Q_laws_toIntSS.1 Q_laws_toIntSS.2.2 (loops_of W_laws_toIntSS ⟨loop_of (cx := C_laws_toIntSS) (L := S_laws_toIntSS_L3 fuel) rfl (by rw [R_laws_toIntSS_L3]; rfl) ⟨laws_toIntSS_L3, fun _ => rfl, fun n x => K_laws_toIntSS_L3 n x, fuel, fun _ => rfl⟩, trivial⟩) (enc := N_laws_toIntSS) (fun _ _ => ⟨rfl, rfl⟩) F_laws_toIntSS

theorem F_laws_toRelation (a : dens E_laws_toRelation.params) : E_laws_toRelation.run a = funK C_laws_toRelation Try.f146 E_laws_toRelation.params E_laws_toRelation.results a (fun o r => some (N_laws_toRelation o r)) := by
  kernel_rfl
theorem W_laws_toRelation : loopsOf D_laws_toRelation = [] := by kernel_rfl
theorem Q_laws_toRelation : Try.prog.funcs[146]? = some Try.f146 ∧ (Try.f146.name == "runtime.NumGoroutine") = false ∧ Try.f146.body = some D_laws_toRelation := ⟨Try.func146, by kernel_rfl, by kernel_rfl⟩
theorem H_laws_toRelation : Holds Try.prog 146 E_laws_toRelation :=
  holds_of (cx := C_laws_toRelation) (tabOk_ok tabT rfl).1 (allT_ok ⟨⟨H_laws_toIntSS, _, _, Q_laws_toIntSS⟩, trivial⟩) mixT Q_laws_toRelation.1 Q_laws_toRelation.2.2 (loops_of W_laws_toRelation trivial) (enc := N_laws_toRelation) (fun _ _ => ⟨rfl, rfl⟩) F_laws_toRelation

theorem F_laws_toConstraint (a : dens E_laws_toConstraint.params) : E_laws_toConstraint.run a = funK C_laws_toConstraint Try.f132 E_laws_toConstraint.params E_laws_toConstraint.results a (fun o r => some (N_laws_toConstraint o r)) := by
  kernel_rfl
theorem W_laws_toConstraint : loopsOf D_laws_toConstraint = [] := by kernel_rfl
theorem Q_laws_toConstraint : Try.prog.funcs[132]? = some Try.f132 ∧ (Try.f132.name == "runtime.NumGoroutine") = false ∧ Try.f132.body = some D_laws_toConstraint := ⟨Try.func132, by kernel_rfl, by kernel_rfl⟩
theorem H_laws_toConstraint : Holds Try.prog 132 E_laws_toConstraint :=
  holds_of (cx := C_laws_toConstraint) (tabOk_ok tabT rfl).1 (allT_ok ⟨⟨H_laws_toIntS, _, _, Q_laws_toIntS⟩, ⟨⟨H_laws_toRelation, _, _, Q_laws_toRelation⟩, trivial⟩⟩) mixT Q_laws_toConstraint.1 Q_laws_toConstraint.2.2 (loops_of W_laws_toConstraint trivial) (enc := N_laws_toConstraint) (fun _ _ => ⟨rfl, rfl⟩) F_laws_toConstraint

theorem K_laws_toConstraintS_L3 (n : Nat) (x : (List ((List Int) × Int × (List (List Int)))) × (List ((List Int) × Int × (List (List Int)))) × Int) : laws_toConstraintS_L3 (n + 1) x = roundK C_laws_toConstraintS B_laws_toConstraintS_L3 (S_laws_toConstraintS_L3 fuel) x (laws_toConstraintS_L3 n) := by
  obtain ⟨a, out, i⟩ := x
  kernel_rfl
theorem F_laws_toConstraintS (a : dens E_laws_toConstraintS.params) : E_laws_toConstraintS.run a = funK C_laws_toConstraintS Try.f88 E_laws_toConstraintS.params E_laws_toConstraintS.results a (fun o r => some (N_laws_toConstraintS o r)) := by
  kernel_rfl
theorem W_laws_toConstraintS : loopsOf D_laws_toConstraintS = [B_laws_toConstraintS_L3] := by kernel_rfl
theorem R_laws_toConstraintS_L3 : firstReg B_laws_toConstraintS_L3 = 3 := by kernel_rfl
theorem Q_laws_toConstraintS : Try.prog.funcs[88]? = some Try.f88 ∧ (Try.f88.name == "runtime.NumGoroutine") = false ∧ Try.f88.body = some D_laws_toConstraintS := ⟨Try.func88, by kernel_rfl, by kernel_rfl⟩
theorem H_laws_toConstraintS : Holds Try.prog 88 E_laws_toConstraintS :=
  holds_of (cx := C_laws_toConstraintS) (tabOk_ok tabT rfl).1 (allT_ok ⟨⟨H_laws_toConstraint, _, _, Q_laws_toConstraint⟩, trivial⟩) mixT Q_laws_toConstraintS.1 Q_laws_toConstraintS.2.2 (loops_of W_laws_toConstraintS ⟨loop_of (cx := C_laws_toConstraintS) (L := S_laws_toConstraintS_L3 fuel) rfl (by rw [R_laws_toConstraintS_L3]; rfl) ⟨laws_toConstraintS_L3, fun _ => rfl, fun n x => K_laws_toConstraintS_L3 n x, fuel, fun _ => rfl⟩, trivial⟩) (enc := N_laws_toConstraintS) (fun _ _ => ⟨rfl, rfl⟩) F_laws_toConstraintS

theorem F_laws_toNetwork (a : dens E_laws_toNetwork.params) : E_laws_toNetwork.run a = funK C_laws_toNetwork Try.f40 E_laws_toNetwork.params E_laws_toNetwork.results a (fun o r => some (N_laws_toNetwork o r)) := by
  kernel_rfl
theorem W_laws_toNetwork : loopsOf D_laws_toNetwork = [] := by kernel_rfl
theorem Q_laws_toNetwork : Try.prog.funcs[40]? = some Try.f40 ∧ (Try.f40.name == "runtime.NumGoroutine") = false ∧ Try.f40.body = some D_laws_toNetwork := ⟨Try.func40, by kernel_rfl, by kernel_rfl⟩
theorem H_laws_toNetwork : Holds Try.prog 40 E_laws_toNetwork :=
  holds_of (cx := C_laws_toNetwork) (tabOk_ok tabT rfl).1 (allT_ok ⟨⟨H_laws_toConstraintS, _, _, Q_laws_toConstraintS⟩, trivial⟩) mixT Q_laws_toNetwork.1 Q_laws_toNetwork.2.2 (loops_of W_laws_toNetwork trivial) (enc := N_laws_toNetwork) (fun _ _ => ⟨rfl, rfl⟩) F_laws_toNetwork

theorem K_laws_toIntA3_L3 (n : Nat) (x : (Int × Int × Int) × (Int × Int × Int) × (Int × Int × Int) × Int) : laws_toIntA3_L3 (n + 1) x = roundK C_laws_toIntA3 B_laws_toIntA3_L3 (S_laws_toIntA3_L3 fuel) x (laws_toIntA3_L3 n) := by
  obtain ⟨a, t2, out, i⟩ := x
  kernel_rfl
theorem F_laws_toIntA3 (a : dens E_laws_toIntA3.params) : E_laws_toIntA3.run a = funK C_laws_toIntA3 Try.f108 E_laws_toIntA3.params E_laws_toIntA3.results a (fun o r => some (N_laws_toIntA3 o r)) := by
  kernel_rfl
theorem W_laws_toIntA3 : loopsOf D_laws_toIntA3 = [B_laws_toIntA3_L3] := by kernel_rfl
theorem R_laws_toIntA3_L3 : firstReg B_laws_toIntA3_L3 = 3 := by kernel_rfl
theorem Q_laws_toIntA3 : Try.prog.funcs[108]? = some Try.f108 ∧ (Try.f108.name == "runtime.NumGoroutine") = false ∧ Try.f108.body = some D_laws_toIntA3 := ⟨Try.func108, by kernel_rfl, by kernel_rfl⟩
theorem H_laws_toIntA3 : Holds Try.prog 108 E_laws_toIntA3 :=
  holds_of (cx := C_laws_toIntA3) (tabOk_ok tabT rfl).1 (allT_ok trivial) mixT Q_laws_toIntA3.1 Q_laws_toIntA3.2.2 (loops_of W_laws_toIntA3 ⟨loop_of (cx := C_laws_toIntA3) (L := S_laws_toIntA3_L3 fuel) rfl (by rw [R_laws_toIntA3_L3]; rfl) ⟨laws_toIntA3_L3, fun _ => rfl, fun n x => K_laws_toIntA3_L3 n x, fuel, fun _ => rfl⟩, trivial⟩) (enc := N_laws_toIntA3) (fun _ _ => ⟨rfl, rfl⟩) F_laws_toIntA3

theorem K_laws_toIntA3S_L3 (n : Nat) (x : (List (Int × Int × Int)) × (List (Int × Int × Int)) × Int) : laws_toIntA3S_L3 (n + 1) x = roundK C_laws_toIntA3S B_laws_toIntA3S_L3 (S_laws_toIntA3S_L3 fuel) x (laws_toIntA3S_L3 n) := by
  obtain ⟨a, out, i⟩ := x
  kernel_rfl
theorem F_laws_toIntA3S (a : dens E_laws_toIntA3S.params) : E_laws_toIntA3S.run a = funK C_laws_toIntA3S Try.f53 E_laws_toIntA3S.params E_laws_toIntA3S.results a (fun o r => some (N_laws_toIntA3S o r)) := by
  kernel_rfl
theorem W_laws_toIntA3S : loopsOf D_laws_toIntA3S = [B_laws_toIntA3S_L3] := by kernel_rfl
theorem R_laws_toIntA3S_L3 : firstReg B_laws_toIntA3S_L3 = 3 := by kernel_rfl
theorem Q_laws_toIntA3S : Try.prog.funcs[53]? = some Try.f53 ∧ (Try.f53.name == "runtime.NumGoroutine") = false ∧ Try.f53.body = some D_laws_toIntA3S := ⟨Try.func53, by kernel_rfl, by kernel_rfl⟩
theorem H_laws_toIntA3S : Holds Try.prog 53 E_laws_toIntA3S :=
  holds_of (cx := C_laws_toIntA3S) (tabOk_ok tabT rfl).1 (allT_ok ⟨⟨H_laws_toIntA3, _, _, Q_laws_toIntA3⟩, trivial⟩) mixT Q_laws_toIntA3S.1 Q_laws_toIntA3S.2.2 (loops_of W_laws_toIntA3S ⟨loop_of (cx := C_laws_toIntA3S) (L := S_laws_toIntA3S_L3 fuel) rfl (by rw [R_laws_toIntA3S_L3]; rfl) ⟨laws_toIntA3S_L3, fun _ => rfl, fun n x => K_laws_toIntA3S_L3 n x, fuel, fun _ => rfl⟩, trivial⟩) (enc := N_laws_toIntA3S) (fun _ _ => ⟨rfl, rfl⟩) F_laws_toIntA3S

theorem F_spec_l1In (a : dens E_spec_l1In.params) : E_spec_l1In.run a = funK C_spec_l1In Try.f84 E_spec_l1In.params E_spec_l1In.results a (fun o r => some (N_spec_l1In o r)) := by
  kernel_rfl
theorem W_spec_l1In : loopsOf D_spec_l1In = [] := by kernel_rfl
theorem Q_spec_l1In : Try.prog.funcs[84]? = some Try.f84 ∧ (Try.f84.name == "runtime.NumGoroutine") = false ∧ Try.f84.body = some D_spec_l1In := ⟨Try.func84, by kernel_rfl, by kernel_rfl⟩
theorem H_spec_l1In : Holds Try.prog 84 E_spec_l1In :=
  holds_of (cx := C_spec_l1In) (tabOk_ok tabT rfl).1 (allT_ok trivial) mixT Q_spec_l1In.1 Q_spec_l1In.2.2 (loops_of W_spec_l1In trivial) (enc := N_spec_l1In) (fun _ _ => ⟨rfl, rfl⟩) F_spec_l1In

theorem K_spec_l2Pow_L2 (n : Nat) (x : Int × Int × Int) : spec_l2Pow_L2 (n + 1) x = roundK C_spec_l2Pow B_spec_l2Pow_L2 (S_spec_l2Pow_L2 fuel) x (spec_l2Pow_L2 n) := by
  obtain ⟨n_, k, out⟩ := x
  kernel_rfl
theorem F_spec_l2Pow (a : dens E_spec_l2Pow.params) : E_spec_l2Pow.run a = funK C_spec_l2Pow Try.f69 E_spec_l2Pow.params E_spec_l2Pow.results a (fun o r => some (N_spec_l2Pow o r)) := by
  kernel_rfl
theorem W_spec_l2Pow : loopsOf D_spec_l2Pow = [B_spec_l2Pow_L2] := by kernel_rfl
theorem R_spec_l2Pow_L2 : firstReg B_spec_l2Pow_L2 = 2 := by kernel_rfl
theorem Q_spec_l2Pow : Try.prog.funcs[69]? = some Try.f69 ∧ (Try.f69.name == "runtime.NumGoroutine") = false ∧ Try.f69.body = some D_spec_l2Pow := ⟨Try.func69, by kernel_rfl, by kernel_rfl⟩
theorem H_spec_l2Pow : Holds Try.prog 69 E_spec_l2Pow :=
  holds_of (cx := C_spec_l2Pow) (tabOk_ok tabT rfl).1 (allT_ok trivial) mixT Q_spec_l2Pow.1 Q_spec_l2Pow.2.2 (loops_of W_spec_l2Pow ⟨loop_of (cx := C_spec_l2Pow) (L := S_spec_l2Pow_L2 fuel) rfl (by rw [R_spec_l2Pow_L2]; rfl) ⟨spec_l2Pow_L2, fun _ => rfl, fun n x => K_spec_l2Pow_L2 n x, fuel, fun _ => rfl⟩, trivial⟩) (enc := N_spec_l2Pow) (fun _ _ => ⟨rfl, rfl⟩) F_spec_l2Pow

theorem K_spec_l2Elements_L2 (n : Nat) (x : Int × (List Int) × Int) : spec_l2Elements_L2 (n + 1) x = roundK C_spec_l2Elements B_spec_l2Elements_L2 (S_spec_l2Elements_L2 fuel) x (spec_l2Elements_L2 n) := by
  obtain ⟨n_, list, i⟩ := x
  kernel_rfl
theorem F_spec_l2Elements (a : dens E_spec_l2Elements.params) : E_spec_l2Elements.run a = funK C_spec_l2Elements Try.f85 E_spec_l2Elements.params E_spec_l2Elements.results a (fun o r => some (N_spec_l2Elements o r)) := by
  kernel_rfl
theorem W_spec_l2Elements : loopsOf D_spec_l2Elements = [B_spec_l2Elements_L2] := by kernel_rfl
theorem R_spec_l2Elements_L2 : firstReg B_spec_l2Elements_L2 = 2 := by kernel_rfl
theorem Q_spec_l2Elements : Try.prog.funcs[85]? = some Try.f85 ∧ (Try.f85.name == "runtime.NumGoroutine") = false ∧ Try.f85.body = some D_spec_l2Elements := ⟨Try.func85, by kernel_rfl, by kernel_rfl⟩
theorem H_spec_l2Elements : Holds Try.prog 85 E_spec_l2Elements :=
  holds_of (cx := C_spec_l2Elements) (tabOk_ok tabT rfl).1 (allT_ok ⟨⟨H_spec_l1In, _, _, Q_spec_l1In⟩, trivial⟩) mixT Q_spec_l2Elements.1 Q_spec_l2Elements.2.2 (loops_of W_spec_l2Elements ⟨loop_of (cx := C_spec_l2Elements) (L := S_spec_l2Elements_L2 fuel) rfl (by rw [R_spec_l2Elements_L2]; rfl) ⟨spec_l2Elements_L2, fun _ => rfl, fun n x => K_spec_l2Elements_L2 n x, fuel, fun _ => rfl⟩, trivial⟩) (enc := N_spec_l2Elements) (fun _ _ => ⟨rfl, rfl⟩) F_spec_l2Elements

theorem F_spec_l8Tuple (a : dens E_spec_l8Tuple.params) : E_spec_l8Tuple.run a = funK C_spec_l8Tuple Try.f102 E_spec_l8Tuple.params E_spec_l8Tuple.results a (fun o r => some (N_spec_l8Tuple o r)) := by
  kernel_rfl
theorem W_spec_l8Tuple : loopsOf D_spec_l8Tuple = [] := by kernel_rfl
theorem Q_spec_l8Tuple : Try.prog.funcs[102]? = some Try.f102 ∧ (Try.f102.name == "runtime.NumGoroutine") = false ∧ Try.f102.body = some D_spec_l8Tuple := ⟨Try.func102, by kernel_rfl, by kernel_rfl⟩
theorem H_spec_l8Tuple : Holds Try.prog 102 E_spec_l8Tuple :=
  holds_of (cx := C_spec_l8Tuple) (tabOk_ok tabT rfl).1 (allT_ok ⟨⟨H_spec_l2Elements, _, _, Q_spec_l2Elements⟩, trivial⟩) mixT Q_spec_l8Tuple.1 Q_spec_l8Tuple.2.2 (loops_of W_spec_l8Tuple trivial) (enc := N_spec_l8Tuple) (fun _ _ => ⟨rfl, rfl⟩) F_spec_l8Tuple

theorem K_spec_l3Less_L2 (n : Nat) (x : (List Int) × (List Int) × Int) : spec_l3Less_L2 (n + 1) x = roundK C_spec_l3Less B_spec_l3Less_L2 (S_spec_l3Less_L2 fuel) x (spec_l3Less_L2 n) := by
  obtain ⟨a, b, i⟩ := x
  kernel_rfl
theorem F_spec_l3Less (a : dens E_spec_l3Less.params) : E_spec_l3Less.run a = funK C_spec_l3Less Try.f150 E_spec_l3Less.params E_spec_l3Less.results a (fun o r => some (N_spec_l3Less o r)) := by
  kernel_rfl
theorem W_spec_l3Less : loopsOf D_spec_l3Less = [B_spec_l3Less_L2] := by kernel_rfl
theorem R_spec_l3Less_L2 : firstReg B_spec_l3Less_L2 = 2 := by kernel_rfl
theorem Q_spec_l3Less : Try.prog.funcs[150]? = some Try.f150 ∧ (Try.f150.name == "runtime.NumGoroutine") = false ∧ Try.f150.body = some D_spec_l3Less := ⟨Try.func150, by kernel_rfl, by kernel_rfl⟩
theorem H_spec_l3Less : Holds Try.prog 150 E_spec_l3Less :=
  holds_of (cx := C_spec_l3Less) (tabOk_ok tabT rfl).1 (allT_ok trivial) mixT Q_spec_l3Less.1 Q_spec_l3Less.2.2 (loops_of W_spec_l3Less ⟨loop_of (cx := C_spec_l3Less) (L := S_spec_l3Less_L2 fuel) rfl (by rw [R_spec_l3Less_L2]; rfl) ⟨spec_l3Less_L2, fun _ => rfl, fun n x => K_spec_l3Less_L2 n x, fuel, fun _ => rfl⟩, trivial⟩) (enc := N_spec_l3Less) (fun _ _ => ⟨rfl, rfl⟩) F_spec_l3Less

theorem K_spec_l13Good_L4 (n : Nat) (x : Int × (Int × (List (List Int))) × Int) : spec_l13Good_L4 (n + 1) x = roundK C_spec_l13Good B_spec_l13Good_L4 (S_spec_l13Good_L4 fuel) x (spec_l13Good_L4 n) := by
  obtain ⟨n_, r, i⟩ := x
  kernel_rfl
theorem F_spec_l13Good (a : dens E_spec_l13Good.params) : E_spec_l13Good.run a = funK C_spec_l13Good Try.f148 E_spec_l13Good.params E_spec_l13Good.results a (fun o r => some (N_spec_l13Good o r)) := by
  kernel_rfl
theorem W_spec_l13Good : loopsOf D_spec_l13Good = [B_spec_l13Good_L4] := by kernel_rfl
theorem R_spec_l13Good_L4 : firstReg B_spec_l13Good_L4 = 4 := by kernel_rfl
theorem Q_spec_l13Good : Try.prog.funcs[148]? = some Try.f148 ∧ (Try.f148.name == "runtime.NumGoroutine") = false ∧ Try.f148.body = some D_spec_l13Good := ⟨Try.func148, by kernel_rfl, by kernel_rfl⟩
theorem H_spec_l13Good : Holds Try.prog 148 E_spec_l13Good :=
  holds_of (cx := C_spec_l13Good) (tabOk_ok tabT rfl).1 (allT_ok ⟨⟨H_spec_l2Pow, _, _, Q_spec_l2Pow⟩, ⟨⟨H_spec_l1In, _, _, Q_spec_l1In⟩, ⟨⟨H_spec_l8Tuple, _, _, Q_spec_l8Tuple⟩, ⟨⟨H_spec_l3Less, _, _, Q_spec_l3Less⟩, trivial⟩⟩⟩⟩) mixT Q_spec_l13Good.1 Q_spec_l13Good.2.2 (loops_of W_spec_l13Good ⟨loop_of (cx := C_spec_l13Good) (L := S_spec_l13Good_L4 fuel) rfl (by rw [R_spec_l13Good_L4]; rfl) ⟨spec_l13Good_L4, fun _ => rfl, fun n x => K_spec_l13Good_L4 n x, fuel, fun _ => rfl⟩, trivial⟩) (enc := N_spec_l13Good) (fun _ _ => ⟨rfl, rfl⟩) F_spec_l13Good

theorem F_spec_l19Is (a : dens E_spec_l19Is.params) : E_spec_l19Is.run a = funK C_spec_l19Is Try.f137 E_spec_l19Is.params E_spec_l19Is.results a (fun o r => some (N_spec_l19Is o r)) := by
  kernel_rfl
theorem W_spec_l19Is : loopsOf D_spec_l19Is = [] := by kernel_rfl
theorem Q_spec_l19Is : Try.prog.funcs[137]? = some Try.f137 ∧ (Try.f137.name == "runtime.NumGoroutine") = false ∧ Try.f137.body = some D_spec_l19Is := ⟨Try.func137, by kernel_rfl, by kernel_rfl⟩
theorem H_spec_l19Is : Holds Try.prog 137 E_spec_l19Is :=
  holds_of (cx := C_spec_l19Is) (tabOk_ok tabT rfl).1 (allT_ok ⟨⟨H_spec_l2Elements, _, _, Q_spec_l2Elements⟩, ⟨⟨H_spec_l13Good, _, _, Q_spec_l13Good⟩, trivial⟩⟩) mixT Q_spec_l19Is.1 Q_spec_l19Is.2.2 (loops_of W_spec_l19Is trivial) (enc := N_spec_l19Is) (fun _ _ => ⟨rfl, rfl⟩) F_spec_l19Is

theorem K_spec_l19Good_L4 (n : Nat) (x : (Int × Int × (List ((List Int) × Int × (List (List Int))))) × Int) : spec_l19Good_L4 (n + 1) x = roundK C_spec_l19Good B_spec_l19Good_L4 (S_spec_l19Good_L4 fuel) x (spec_l19Good_L4 n) := by
  obtain ⟨net, i⟩ := x
  kernel_rfl
theorem F_spec_l19Good (a : dens E_spec_l19Good.params) : E_spec_l19Good.run a = funK C_spec_l19Good Try.f103 E_spec_l19Good.params E_spec_l19Good.results a (fun o r => some (N_spec_l19Good o r)) := by
  kernel_rfl
theorem W_spec_l19Good : loopsOf D_spec_l19Good = [B_spec_l19Good_L4] := by kernel_rfl
theorem R_spec_l19Good_L4 : firstReg B_spec_l19Good_L4 = 4 := by kernel_rfl
theorem Q_spec_l19Good : Try.prog.funcs[103]? = some Try.f103 ∧ (Try.f103.name == "runtime.NumGoroutine") = false ∧ Try.f103.body = some D_spec_l19Good := ⟨Try.func103, by kernel_rfl, by kernel_rfl⟩
theorem H_spec_l19Good : Holds Try.prog 103 E_spec_l19Good :=
  holds_of (cx := C_spec_l19Good) (tabOk_ok tabT rfl).1 (allT_ok ⟨⟨H_spec_l1In, _, _, Q_spec_l1In⟩, ⟨⟨H_spec_l19Is, _, _, Q_spec_l19Is⟩, trivial⟩⟩) mixT Q_spec_l19Good.1 Q_spec_l19Good.2.2 (loops_of W_spec_l19Good ⟨loop_of (cx := C_spec_l19Good) (L := S_spec_l19Good_L4 fuel) rfl (by rw [R_spec_l19Good_L4]; rfl) ⟨spec_l19Good_L4, fun _ => rfl, fun n x => K_spec_l19Good_L4 n x, fuel, fun _ => rfl⟩, trivial⟩) (enc := N_spec_l19Good) (fun _ _ => ⟨rfl, rfl⟩) F_spec_l19Good

theorem K_spec_l6Identity_L3 (n : Nat) (x : Int × (List Int) × Int) : spec_l6Identity_L3 (n + 1) x = roundK C_spec_l6Identity B_spec_l6Identity_L3 (S_spec_l6Identity_L3 fuel) x (spec_l6Identity_L3 n) := by
  obtain ⟨n_, out, x⟩ := x
  kernel_rfl
theorem F_spec_l6Identity (a : dens E_spec_l6Identity.params) : E_spec_l6Identity.run a = funK C_spec_l6Identity Try.f138 E_spec_l6Identity.params E_spec_l6Identity.results a (fun o r => some (N_spec_l6Identity o r)) := by
  kernel_rfl
theorem W_spec_l6Identity : loopsOf D_spec_l6Identity = [B_spec_l6Identity_L3] := by kernel_rfl
theorem R_spec_l6Identity_L3 : firstReg B_spec_l6Identity_L3 = 3 := by kernel_rfl
theorem Q_spec_l6Identity : Try.prog.funcs[138]? = some Try.f138 ∧ (Try.f138.name == "runtime.NumGoroutine") = false ∧ Try.f138.body = some D_spec_l6Identity := ⟨Try.func138, by kernel_rfl, by kernel_rfl⟩
theorem H_spec_l6Identity : Holds Try.prog 138 E_spec_l6Identity :=
  holds_of (cx := C_spec_l6Identity) (tabOk_ok tabT rfl).1 (allT_ok trivial) mixT Q_spec_l6Identity.1 Q_spec_l6Identity.2.2 (loops_of W_spec_l6Identity ⟨loop_of (cx := C_spec_l6Identity) (L := S_spec_l6Identity_L3 fuel) rfl (by rw [R_spec_l6Identity_L3]; rfl) ⟨spec_l6Identity_L3, fun _ => rfl, fun n x => K_spec_l6Identity_L3 n x, fuel, fun _ => rfl⟩, trivial⟩) (enc := N_spec_l6Identity) (fun _ _ => ⟨rfl, rfl⟩) F_spec_l6Identity

theorem K_spec_l20Full_L3 (n : Nat) (x : (Int × Int × (List ((List Int) × Int × (List (List Int))))) × (List (List Int)) × Int) : spec_l20Full_L3 (n + 1) x = roundK C_spec_l20Full B_spec_l20Full_L3 (S_spec_l20Full_L3 fuel) x (spec_l20Full_L3 n) := by
  obtain ⟨net, out, v⟩ := x
  kernel_rfl
theorem F_spec_l20Full (a : dens E_spec_l20Full.params) : E_spec_l20Full.run a = funK C_spec_l20Full Try.f104 E_spec_l20Full.params E_spec_l20Full.results a (fun o r => some (N_spec_l20Full o r)) := by
  kernel_rfl
theorem W_spec_l20Full : loopsOf D_spec_l20Full = [B_spec_l20Full_L3] := by kernel_rfl
theorem R_spec_l20Full_L3 : firstReg B_spec_l20Full_L3 = 3 := by kernel_rfl
theorem Q_spec_l20Full : Try.prog.funcs[104]? = some Try.f104 ∧ (Try.f104.name == "runtime.NumGoroutine") = false ∧ Try.f104.body = some D_spec_l20Full := ⟨Try.func104, by kernel_rfl, by kernel_rfl⟩
theorem H_spec_l20Full : Holds Try.prog 104 E_spec_l20Full :=
  holds_of (cx := C_spec_l20Full) (tabOk_ok tabT rfl).1 (allT_ok ⟨⟨H_spec_l6Identity, _, _, Q_spec_l6Identity⟩, trivial⟩) mixT Q_spec_l20Full.1 Q_spec_l20Full.2.2 (loops_of W_spec_l20Full ⟨loop_of (cx := C_spec_l20Full) (L := S_spec_l20Full_L3 fuel) rfl (by rw [R_spec_l20Full_L3]; rfl) ⟨spec_l20Full_L3, fun _ => rfl, fun n x => K_spec_l20Full_L3 n x, fuel, fun _ => rfl⟩, trivial⟩) (enc := N_spec_l20Full) (fun _ _ => ⟨rfl, rfl⟩) F_spec_l20Full

theorem K_spec_l1Has_L2 (n : Nat) (x : (List Int) × Int × Int) : spec_l1Has_L2 (n + 1) x = roundK C_spec_l1Has B_spec_l1Has_L2 (S_spec_l1Has_L2 fuel) x (spec_l1Has_L2 n) := by
  obtain ⟨l, n_, i⟩ := x
  kernel_rfl
theorem F_spec_l1Has (a : dens E_spec_l1Has.params) : E_spec_l1Has.run a = funK C_spec_l1Has Try.f105 E_spec_l1Has.params E_spec_l1Has.results a (fun o r => some (N_spec_l1Has o r)) := by
  kernel_rfl
theorem W_spec_l1Has : loopsOf D_spec_l1Has = [B_spec_l1Has_L2] := by kernel_rfl
theorem R_spec_l1Has_L2 : firstReg B_spec_l1Has_L2 = 2 := by kernel_rfl
theorem Q_spec_l1Has : Try.prog.funcs[105]? = some Try.f105 ∧ (Try.f105.name == "runtime.NumGoroutine") = false ∧ Try.f105.body = some D_spec_l1Has := ⟨Try.func105, by kernel_rfl, by kernel_rfl⟩
theorem H_spec_l1Has : Holds Try.prog 105 E_spec_l1Has :=
  holds_of (cx := C_spec_l1Has) (tabOk_ok tabT rfl).1 (allT_ok trivial) mixT Q_spec_l1Has.1 Q_spec_l1Has.2.2 (loops_of W_spec_l1Has ⟨loop_of (cx := C_spec_l1Has) (L := S_spec_l1Has_L2 fuel) rfl (by rw [R_spec_l1Has_L2]; rfl) ⟨spec_l1Has_L2, fun _ => rfl, fun n x => K_spec_l1Has_L2 n x, fuel, fun _ => rfl⟩, trivial⟩) (enc := N_spec_l1Has) (fun _ _ => ⟨rfl, rfl⟩) F_spec_l1Has

theorem K_spec_l20Fits_L7 (n : Nat) (x : (List Int) × (List (List Int)) × ((List Int) × Int × (List (List Int))) × Int × Int) : spec_l20Fits_L7 (n + 1) x = roundK C_spec_l20Fits B_spec_l20Fits_L7 (S_spec_l20Fits_L7 fuel) x (spec_l20Fits_L7 n) := by
  obtain ⟨t, domains, c, i, k⟩ := x
  kernel_rfl
theorem K_spec_l20Fits_L2 (n : Nat) (x : (List Int) × (List (List Int)) × ((List Int) × Int × (List (List Int))) × Int) : spec_l20Fits_L2 (n + 1) x = roundK C_spec_l20Fits B_spec_l20Fits_L2 (S_spec_l20Fits_L2 fuel) x (spec_l20Fits_L2 n) := by
  obtain ⟨t, domains, c, i⟩ := x
  kernel_rfl
theorem F_spec_l20Fits (a : dens E_spec_l20Fits.params) : E_spec_l20Fits.run a = funK C_spec_l20Fits Try.f139 E_spec_l20Fits.params E_spec_l20Fits.results a (fun o r => some (N_spec_l20Fits o r)) := by
  kernel_rfl
theorem W_spec_l20Fits : loopsOf D_spec_l20Fits = [B_spec_l20Fits_L2, B_spec_l20Fits_L7] := by kernel_rfl
theorem R_spec_l20Fits_L7 : firstReg B_spec_l20Fits_L7 = 7 := by kernel_rfl
theorem R_spec_l20Fits_L2 : firstReg B_spec_l20Fits_L2 = 2 := by kernel_rfl
theorem Q_spec_l20Fits : Try.prog.funcs[139]? = some Try.f139 ∧ (Try.f139.name == "runtime.NumGoroutine") = false ∧ Try.f139.body = some D_spec_l20Fits := ⟨Try.func139, by kernel_rfl, by kernel_rfl⟩
theorem H_spec_l20Fits : Holds Try.prog 139 E_spec_l20Fits :=
  holds_of (cx := C_spec_l20Fits) (tabOk_ok tabT rfl).1 (allT_ok ⟨⟨H_spec_l1Has, _, _, Q_spec_l1Has⟩, trivial⟩) mixT Q_spec_l20Fits.1 Q_spec_l20Fits.2.2 (loops_of W_spec_l20Fits ⟨loop_of (cx := C_spec_l20Fits) (L := S_spec_l20Fits_L2 fuel) rfl (by rw [R_spec_l20Fits_L2]; rfl) ⟨spec_l20Fits_L2, fun _ => rfl, fun n x => K_spec_l20Fits_L2 n x, fuel, fun _ => rfl⟩, ⟨loop_of (cx := C_spec_l20Fits) (L := S_spec_l20Fits_L7 fuel) rfl (by rw [R_spec_l20Fits_L7]; rfl) ⟨spec_l20Fits_L7, fun _ => rfl, fun n x => K_spec_l20Fits_L7 n x, fuel, fun _ => rfl⟩, trivial⟩⟩) (enc := N_spec_l20Fits) (fun _ _ => ⟨rfl, rfl⟩) F_spec_l20Fits

theorem K_spec_l20Support_L2 (n : Nat) (x : Int × Int × (List (List Int)) × ((List Int) × Int × (List (List Int))) × Int) : spec_l20Support_L2 (n + 1) x = roundK C_spec_l20Support B_spec_l20Support_L2 (S_spec_l20Support_L2 fuel) x (spec_l20Support_L2 n) := by
  obtain ⟨place, value, domains, c, i⟩ := x
  kernel_rfl
theorem F_spec_l20Support (a : dens E_spec_l20Support.params) : E_spec_l20Support.run a = funK C_spec_l20Support Try.f106 E_spec_l20Support.params E_spec_l20Support.results a (fun o r => some (N_spec_l20Support o r)) := by
  kernel_rfl
theorem W_spec_l20Support : loopsOf D_spec_l20Support = [B_spec_l20Support_L2] := by kernel_rfl
theorem R_spec_l20Support_L2 : firstReg B_spec_l20Support_L2 = 2 := by kernel_rfl
theorem Q_spec_l20Support : Try.prog.funcs[106]? = some Try.f106 ∧ (Try.f106.name == "runtime.NumGoroutine") = false ∧ Try.f106.body = some D_spec_l20Support := ⟨Try.func106, by kernel_rfl, by kernel_rfl⟩
theorem H_spec_l20Support : Holds Try.prog 106 E_spec_l20Support :=
  holds_of (cx := C_spec_l20Support) (tabOk_ok tabT rfl).1 (allT_ok ⟨⟨H_spec_l20Fits, _, _, Q_spec_l20Fits⟩, trivial⟩) mixT Q_spec_l20Support.1 Q_spec_l20Support.2.2 (loops_of W_spec_l20Support ⟨loop_of (cx := C_spec_l20Support) (L := S_spec_l20Support_L2 fuel) rfl (by rw [R_spec_l20Support_L2]; rfl) ⟨spec_l20Support_L2, fun _ => rfl, fun n x => K_spec_l20Support_L2 n x, fuel, fun _ => rfl⟩, trivial⟩) (enc := N_spec_l20Support) (fun _ _ => ⟨rfl, rfl⟩) F_spec_l20Support

theorem K_spec_l20Without_L3 (n : Nat) (x : (List Int) × Int × (List Int) × Int) : spec_l20Without_L3 (n + 1) x = roundK C_spec_l20Without B_spec_l20Without_L3 (S_spec_l20Without_L3 fuel) x (spec_l20Without_L3 n) := by
  obtain ⟨list, x, out, i⟩ := x
  kernel_rfl
theorem F_spec_l20Without (a : dens E_spec_l20Without.params) : E_spec_l20Without.run a = funK C_spec_l20Without Try.f107 E_spec_l20Without.params E_spec_l20Without.results a (fun o r => some (N_spec_l20Without o r)) := by
  kernel_rfl
theorem W_spec_l20Without : loopsOf D_spec_l20Without = [B_spec_l20Without_L3] := by kernel_rfl
theorem R_spec_l20Without_L3 : firstReg B_spec_l20Without_L3 = 3 := by kernel_rfl
theorem Q_spec_l20Without : Try.prog.funcs[107]? = some Try.f107 ∧ (Try.f107.name == "runtime.NumGoroutine") = false ∧ Try.f107.body = some D_spec_l20Without := ⟨Try.func107, by kernel_rfl, by kernel_rfl⟩
theorem H_spec_l20Without : Holds Try.prog 107 E_spec_l20Without :=
  holds_of (cx := C_spec_l20Without) (tabOk_ok tabT rfl).1 (allT_ok trivial) mixT Q_spec_l20Without.1 Q_spec_l20Without.2.2 (loops_of W_spec_l20Without ⟨loop_of (cx := C_spec_l20Without) (L := S_spec_l20Without_L3 fuel) rfl (by rw [R_spec_l20Without_L3]; rfl) ⟨spec_l20Without_L3, fun _ => rfl, fun n x => K_spec_l20Without_L3 n x, fuel, fun _ => rfl⟩, trivial⟩) (enc := N_spec_l20Without) (fun _ _ => ⟨rfl, rfl⟩) F_spec_l20Without

theorem K_spec_IsArcTrace_L5 (n : Nat) (x : (List (Int × Int × Int)) × (Int × Int × (List ((List Int) × Int × (List (List Int))))) × (List (List Int)) × Int) : spec_IsArcTrace_L5 (n + 1) x = roundK C_spec_IsArcTrace B_spec_IsArcTrace_L5 (S_spec_IsArcTrace_L5 fuel) x (spec_IsArcTrace_L5 n) := by
  obtain ⟨t1, t2, t6, t7⟩ := x
  kernel_rfl
theorem F_spec_IsArcTrace (a : dens E_spec_IsArcTrace.params) : E_spec_IsArcTrace.run a = funK C_spec_IsArcTrace Try.f52 E_spec_IsArcTrace.params E_spec_IsArcTrace.results a (fun o r => some (N_spec_IsArcTrace o r)) := by
  kernel_rfl
theorem W_spec_IsArcTrace : loopsOf D_spec_IsArcTrace = [B_spec_IsArcTrace_L5] := by kernel_rfl
theorem R_spec_IsArcTrace_L5 : firstReg B_spec_IsArcTrace_L5 = 5 := by kernel_rfl
theorem Q_spec_IsArcTrace : Try.prog.funcs[52]? = some Try.f52 ∧ (Try.f52.name == "runtime.NumGoroutine") = false ∧ Try.f52.body = some D_spec_IsArcTrace := ⟨Try.func52, by kernel_rfl, by kernel_rfl⟩
theorem H_spec_IsArcTrace : Holds Try.prog 52 E_spec_IsArcTrace :=
  holds_of (cx := C_spec_IsArcTrace) (tabOk_ok tabT rfl).1 (allT_ok ⟨⟨H_spec_l1In, _, _, Q_spec_l1In⟩, ⟨⟨H_spec_l19Good, _, _, Q_spec_l19Good⟩, ⟨⟨H_spec_l20Full, _, _, Q_spec_l20Full⟩, ⟨⟨H_spec_l1Has, _, _, Q_spec_l1Has⟩, ⟨⟨H_spec_l20Support, _, _, Q_spec_l20Support⟩, ⟨⟨H_spec_l20Without, _, _, Q_spec_l20Without⟩, trivial⟩⟩⟩⟩⟩⟩) mixT Q_spec_IsArcTrace.1 Q_spec_IsArcTrace.2.2 (loops_of W_spec_IsArcTrace ⟨loop_of (cx := C_spec_IsArcTrace) (L := S_spec_IsArcTrace_L5 fuel) rfl (by rw [R_spec_IsArcTrace_L5]; rfl) ⟨spec_IsArcTrace_L5, fun _ => rfl, fun n x => K_spec_IsArcTrace_L5 n x, fuel, fun _ => rfl⟩, trivial⟩) (enc := N_spec_IsArcTrace) (fun _ _ => ⟨rfl, rfl⟩) F_spec_IsArcTrace

theorem F_impl_isTemplateSize (a : dens E_impl_isTemplateSize.params) : E_impl_isTemplateSize.run a = funK C_impl_isTemplateSize Try.f140 E_impl_isTemplateSize.params E_impl_isTemplateSize.results a (fun o r => some (N_impl_isTemplateSize o r)) := by
  kernel_rfl
theorem W_impl_isTemplateSize : loopsOf D_impl_isTemplateSize = [] := by kernel_rfl
theorem Q_impl_isTemplateSize : Try.prog.funcs[140]? = some Try.f140 ∧ (Try.f140.name == "runtime.NumGoroutine") = false ∧ Try.f140.body = some D_impl_isTemplateSize := ⟨Try.func140, by kernel_rfl, by kernel_rfl⟩
theorem H_impl_isTemplateSize : Holds Try.prog 140 E_impl_isTemplateSize :=
  holds_of (cx := C_impl_isTemplateSize) (tabOk_ok tabT rfl).1 (allT_ok trivial) mixT Q_impl_isTemplateSize.1 Q_impl_isTemplateSize.2.2 (loops_of W_impl_isTemplateSize trivial) (enc := N_impl_isTemplateSize) (fun _ _ => ⟨rfl, rfl⟩) F_impl_isTemplateSize

theorem K_impl_inSize_L2 (n : Nat) (x : Int × (List Int) × Int × Int) : impl_inSize_L2 (n + 1) x = roundK C_impl_inSize B_impl_inSize_L2 (S_impl_inSize_L2 fuel) x (impl_inSize_L2 n) := by
  obtain ⟨n_, t7, t8, t9⟩ := x
  kernel_rfl
theorem F_impl_inSize (a : dens E_impl_inSize.params) : E_impl_inSize.run a = funK C_impl_inSize Try.f90 E_impl_inSize.params E_impl_inSize.results a (fun o r => some (N_impl_inSize o r)) := by
  kernel_rfl
theorem W_impl_inSize : loopsOf D_impl_inSize = [B_impl_inSize_L2] := by kernel_rfl
theorem R_impl_inSize_L2 : firstReg B_impl_inSize_L2 = 2 := by kernel_rfl
theorem Q_impl_inSize : Try.prog.funcs[90]? = some Try.f90 ∧ (Try.f90.name == "runtime.NumGoroutine") = false ∧ Try.f90.body = some D_impl_inSize := ⟨Try.func90, by kernel_rfl, by kernel_rfl⟩
theorem H_impl_inSize : Holds Try.prog 90 E_impl_inSize :=
  holds_of (cx := C_impl_inSize) (tabOk_ok tabT rfl).1 (allT_ok trivial) mixT Q_impl_inSize.1 Q_impl_inSize.2.2 (loops_of W_impl_inSize ⟨loop_of (cx := C_impl_inSize) (L := S_impl_inSize_L2 fuel) rfl (by rw [R_impl_inSize_L2]; rfl) ⟨impl_inSize_L2, fun _ => rfl, fun n x => K_impl_inSize_L2 n x, fuel, fun _ => rfl⟩, trivial⟩) (enc := N_impl_inSize) (fun _ _ => ⟨rfl, rfl⟩) F_impl_inSize

theorem K_impl_compareLists_L2 (n : Nat) (x : (List Int) × (List Int) × Int) : impl_compareLists_L2 (n + 1) x = roundK C_impl_compareLists B_impl_compareLists_L2 (S_impl_compareLists_L2 fuel) x (impl_compareLists_L2 n) := by
  obtain ⟨s, t, i⟩ := x
  kernel_rfl
theorem F_impl_compareLists (a : dens E_impl_compareLists.params) : E_impl_compareLists.run a = funK C_impl_compareLists Try.f151 E_impl_compareLists.params E_impl_compareLists.results a (fun o r => some (N_impl_compareLists o r)) := by
  kernel_rfl
theorem W_impl_compareLists : loopsOf D_impl_compareLists = [B_impl_compareLists_L2] := by kernel_rfl
theorem R_impl_compareLists_L2 : firstReg B_impl_compareLists_L2 = 2 := by kernel_rfl
theorem Q_impl_compareLists : Try.prog.funcs[151]? = some Try.f151 ∧ (Try.f151.name == "runtime.NumGoroutine") = false ∧ Try.f151.body = some D_impl_compareLists := ⟨Try.func151, by kernel_rfl, by kernel_rfl⟩
theorem H_impl_compareLists : Holds Try.prog 151 E_impl_compareLists :=
  holds_of (cx := C_impl_compareLists) (tabOk_ok tabT rfl).1 (allT_ok trivial) mixT Q_impl_compareLists.1 Q_impl_compareLists.2.2 (loops_of W_impl_compareLists ⟨loop_of (cx := C_impl_compareLists) (L := S_impl_compareLists_L2 fuel) rfl (by rw [R_impl_compareLists_L2]; rfl) ⟨impl_compareLists_L2, fun _ => rfl, fun n x => K_impl_compareLists_L2 n x, fuel, fun _ => rfl⟩, trivial⟩) (enc := N_impl_compareLists) (fun _ _ => ⟨rfl, rfl⟩) F_impl_compareLists

theorem K_impl_isRelation_L4 (n : Nat) (x : Int × (Int × (List (List Int))) × (List (List Int)) × Int × Int) : impl_isRelation_L4 (n + 1) x = roundK C_impl_isRelation B_impl_isRelation_L4 (S_impl_isRelation_L4 fuel) x (impl_isRelation_L4 n) := by
  obtain ⟨n_, r, t16, t17, t18⟩ := x
  kernel_rfl
theorem F_impl_isRelation (a : dens E_impl_isRelation.params) : E_impl_isRelation.run a = funK C_impl_isRelation Try.f149 E_impl_isRelation.params E_impl_isRelation.results a (fun o r => some (N_impl_isRelation o r)) := by
  kernel_rfl
theorem W_impl_isRelation : loopsOf D_impl_isRelation = [B_impl_isRelation_L4] := by kernel_rfl
theorem R_impl_isRelation_L4 : firstReg B_impl_isRelation_L4 = 4 := by kernel_rfl
theorem Q_impl_isRelation : Try.prog.funcs[149]? = some Try.f149 ∧ (Try.f149.name == "runtime.NumGoroutine") = false ∧ Try.f149.body = some D_impl_isRelation := ⟨Try.func149, by kernel_rfl, by kernel_rfl⟩
theorem H_impl_isRelation : Holds Try.prog 149 E_impl_isRelation :=
  holds_of (cx := C_impl_isRelation) (tabOk_ok tabT rfl).1 (allT_ok ⟨⟨H_impl_inSize, _, _, Q_impl_inSize⟩, ⟨⟨H_impl_compareLists, _, _, Q_impl_compareLists⟩, trivial⟩⟩) mixT Q_impl_isRelation.1 Q_impl_isRelation.2.2 (loops_of W_impl_isRelation ⟨loop_of (cx := C_impl_isRelation) (L := S_impl_isRelation_L4 fuel) rfl (by rw [R_impl_isRelation_L4]; rfl) ⟨impl_isRelation_L4, fun _ => rfl, fun n x => K_impl_isRelation_L4 n x, fuel, fun _ => rfl⟩, trivial⟩) (enc := N_impl_isRelation) (fun _ _ => ⟨rfl, rfl⟩) F_impl_isRelation

theorem F_impl_isConstraint (a : dens E_impl_isConstraint.params) : E_impl_isConstraint.run a = funK C_impl_isConstraint Try.f141 E_impl_isConstraint.params E_impl_isConstraint.results a (fun o r => some (N_impl_isConstraint o r)) := by
  kernel_rfl
theorem W_impl_isConstraint : loopsOf D_impl_isConstraint = [] := by kernel_rfl
theorem Q_impl_isConstraint : Try.prog.funcs[141]? = some Try.f141 ∧ (Try.f141.name == "runtime.NumGoroutine") = false ∧ Try.f141.body = some D_impl_isConstraint := ⟨Try.func141, by kernel_rfl, by kernel_rfl⟩
theorem H_impl_isConstraint : Holds Try.prog 141 E_impl_isConstraint :=
  holds_of (cx := C_impl_isConstraint) (tabOk_ok tabT rfl).1 (allT_ok ⟨⟨H_impl_inSize, _, _, Q_impl_inSize⟩, ⟨⟨H_impl_isRelation, _, _, Q_impl_isRelation⟩, trivial⟩⟩) mixT Q_impl_isConstraint.1 Q_impl_isConstraint.2.2 (loops_of W_impl_isConstraint trivial) (enc := N_impl_isConstraint) (fun _ _ => ⟨rfl, rfl⟩) F_impl_isConstraint

theorem K_impl_IsNetwork_L4 (n : Nat) (x : (Int × Int × (List ((List Int) × Int × (List (List Int))))) × (List ((List Int) × Int × (List (List Int)))) × Int × Int) : impl_IsNetwork_L4 (n + 1) x = roundK C_impl_IsNetwork B_impl_IsNetwork_L4 (S_impl_IsNetwork_L4 fuel) x (impl_IsNetwork_L4 n) := by
  obtain ⟨net, t26, t27, t28⟩ := x
  kernel_rfl
theorem F_impl_IsNetwork (a : dens E_impl_IsNetwork.params) : E_impl_IsNetwork.run a = funK C_impl_IsNetwork Try.f109 E_impl_IsNetwork.params E_impl_IsNetwork.results a (fun o r => some (N_impl_IsNetwork o r)) := by
  kernel_rfl
theorem W_impl_IsNetwork : loopsOf D_impl_IsNetwork = [B_impl_IsNetwork_L4] := by kernel_rfl
theorem R_impl_IsNetwork_L4 : firstReg B_impl_IsNetwork_L4 = 4 := by kernel_rfl
theorem Q_impl_IsNetwork : Try.prog.funcs[109]? = some Try.f109 ∧ (Try.f109.name == "runtime.NumGoroutine") = false ∧ Try.f109.body = some D_impl_IsNetwork := ⟨Try.func109, by kernel_rfl, by kernel_rfl⟩
theorem H_impl_IsNetwork : Holds Try.prog 109 E_impl_IsNetwork :=
  holds_of (cx := C_impl_IsNetwork) (tabOk_ok tabT rfl).1 (allT_ok ⟨⟨H_impl_isTemplateSize, _, _, Q_impl_isTemplateSize⟩, ⟨⟨H_impl_isConstraint, _, _, Q_impl_isConstraint⟩, trivial⟩⟩) mixT Q_impl_IsNetwork.1 Q_impl_IsNetwork.2.2 (loops_of W_impl_IsNetwork ⟨loop_of (cx := C_impl_IsNetwork) (L := S_impl_IsNetwork_L4 fuel) rfl (by rw [R_impl_IsNetwork_L4]; rfl) ⟨impl_IsNetwork_L4, fun _ => rfl, fun n x => K_impl_IsNetwork_L4 n x, fuel, fun _ => rfl⟩, trivial⟩) (enc := N_impl_IsNetwork) (fun _ _ => ⟨rfl, rfl⟩) F_impl_IsNetwork

theorem K_impl_wholeDomains_L7 (n : Nat) (x : (Int × Int × (List ((List Int) × Int × (List (List Int))))) × (List (List Bool)) × Int × Int × Int × Int × Int) : impl_wholeDomains_L7 (n + 1) x = roundK C_impl_wholeDomains B_impl_wholeDomains_L7 (S_impl_wholeDomains_L7 fuel) x (impl_wholeDomains_L7 n) := by
  obtain ⟨net, d, v, t10, t11, t24, t25⟩ := x
  kernel_rfl
theorem K_impl_wholeDomains_L3 (n : Nat) (x : (Int × Int × (List ((List Int) × Int × (List (List Int))))) × (List (List Bool)) × Int × Int) : impl_wholeDomains_L3 (n + 1) x = roundK C_impl_wholeDomains B_impl_wholeDomains_L3 (S_impl_wholeDomains_L3 fuel) x (impl_wholeDomains_L3 n) := by
  obtain ⟨net, d, t10, t11⟩ := x
  kernel_rfl
theorem F_impl_wholeDomains (a : dens E_impl_wholeDomains.params) : E_impl_wholeDomains.run a = funK C_impl_wholeDomains Try.f110 E_impl_wholeDomains.params E_impl_wholeDomains.results a (fun o r => some (N_impl_wholeDomains o r)) := by
  kernel_rfl
theorem W_impl_wholeDomains : loopsOf D_impl_wholeDomains = [B_impl_wholeDomains_L3, B_impl_wholeDomains_L7] := by kernel_rfl
theorem R_impl_wholeDomains_L7 : firstReg B_impl_wholeDomains_L7 = 7 := by kernel_rfl
theorem R_impl_wholeDomains_L3 : firstReg B_impl_wholeDomains_L3 = 3 := by kernel_rfl
theorem Q_impl_wholeDomains : Try.prog.funcs[110]? = some Try.f110 ∧ (Try.f110.name == "runtime.NumGoroutine") = false ∧ Try.f110.body = some D_impl_wholeDomains := ⟨Try.func110, by kernel_rfl, by kernel_rfl⟩
theorem H_impl_wholeDomains : Holds Try.prog 110 E_impl_wholeDomains :=
  holds_of (cx := C_impl_wholeDomains) (tabOk_ok tabT rfl).1 (allT_ok trivial) mixT Q_impl_wholeDomains.1 Q_impl_wholeDomains.2.2 (loops_of W_impl_wholeDomains ⟨loop_of (cx := C_impl_wholeDomains) (L := S_impl_wholeDomains_L3 fuel) rfl (by rw [R_impl_wholeDomains_L3]; rfl) ⟨impl_wholeDomains_L3, fun _ => rfl, fun n x => K_impl_wholeDomains_L3 n x, fuel, fun _ => rfl⟩, ⟨loop_of (cx := C_impl_wholeDomains) (L := S_impl_wholeDomains_L7 fuel) rfl (by rw [R_impl_wholeDomains_L7]; rfl) ⟨impl_wholeDomains_L7, fun _ => rfl, fun n x => K_impl_wholeDomains_L7 n x, fuel, fun _ => rfl⟩, trivial⟩⟩) (enc := N_impl_wholeDomains) (fun _ _ => ⟨rfl, rfl⟩) F_impl_wholeDomains

theorem K_impl_agrees_L5 (n : Nat) (x : (List Int) × (List Int) × Int × Int × (List Int) × Int × Int × (List Int) × Int × Int) : impl_agrees_L5 (n + 1) x = roundK C_impl_agrees B_impl_agrees_L5 (S_impl_agrees_L5 fuel) x (impl_agrees_L5 n) := by
  obtain ⟨scope, t, i, v, t9, t10, t11, t18, t19, t20⟩ := x
  kernel_rfl
theorem K_impl_agrees_L2 (n : Nat) (x : (List Int) × (List Int) × (List Int) × Int × Int) : impl_agrees_L2 (n + 1) x = roundK C_impl_agrees B_impl_agrees_L2 (S_impl_agrees_L2 fuel) x (impl_agrees_L2 n) := by
  obtain ⟨scope, t, t9, t10, t11⟩ := x
  kernel_rfl
theorem F_impl_agrees (a : dens E_impl_agrees.params) : E_impl_agrees.run a = funK C_impl_agrees Try.f133 E_impl_agrees.params E_impl_agrees.results a (fun o r => some (N_impl_agrees o r)) := by
  kernel_rfl
theorem W_impl_agrees : loopsOf D_impl_agrees = [B_impl_agrees_L2, B_impl_agrees_L5] := by kernel_rfl
theorem R_impl_agrees_L5 : firstReg B_impl_agrees_L5 = 5 := by kernel_rfl
theorem R_impl_agrees_L2 : firstReg B_impl_agrees_L2 = 2 := by kernel_rfl
theorem Q_impl_agrees : Try.prog.funcs[133]? = some Try.f133 ∧ (Try.f133.name == "runtime.NumGoroutine") = false ∧ Try.f133.body = some D_impl_agrees := ⟨Try.func133, by kernel_rfl, by kernel_rfl⟩
theorem H_impl_agrees : Holds Try.prog 133 E_impl_agrees :=
  holds_of (cx := C_impl_agrees) (tabOk_ok tabT rfl).1 (allT_ok trivial) mixT Q_impl_agrees.1 Q_impl_agrees.2.2 (loops_of W_impl_agrees ⟨loop_of (cx := C_impl_agrees) (L := S_impl_agrees_L2 fuel) rfl (by rw [R_impl_agrees_L2]; rfl) ⟨impl_agrees_L2, fun _ => rfl, fun n x => K_impl_agrees_L2 n x, fuel, fun _ => rfl⟩, ⟨loop_of (cx := C_impl_agrees) (L := S_impl_agrees_L5 fuel) rfl (by rw [R_impl_agrees_L5]; rfl) ⟨impl_agrees_L5, fun _ => rfl, fun n x => K_impl_agrees_L5 n x, fuel, fun _ => rfl⟩, trivial⟩⟩) (enc := N_impl_agrees) (fun _ _ => ⟨rfl, rfl⟩) F_impl_agrees

theorem K_impl_domains_supports_L7 (n : Nat) (x : (List (List Bool)) × Int × Int × ((List Int) × Int × (List (List Int))) × Bool × (List (List Int)) × Int × Int × (List Int) × Int × Int) : impl_domains_supports_L7 (n + 1) x = roundK C_impl_domains_supports B_impl_domains_supports_L7 (S_impl_domains_supports_L7 fuel) x (impl_domains_supports_L7 n) := by
  obtain ⟨d, place, value, c, in_, t16, t17, t18, t35, t36, t37⟩ := x
  kernel_rfl
theorem K_impl_domains_supports_L2 (n : Nat) (x : (List (List Bool)) × Int × Int × ((List Int) × Int × (List (List Int))) × (List (List Int)) × Int × Int) : impl_domains_supports_L2 (n + 1) x = roundK C_impl_domains_supports B_impl_domains_supports_L2 (S_impl_domains_supports_L2 fuel) x (impl_domains_supports_L2 n) := by
  obtain ⟨d, place, value, c, t16, t17, t18⟩ := x
  kernel_rfl
theorem F_impl_domains_supports (a : dens E_impl_domains_supports.params) : E_impl_domains_supports.run a = funK C_impl_domains_supports Try.f111 E_impl_domains_supports.params E_impl_domains_supports.results a (fun o r => some (N_impl_domains_supports o r)) := by
  kernel_rfl
theorem W_impl_domains_supports : loopsOf D_impl_domains_supports = [B_impl_domains_supports_L2, B_impl_domains_supports_L7] := by kernel_rfl
theorem R_impl_domains_supports_L7 : firstReg B_impl_domains_supports_L7 = 7 := by kernel_rfl
theorem R_impl_domains_supports_L2 : firstReg B_impl_domains_supports_L2 = 2 := by kernel_rfl
theorem Q_impl_domains_supports : Try.prog.funcs[111]? = some Try.f111 ∧ (Try.f111.name == "runtime.NumGoroutine") = false ∧ Try.f111.body = some D_impl_domains_supports := ⟨Try.func111, by kernel_rfl, by kernel_rfl⟩
theorem H_impl_domains_supports : Holds Try.prog 111 E_impl_domains_supports :=
  holds_of (cx := C_impl_domains_supports) (tabOk_ok tabT rfl).1 (allT_ok ⟨⟨H_impl_agrees, _, _, Q_impl_agrees⟩, trivial⟩) mixT Q_impl_domains_supports.1 Q_impl_domains_supports.2.2 (loops_of W_impl_domains_supports ⟨loop_of (cx := C_impl_domains_supports) (L := S_impl_domains_supports_L2 fuel) rfl (by rw [R_impl_domains_supports_L2]; rfl) ⟨impl_domains_supports_L2, fun _ => rfl, fun n x => K_impl_domains_supports_L2 n x, fuel, fun _ => rfl⟩, ⟨loop_of (cx := C_impl_domains_supports) (L := S_impl_domains_supports_L7 fuel) rfl (by rw [R_impl_domains_supports_L7]; rfl) ⟨impl_domains_supports_L7, fun _ => rfl, fun n x => K_impl_domains_supports_L7 n x, fuel, fun _ => rfl⟩, trivial⟩⟩) (enc := N_impl_domains_supports) (fun _ _ => ⟨rfl, rfl⟩) F_impl_domains_supports

theorem K_impl_IsArcTrace_L5 (n : Nat) (x : (Int × Int × (List ((List Int) × Int × (List (List Int))))) × (List (List Bool)) × (List (Int × Int × Int)) × Int × Int) : impl_IsArcTrace_L5 (n + 1) x = roundK C_impl_IsArcTrace B_impl_IsArcTrace_L5 (S_impl_IsArcTrace_L5 fuel) x (impl_IsArcTrace_L5 n) := by
  obtain ⟨t2, t6, t23, t24, t25⟩ := x
  kernel_rfl
theorem F_impl_IsArcTrace (a : dens E_impl_IsArcTrace.params) : E_impl_IsArcTrace.run a = funK C_impl_IsArcTrace Try.f54 E_impl_IsArcTrace.params E_impl_IsArcTrace.results a (fun o r => some (N_impl_IsArcTrace o r)) := by
  kernel_rfl
theorem W_impl_IsArcTrace : loopsOf D_impl_IsArcTrace = [B_impl_IsArcTrace_L5] := by kernel_rfl
theorem R_impl_IsArcTrace_L5 : firstReg B_impl_IsArcTrace_L5 = 5 := by kernel_rfl
theorem Q_impl_IsArcTrace : Try.prog.funcs[54]? = some Try.f54 ∧ (Try.f54.name == "runtime.NumGoroutine") = false ∧ Try.f54.body = some D_impl_IsArcTrace := ⟨Try.func54, by kernel_rfl, by kernel_rfl⟩
theorem H_impl_IsArcTrace : Holds Try.prog 54 E_impl_IsArcTrace :=
  holds_of (cx := C_impl_IsArcTrace) (tabOk_ok tabT rfl).1 (allT_ok ⟨⟨H_impl_IsNetwork, _, _, Q_impl_IsNetwork⟩, ⟨⟨H_impl_wholeDomains, _, _, Q_impl_wholeDomains⟩, ⟨⟨H_impl_domains_supports, _, _, Q_impl_domains_supports⟩, trivial⟩⟩⟩) mixT Q_impl_IsArcTrace.1 Q_impl_IsArcTrace.2.2 (loops_of W_impl_IsArcTrace ⟨loop_of (cx := C_impl_IsArcTrace) (L := S_impl_IsArcTrace_L5 fuel) rfl (by rw [R_impl_IsArcTrace_L5]; rfl) ⟨impl_IsArcTrace_L5, fun _ => rfl, fun n x => K_impl_IsArcTrace_L5 n x, fuel, fun _ => rfl⟩, trivial⟩) (enc := N_impl_IsArcTrace) (fun _ _ => ⟨rfl, rfl⟩) F_impl_IsArcTrace

theorem K_laws_eqIntS_L4 (n : Nat) (x : (List Int) × (List Int) × Int) : laws_eqIntS_L4 (n + 1) x = roundK C_laws_eqIntS B_laws_eqIntS_L4 (S_laws_eqIntS_L4 fuel) x (laws_eqIntS_L4 n) := by
  obtain ⟨a, b, i⟩ := x
  kernel_rfl
theorem F_laws_eqIntS (a : dens E_laws_eqIntS.params) : E_laws_eqIntS.run a = funK C_laws_eqIntS Try.f22 E_laws_eqIntS.params E_laws_eqIntS.results a (fun o r => some (N_laws_eqIntS o r)) := by
  kernel_rfl
theorem W_laws_eqIntS : loopsOf D_laws_eqIntS = [B_laws_eqIntS_L4] := by kernel_rfl
theorem R_laws_eqIntS_L4 : firstReg B_laws_eqIntS_L4 = 4 := by kernel_rfl
theorem Q_laws_eqIntS : Try.prog.funcs[22]? = some Try.f22 ∧ (Try.f22.name == "runtime.NumGoroutine") = false ∧ Try.f22.body = some D_laws_eqIntS := ⟨Try.func22, by kernel_rfl, by kernel_rfl⟩
theorem H_laws_eqIntS : Holds Try.prog 22 E_laws_eqIntS :=
  holds_of (cx := C_laws_eqIntS) (tabOk_ok tabT rfl).1 (allT_ok trivial) mixT Q_laws_eqIntS.1 Q_laws_eqIntS.2.2 (loops_of W_laws_eqIntS ⟨loop_of (cx := C_laws_eqIntS) (L := S_laws_eqIntS_L4 fuel) rfl (by rw [R_laws_eqIntS_L4]; rfl) ⟨laws_eqIntS_L4, fun _ => rfl, fun n x => K_laws_eqIntS_L4 n x, fuel, fun _ => rfl⟩, trivial⟩) (enc := N_laws_eqIntS) (fun _ _ => ⟨rfl, rfl⟩) F_laws_eqIntS

theorem K_laws_eqIntSS_L4 (n : Nat) (x : (List (List Int)) × (List (List Int)) × Int) : laws_eqIntSS_L4 (n + 1) x = roundK C_laws_eqIntSS B_laws_eqIntSS_L4 (S_laws_eqIntSS_L4 fuel) x (laws_eqIntSS_L4 n) := by
  obtain ⟨a, b, i⟩ := x
  kernel_rfl
theorem F_laws_eqIntSS (a : dens E_laws_eqIntSS.params) : E_laws_eqIntSS.run a = funK C_laws_eqIntSS Try.f33 E_laws_eqIntSS.params E_laws_eqIntSS.results a (fun o r => some (N_laws_eqIntSS o r)) := by
  kernel_rfl
theorem W_laws_eqIntSS : loopsOf D_laws_eqIntSS = [B_laws_eqIntSS_L4] := by kernel_rfl
theorem R_laws_eqIntSS_L4 : firstReg B_laws_eqIntSS_L4 = 4 := by kernel_rfl
theorem Q_laws_eqIntSS : Try.prog.funcs[33]? = some Try.f33 ∧ (Try.f33.name == "runtime.NumGoroutine") = false ∧ Try.f33.body = some D_laws_eqIntSS := ⟨Try.func33, by kernel_rfl, by kernel_rfl⟩
theorem H_laws_eqIntSS : Holds Try.prog 33 E_laws_eqIntSS :=
  holds_of (cx := C_laws_eqIntSS) (tabOk_ok tabT rfl).1 (allT_ok ⟨⟨H_laws_eqIntS, _, _, Q_laws_eqIntS⟩, trivial⟩) mixT Q_laws_eqIntSS.1 Q_laws_eqIntSS.2.2 (loops_of W_laws_eqIntSS ⟨loop_of (cx := C_laws_eqIntSS) (L := S_laws_eqIntSS_L4 fuel) rfl (by rw [R_laws_eqIntSS_L4]; rfl) ⟨laws_eqIntSS_L4, fun _ => rfl, fun n x => K_laws_eqIntSS_L4 n x, fuel, fun _ => rfl⟩, trivial⟩) (enc := N_laws_eqIntSS) (fun _ _ => ⟨rfl, rfl⟩) F_laws_eqIntSS

theorem F_laws_eqRelation (a : dens E_laws_eqRelation.params) : E_laws_eqRelation.run a = funK C_laws_eqRelation Try.f147 E_laws_eqRelation.params E_laws_eqRelation.results a (fun o r => some (N_laws_eqRelation o r)) := by
  kernel_rfl
theorem W_laws_eqRelation : loopsOf D_laws_eqRelation = [] := by kernel_rfl
theorem Q_laws_eqRelation : Try.prog.funcs[147]? = some Try.f147 ∧ (Try.f147.name == "runtime.NumGoroutine") = false ∧ Try.f147.body = some D_laws_eqRelation := ⟨Try.func147, by kernel_rfl, by kernel_rfl⟩
theorem H_laws_eqRelation : Holds Try.prog 147 E_laws_eqRelation :=
  holds_of (cx := C_laws_eqRelation) (tabOk_ok tabT rfl).1 (allT_ok ⟨⟨H_laws_eqIntSS, _, _, Q_laws_eqIntSS⟩, trivial⟩) mixT Q_laws_eqRelation.1 Q_laws_eqRelation.2.2 (loops_of W_laws_eqRelation trivial) (enc := N_laws_eqRelation) (fun _ _ => ⟨rfl, rfl⟩) F_laws_eqRelation

theorem F_laws_eqConstraint (a : dens E_laws_eqConstraint.params) : E_laws_eqConstraint.run a = funK C_laws_eqConstraint Try.f134 E_laws_eqConstraint.params E_laws_eqConstraint.results a (fun o r => some (N_laws_eqConstraint o r)) := by
  kernel_rfl
theorem W_laws_eqConstraint : loopsOf D_laws_eqConstraint = [] := by kernel_rfl
theorem Q_laws_eqConstraint : Try.prog.funcs[134]? = some Try.f134 ∧ (Try.f134.name == "runtime.NumGoroutine") = false ∧ Try.f134.body = some D_laws_eqConstraint := ⟨Try.func134, by kernel_rfl, by kernel_rfl⟩
theorem H_laws_eqConstraint : Holds Try.prog 134 E_laws_eqConstraint :=
  holds_of (cx := C_laws_eqConstraint) (tabOk_ok tabT rfl).1 (allT_ok ⟨⟨H_laws_eqIntS, _, _, Q_laws_eqIntS⟩, ⟨⟨H_laws_eqRelation, _, _, Q_laws_eqRelation⟩, trivial⟩⟩) mixT Q_laws_eqConstraint.1 Q_laws_eqConstraint.2.2 (loops_of W_laws_eqConstraint trivial) (enc := N_laws_eqConstraint) (fun _ _ => ⟨rfl, rfl⟩) F_laws_eqConstraint

theorem K_laws_eqConstraintS_L4 (n : Nat) (x : (List ((List Int) × Int × (List (List Int)))) × (List ((List Int) × Int × (List (List Int)))) × Int) : laws_eqConstraintS_L4 (n + 1) x = roundK C_laws_eqConstraintS B_laws_eqConstraintS_L4 (S_laws_eqConstraintS_L4 fuel) x (laws_eqConstraintS_L4 n) := by
  obtain ⟨a, b, i⟩ := x
  kernel_rfl
theorem F_laws_eqConstraintS (a : dens E_laws_eqConstraintS.params) : E_laws_eqConstraintS.run a = funK C_laws_eqConstraintS Try.f93 E_laws_eqConstraintS.params E_laws_eqConstraintS.results a (fun o r => some (N_laws_eqConstraintS o r)) := by
  kernel_rfl
theorem W_laws_eqConstraintS : loopsOf D_laws_eqConstraintS = [B_laws_eqConstraintS_L4] := by kernel_rfl
theorem R_laws_eqConstraintS_L4 : firstReg B_laws_eqConstraintS_L4 = 4 := by kernel_rfl
theorem Q_laws_eqConstraintS : Try.prog.funcs[93]? = some Try.f93 ∧ (Try.f93.name == "runtime.NumGoroutine") = false ∧ Try.f93.body = some D_laws_eqConstraintS := ⟨Try.func93, by kernel_rfl, by kernel_rfl⟩
theorem H_laws_eqConstraintS : Holds Try.prog 93 E_laws_eqConstraintS :=
  holds_of (cx := C_laws_eqConstraintS) (tabOk_ok tabT rfl).1 (allT_ok ⟨⟨H_laws_eqConstraint, _, _, Q_laws_eqConstraint⟩, trivial⟩) mixT Q_laws_eqConstraintS.1 Q_laws_eqConstraintS.2.2 (loops_of W_laws_eqConstraintS ⟨loop_of (cx := C_laws_eqConstraintS) (L := S_laws_eqConstraintS_L4 fuel) rfl (by rw [R_laws_eqConstraintS_L4]; rfl) ⟨laws_eqConstraintS_L4, fun _ => rfl, fun n x => K_laws_eqConstraintS_L4 n x, fuel, fun _ => rfl⟩, trivial⟩) (enc := N_laws_eqConstraintS) (fun _ _ => ⟨rfl, rfl⟩) F_laws_eqConstraintS

theorem F_laws_eqNetwork (a : dens E_laws_eqNetwork.params) : E_laws_eqNetwork.run a = funK C_laws_eqNetwork Try.f43 E_laws_eqNetwork.params E_laws_eqNetwork.results a (fun o r => some (N_laws_eqNetwork o r)) := by
  kernel_rfl
theorem W_laws_eqNetwork : loopsOf D_laws_eqNetwork = [] := by kernel_rfl
theorem Q_laws_eqNetwork : Try.prog.funcs[43]? = some Try.f43 ∧ (Try.f43.name == "runtime.NumGoroutine") = false ∧ Try.f43.body = some D_laws_eqNetwork := ⟨Try.func43, by kernel_rfl, by kernel_rfl⟩
theorem H_laws_eqNetwork : Holds Try.prog 43 E_laws_eqNetwork :=
  holds_of (cx := C_laws_eqNetwork) (tabOk_ok tabT rfl).1 (allT_ok ⟨⟨H_laws_eqConstraintS, _, _, Q_laws_eqConstraintS⟩, trivial⟩) mixT Q_laws_eqNetwork.1 Q_laws_eqNetwork.2.2 (loops_of W_laws_eqNetwork trivial) (enc := N_laws_eqNetwork) (fun _ _ => ⟨rfl, rfl⟩) F_laws_eqNetwork

theorem K_laws_eqIntA3_L2 (n : Nat) (x : (Int × Int × Int) × (Int × Int × Int) × Int) : laws_eqIntA3_L2 (n + 1) x = roundK C_laws_eqIntA3 B_laws_eqIntA3_L2 (S_laws_eqIntA3_L2 fuel) x (laws_eqIntA3_L2 n) := by
  obtain ⟨a, b, i⟩ := x
  kernel_rfl
theorem F_laws_eqIntA3 (a : dens E_laws_eqIntA3.params) : E_laws_eqIntA3.run a = funK C_laws_eqIntA3 Try.f112 E_laws_eqIntA3.params E_laws_eqIntA3.results a (fun o r => some (N_laws_eqIntA3 o r)) := by
  kernel_rfl
theorem W_laws_eqIntA3 : loopsOf D_laws_eqIntA3 = [B_laws_eqIntA3_L2] := by kernel_rfl
theorem R_laws_eqIntA3_L2 : firstReg B_laws_eqIntA3_L2 = 2 := by kernel_rfl
theorem Q_laws_eqIntA3 : Try.prog.funcs[112]? = some Try.f112 ∧ (Try.f112.name == "runtime.NumGoroutine") = false ∧ Try.f112.body = some D_laws_eqIntA3 := ⟨Try.func112, by kernel_rfl, by kernel_rfl⟩
theorem H_laws_eqIntA3 : Holds Try.prog 112 E_laws_eqIntA3 :=
  holds_of (cx := C_laws_eqIntA3) (tabOk_ok tabT rfl).1 (allT_ok trivial) mixT Q_laws_eqIntA3.1 Q_laws_eqIntA3.2.2 (loops_of W_laws_eqIntA3 ⟨loop_of (cx := C_laws_eqIntA3) (L := S_laws_eqIntA3_L2 fuel) rfl (by rw [R_laws_eqIntA3_L2]; rfl) ⟨laws_eqIntA3_L2, fun _ => rfl, fun n x => K_laws_eqIntA3_L2 n x, fuel, fun _ => rfl⟩, trivial⟩) (enc := N_laws_eqIntA3) (fun _ _ => ⟨rfl, rfl⟩) F_laws_eqIntA3

theorem K_laws_eqIntA3S_L4 (n : Nat) (x : (List (Int × Int × Int)) × (List (Int × Int × Int)) × Int) : laws_eqIntA3S_L4 (n + 1) x = roundK C_laws_eqIntA3S B_laws_eqIntA3S_L4 (S_laws_eqIntA3S_L4 fuel) x (laws_eqIntA3S_L4 n) := by
  obtain ⟨a, b, i⟩ := x
  kernel_rfl
theorem F_laws_eqIntA3S (a : dens E_laws_eqIntA3S.params) : E_laws_eqIntA3S.run a = funK C_laws_eqIntA3S Try.f55 E_laws_eqIntA3S.params E_laws_eqIntA3S.results a (fun o r => some (N_laws_eqIntA3S o r)) := by
  kernel_rfl
theorem W_laws_eqIntA3S : loopsOf D_laws_eqIntA3S = [B_laws_eqIntA3S_L4] := by kernel_rfl
theorem R_laws_eqIntA3S_L4 : firstReg B_laws_eqIntA3S_L4 = 4 := by kernel_rfl
theorem Q_laws_eqIntA3S : Try.prog.funcs[55]? = some Try.f55 ∧ (Try.f55.name == "runtime.NumGoroutine") = false ∧ Try.f55.body = some D_laws_eqIntA3S := ⟨Try.func55, by kernel_rfl, by kernel_rfl⟩
theorem H_laws_eqIntA3S : Holds Try.prog 55 E_laws_eqIntA3S :=
  holds_of (cx := C_laws_eqIntA3S) (tabOk_ok tabT rfl).1 (allT_ok ⟨⟨H_laws_eqIntA3, _, _, Q_laws_eqIntA3⟩, trivial⟩) mixT Q_laws_eqIntA3S.1 Q_laws_eqIntA3S.2.2 (loops_of W_laws_eqIntA3S ⟨loop_of (cx := C_laws_eqIntA3S) (L := S_laws_eqIntA3S_L4 fuel) rfl (by rw [R_laws_eqIntA3S_L4]; rfl) ⟨laws_eqIntA3S_L4, fun _ => rfl, fun n x => K_laws_eqIntA3S_L4 n x, fuel, fun _ => rfl⟩, trivial⟩) (enc := N_laws_eqIntA3S) (fun _ _ => ⟨rfl, rfl⟩) F_laws_eqIntA3S

theorem F_laws_FnExactIsArcTrace (a : dens E_laws_FnExactIsArcTrace.params) : E_laws_FnExactIsArcTrace.run a = funK C_laws_FnExactIsArcTrace Try.f11 E_laws_FnExactIsArcTrace.params E_laws_FnExactIsArcTrace.results a (fun o r => some (N_laws_FnExactIsArcTrace o r)) := by
  kernel_rfl
theorem W_laws_FnExactIsArcTrace : loopsOf D_laws_FnExactIsArcTrace = [] := by kernel_rfl
theorem Q_laws_FnExactIsArcTrace : Try.prog.funcs[11]? = some Try.f11 ∧ (Try.f11.name == "runtime.NumGoroutine") = false ∧ Try.f11.body = some D_laws_FnExactIsArcTrace := ⟨Try.func11, by kernel_rfl, by kernel_rfl⟩
theorem H_laws_FnExactIsArcTrace : Holds Try.prog 11 E_laws_FnExactIsArcTrace :=
  holds_of (cx := C_laws_FnExactIsArcTrace) (tabOk_ok tabT rfl).1 (allT_ok ⟨⟨H_laws_szNetwork, _, _, Q_laws_szNetwork⟩, ⟨⟨H_laws_toNetwork, _, _, Q_laws_toNetwork⟩, ⟨⟨H_laws_eqNetwork, _, _, Q_laws_eqNetwork⟩, ⟨⟨H_laws_szIntA3S, _, _, Q_laws_szIntA3S⟩, ⟨⟨H_spec_IsArcTrace, _, _, Q_spec_IsArcTrace⟩, ⟨⟨H_laws_toIntA3S, _, _, Q_laws_toIntA3S⟩, ⟨⟨H_impl_IsArcTrace, _, _, Q_impl_IsArcTrace⟩, ⟨⟨H_laws_eqIntA3S, _, _, Q_laws_eqIntA3S⟩, trivial⟩⟩⟩⟩⟩⟩⟩⟩) mixT Q_laws_FnExactIsArcTrace.1 Q_laws_FnExactIsArcTrace.2.2 (loops_of W_laws_FnExactIsArcTrace trivial) (enc := N_laws_FnExactIsArcTrace) (fun _ _ => ⟨rfl, rfl⟩) F_laws_FnExactIsArcTrace
end T
