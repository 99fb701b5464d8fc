/- Each typed function is what the program computes; no conditions. -/
import Derived.Test.YtlakmpeigjbcnaaCFnExactRelationOfClauses
set_option linter.all false
set_option maxRecDepth 10000
open Go Go.Va Go.Proofs
namespace T

theorem F_laws_szIntS (a : dens [.v (.slice .int), .v .int]) : E_laws_szIntS.run a = funK C_laws_szIntS Try.f13 [.v (.slice .int), .v .int] [.v .int] a (fun o r => some (N_laws_szIntS o r)) := by
  kernel_rfl
theorem W_laws_szIntS : loopsOf D_laws_szIntS = [] := by kernel_rfl
theorem Q_laws_szIntS : Try.prog.funcs[13]? = some Try.f13 ∧ (Try.f13.name == "runtime.NumGoroutine") = false ∧ Try.f13.body = some D_laws_szIntS := ⟨Try.func13, by kernel_rfl, by kernel_rfl⟩
theorem H_laws_szIntS : Holds Try.prog 13 E_laws_szIntS :=
  holds_of (cx := C_laws_szIntS) (tabOk_ok tabT rfl).1 (allT_ok trivial) mixT Q_laws_szIntS.1 Q_laws_szIntS.2.2 (loops_of W_laws_szIntS trivial) (enc := N_laws_szIntS) (fun _ _ => ⟨rfl, rfl⟩) F_laws_szIntS

theorem K_laws_szIntSS_L5 (n : Nat) (x : (List (List Int)) × Int × Int) : laws_szIntSS_L5 (n + 1) x = roundK C_laws_szIntSS B_laws_szIntSS_L5 (S_laws_szIntSS_L5 fuel) x (laws_szIntSS_L5 n) := by
  obtain ⟨a, left, i⟩ := x
  kernel_rfl
theorem F_laws_szIntSS (a : dens [.v (.slice (.slice .int)), .v .int]) : E_laws_szIntSS.run a = funK C_laws_szIntSS Try.f4 [.v (.slice (.slice .int)), .v .int] [.v .int] a (fun o r => some (N_laws_szIntSS o r)) := by
  kernel_rfl
theorem W_laws_szIntSS : loopsOf D_laws_szIntSS = [B_laws_szIntSS_L5] := by kernel_rfl
theorem R_laws_szIntSS_L5 : firstReg B_laws_szIntSS_L5 = 5 := by kernel_rfl
theorem Q_laws_szIntSS : Try.prog.funcs[4]? = some Try.f4 ∧ (Try.f4.name == "runtime.NumGoroutine") = false ∧ Try.f4.body = some D_laws_szIntSS := ⟨Try.func4, by kernel_rfl, by kernel_rfl⟩
theorem H_laws_szIntSS : Holds Try.prog 4 E_laws_szIntSS :=
  holds_of (cx := C_laws_szIntSS) (tabOk_ok tabT rfl).1 (allT_ok ⟨⟨H_laws_szIntS, _, _, Q_laws_szIntS⟩, trivial⟩) mixT Q_laws_szIntSS.1 Q_laws_szIntSS.2.2 (loops_of W_laws_szIntSS ⟨loop_of (cx := C_laws_szIntSS) (L := S_laws_szIntSS_L5 fuel) rfl (by rw [R_laws_szIntSS_L5]; rfl) ⟨laws_szIntSS_L5, fun _ => rfl, fun n x => K_laws_szIntSS_L5 n x, fuel, fun _ => rfl⟩, trivial⟩) (enc := N_laws_szIntSS) (fun _ _ => ⟨rfl, rfl⟩) F_laws_szIntSS

theorem K_laws_toIntS_L3 (n : Nat) (x : (List Int) × (List Int) × Int) : laws_toIntS_L3 (n + 1) x = roundK C_laws_toIntS B_laws_toIntS_L3 (S_laws_toIntS_L3 fuel) x (laws_toIntS_L3 n) := by
  obtain ⟨a, out, i⟩ := x
  kernel_rfl
theorem F_laws_toIntS (a : dens [.v (.slice .int)]) : E_laws_toIntS.run a = funK C_laws_toIntS Try.f19 [.v (.slice .int)] [.mv .int 0] a (fun o r => some (N_laws_toIntS o r)) := by
  kernel_rfl
theorem W_laws_toIntS : loopsOf D_laws_toIntS = [B_laws_toIntS_L3] := by kernel_rfl
theorem R_laws_toIntS_L3 : firstReg B_laws_toIntS_L3 = 3 := by kernel_rfl
theorem Q_laws_toIntS : Try.prog.funcs[19]? = some Try.f19 ∧ (Try.f19.name == "runtime.NumGoroutine") = false ∧ Try.f19.body = some D_laws_toIntS := ⟨Try.func19, by kernel_rfl, by kernel_rfl⟩
theorem H_laws_toIntS : Holds Try.prog 19 E_laws_toIntS :=
  holds_of (cx := C_laws_toIntS) (tabOk_ok tabT rfl).1 (allT_ok trivial) mixT Q_laws_toIntS.1 Q_laws_toIntS.2.2 (loops_of W_laws_toIntS ⟨loop_of (cx := C_laws_toIntS) (L := S_laws_toIntS_L3 fuel) rfl (by rw [R_laws_toIntS_L3]; rfl) ⟨laws_toIntS_L3, fun _ => rfl, fun n x => K_laws_toIntS_L3 n x, fuel, fun _ => rfl⟩, trivial⟩) (enc := N_laws_toIntS) (fun _ _ => ⟨rfl, rfl⟩) F_laws_toIntS

theorem K_laws_toIntSS_L3 (n : Nat) (x : (List (List Int)) × (List (List Int)) × Int) : laws_toIntSS_L3 (n + 1) x = roundK C_laws_toIntSS B_laws_toIntSS_L3 (S_laws_toIntSS_L3 fuel) x (laws_toIntSS_L3 n) := by
  obtain ⟨a, out, i⟩ := x
  kernel_rfl
theorem F_laws_toIntSS (a : dens [.v (.slice (.slice .int))]) : E_laws_toIntSS.run a = funK C_laws_toIntSS Try.f6 [.v (.slice (.slice .int))] [.mv (.slice .int) 1] a (fun o r => some (N_laws_toIntSS o r)) := by
  kernel_rfl
theorem W_laws_toIntSS : loopsOf D_laws_toIntSS = [B_laws_toIntSS_L3] := by kernel_rfl
theorem R_laws_toIntSS_L3 : firstReg B_laws_toIntSS_L3 = 3 := by kernel_rfl
theorem Q_laws_toIntSS : Try.prog.funcs[6]? = some Try.f6 ∧ (Try.f6.name == "runtime.NumGoroutine") = false ∧ Try.f6.body = some D_laws_toIntSS := ⟨Try.func6, by kernel_rfl, by kernel_rfl⟩
theorem H_laws_toIntSS : Holds Try.prog 6 E_laws_toIntSS :=
  holds_of (cx := C_laws_toIntSS) (tabOk_ok tabT rfl).1 (allT_ok ⟨⟨H_laws_toIntS, _, _, Q_laws_toIntS⟩, trivial⟩) mixT Q_laws_toIntSS.1 Q_laws_toIntSS.2.2 (loops_of W_laws_toIntSS ⟨loop_of (cx := C_laws_toIntSS) (L := S_laws_toIntSS_L3 fuel) rfl (by rw [R_laws_toIntSS_L3]; rfl) ⟨laws_toIntSS_L3, fun _ => rfl, fun n x => K_laws_toIntSS_L3 n x, fuel, fun _ => rfl⟩, trivial⟩) (enc := N_laws_toIntSS) (fun _ _ => ⟨rfl, rfl⟩) F_laws_toIntSS

theorem F_spec_l1In (a : dens [.v .int, .v .int, .v .int]) : E_spec_l1In.run a = funK C_spec_l1In Try.f14 [.v .int, .v .int, .v .int] [.v .bool] a (fun o r => some (N_spec_l1In o r)) := by
  kernel_rfl
theorem W_spec_l1In : loopsOf D_spec_l1In = [] := by kernel_rfl
theorem Q_spec_l1In : Try.prog.funcs[14]? = some Try.f14 ∧ (Try.f14.name == "runtime.NumGoroutine") = false ∧ Try.f14.body = some D_spec_l1In := ⟨Try.func14, by kernel_rfl, by kernel_rfl⟩
theorem H_spec_l1In : Holds Try.prog 14 E_spec_l1In :=
  holds_of (cx := C_spec_l1In) (tabOk_ok tabT rfl).1 (allT_ok trivial) mixT Q_spec_l1In.1 Q_spec_l1In.2.2 (loops_of W_spec_l1In trivial) (enc := N_spec_l1In) (fun _ _ => ⟨rfl, rfl⟩) F_spec_l1In

theorem F_spec_l1Most (a : dens [.v .int, .v .int]) : E_spec_l1Most.run a = funK C_spec_l1Most Try.f26 [.v .int, .v .int] [.v .int] a (fun o r => some (N_spec_l1Most o r)) := by
  kernel_rfl
theorem W_spec_l1Most : loopsOf D_spec_l1Most = [] := by kernel_rfl
theorem Q_spec_l1Most : Try.prog.funcs[26]? = some Try.f26 ∧ (Try.f26.name == "runtime.NumGoroutine") = false ∧ Try.f26.body = some D_spec_l1Most := ⟨Try.func26, by kernel_rfl, by kernel_rfl⟩
theorem H_spec_l1Most : Holds Try.prog 26 E_spec_l1Most :=
  holds_of (cx := C_spec_l1Most) (tabOk_ok tabT rfl).1 (allT_ok trivial) mixT Q_spec_l1Most.1 Q_spec_l1Most.2.2 (loops_of W_spec_l1Most trivial) (enc := N_spec_l1Most) (fun _ _ => ⟨rfl, rfl⟩) F_spec_l1Most

theorem K_spec_l22Clause_L3 (n : Nat) (x : Int × (List Int) × Int × Int) : spec_l22Clause_L3 (n + 1) x = roundK C_spec_l22Clause B_spec_l22Clause_L3 (S_spec_l22Clause_L3 fuel) x (spec_l22Clause_L3 n) := by
  obtain ⟨arity, clause, last, i⟩ := x
  kernel_rfl
theorem F_spec_l22Clause (a : dens [.v .int, .v (.slice .int)]) : E_spec_l22Clause.run a = funK C_spec_l22Clause Try.f15 [.v .int, .v (.slice .int)] [.v .bool] a (fun o r => some (N_spec_l22Clause o r)) := by
  kernel_rfl
theorem W_spec_l22Clause : loopsOf D_spec_l22Clause = [B_spec_l22Clause_L3] := by kernel_rfl
theorem R_spec_l22Clause_L3 : firstReg B_spec_l22Clause_L3 = 3 := by kernel_rfl
theorem Q_spec_l22Clause : Try.prog.funcs[15]? = some Try.f15 ∧ (Try.f15.name == "runtime.NumGoroutine") = false ∧ Try.f15.body = some D_spec_l22Clause := ⟨Try.func15, by kernel_rfl, by kernel_rfl⟩
theorem H_spec_l22Clause : Holds Try.prog 15 E_spec_l22Clause :=
  holds_of (cx := C_spec_l22Clause) (tabOk_ok tabT rfl).1 (allT_ok ⟨⟨H_spec_l1In, _, _, Q_spec_l1In⟩, ⟨⟨H_spec_l1Most, _, _, Q_spec_l1Most⟩, trivial⟩⟩) mixT Q_spec_l22Clause.1 Q_spec_l22Clause.2.2 (loops_of W_spec_l22Clause ⟨loop_of (cx := C_spec_l22Clause) (L := S_spec_l22Clause_L3 fuel) rfl (by rw [R_spec_l22Clause_L3]; rfl) ⟨spec_l22Clause_L3, fun _ => rfl, fun n x => K_spec_l22Clause_L3 n x, fuel, fun _ => rfl⟩, trivial⟩) (enc := N_spec_l22Clause) (fun _ _ => ⟨rfl, rfl⟩) F_spec_l22Clause

theorem K_spec_l2Pow_L2 (n : Nat) (x : Int × Int × Int) : spec_l2Pow_L2 (n + 1) x = roundK C_spec_l2Pow B_spec_l2Pow_L2 (S_spec_l2Pow_L2 fuel) x (spec_l2Pow_L2 n) := by
  obtain ⟨n_, k, out⟩ := x
  kernel_rfl
theorem F_spec_l2Pow (a : dens [.v .int, .v .int]) : E_spec_l2Pow.run a = funK C_spec_l2Pow Try.f16 [.v .int, .v .int] [.v .int] a (fun o r => some (N_spec_l2Pow o r)) := by
  kernel_rfl
theorem W_spec_l2Pow : loopsOf D_spec_l2Pow = [B_spec_l2Pow_L2] := by kernel_rfl
theorem R_spec_l2Pow_L2 : firstReg B_spec_l2Pow_L2 = 2 := by kernel_rfl
theorem Q_spec_l2Pow : Try.prog.funcs[16]? = some Try.f16 ∧ (Try.f16.name == "runtime.NumGoroutine") = false ∧ Try.f16.body = some D_spec_l2Pow := ⟨Try.func16, by kernel_rfl, by kernel_rfl⟩
theorem H_spec_l2Pow : Holds Try.prog 16 E_spec_l2Pow :=
  holds_of (cx := C_spec_l2Pow) (tabOk_ok tabT rfl).1 (allT_ok trivial) mixT Q_spec_l2Pow.1 Q_spec_l2Pow.2.2 (loops_of W_spec_l2Pow ⟨loop_of (cx := C_spec_l2Pow) (L := S_spec_l2Pow_L2 fuel) rfl (by rw [R_spec_l2Pow_L2]; rfl) ⟨spec_l2Pow_L2, fun _ => rfl, fun n x => K_spec_l2Pow_L2 n x, fuel, fun _ => rfl⟩, trivial⟩) (enc := N_spec_l2Pow) (fun _ _ => ⟨rfl, rfl⟩) F_spec_l2Pow

theorem K_spec_l2Args_L3 (n : Nat) (x : Int × Int × (List Int) × Int) : spec_l2Args_L3 (n + 1) x = roundK C_spec_l2Args B_spec_l2Args_L3 (S_spec_l2Args_L3 fuel) x (spec_l2Args_L3 n) := by
  obtain ⟨n_, at_, out, i⟩ := x
  kernel_rfl
theorem F_spec_l2Args (a : dens [.v .int, .v .int, .v .int]) : E_spec_l2Args.run a = funK C_spec_l2Args Try.f17 [.v .int, .v .int, .v .int] [.mv .int 0] a (fun o r => some (N_spec_l2Args o r)) := by
  kernel_rfl
theorem W_spec_l2Args : loopsOf D_spec_l2Args = [B_spec_l2Args_L3] := by kernel_rfl
theorem R_spec_l2Args_L3 : firstReg B_spec_l2Args_L3 = 3 := by kernel_rfl
theorem Q_spec_l2Args : Try.prog.funcs[17]? = some Try.f17 ∧ (Try.f17.name == "runtime.NumGoroutine") = false ∧ Try.f17.body = some D_spec_l2Args := ⟨Try.func17, by kernel_rfl, by kernel_rfl⟩
theorem H_spec_l2Args : Holds Try.prog 17 E_spec_l2Args :=
  holds_of (cx := C_spec_l2Args) (tabOk_ok tabT rfl).1 (allT_ok trivial) mixT Q_spec_l2Args.1 Q_spec_l2Args.2.2 (loops_of W_spec_l2Args ⟨loop_of (cx := C_spec_l2Args) (L := S_spec_l2Args_L3 fuel) rfl (by rw [R_spec_l2Args_L3]; rfl) ⟨spec_l2Args_L3, fun _ => rfl, fun n x => K_spec_l2Args_L3 n x, fuel, fun _ => rfl⟩, trivial⟩) (enc := N_spec_l2Args) (fun _ _ => ⟨rfl, rfl⟩) F_spec_l2Args

theorem K_spec_l22Obeys_L2 (n : Nat) (x : (List Int) × (List Int) × Int) : spec_l22Obeys_L2 (n + 1) x = roundK C_spec_l22Obeys B_spec_l22Obeys_L2 (S_spec_l22Obeys_L2 fuel) x (spec_l22Obeys_L2 n) := by
  obtain ⟨t, clause, i⟩ := x
  kernel_rfl
theorem F_spec_l22Obeys (a : dens [.v (.slice .int), .v (.slice .int)]) : E_spec_l22Obeys.run a = funK C_spec_l22Obeys Try.f18 [.v (.slice .int), .v (.slice .int)] [.v .bool] a (fun o r => some (N_spec_l22Obeys o r)) := by
  kernel_rfl
theorem W_spec_l22Obeys : loopsOf D_spec_l22Obeys = [B_spec_l22Obeys_L2] := by kernel_rfl
theorem R_spec_l22Obeys_L2 : firstReg B_spec_l22Obeys_L2 = 2 := by kernel_rfl
theorem Q_spec_l22Obeys : Try.prog.funcs[18]? = some Try.f18 ∧ (Try.f18.name == "runtime.NumGoroutine") = false ∧ Try.f18.body = some D_spec_l22Obeys := ⟨Try.func18, by kernel_rfl, by kernel_rfl⟩
theorem H_spec_l22Obeys : Holds Try.prog 18 E_spec_l22Obeys :=
  holds_of (cx := C_spec_l22Obeys) (tabOk_ok tabT rfl).1 (allT_ok trivial) mixT Q_spec_l22Obeys.1 Q_spec_l22Obeys.2.2 (loops_of W_spec_l22Obeys ⟨loop_of (cx := C_spec_l22Obeys) (L := S_spec_l22Obeys_L2 fuel) rfl (by rw [R_spec_l22Obeys_L2]; rfl) ⟨spec_l22Obeys_L2, fun _ => rfl, fun n x => K_spec_l22Obeys_L2 n x, fuel, fun _ => rfl⟩, trivial⟩) (enc := N_spec_l22Obeys) (fun _ _ => ⟨rfl, rfl⟩) F_spec_l22Obeys

theorem K_spec_RelationOfClauses_L4 (n : Nat) (x : Int × (List (List Int)) × (Int × (List (List Int))) × Int) : spec_RelationOfClauses_L4 (n + 1) x = roundK C_spec_RelationOfClauses B_spec_RelationOfClauses_L4 (S_spec_RelationOfClauses_L4 fuel) x (spec_RelationOfClauses_L4 n) := by
  obtain ⟨t0, t1, t4, t6⟩ := x
  kernel_rfl
theorem K_spec_RelationOfClauses_L14 (n : Nat) (x : Int × (List (List Int)) × (Int × (List (List Int))) × (Int × (List (List Int))) × Int × (List Int) × Bool × Int) : spec_RelationOfClauses_L14 (n + 1) x = roundK C_spec_RelationOfClauses B_spec_RelationOfClauses_L14 (S_spec_RelationOfClauses_L14 fuel) x (spec_RelationOfClauses_L14 n) := by
  obtain ⟨t0, t1, t4, t7, t8, t9, t10, t11⟩ := x
  kernel_rfl
theorem K_spec_RelationOfClauses_L10 (n : Nat) (x : Int × (List (List Int)) × (Int × (List (List Int))) × (Int × (List (List Int))) × Int) : spec_RelationOfClauses_L10 (n + 1) x = roundK C_spec_RelationOfClauses B_spec_RelationOfClauses_L10 (S_spec_RelationOfClauses_L10 fuel) x (spec_RelationOfClauses_L10 n) := by
  obtain ⟨t0, t1, t4, t7, t8⟩ := x
  kernel_rfl
theorem F_spec_RelationOfClauses (a : dens [.v .int, .v (.slice (.slice .int))]) : E_spec_RelationOfClauses.run a = funK C_spec_RelationOfClauses Try.f5 [.v .int, .v (.slice (.slice .int))] [.v (.pair .int (.slice (.slice .int))), .v .bool] a (fun o r => some (N_spec_RelationOfClauses o r)) := by
  kernel_rfl
theorem W_spec_RelationOfClauses : loopsOf D_spec_RelationOfClauses = [B_spec_RelationOfClauses_L4, B_spec_RelationOfClauses_L10, B_spec_RelationOfClauses_L14] := by kernel_rfl
theorem R_spec_RelationOfClauses_L4 : firstReg B_spec_RelationOfClauses_L4 = 4 := by kernel_rfl
theorem R_spec_RelationOfClauses_L14 : firstReg B_spec_RelationOfClauses_L14 = 14 := by kernel_rfl
theorem R_spec_RelationOfClauses_L10 : firstReg B_spec_RelationOfClauses_L10 = 10 := by kernel_rfl
theorem Q_spec_RelationOfClauses : Try.prog.funcs[5]? = some Try.f5 ∧ (Try.f5.name == "runtime.NumGoroutine") = false ∧ Try.f5.body = some D_spec_RelationOfClauses := ⟨Try.func5, by kernel_rfl, by kernel_rfl⟩
theorem H_spec_RelationOfClauses : Holds Try.prog 5 E_spec_RelationOfClauses :=
  holds_of (cx := C_spec_RelationOfClauses) (tabOk_ok tabT rfl).1 (allT_ok ⟨⟨H_spec_l1In, _, _, Q_spec_l1In⟩, ⟨⟨H_spec_l22Clause, _, _, Q_spec_l22Clause⟩, ⟨⟨H_spec_l2Pow, _, _, Q_spec_l2Pow⟩, ⟨⟨H_spec_l2Args, _, _, Q_spec_l2Args⟩, ⟨⟨H_spec_l22Obeys, _, _, Q_spec_l22Obeys⟩, trivial⟩⟩⟩⟩⟩) mixT Q_spec_RelationOfClauses.1 Q_spec_RelationOfClauses.2.2 (loops_of W_spec_RelationOfClauses ⟨loop_of (cx := C_spec_RelationOfClauses) (L := S_spec_RelationOfClauses_L4 fuel) rfl (by rw [R_spec_RelationOfClauses_L4]; rfl) ⟨spec_RelationOfClauses_L4, fun _ => rfl, fun n x => K_spec_RelationOfClauses_L4 n x, fuel, fun _ => rfl⟩, ⟨loop_of (cx := C_spec_RelationOfClauses) (L := S_spec_RelationOfClauses_L10 fuel) rfl (by rw [R_spec_RelationOfClauses_L10]; rfl) ⟨spec_RelationOfClauses_L10, fun _ => rfl, fun n x => K_spec_RelationOfClauses_L10 n x, fuel, fun _ => rfl⟩, ⟨loop_of (cx := C_spec_RelationOfClauses) (L := S_spec_RelationOfClauses_L14 fuel) rfl (by rw [R_spec_RelationOfClauses_L14]; rfl) ⟨spec_RelationOfClauses_L14, fun _ => rfl, fun n x => K_spec_RelationOfClauses_L14 n x, fuel, fun _ => rfl⟩, trivial⟩⟩⟩) (enc := N_spec_RelationOfClauses) (fun _ _ => ⟨rfl, rfl⟩) F_spec_RelationOfClauses

theorem F_impl_isSize (a : dens [.v .int]) : E_impl_isSize.run a = funK C_impl_isSize Try.f27 [.v .int] [.v .bool] a (fun o r => some (N_impl_isSize o r)) := by
  kernel_rfl
theorem W_impl_isSize : loopsOf D_impl_isSize = [] := by kernel_rfl
theorem Q_impl_isSize : Try.prog.funcs[27]? = some Try.f27 ∧ (Try.f27.name == "runtime.NumGoroutine") = false ∧ Try.f27.body = some D_impl_isSize := ⟨Try.func27, by kernel_rfl, by kernel_rfl⟩
theorem H_impl_isSize : Holds Try.prog 27 E_impl_isSize :=
  holds_of (cx := C_impl_isSize) (tabOk_ok tabT rfl).1 (allT_ok trivial) mixT Q_impl_isSize.1 Q_impl_isSize.2.2 (loops_of W_impl_isSize trivial) (enc := N_impl_isSize) (fun _ _ => ⟨rfl, rfl⟩) F_impl_isSize

theorem K_impl_power_L2 (n : Nat) (x : Int × Int × Int) : impl_power_L2 (n + 1) x = roundK C_impl_power B_impl_power_L2 (S_impl_power_L2 fuel) x (impl_power_L2 n) := by
  obtain ⟨n_, k, p⟩ := x
  kernel_rfl
theorem F_impl_power (a : dens [.v .int, .v .int]) : E_impl_power.run a = funK C_impl_power Try.f28 [.v .int, .v .int] [.v .int] a (fun o r => some (N_impl_power o r)) := by
  kernel_rfl
theorem W_impl_power : loopsOf D_impl_power = [B_impl_power_L2] := by kernel_rfl
theorem R_impl_power_L2 : firstReg B_impl_power_L2 = 2 := by kernel_rfl
theorem Q_impl_power : Try.prog.funcs[28]? = some Try.f28 ∧ (Try.f28.name == "runtime.NumGoroutine") = false ∧ Try.f28.body = some D_impl_power := ⟨Try.func28, by kernel_rfl, by kernel_rfl⟩
theorem H_impl_power : Holds Try.prog 28 E_impl_power :=
  holds_of (cx := C_impl_power) (tabOk_ok tabT rfl).1 (allT_ok trivial) mixT Q_impl_power.1 Q_impl_power.2.2 (loops_of W_impl_power ⟨loop_of (cx := C_impl_power) (L := S_impl_power_L2 fuel) rfl (by rw [R_impl_power_L2]; rfl) ⟨impl_power_L2, fun _ => rfl, fun n x => K_impl_power_L2 n x, fuel, fun _ => rfl⟩, trivial⟩) (enc := N_impl_power) (fun _ _ => ⟨rfl, rfl⟩) F_impl_power

theorem K_impl_argsAt_L3 (n : Nat) (x : Int × Int × (List Int) × Int) : impl_argsAt_L3 (n + 1) x = roundK C_impl_argsAt B_impl_argsAt_L3 (S_impl_argsAt_L3 fuel) x (impl_argsAt_L3 n) := by
  obtain ⟨i, n_, args, j⟩ := x
  kernel_rfl
theorem F_impl_argsAt (a : dens [.v .int, .v .int, .v .int]) : E_impl_argsAt.run a = funK C_impl_argsAt Try.f29 [.v .int, .v .int, .v .int] [.mv .int 0] a (fun o r => some (N_impl_argsAt o r)) := by
  kernel_rfl
theorem W_impl_argsAt : loopsOf D_impl_argsAt = [B_impl_argsAt_L3] := by kernel_rfl
theorem R_impl_argsAt_L3 : firstReg B_impl_argsAt_L3 = 3 := by kernel_rfl
theorem Q_impl_argsAt : Try.prog.funcs[29]? = some Try.f29 ∧ (Try.f29.name == "runtime.NumGoroutine") = false ∧ Try.f29.body = some D_impl_argsAt := ⟨Try.func29, by kernel_rfl, by kernel_rfl⟩
theorem H_impl_argsAt : Holds Try.prog 29 E_impl_argsAt :=
  holds_of (cx := C_impl_argsAt) (tabOk_ok tabT rfl).1 (allT_ok trivial) mixT Q_impl_argsAt.1 Q_impl_argsAt.2.2 (loops_of W_impl_argsAt ⟨loop_of (cx := C_impl_argsAt) (L := S_impl_argsAt_L3 fuel) rfl (by rw [R_impl_argsAt_L3]; rfl) ⟨impl_argsAt_L3, fun _ => rfl, fun n x => K_impl_argsAt_L3 n x, fuel, fun _ => rfl⟩, trivial⟩) (enc := N_impl_argsAt) (fun _ _ => ⟨rfl, rfl⟩) F_impl_argsAt

theorem K_impl_FullRelation_L5 (n : Nat) (x : Int × Int × (Int × (List (List Int))) × (Int × (List (List Int))) × Int) : impl_FullRelation_L5 (n + 1) x = roundK C_impl_FullRelation B_impl_FullRelation_L5 (S_impl_FullRelation_L5 fuel) x (impl_FullRelation_L5 n) := by
  obtain ⟨n_, arity, t4, r, i⟩ := x
  kernel_rfl
theorem F_impl_FullRelation (a : dens [.v .int, .v .int]) : E_impl_FullRelation.run a = funK C_impl_FullRelation Try.f20 [.v .int, .v .int] [.pr (.v .int) (.mv (.slice .int) 1), .v .bool] a (fun o r => some (N_impl_FullRelation o r)) := by
  kernel_rfl
theorem W_impl_FullRelation : loopsOf D_impl_FullRelation = [B_impl_FullRelation_L5] := by kernel_rfl
theorem R_impl_FullRelation_L5 : firstReg B_impl_FullRelation_L5 = 5 := by kernel_rfl
theorem Q_impl_FullRelation : Try.prog.funcs[20]? = some Try.f20 ∧ (Try.f20.name == "runtime.NumGoroutine") = false ∧ Try.f20.body = some D_impl_FullRelation := ⟨Try.func20, by kernel_rfl, by kernel_rfl⟩
theorem H_impl_FullRelation : Holds Try.prog 20 E_impl_FullRelation :=
  holds_of (cx := C_impl_FullRelation) (tabOk_ok tabT rfl).1 (allT_ok ⟨⟨H_impl_isSize, _, _, Q_impl_isSize⟩, ⟨⟨H_impl_power, _, _, Q_impl_power⟩, ⟨⟨H_impl_argsAt, _, _, Q_impl_argsAt⟩, trivial⟩⟩⟩) mixT Q_impl_FullRelation.1 Q_impl_FullRelation.2.2 (loops_of W_impl_FullRelation ⟨loop_of (cx := C_impl_FullRelation) (L := S_impl_FullRelation_L5 fuel) rfl (by rw [R_impl_FullRelation_L5]; rfl) ⟨impl_FullRelation_L5, fun _ => rfl, fun n x => K_impl_FullRelation_L5 n x, fuel, fun _ => rfl⟩, trivial⟩) (enc := N_impl_FullRelation) (fun _ _ => ⟨rfl, rfl⟩) F_impl_FullRelation

theorem K_impl_isClause_L3 (n : Nat) (x : Int × Int × (List Int) × Int × Int) : impl_isClause_L3 (n + 1) x = roundK C_impl_isClause B_impl_isClause_L3 (S_impl_isClause_L3 fuel) x (impl_isClause_L3 n) := by
  obtain ⟨arity, last, t9, t10, t11⟩ := x
  kernel_rfl
theorem F_impl_isClause (a : dens [.v .int, .v (.slice .int)]) : E_impl_isClause.run a = funK C_impl_isClause Try.f21 [.v .int, .v (.slice .int)] [.v .bool] a (fun o r => some (N_impl_isClause o r)) := by
  kernel_rfl
theorem W_impl_isClause : loopsOf D_impl_isClause = [B_impl_isClause_L3] := by kernel_rfl
theorem R_impl_isClause_L3 : firstReg B_impl_isClause_L3 = 3 := by kernel_rfl
theorem Q_impl_isClause : Try.prog.funcs[21]? = some Try.f21 ∧ (Try.f21.name == "runtime.NumGoroutine") = false ∧ Try.f21.body = some D_impl_isClause := ⟨Try.func21, by kernel_rfl, by kernel_rfl⟩
theorem H_impl_isClause : Holds Try.prog 21 E_impl_isClause :=
  holds_of (cx := C_impl_isClause) (tabOk_ok tabT rfl).1 (allT_ok trivial) mixT Q_impl_isClause.1 Q_impl_isClause.2.2 (loops_of W_impl_isClause ⟨loop_of (cx := C_impl_isClause) (L := S_impl_isClause_L3 fuel) rfl (by rw [R_impl_isClause_L3]; rfl) ⟨impl_isClause_L3, fun _ => rfl, fun n x => K_impl_isClause_L3 n x, fuel, fun _ => rfl⟩, trivial⟩) (enc := N_impl_isClause) (fun _ _ => ⟨rfl, rfl⟩) F_impl_isClause

theorem K_impl_obeysClause_L2 (n : Nat) (x : (List Int) × (List Int) × Int × Int) : impl_obeysClause_L2 (n + 1) x = roundK C_impl_obeysClause B_impl_obeysClause_L2 (S_impl_obeysClause_L2 fuel) x (impl_obeysClause_L2 n) := by
  obtain ⟨t, t7, t8, t9⟩ := x
  kernel_rfl
theorem F_impl_obeysClause (a : dens [.v (.slice .int), .v (.slice .int)]) : E_impl_obeysClause.run a = funK C_impl_obeysClause Try.f22 [.v (.slice .int), .v (.slice .int)] [.v .bool] a (fun o r => some (N_impl_obeysClause o r)) := by
  kernel_rfl
theorem W_impl_obeysClause : loopsOf D_impl_obeysClause = [B_impl_obeysClause_L2] := by kernel_rfl
theorem R_impl_obeysClause_L2 : firstReg B_impl_obeysClause_L2 = 2 := by kernel_rfl
theorem Q_impl_obeysClause : Try.prog.funcs[22]? = some Try.f22 ∧ (Try.f22.name == "runtime.NumGoroutine") = false ∧ Try.f22.body = some D_impl_obeysClause := ⟨Try.func22, by kernel_rfl, by kernel_rfl⟩
theorem H_impl_obeysClause : Holds Try.prog 22 E_impl_obeysClause :=
  holds_of (cx := C_impl_obeysClause) (tabOk_ok tabT rfl).1 (allT_ok trivial) mixT Q_impl_obeysClause.1 Q_impl_obeysClause.2.2 (loops_of W_impl_obeysClause ⟨loop_of (cx := C_impl_obeysClause) (L := S_impl_obeysClause_L2 fuel) rfl (by rw [R_impl_obeysClause_L2]; rfl) ⟨impl_obeysClause_L2, fun _ => rfl, fun n x => K_impl_obeysClause_L2 n x, fuel, fun _ => rfl⟩, trivial⟩) (enc := N_impl_obeysClause) (fun _ _ => ⟨rfl, rfl⟩) F_impl_obeysClause

theorem K_impl_RelationOfClauses_L6 (n : Nat) (x : Int × (List (List Int)) × (Int × (List (List Int))) × (Int × (List (List Int))) × (Int × (List (List Int))) × (List (List Int)) × Int × Int) : impl_RelationOfClauses_L6 (n + 1) x = roundK C_impl_RelationOfClauses B_impl_RelationOfClauses_L6 (S_impl_RelationOfClauses_L6 fuel) x (impl_RelationOfClauses_L6 n) := by
  obtain ⟨t0, t1, t4, t6, t8, t31, t32, t33⟩ := x
  kernel_rfl
theorem K_impl_RelationOfClauses_L16 (n : Nat) (x : (List (List Int)) × (Int × (List (List Int))) × (Int × (List (List Int))) × (List Int) × Bool × ((List (List Int)) × Int) × Int × Int × (List (List Int)) × Int × Int) : impl_RelationOfClauses_L16 (n + 1) x = roundK C_impl_RelationOfClauses B_impl_RelationOfClauses_L16 (S_impl_RelationOfClauses_L16 fuel) x (impl_RelationOfClauses_L16 n) := by
  obtain ⟨t1, t4, t8, t12, t13, t44, t45, t46, t50, t51, t52⟩ := x
  kernel_rfl
theorem K_impl_RelationOfClauses_L12 (n : Nat) (x : (List (List Int)) × (Int × (List (List Int))) × (Int × (List (List Int))) × ((List (List Int)) × Int) × Int × Int) : impl_RelationOfClauses_L12 (n + 1) x = roundK C_impl_RelationOfClauses B_impl_RelationOfClauses_L12 (S_impl_RelationOfClauses_L12 fuel) x (impl_RelationOfClauses_L12 n) := by
  obtain ⟨t1, t4, t8, t44, t45, t46⟩ := x
  kernel_rfl
theorem F_impl_RelationOfClauses (a : dens [.v .int, .v (.slice (.slice .int))]) : E_impl_RelationOfClauses.run a = funK C_impl_RelationOfClauses Try.f7 [.v .int, .v (.slice (.slice .int))] [.pr (.v .int) (.mv (.slice .int) 1), .v .bool] a (fun o r => some (N_impl_RelationOfClauses o r)) := by
  kernel_rfl
theorem W_impl_RelationOfClauses : loopsOf D_impl_RelationOfClauses = [B_impl_RelationOfClauses_L6, B_impl_RelationOfClauses_L12, B_impl_RelationOfClauses_L16] := by kernel_rfl
theorem R_impl_RelationOfClauses_L6 : firstReg B_impl_RelationOfClauses_L6 = 6 := by kernel_rfl
theorem R_impl_RelationOfClauses_L16 : firstReg B_impl_RelationOfClauses_L16 = 16 := by kernel_rfl
theorem R_impl_RelationOfClauses_L12 : firstReg B_impl_RelationOfClauses_L12 = 12 := by kernel_rfl
theorem Q_impl_RelationOfClauses : Try.prog.funcs[7]? = some Try.f7 ∧ (Try.f7.name == "runtime.NumGoroutine") = false ∧ Try.f7.body = some D_impl_RelationOfClauses := ⟨Try.func7, by kernel_rfl, by kernel_rfl⟩
theorem H_impl_RelationOfClauses : Holds Try.prog 7 E_impl_RelationOfClauses :=
  holds_of (cx := C_impl_RelationOfClauses) (tabOk_ok tabT rfl).1 (allT_ok ⟨⟨H_impl_FullRelation, _, _, Q_impl_FullRelation⟩, ⟨⟨H_impl_isClause, _, _, Q_impl_isClause⟩, ⟨⟨H_impl_obeysClause, _, _, Q_impl_obeysClause⟩, trivial⟩⟩⟩) mixT Q_impl_RelationOfClauses.1 Q_impl_RelationOfClauses.2.2 (loops_of W_impl_RelationOfClauses ⟨loop_of (cx := C_impl_RelationOfClauses) (L := S_impl_RelationOfClauses_L6 fuel) rfl (by rw [R_impl_RelationOfClauses_L6]; rfl) ⟨impl_RelationOfClauses_L6, fun _ => rfl, fun n x => K_impl_RelationOfClauses_L6 n x, fuel, fun _ => rfl⟩, ⟨loop_of (cx := C_impl_RelationOfClauses) (L := S_impl_RelationOfClauses_L12 fuel) rfl (by rw [R_impl_RelationOfClauses_L12]; rfl) ⟨impl_RelationOfClauses_L12, fun _ => rfl, fun n x => K_impl_RelationOfClauses_L12 n x, fuel, fun _ => rfl⟩, ⟨loop_of (cx := C_impl_RelationOfClauses) (L := S_impl_RelationOfClauses_L16 fuel) rfl (by rw [R_impl_RelationOfClauses_L16]; rfl) ⟨impl_RelationOfClauses_L16, fun _ => rfl, fun n x => K_impl_RelationOfClauses_L16 n x, fuel, fun _ => rfl⟩, trivial⟩⟩⟩) (enc := N_impl_RelationOfClauses) (fun _ _ => ⟨rfl, rfl⟩) F_impl_RelationOfClauses

theorem K_laws_eqIntS_L4 (n : Nat) (x : (List Int) × (List Int) × Int) : laws_eqIntS_L4 (n + 1) x = roundK C_laws_eqIntS B_laws_eqIntS_L4 (S_laws_eqIntS_L4 fuel) x (laws_eqIntS_L4 n) := by
  obtain ⟨a, b, i⟩ := x
  kernel_rfl
theorem F_laws_eqIntS (a : dens [.v (.slice .int), .v (.slice .int)]) : E_laws_eqIntS.run a = funK C_laws_eqIntS Try.f23 [.v (.slice .int), .v (.slice .int)] [.v .bool] a (fun o r => some (N_laws_eqIntS o r)) := by
  kernel_rfl
theorem W_laws_eqIntS : loopsOf D_laws_eqIntS = [B_laws_eqIntS_L4] := by kernel_rfl
theorem R_laws_eqIntS_L4 : firstReg B_laws_eqIntS_L4 = 4 := by kernel_rfl
theorem Q_laws_eqIntS : Try.prog.funcs[23]? = some Try.f23 ∧ (Try.f23.name == "runtime.NumGoroutine") = false ∧ Try.f23.body = some D_laws_eqIntS := ⟨Try.func23, by kernel_rfl, by kernel_rfl⟩
theorem H_laws_eqIntS : Holds Try.prog 23 E_laws_eqIntS :=
  holds_of (cx := C_laws_eqIntS) (tabOk_ok tabT rfl).1 (allT_ok trivial) mixT Q_laws_eqIntS.1 Q_laws_eqIntS.2.2 (loops_of W_laws_eqIntS ⟨loop_of (cx := C_laws_eqIntS) (L := S_laws_eqIntS_L4 fuel) rfl (by rw [R_laws_eqIntS_L4]; rfl) ⟨laws_eqIntS_L4, fun _ => rfl, fun n x => K_laws_eqIntS_L4 n x, fuel, fun _ => rfl⟩, trivial⟩) (enc := N_laws_eqIntS) (fun _ _ => ⟨rfl, rfl⟩) F_laws_eqIntS

theorem K_laws_eqIntSS_L4 (n : Nat) (x : (List (List Int)) × (List (List Int)) × Int) : laws_eqIntSS_L4 (n + 1) x = roundK C_laws_eqIntSS B_laws_eqIntSS_L4 (S_laws_eqIntSS_L4 fuel) x (laws_eqIntSS_L4 n) := by
  obtain ⟨a, b, i⟩ := x
  kernel_rfl
theorem F_laws_eqIntSS (a : dens [.v (.slice (.slice .int)), .v (.slice (.slice .int))]) : E_laws_eqIntSS.run a = funK C_laws_eqIntSS Try.f9 [.v (.slice (.slice .int)), .v (.slice (.slice .int))] [.v .bool] a (fun o r => some (N_laws_eqIntSS o r)) := by
  kernel_rfl
theorem W_laws_eqIntSS : loopsOf D_laws_eqIntSS = [B_laws_eqIntSS_L4] := by kernel_rfl
theorem R_laws_eqIntSS_L4 : firstReg B_laws_eqIntSS_L4 = 4 := by kernel_rfl
theorem Q_laws_eqIntSS : Try.prog.funcs[9]? = some Try.f9 ∧ (Try.f9.name == "runtime.NumGoroutine") = false ∧ Try.f9.body = some D_laws_eqIntSS := ⟨Try.func9, by kernel_rfl, by kernel_rfl⟩
theorem H_laws_eqIntSS : Holds Try.prog 9 E_laws_eqIntSS :=
  holds_of (cx := C_laws_eqIntSS) (tabOk_ok tabT rfl).1 (allT_ok ⟨⟨H_laws_eqIntS, _, _, Q_laws_eqIntS⟩, trivial⟩) mixT Q_laws_eqIntSS.1 Q_laws_eqIntSS.2.2 (loops_of W_laws_eqIntSS ⟨loop_of (cx := C_laws_eqIntSS) (L := S_laws_eqIntSS_L4 fuel) rfl (by rw [R_laws_eqIntSS_L4]; rfl) ⟨laws_eqIntSS_L4, fun _ => rfl, fun n x => K_laws_eqIntSS_L4 n x, fuel, fun _ => rfl⟩, trivial⟩) (enc := N_laws_eqIntSS) (fun _ _ => ⟨rfl, rfl⟩) F_laws_eqIntSS

theorem F_laws_eqRelation (a : dens [.v (.pair .int (.slice (.slice .int))), .v (.pair .int (.slice (.slice .int)))]) : E_laws_eqRelation.run a = funK C_laws_eqRelation Try.f8 [.v (.pair .int (.slice (.slice .int))), .v (.pair .int (.slice (.slice .int)))] [.v .bool] a (fun o r => some (N_laws_eqRelation o r)) := by
  kernel_rfl
theorem W_laws_eqRelation : loopsOf D_laws_eqRelation = [] := by kernel_rfl
theorem Q_laws_eqRelation : Try.prog.funcs[8]? = some Try.f8 ∧ (Try.f8.name == "runtime.NumGoroutine") = false ∧ Try.f8.body = some D_laws_eqRelation := ⟨Try.func8, by kernel_rfl, by kernel_rfl⟩
theorem H_laws_eqRelation : Holds Try.prog 8 E_laws_eqRelation :=
  holds_of (cx := C_laws_eqRelation) (tabOk_ok tabT rfl).1 (allT_ok ⟨⟨H_laws_eqIntSS, _, _, Q_laws_eqIntSS⟩, trivial⟩) mixT Q_laws_eqRelation.1 Q_laws_eqRelation.2.2 (loops_of W_laws_eqRelation trivial) (enc := N_laws_eqRelation) (fun _ _ => ⟨rfl, rfl⟩) F_laws_eqRelation

theorem K_laws_markIntS_L2 (n : Nat) (x : (List Int) × Int × Int) : laws_markIntS_L2 (n + 1) x = roundK C_laws_markIntS B_laws_markIntS_L2 (S_laws_markIntS_L2 fuel) x (laws_markIntS_L2 n) := by
  obtain ⟨a, k, i⟩ := x
  kernel_rfl
theorem F_laws_markIntS (a : dens [.io .int 0, .v .int]) : E_laws_markIntS.run a = funK C_laws_markIntS Try.f24 [.io .int 0, .v .int] [.v .int] a (fun o r => some (N_laws_markIntS o r)) := by
  kernel_rfl
theorem W_laws_markIntS : loopsOf D_laws_markIntS = [B_laws_markIntS_L2] := by kernel_rfl
theorem R_laws_markIntS_L2 : firstReg B_laws_markIntS_L2 = 2 := by kernel_rfl
theorem Q_laws_markIntS : Try.prog.funcs[24]? = some Try.f24 ∧ (Try.f24.name == "runtime.NumGoroutine") = false ∧ Try.f24.body = some D_laws_markIntS := ⟨Try.func24, by kernel_rfl, by kernel_rfl⟩
theorem H_laws_markIntS : Holds Try.prog 24 E_laws_markIntS :=
  holds_of (cx := C_laws_markIntS) (tabOk_ok tabT rfl).1 (allT_ok trivial) mixT Q_laws_markIntS.1 Q_laws_markIntS.2.2 (loops_of W_laws_markIntS ⟨loop_of (cx := C_laws_markIntS) (L := S_laws_markIntS_L2 fuel) rfl (by rw [R_laws_markIntS_L2]; rfl) ⟨laws_markIntS_L2, fun _ => rfl, fun n x => K_laws_markIntS_L2 n x, fuel, fun _ => rfl⟩, trivial⟩) (enc := N_laws_markIntS) (fun _ _ => ⟨rfl, rfl⟩) F_laws_markIntS

theorem K_laws_markIntSS_L2 (n : Nat) (x : (List (List Int)) × Int × Int) : laws_markIntSS_L2 (n + 1) x = roundK C_laws_markIntSS B_laws_markIntSS_L2 (S_laws_markIntSS_L2 fuel) x (laws_markIntSS_L2 n) := by
  obtain ⟨a, k, i⟩ := x
  kernel_rfl
theorem F_laws_markIntSS (a : dens [.io (.slice .int) 1, .v .int]) : E_laws_markIntSS.run a = funK C_laws_markIntSS Try.f10 [.io (.slice .int) 1, .v .int] [.v .int] a (fun o r => some (N_laws_markIntSS o r)) := by
  kernel_rfl
theorem W_laws_markIntSS : loopsOf D_laws_markIntSS = [B_laws_markIntSS_L2] := by kernel_rfl
theorem R_laws_markIntSS_L2 : firstReg B_laws_markIntSS_L2 = 2 := by kernel_rfl
theorem Q_laws_markIntSS : Try.prog.funcs[10]? = some Try.f10 ∧ (Try.f10.name == "runtime.NumGoroutine") = false ∧ Try.f10.body = some D_laws_markIntSS := ⟨Try.func10, by kernel_rfl, by kernel_rfl⟩
theorem H_laws_markIntSS : Holds Try.prog 10 E_laws_markIntSS :=
  holds_of (cx := C_laws_markIntSS) (tabOk_ok tabT rfl).1 (allT_ok ⟨⟨H_laws_markIntS, _, _, Q_laws_markIntS⟩, trivial⟩) mixT Q_laws_markIntSS.1 Q_laws_markIntSS.2.2 (loops_of W_laws_markIntSS ⟨loop_of (cx := C_laws_markIntSS) (L := S_laws_markIntSS_L2 fuel) rfl (by rw [R_laws_markIntSS_L2]; rfl) ⟨laws_markIntSS_L2, fun _ => rfl, fun n x => K_laws_markIntSS_L2 n x, fuel, fun _ => rfl⟩, trivial⟩) (enc := N_laws_markIntSS) (fun _ _ => ⟨rfl, rfl⟩) F_laws_markIntSS

theorem F_laws_markRelation (a : dens [.pr (.v .int) (.io (.slice .int) 1), .v .int]) : E_laws_markRelation.run a = funK C_laws_markRelation Try.f11 [.pr (.v .int) (.io (.slice .int) 1), .v .int] [.v .int] a (fun o r => some (N_laws_markRelation o r)) := by
  kernel_rfl
theorem W_laws_markRelation : loopsOf D_laws_markRelation = [] := by kernel_rfl
theorem Q_laws_markRelation : Try.prog.funcs[11]? = some Try.f11 ∧ (Try.f11.name == "runtime.NumGoroutine") = false ∧ Try.f11.body = some D_laws_markRelation := ⟨Try.func11, by kernel_rfl, by kernel_rfl⟩
theorem H_laws_markRelation : Holds Try.prog 11 E_laws_markRelation :=
  holds_of (cx := C_laws_markRelation) (tabOk_ok tabT rfl).1 (allT_ok ⟨⟨H_laws_markIntSS, _, _, Q_laws_markIntSS⟩, trivial⟩) mixT Q_laws_markRelation.1 Q_laws_markRelation.2.2 (loops_of W_laws_markRelation trivial) (enc := N_laws_markRelation) (fun _ _ => ⟨rfl, rfl⟩) F_laws_markRelation

theorem K_laws_heldIntS_L2 (n : Nat) (x : (List Int) × Int × Int) : laws_heldIntS_L2 (n + 1) x = roundK C_laws_heldIntS B_laws_heldIntS_L2 (S_laws_heldIntS_L2 fuel) x (laws_heldIntS_L2 n) := by
  obtain ⟨a, k, i⟩ := x
  kernel_rfl
theorem F_laws_heldIntS (a : dens [.v (.slice .int), .v .int]) : E_laws_heldIntS.run a = funK C_laws_heldIntS Try.f30 [.v (.slice .int), .v .int] [.v .int] a (fun o r => some (N_laws_heldIntS o r)) := by
  kernel_rfl
theorem W_laws_heldIntS : loopsOf D_laws_heldIntS = [B_laws_heldIntS_L2] := by kernel_rfl
theorem R_laws_heldIntS_L2 : firstReg B_laws_heldIntS_L2 = 2 := by kernel_rfl
theorem Q_laws_heldIntS : Try.prog.funcs[30]? = some Try.f30 ∧ (Try.f30.name == "runtime.NumGoroutine") = false ∧ Try.f30.body = some D_laws_heldIntS := ⟨Try.func30, by kernel_rfl, by kernel_rfl⟩
theorem H_laws_heldIntS : Holds Try.prog 30 E_laws_heldIntS :=
  holds_of (cx := C_laws_heldIntS) (tabOk_ok tabT rfl).1 (allT_ok trivial) mixT Q_laws_heldIntS.1 Q_laws_heldIntS.2.2 (loops_of W_laws_heldIntS ⟨loop_of (cx := C_laws_heldIntS) (L := S_laws_heldIntS_L2 fuel) rfl (by rw [R_laws_heldIntS_L2]; rfl) ⟨laws_heldIntS_L2, fun _ => rfl, fun n x => K_laws_heldIntS_L2 n x, fuel, fun _ => rfl⟩, trivial⟩) (enc := N_laws_heldIntS) (fun _ _ => ⟨rfl, rfl⟩) F_laws_heldIntS

theorem K_laws_heldIntSS_L2 (n : Nat) (x : (List (List Int)) × Int × Int) : laws_heldIntSS_L2 (n + 1) x = roundK C_laws_heldIntSS B_laws_heldIntSS_L2 (S_laws_heldIntSS_L2 fuel) x (laws_heldIntSS_L2 n) := by
  obtain ⟨a, k, i⟩ := x
  kernel_rfl
theorem F_laws_heldIntSS (a : dens [.v (.slice (.slice .int)), .v .int]) : E_laws_heldIntSS.run a = funK C_laws_heldIntSS Try.f25 [.v (.slice (.slice .int)), .v .int] [.v .int] a (fun o r => some (N_laws_heldIntSS o r)) := by
  kernel_rfl
theorem W_laws_heldIntSS : loopsOf D_laws_heldIntSS = [B_laws_heldIntSS_L2] := by kernel_rfl
theorem R_laws_heldIntSS_L2 : firstReg B_laws_heldIntSS_L2 = 2 := by kernel_rfl
theorem Q_laws_heldIntSS : Try.prog.funcs[25]? = some Try.f25 ∧ (Try.f25.name == "runtime.NumGoroutine") = false ∧ Try.f25.body = some D_laws_heldIntSS := ⟨Try.func25, by kernel_rfl, by kernel_rfl⟩
theorem H_laws_heldIntSS : Holds Try.prog 25 E_laws_heldIntSS :=
  holds_of (cx := C_laws_heldIntSS) (tabOk_ok tabT rfl).1 (allT_ok ⟨⟨H_laws_heldIntS, _, _, Q_laws_heldIntS⟩, trivial⟩) mixT Q_laws_heldIntSS.1 Q_laws_heldIntSS.2.2 (loops_of W_laws_heldIntSS ⟨loop_of (cx := C_laws_heldIntSS) (L := S_laws_heldIntSS_L2 fuel) rfl (by rw [R_laws_heldIntSS_L2]; rfl) ⟨laws_heldIntSS_L2, fun _ => rfl, fun n x => K_laws_heldIntSS_L2 n x, fuel, fun _ => rfl⟩, trivial⟩) (enc := N_laws_heldIntSS) (fun _ _ => ⟨rfl, rfl⟩) F_laws_heldIntSS

theorem F_laws_heldRelation (a : dens [.v (.pair .int (.slice (.slice .int))), .v .int]) : E_laws_heldRelation.run a = funK C_laws_heldRelation Try.f12 [.v (.pair .int (.slice (.slice .int))), .v .int] [.v .int] a (fun o r => some (N_laws_heldRelation o r)) := by
  kernel_rfl
theorem W_laws_heldRelation : loopsOf D_laws_heldRelation = [] := by kernel_rfl
theorem Q_laws_heldRelation : Try.prog.funcs[12]? = some Try.f12 ∧ (Try.f12.name == "runtime.NumGoroutine") = false ∧ Try.f12.body = some D_laws_heldRelation := ⟨Try.func12, by kernel_rfl, by kernel_rfl⟩
theorem H_laws_heldRelation : Holds Try.prog 12 E_laws_heldRelation :=
  holds_of (cx := C_laws_heldRelation) (tabOk_ok tabT rfl).1 (allT_ok ⟨⟨H_laws_heldIntSS, _, _, Q_laws_heldIntSS⟩, trivial⟩) mixT Q_laws_heldRelation.1 Q_laws_heldRelation.2.2 (loops_of W_laws_heldRelation trivial) (enc := N_laws_heldRelation) (fun _ _ => ⟨rfl, rfl⟩) F_laws_heldRelation

theorem F_laws_FnExactRelationOfClauses (a : dens [.v .int, .v (.slice (.slice .int))]) : E_laws_FnExactRelationOfClauses.run a = funK C_laws_FnExactRelationOfClauses Try.f3 [.v .int, .v (.slice (.slice .int))] [.v .bool] a (fun o r => some (N_laws_FnExactRelationOfClauses o r)) := by
  kernel_rfl
theorem W_laws_FnExactRelationOfClauses : loopsOf D_laws_FnExactRelationOfClauses = [] := by kernel_rfl
theorem Q_laws_FnExactRelationOfClauses : Try.prog.funcs[3]? = some Try.f3 ∧ (Try.f3.name == "runtime.NumGoroutine") = false ∧ Try.f3.body = some D_laws_FnExactRelationOfClauses := ⟨Try.func3, by kernel_rfl, by kernel_rfl⟩
theorem H_laws_FnExactRelationOfClauses : Holds Try.prog 3 E_laws_FnExactRelationOfClauses :=
  holds_of (cx := C_laws_FnExactRelationOfClauses) (tabOk_ok tabT rfl).1 (allT_ok ⟨⟨H_laws_szIntSS, _, _, Q_laws_szIntSS⟩, ⟨⟨H_spec_RelationOfClauses, _, _, Q_spec_RelationOfClauses⟩, ⟨⟨H_laws_toIntSS, _, _, Q_laws_toIntSS⟩, ⟨⟨H_impl_RelationOfClauses, _, _, Q_impl_RelationOfClauses⟩, ⟨⟨H_laws_eqRelation, _, _, Q_laws_eqRelation⟩, ⟨⟨H_laws_eqIntSS, _, _, Q_laws_eqIntSS⟩, ⟨⟨H_laws_markIntSS, _, _, Q_laws_markIntSS⟩, ⟨⟨H_laws_markRelation, _, _, Q_laws_markRelation⟩, ⟨⟨H_laws_heldRelation, _, _, Q_laws_heldRelation⟩, trivial⟩⟩⟩⟩⟩⟩⟩⟩⟩) mixT Q_laws_FnExactRelationOfClauses.1 Q_laws_FnExactRelationOfClauses.2.2 (loops_of W_laws_FnExactRelationOfClauses trivial) (enc := N_laws_FnExactRelationOfClauses) (fun _ _ => ⟨rfl, rfl⟩) F_laws_FnExactRelationOfClauses
end T
