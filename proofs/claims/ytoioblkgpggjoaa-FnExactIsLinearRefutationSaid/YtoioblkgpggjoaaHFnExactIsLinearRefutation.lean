/- Each typed function is what the program computes; no conditions. -/
import Derived.Test.YtoioblkgpggjoaaCFnExactIsLinearRefutation
set_option linter.all false
set_option maxRecDepth 10000
open Go Go.Va Go.Proofs
namespace T

theorem F_laws_szIntS (a : dens E_laws_szIntS.params) : E_laws_szIntS.run a = funK C_laws_szIntS Try.f44 E_laws_szIntS.params E_laws_szIntS.results a (fun o r => some (N_laws_szIntS o r)) := by
  kernel_rfl
theorem W_laws_szIntS : loopsOf D_laws_szIntS = [] := by kernel_rfl
theorem Q_laws_szIntS : Try.prog.funcs[44]? = some Try.f44 ∧ (Try.f44.name == "runtime.NumGoroutine") = false ∧ Try.f44.body = some D_laws_szIntS := ⟨Try.func44, by kernel_rfl, by kernel_rfl⟩
theorem H_laws_szIntS : Holds Try.prog 44 E_laws_szIntS :=
  holds_of (cx := C_laws_szIntS) (tabOk_ok tabT rfl).1 (allT_ok trivial) mixT Q_laws_szIntS.1 Q_laws_szIntS.2.2 (loops_of W_laws_szIntS trivial) (enc := N_laws_szIntS) (fun _ _ => ⟨rfl, rfl⟩) F_laws_szIntS

theorem K_laws_szIntSS_L5 (n : Nat) (x : (List (List Int)) × Int × Int) : laws_szIntSS_L5 (n + 1) x = roundK C_laws_szIntSS B_laws_szIntSS_L5 (S_laws_szIntSS_L5 fuel) x (laws_szIntSS_L5 n) := by
  obtain ⟨a, left, i⟩ := x
  kernel_rfl
theorem F_laws_szIntSS (a : dens E_laws_szIntSS.params) : E_laws_szIntSS.run a = funK C_laws_szIntSS Try.f22 E_laws_szIntSS.params E_laws_szIntSS.results a (fun o r => some (N_laws_szIntSS o r)) := by
  kernel_rfl
theorem W_laws_szIntSS : loopsOf D_laws_szIntSS = [B_laws_szIntSS_L5] := by kernel_rfl
theorem R_laws_szIntSS_L5 : firstReg B_laws_szIntSS_L5 = 5 := by kernel_rfl
theorem Q_laws_szIntSS : Try.prog.funcs[22]? = some Try.f22 ∧ (Try.f22.name == "runtime.NumGoroutine") = false ∧ Try.f22.body = some D_laws_szIntSS := ⟨Try.func22, by kernel_rfl, by kernel_rfl⟩
theorem H_laws_szIntSS : Holds Try.prog 22 E_laws_szIntSS :=
  holds_of (cx := C_laws_szIntSS) (tabOk_ok tabT rfl).1 (allT_ok ⟨⟨H_laws_szIntS, _, _, Q_laws_szIntS⟩, trivial⟩) mixT Q_laws_szIntSS.1 Q_laws_szIntSS.2.2 (loops_of W_laws_szIntSS ⟨loop_of (cx := C_laws_szIntSS) (L := S_laws_szIntSS_L5 fuel) rfl (by rw [R_laws_szIntSS_L5]; rfl) ⟨laws_szIntSS_L5, fun _ => rfl, fun n x => K_laws_szIntSS_L5 n x, fuel, fun _ => rfl⟩, trivial⟩) (enc := N_laws_szIntSS) (fun _ _ => ⟨rfl, rfl⟩) F_laws_szIntSS

theorem F_laws_szLinear (a : dens E_laws_szLinear.params) : E_laws_szLinear.run a = funK C_laws_szLinear Try.f13 E_laws_szLinear.params E_laws_szLinear.results a (fun o r => some (N_laws_szLinear o r)) := by
  kernel_rfl
theorem W_laws_szLinear : loopsOf D_laws_szLinear = [] := by kernel_rfl
theorem Q_laws_szLinear : Try.prog.funcs[13]? = some Try.f13 ∧ (Try.f13.name == "runtime.NumGoroutine") = false ∧ Try.f13.body = some D_laws_szLinear := ⟨Try.func13, by kernel_rfl, by kernel_rfl⟩
theorem H_laws_szLinear : Holds Try.prog 13 E_laws_szLinear :=
  holds_of (cx := C_laws_szLinear) (tabOk_ok tabT rfl).1 (allT_ok ⟨⟨H_laws_szIntSS, _, _, Q_laws_szIntSS⟩, trivial⟩) mixT Q_laws_szLinear.1 Q_laws_szLinear.2.2 (loops_of W_laws_szLinear trivial) (enc := N_laws_szLinear) (fun _ _ => ⟨rfl, rfl⟩) F_laws_szLinear

theorem K_laws_toIntS_L3 (n : Nat) (x : (List Int) × (List Int) × Int) : laws_toIntS_L3 (n + 1) x = roundK C_laws_toIntS B_laws_toIntS_L3 (S_laws_toIntS_L3 fuel) x (laws_toIntS_L3 n) := by
  obtain ⟨a, out, i⟩ := x
  kernel_rfl
theorem F_laws_toIntS (a : dens E_laws_toIntS.params) : E_laws_toIntS.run a = funK C_laws_toIntS Try.f19 E_laws_toIntS.params E_laws_toIntS.results a (fun o r => some (N_laws_toIntS o r)) := by
  kernel_rfl
theorem W_laws_toIntS : loopsOf D_laws_toIntS = [B_laws_toIntS_L3] := by kernel_rfl
theorem R_laws_toIntS_L3 : firstReg B_laws_toIntS_L3 = 3 := by kernel_rfl
theorem Q_laws_toIntS : Try.prog.funcs[19]? = some Try.f19 ∧ (Try.f19.name == "runtime.NumGoroutine") = false ∧ Try.f19.body = some D_laws_toIntS := ⟨Try.func19, by kernel_rfl, by kernel_rfl⟩
theorem H_laws_toIntS : Holds Try.prog 19 E_laws_toIntS :=
  holds_of (cx := C_laws_toIntS) (tabOk_ok tabT rfl).1 (allT_ok trivial) mixT Q_laws_toIntS.1 Q_laws_toIntS.2.2 (loops_of W_laws_toIntS ⟨loop_of (cx := C_laws_toIntS) (L := S_laws_toIntS_L3 fuel) rfl (by rw [R_laws_toIntS_L3]; rfl) ⟨laws_toIntS_L3, fun _ => rfl, fun n x => K_laws_toIntS_L3 n x, fuel, fun _ => rfl⟩, trivial⟩) (enc := N_laws_toIntS) (fun _ _ => ⟨rfl, rfl⟩) F_laws_toIntS

theorem K_laws_toIntSS_L3 (n : Nat) (x : (List (List Int)) × (List (List Int)) × Int) : laws_toIntSS_L3 (n + 1) x = roundK C_laws_toIntSS B_laws_toIntSS_L3 (S_laws_toIntSS_L3 fuel) x (laws_toIntSS_L3 n) := by
  obtain ⟨a, out, i⟩ := x
  kernel_rfl
theorem F_laws_toIntSS (a : dens E_laws_toIntSS.params) : E_laws_toIntSS.run a = funK C_laws_toIntSS Try.f24 E_laws_toIntSS.params E_laws_toIntSS.results a (fun o r => some (N_laws_toIntSS o r)) := by
  kernel_rfl
theorem W_laws_toIntSS : loopsOf D_laws_toIntSS = [B_laws_toIntSS_L3] := by kernel_rfl
theorem R_laws_toIntSS_L3 : firstReg B_laws_toIntSS_L3 = 3 := by kernel_rfl
theorem Q_laws_toIntSS : Try.prog.funcs[24]? = some Try.f24 ∧ (Try.f24.name == "runtime.NumGoroutine") = false ∧ Try.f24.body = some D_laws_toIntSS := ⟨Try.func24, by kernel_rfl, by kernel_rfl⟩
theorem H_laws_toIntSS : Holds Try.prog 24 E_laws_toIntSS :=
  holds_of (cx := C_laws_toIntSS) (tabOk_ok tabT rfl).1 (allT_ok ⟨⟨H_laws_toIntS, _, _, Q_laws_toIntS⟩, trivial⟩) mixT Q_laws_toIntSS.1 Q_laws_toIntSS.2.2 (loops_of W_laws_toIntSS ⟨loop_of (cx := C_laws_toIntSS) (L := S_laws_toIntSS_L3 fuel) rfl (by rw [R_laws_toIntSS_L3]; rfl) ⟨laws_toIntSS_L3, fun _ => rfl, fun n x => K_laws_toIntSS_L3 n x, fuel, fun _ => rfl⟩, trivial⟩) (enc := N_laws_toIntSS) (fun _ _ => ⟨rfl, rfl⟩) F_laws_toIntSS

theorem F_laws_toLinear (a : dens E_laws_toLinear.params) : E_laws_toLinear.run a = funK C_laws_toLinear Try.f15 E_laws_toLinear.params E_laws_toLinear.results a (fun o r => some (N_laws_toLinear o r)) := by
  kernel_rfl
theorem W_laws_toLinear : loopsOf D_laws_toLinear = [] := by kernel_rfl
theorem Q_laws_toLinear : Try.prog.funcs[15]? = some Try.f15 ∧ (Try.f15.name == "runtime.NumGoroutine") = false ∧ Try.f15.body = some D_laws_toLinear := ⟨Try.func15, by kernel_rfl, by kernel_rfl⟩
theorem H_laws_toLinear : Holds Try.prog 15 E_laws_toLinear :=
  holds_of (cx := C_laws_toLinear) (tabOk_ok tabT rfl).1 (allT_ok ⟨⟨H_laws_toIntSS, _, _, Q_laws_toIntSS⟩, trivial⟩) mixT Q_laws_toLinear.1 Q_laws_toLinear.2.2 (loops_of W_laws_toLinear trivial) (enc := N_laws_toLinear) (fun _ _ => ⟨rfl, rfl⟩) F_laws_toLinear

theorem F_spec_l21Prime (a : dens E_spec_l21Prime.params) : E_spec_l21Prime.run a = funK C_spec_l21Prime Try.f45 E_spec_l21Prime.params E_spec_l21Prime.results a (fun o r => some (N_spec_l21Prime o r)) := by
  kernel_rfl
theorem W_spec_l21Prime : loopsOf D_spec_l21Prime = [] := by kernel_rfl
theorem Q_spec_l21Prime : Try.prog.funcs[45]? = some Try.f45 ∧ (Try.f45.name == "runtime.NumGoroutine") = false ∧ Try.f45.body = some D_spec_l21Prime := ⟨Try.func45, by kernel_rfl, by kernel_rfl⟩
theorem H_spec_l21Prime : Holds Try.prog 45 E_spec_l21Prime :=
  holds_of (cx := C_spec_l21Prime) (tabOk_ok tabT rfl).1 (allT_ok trivial) mixT Q_spec_l21Prime.1 Q_spec_l21Prime.2.2 (loops_of W_spec_l21Prime trivial) (enc := N_spec_l21Prime) (fun _ _ => ⟨rfl, rfl⟩) F_spec_l21Prime

theorem F_spec_l1In (a : dens E_spec_l1In.params) : E_spec_l1In.run a = funK C_spec_l1In Try.f50 E_spec_l1In.params E_spec_l1In.results a (fun o r => some (N_spec_l1In o r)) := by
  kernel_rfl
theorem W_spec_l1In : loopsOf D_spec_l1In = [] := by kernel_rfl
theorem Q_spec_l1In : Try.prog.funcs[50]? = some Try.f50 ∧ (Try.f50.name == "runtime.NumGoroutine") = false ∧ Try.f50.body = some D_spec_l1In := ⟨Try.func50, by kernel_rfl, by kernel_rfl⟩
theorem H_spec_l1In : Holds Try.prog 50 E_spec_l1In :=
  holds_of (cx := C_spec_l1In) (tabOk_ok tabT rfl).1 (allT_ok trivial) mixT Q_spec_l1In.1 Q_spec_l1In.2.2 (loops_of W_spec_l1In trivial) (enc := N_spec_l1In) (fun _ _ => ⟨rfl, rfl⟩) F_spec_l1In

theorem K_spec_l2Elements_L2 (n : Nat) (x : Int × (List Int) × Int) : spec_l2Elements_L2 (n + 1) x = roundK C_spec_l2Elements B_spec_l2Elements_L2 (S_spec_l2Elements_L2 fuel) x (spec_l2Elements_L2 n) := by
  obtain ⟨n_, list, i⟩ := x
  kernel_rfl
theorem F_spec_l2Elements (a : dens E_spec_l2Elements.params) : E_spec_l2Elements.run a = funK C_spec_l2Elements Try.f60 E_spec_l2Elements.params E_spec_l2Elements.results a (fun o r => some (N_spec_l2Elements o r)) := by
  kernel_rfl
theorem W_spec_l2Elements : loopsOf D_spec_l2Elements = [B_spec_l2Elements_L2] := by kernel_rfl
theorem R_spec_l2Elements_L2 : firstReg B_spec_l2Elements_L2 = 2 := by kernel_rfl
theorem Q_spec_l2Elements : Try.prog.funcs[60]? = some Try.f60 ∧ (Try.f60.name == "runtime.NumGoroutine") = false ∧ Try.f60.body = some D_spec_l2Elements := ⟨Try.func60, by kernel_rfl, by kernel_rfl⟩
theorem H_spec_l2Elements : Holds Try.prog 60 E_spec_l2Elements :=
  holds_of (cx := C_spec_l2Elements) (tabOk_ok tabT rfl).1 (allT_ok ⟨⟨H_spec_l1In, _, _, Q_spec_l1In⟩, trivial⟩) mixT Q_spec_l2Elements.1 Q_spec_l2Elements.2.2 (loops_of W_spec_l2Elements ⟨loop_of (cx := C_spec_l2Elements) (L := S_spec_l2Elements_L2 fuel) rfl (by rw [R_spec_l2Elements_L2]; rfl) ⟨spec_l2Elements_L2, fun _ => rfl, fun n x => K_spec_l2Elements_L2 n x, fuel, fun _ => rfl⟩, trivial⟩) (enc := N_spec_l2Elements) (fun _ _ => ⟨rfl, rfl⟩) F_spec_l2Elements

theorem F_spec_l8Tuple (a : dens E_spec_l8Tuple.params) : E_spec_l8Tuple.run a = funK C_spec_l8Tuple Try.f43 E_spec_l8Tuple.params E_spec_l8Tuple.results a (fun o r => some (N_spec_l8Tuple o r)) := by
  kernel_rfl
theorem W_spec_l8Tuple : loopsOf D_spec_l8Tuple = [] := by kernel_rfl
theorem Q_spec_l8Tuple : Try.prog.funcs[43]? = some Try.f43 ∧ (Try.f43.name == "runtime.NumGoroutine") = false ∧ Try.f43.body = some D_spec_l8Tuple := ⟨Try.func43, by kernel_rfl, by kernel_rfl⟩
theorem H_spec_l8Tuple : Holds Try.prog 43 E_spec_l8Tuple :=
  holds_of (cx := C_spec_l8Tuple) (tabOk_ok tabT rfl).1 (allT_ok ⟨⟨H_spec_l2Elements, _, _, Q_spec_l2Elements⟩, trivial⟩) mixT Q_spec_l8Tuple.1 Q_spec_l8Tuple.2.2 (loops_of W_spec_l8Tuple trivial) (enc := N_spec_l8Tuple) (fun _ _ => ⟨rfl, rfl⟩) F_spec_l8Tuple

theorem K_spec_l21Rows_L2 (n : Nat) (x : Int × Int × (List (List Int)) × Int) : spec_l21Rows_L2 (n + 1) x = roundK C_spec_l21Rows B_spec_l21Rows_L2 (S_spec_l21Rows_L2 fuel) x (spec_l21Rows_L2 n) := by
  obtain ⟨p, vars, rows, i⟩ := x
  kernel_rfl
theorem F_spec_l21Rows (a : dens E_spec_l21Rows.params) : E_spec_l21Rows.run a = funK C_spec_l21Rows Try.f59 E_spec_l21Rows.params E_spec_l21Rows.results a (fun o r => some (N_spec_l21Rows o r)) := by
  kernel_rfl
theorem W_spec_l21Rows : loopsOf D_spec_l21Rows = [B_spec_l21Rows_L2] := by kernel_rfl
theorem R_spec_l21Rows_L2 : firstReg B_spec_l21Rows_L2 = 2 := by kernel_rfl
theorem Q_spec_l21Rows : Try.prog.funcs[59]? = some Try.f59 ∧ (Try.f59.name == "runtime.NumGoroutine") = false ∧ Try.f59.body = some D_spec_l21Rows := ⟨Try.func59, by kernel_rfl, by kernel_rfl⟩
theorem H_spec_l21Rows : Holds Try.prog 59 E_spec_l21Rows :=
  holds_of (cx := C_spec_l21Rows) (tabOk_ok tabT rfl).1 (allT_ok ⟨⟨H_spec_l8Tuple, _, _, Q_spec_l8Tuple⟩, trivial⟩) mixT Q_spec_l21Rows.1 Q_spec_l21Rows.2.2 (loops_of W_spec_l21Rows ⟨loop_of (cx := C_spec_l21Rows) (L := S_spec_l21Rows_L2 fuel) rfl (by rw [R_spec_l21Rows_L2]; rfl) ⟨spec_l21Rows_L2, fun _ => rfl, fun n x => K_spec_l21Rows_L2 n x, fuel, fun _ => rfl⟩, trivial⟩) (enc := N_spec_l21Rows) (fun _ _ => ⟨rfl, rfl⟩) F_spec_l21Rows

theorem F_spec_l21Good (a : dens E_spec_l21Good.params) : E_spec_l21Good.run a = funK C_spec_l21Good Try.f40 E_spec_l21Good.params E_spec_l21Good.results a (fun o r => some (N_spec_l21Good o r)) := by
  kernel_rfl
theorem W_spec_l21Good : loopsOf D_spec_l21Good = [] := by kernel_rfl
theorem Q_spec_l21Good : Try.prog.funcs[40]? = some Try.f40 ∧ (Try.f40.name == "runtime.NumGoroutine") = false ∧ Try.f40.body = some D_spec_l21Good := ⟨Try.func40, by kernel_rfl, by kernel_rfl⟩
theorem H_spec_l21Good : Holds Try.prog 40 E_spec_l21Good :=
  holds_of (cx := C_spec_l21Good) (tabOk_ok tabT rfl).1 (allT_ok ⟨⟨H_spec_l21Prime, _, _, Q_spec_l21Prime⟩, ⟨⟨H_spec_l1In, _, _, Q_spec_l1In⟩, ⟨⟨H_spec_l21Rows, _, _, Q_spec_l21Rows⟩, trivial⟩⟩⟩) mixT Q_spec_l21Good.1 Q_spec_l21Good.2.2 (loops_of W_spec_l21Good trivial) (enc := N_spec_l21Good) (fun _ _ => ⟨rfl, rfl⟩) F_spec_l21Good

theorem K_spec_IsLinearRefutation_L10 (n : Nat) (x : (List Int) × (Int × Int × (List (List Int))) × Int × Int × Int) : spec_IsLinearRefutation_L10 (n + 1) x = roundK C_spec_IsLinearRefutation B_spec_IsLinearRefutation_L10 (S_spec_IsLinearRefutation_L10 fuel) x (spec_IsLinearRefutation_L10 n) := by
  obtain ⟨t1, t2, t6, t7, t8⟩ := x
  kernel_rfl
theorem K_spec_IsLinearRefutation_L6 (n : Nat) (x : (List Int) × (Int × Int × (List (List Int))) × Int) : spec_IsLinearRefutation_L6 (n + 1) x = roundK C_spec_IsLinearRefutation B_spec_IsLinearRefutation_L6 (S_spec_IsLinearRefutation_L6 fuel) x (spec_IsLinearRefutation_L6 n) := by
  obtain ⟨t1, t2, t6⟩ := x
  kernel_rfl
theorem F_spec_IsLinearRefutation (a : dens E_spec_IsLinearRefutation.params) : E_spec_IsLinearRefutation.run a = funK C_spec_IsLinearRefutation Try.f18 E_spec_IsLinearRefutation.params E_spec_IsLinearRefutation.results a (fun o r => some (N_spec_IsLinearRefutation o r)) := by
  kernel_rfl
theorem W_spec_IsLinearRefutation : loopsOf D_spec_IsLinearRefutation = [B_spec_IsLinearRefutation_L6, B_spec_IsLinearRefutation_L10] := by kernel_rfl
theorem R_spec_IsLinearRefutation_L10 : firstReg B_spec_IsLinearRefutation_L10 = 10 := by kernel_rfl
theorem R_spec_IsLinearRefutation_L6 : firstReg B_spec_IsLinearRefutation_L6 = 6 := by kernel_rfl
theorem Q_spec_IsLinearRefutation : Try.prog.funcs[18]? = some Try.f18 ∧ (Try.f18.name == "runtime.NumGoroutine") = false ∧ Try.f18.body = some D_spec_IsLinearRefutation := ⟨Try.func18, by kernel_rfl, by kernel_rfl⟩
theorem H_spec_IsLinearRefutation : Holds Try.prog 18 E_spec_IsLinearRefutation :=
  holds_of (cx := C_spec_IsLinearRefutation) (tabOk_ok tabT rfl).1 (allT_ok ⟨⟨H_spec_l21Good, _, _, Q_spec_l21Good⟩, ⟨⟨H_spec_l8Tuple, _, _, Q_spec_l8Tuple⟩, trivial⟩⟩) mixT Q_spec_IsLinearRefutation.1 Q_spec_IsLinearRefutation.2.2 (loops_of W_spec_IsLinearRefutation ⟨loop_of (cx := C_spec_IsLinearRefutation) (L := S_spec_IsLinearRefutation_L6 fuel) rfl (by rw [R_spec_IsLinearRefutation_L6]; rfl) ⟨spec_IsLinearRefutation_L6, fun _ => rfl, fun n x => K_spec_IsLinearRefutation_L6 n x, fuel, fun _ => rfl⟩, ⟨loop_of (cx := C_spec_IsLinearRefutation) (L := S_spec_IsLinearRefutation_L10 fuel) rfl (by rw [R_spec_IsLinearRefutation_L10]; rfl) ⟨spec_IsLinearRefutation_L10, fun _ => rfl, fun n x => K_spec_IsLinearRefutation_L10 n x, fuel, fun _ => rfl⟩, trivial⟩⟩) (enc := N_spec_IsLinearRefutation) (fun _ _ => ⟨rfl, rfl⟩) F_spec_IsLinearRefutation

theorem F_impl_isPrime (a : dens E_impl_isPrime.params) : E_impl_isPrime.run a = funK C_impl_isPrime Try.f41 E_impl_isPrime.params E_impl_isPrime.results a (fun o r => some (N_impl_isPrime o r)) := by
  kernel_rfl
theorem W_impl_isPrime : loopsOf D_impl_isPrime = [] := by kernel_rfl
theorem Q_impl_isPrime : Try.prog.funcs[41]? = some Try.f41 ∧ (Try.f41.name == "runtime.NumGoroutine") = false ∧ Try.f41.body = some D_impl_isPrime := ⟨Try.func41, by kernel_rfl, by kernel_rfl⟩
theorem H_impl_isPrime : Holds Try.prog 41 E_impl_isPrime :=
  holds_of (cx := C_impl_isPrime) (tabOk_ok tabT rfl).1 (allT_ok trivial) mixT Q_impl_isPrime.1 Q_impl_isPrime.2.2 (loops_of W_impl_isPrime trivial) (enc := N_impl_isPrime) (fun _ _ => ⟨rfl, rfl⟩) F_impl_isPrime

theorem K_impl_inSize_L2 (n : Nat) (x : Int × (List Int) × Int × Int) : impl_inSize_L2 (n + 1) x = roundK C_impl_inSize B_impl_inSize_L2 (S_impl_inSize_L2 fuel) x (impl_inSize_L2 n) := by
  obtain ⟨n_, t7, t8, t9⟩ := x
  kernel_rfl
theorem F_impl_inSize (a : dens E_impl_inSize.params) : E_impl_inSize.run a = funK C_impl_inSize Try.f42 E_impl_inSize.params E_impl_inSize.results a (fun o r => some (N_impl_inSize o r)) := by
  kernel_rfl
theorem W_impl_inSize : loopsOf D_impl_inSize = [B_impl_inSize_L2] := by kernel_rfl
theorem R_impl_inSize_L2 : firstReg B_impl_inSize_L2 = 2 := by kernel_rfl
theorem Q_impl_inSize : Try.prog.funcs[42]? = some Try.f42 ∧ (Try.f42.name == "runtime.NumGoroutine") = false ∧ Try.f42.body = some D_impl_inSize := ⟨Try.func42, by kernel_rfl, by kernel_rfl⟩
theorem H_impl_inSize : Holds Try.prog 42 E_impl_inSize :=
  holds_of (cx := C_impl_inSize) (tabOk_ok tabT rfl).1 (allT_ok trivial) mixT Q_impl_inSize.1 Q_impl_inSize.2.2 (loops_of W_impl_inSize ⟨loop_of (cx := C_impl_inSize) (L := S_impl_inSize_L2 fuel) rfl (by rw [R_impl_inSize_L2]; rfl) ⟨impl_inSize_L2, fun _ => rfl, fun n x => K_impl_inSize_L2 n x, fuel, fun _ => rfl⟩, trivial⟩) (enc := N_impl_inSize) (fun _ _ => ⟨rfl, rfl⟩) F_impl_inSize

theorem K_impl_IsLinear_L4 (n : Nat) (x : (Int × Int × (List (List Int))) × (List (List Int)) × Int × Int) : impl_IsLinear_L4 (n + 1) x = roundK C_impl_IsLinear B_impl_IsLinear_L4 (S_impl_IsLinear_L4 fuel) x (impl_IsLinear_L4 n) := by
  obtain ⟨l, t26, t27, t28⟩ := x
  kernel_rfl
theorem F_impl_IsLinear (a : dens E_impl_IsLinear.params) : E_impl_IsLinear.run a = funK C_impl_IsLinear Try.f16 E_impl_IsLinear.params E_impl_IsLinear.results a (fun o r => some (N_impl_IsLinear o r)) := by
  kernel_rfl
theorem W_impl_IsLinear : loopsOf D_impl_IsLinear = [B_impl_IsLinear_L4] := by kernel_rfl
theorem R_impl_IsLinear_L4 : firstReg B_impl_IsLinear_L4 = 4 := by kernel_rfl
theorem Q_impl_IsLinear : Try.prog.funcs[16]? = some Try.f16 ∧ (Try.f16.name == "runtime.NumGoroutine") = false ∧ Try.f16.body = some D_impl_IsLinear := ⟨Try.func16, by kernel_rfl, by kernel_rfl⟩
theorem H_impl_IsLinear : Holds Try.prog 16 E_impl_IsLinear :=
  holds_of (cx := C_impl_IsLinear) (tabOk_ok tabT rfl).1 (allT_ok ⟨⟨H_impl_isPrime, _, _, Q_impl_isPrime⟩, ⟨⟨H_impl_inSize, _, _, Q_impl_inSize⟩, trivial⟩⟩) mixT Q_impl_IsLinear.1 Q_impl_IsLinear.2.2 (loops_of W_impl_IsLinear ⟨loop_of (cx := C_impl_IsLinear) (L := S_impl_IsLinear_L4 fuel) rfl (by rw [R_impl_IsLinear_L4]; rfl) ⟨impl_IsLinear_L4, fun _ => rfl, fun n x => K_impl_IsLinear_L4 n x, fuel, fun _ => rfl⟩, trivial⟩) (enc := N_impl_IsLinear) (fun _ _ => ⟨rfl, rfl⟩) F_impl_IsLinear

theorem K_impl_IsLinearRefutation_L10 (n : Nat) (x : (List Int) × (Int × Int × (List (List Int))) × Int × Int × (List (List Int)) × Int × Int) : impl_IsLinearRefutation_L10 (n + 1) x = roundK C_impl_IsLinearRefutation B_impl_IsLinearRefutation_L10 (S_impl_IsLinearRefutation_L10 fuel) x (impl_IsLinearRefutation_L10 n) := by
  obtain ⟨y, l, v, sum, t34, t35, t36⟩ := x
  kernel_rfl
theorem K_impl_IsLinearRefutation_L6 (n : Nat) (x : (List Int) × (Int × Int × (List (List Int))) × Int) : impl_IsLinearRefutation_L6 (n + 1) x = roundK C_impl_IsLinearRefutation B_impl_IsLinearRefutation_L6 (S_impl_IsLinearRefutation_L6 fuel) x (impl_IsLinearRefutation_L6 n) := by
  obtain ⟨y, l, v⟩ := x
  kernel_rfl
theorem F_impl_IsLinearRefutation (a : dens E_impl_IsLinearRefutation.params) : E_impl_IsLinearRefutation.run a = funK C_impl_IsLinearRefutation Try.f20 E_impl_IsLinearRefutation.params E_impl_IsLinearRefutation.results a (fun o r => some (N_impl_IsLinearRefutation o r)) := by
  kernel_rfl
theorem W_impl_IsLinearRefutation : loopsOf D_impl_IsLinearRefutation = [B_impl_IsLinearRefutation_L6, B_impl_IsLinearRefutation_L10] := by kernel_rfl
theorem R_impl_IsLinearRefutation_L10 : firstReg B_impl_IsLinearRefutation_L10 = 10 := by kernel_rfl
theorem R_impl_IsLinearRefutation_L6 : firstReg B_impl_IsLinearRefutation_L6 = 6 := by kernel_rfl
theorem Q_impl_IsLinearRefutation : Try.prog.funcs[20]? = some Try.f20 ∧ (Try.f20.name == "runtime.NumGoroutine") = false ∧ Try.f20.body = some D_impl_IsLinearRefutation := ⟨Try.func20, by kernel_rfl, by kernel_rfl⟩
theorem H_impl_IsLinearRefutation : Holds Try.prog 20 E_impl_IsLinearRefutation :=
  holds_of (cx := C_impl_IsLinearRefutation) (tabOk_ok tabT rfl).1 (allT_ok ⟨⟨H_impl_IsLinear, _, _, Q_impl_IsLinear⟩, ⟨⟨H_impl_inSize, _, _, Q_impl_inSize⟩, trivial⟩⟩) mixT Q_impl_IsLinearRefutation.1 Q_impl_IsLinearRefutation.2.2 (loops_of W_impl_IsLinearRefutation ⟨loop_of (cx := C_impl_IsLinearRefutation) (L := S_impl_IsLinearRefutation_L6 fuel) rfl (by rw [R_impl_IsLinearRefutation_L6]; rfl) ⟨impl_IsLinearRefutation_L6, fun _ => rfl, fun n x => K_impl_IsLinearRefutation_L6 n x, fuel, fun _ => rfl⟩, ⟨loop_of (cx := C_impl_IsLinearRefutation) (L := S_impl_IsLinearRefutation_L10 fuel) rfl (by rw [R_impl_IsLinearRefutation_L10]; rfl) ⟨impl_IsLinearRefutation_L10, fun _ => rfl, fun n x => K_impl_IsLinearRefutation_L10 n x, fuel, fun _ => rfl⟩, trivial⟩⟩) (enc := N_impl_IsLinearRefutation) (fun _ _ => ⟨rfl, rfl⟩) F_impl_IsLinearRefutation

theorem K_laws_eqIntS_L4 (n : Nat) (x : (List Int) × (List Int) × Int) : laws_eqIntS_L4 (n + 1) x = roundK C_laws_eqIntS B_laws_eqIntS_L4 (S_laws_eqIntS_L4 fuel) x (laws_eqIntS_L4 n) := by
  obtain ⟨a, b, i⟩ := x
  kernel_rfl
theorem F_laws_eqIntS (a : dens E_laws_eqIntS.params) : E_laws_eqIntS.run a = funK C_laws_eqIntS Try.f21 E_laws_eqIntS.params E_laws_eqIntS.results a (fun o r => some (N_laws_eqIntS o r)) := by
  kernel_rfl
theorem W_laws_eqIntS : loopsOf D_laws_eqIntS = [B_laws_eqIntS_L4] := by kernel_rfl
theorem R_laws_eqIntS_L4 : firstReg B_laws_eqIntS_L4 = 4 := by kernel_rfl
theorem Q_laws_eqIntS : Try.prog.funcs[21]? = some Try.f21 ∧ (Try.f21.name == "runtime.NumGoroutine") = false ∧ Try.f21.body = some D_laws_eqIntS := ⟨Try.func21, by kernel_rfl, by kernel_rfl⟩
theorem H_laws_eqIntS : Holds Try.prog 21 E_laws_eqIntS :=
  holds_of (cx := C_laws_eqIntS) (tabOk_ok tabT rfl).1 (allT_ok trivial) mixT Q_laws_eqIntS.1 Q_laws_eqIntS.2.2 (loops_of W_laws_eqIntS ⟨loop_of (cx := C_laws_eqIntS) (L := S_laws_eqIntS_L4 fuel) rfl (by rw [R_laws_eqIntS_L4]; rfl) ⟨laws_eqIntS_L4, fun _ => rfl, fun n x => K_laws_eqIntS_L4 n x, fuel, fun _ => rfl⟩, trivial⟩) (enc := N_laws_eqIntS) (fun _ _ => ⟨rfl, rfl⟩) F_laws_eqIntS

theorem K_laws_eqIntSS_L4 (n : Nat) (x : (List (List Int)) × (List (List Int)) × Int) : laws_eqIntSS_L4 (n + 1) x = roundK C_laws_eqIntSS B_laws_eqIntSS_L4 (S_laws_eqIntSS_L4 fuel) x (laws_eqIntSS_L4 n) := by
  obtain ⟨a, b, i⟩ := x
  kernel_rfl
theorem F_laws_eqIntSS (a : dens E_laws_eqIntSS.params) : E_laws_eqIntSS.run a = funK C_laws_eqIntSS Try.f26 E_laws_eqIntSS.params E_laws_eqIntSS.results a (fun o r => some (N_laws_eqIntSS o r)) := by
  kernel_rfl
theorem W_laws_eqIntSS : loopsOf D_laws_eqIntSS = [B_laws_eqIntSS_L4] := by kernel_rfl
theorem R_laws_eqIntSS_L4 : firstReg B_laws_eqIntSS_L4 = 4 := by kernel_rfl
theorem Q_laws_eqIntSS : Try.prog.funcs[26]? = some Try.f26 ∧ (Try.f26.name == "runtime.NumGoroutine") = false ∧ Try.f26.body = some D_laws_eqIntSS := ⟨Try.func26, by kernel_rfl, by kernel_rfl⟩
theorem H_laws_eqIntSS : Holds Try.prog 26 E_laws_eqIntSS :=
  holds_of (cx := C_laws_eqIntSS) (tabOk_ok tabT rfl).1 (allT_ok ⟨⟨H_laws_eqIntS, _, _, Q_laws_eqIntS⟩, trivial⟩) mixT Q_laws_eqIntSS.1 Q_laws_eqIntSS.2.2 (loops_of W_laws_eqIntSS ⟨loop_of (cx := C_laws_eqIntSS) (L := S_laws_eqIntSS_L4 fuel) rfl (by rw [R_laws_eqIntSS_L4]; rfl) ⟨laws_eqIntSS_L4, fun _ => rfl, fun n x => K_laws_eqIntSS_L4 n x, fuel, fun _ => rfl⟩, trivial⟩) (enc := N_laws_eqIntSS) (fun _ _ => ⟨rfl, rfl⟩) F_laws_eqIntSS

theorem F_laws_eqLinear (a : dens E_laws_eqLinear.params) : E_laws_eqLinear.run a = funK C_laws_eqLinear Try.f17 E_laws_eqLinear.params E_laws_eqLinear.results a (fun o r => some (N_laws_eqLinear o r)) := by
  kernel_rfl
theorem W_laws_eqLinear : loopsOf D_laws_eqLinear = [] := by kernel_rfl
theorem Q_laws_eqLinear : Try.prog.funcs[17]? = some Try.f17 ∧ (Try.f17.name == "runtime.NumGoroutine") = false ∧ Try.f17.body = some D_laws_eqLinear := ⟨Try.func17, by kernel_rfl, by kernel_rfl⟩
theorem H_laws_eqLinear : Holds Try.prog 17 E_laws_eqLinear :=
  holds_of (cx := C_laws_eqLinear) (tabOk_ok tabT rfl).1 (allT_ok ⟨⟨H_laws_eqIntSS, _, _, Q_laws_eqIntSS⟩, trivial⟩) mixT Q_laws_eqLinear.1 Q_laws_eqLinear.2.2 (loops_of W_laws_eqLinear trivial) (enc := N_laws_eqLinear) (fun _ _ => ⟨rfl, rfl⟩) F_laws_eqLinear

theorem F_laws_FnExactIsLinearRefutation (a : dens E_laws_FnExactIsLinearRefutation.params) : E_laws_FnExactIsLinearRefutation.run a = funK C_laws_FnExactIsLinearRefutation Try.f5 E_laws_FnExactIsLinearRefutation.params E_laws_FnExactIsLinearRefutation.results a (fun o r => some (N_laws_FnExactIsLinearRefutation o r)) := by
  kernel_rfl
theorem W_laws_FnExactIsLinearRefutation : loopsOf D_laws_FnExactIsLinearRefutation = [] := by kernel_rfl
theorem Q_laws_FnExactIsLinearRefutation : Try.prog.funcs[5]? = some Try.f5 ∧ (Try.f5.name == "runtime.NumGoroutine") = false ∧ Try.f5.body = some D_laws_FnExactIsLinearRefutation := ⟨Try.func5, by kernel_rfl, by kernel_rfl⟩
theorem H_laws_FnExactIsLinearRefutation : Holds Try.prog 5 E_laws_FnExactIsLinearRefutation :=
  holds_of (cx := C_laws_FnExactIsLinearRefutation) (tabOk_ok tabT rfl).1 (allT_ok ⟨⟨H_laws_szLinear, _, _, Q_laws_szLinear⟩, ⟨⟨H_laws_toLinear, _, _, Q_laws_toLinear⟩, ⟨⟨H_laws_eqLinear, _, _, Q_laws_eqLinear⟩, ⟨⟨H_spec_IsLinearRefutation, _, _, Q_spec_IsLinearRefutation⟩, ⟨⟨H_laws_toIntS, _, _, Q_laws_toIntS⟩, ⟨⟨H_impl_IsLinearRefutation, _, _, Q_impl_IsLinearRefutation⟩, ⟨⟨H_laws_eqIntS, _, _, Q_laws_eqIntS⟩, trivial⟩⟩⟩⟩⟩⟩⟩) mixT Q_laws_FnExactIsLinearRefutation.1 Q_laws_FnExactIsLinearRefutation.2.2 (loops_of W_laws_FnExactIsLinearRefutation trivial) (enc := N_laws_FnExactIsLinearRefutation) (fun _ _ => ⟨rfl, rfl⟩) F_laws_FnExactIsLinearRefutation
end T
