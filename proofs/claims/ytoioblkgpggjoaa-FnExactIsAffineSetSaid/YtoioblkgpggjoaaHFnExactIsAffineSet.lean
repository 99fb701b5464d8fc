/- Each typed function is what the program computes; no conditions. -/
import Derived.Test.YtoioblkgpggjoaaCFnExactIsAffineSet
set_option linter.all false
set_option maxRecDepth 10000
open Go Go.Va Go.Proofs
namespace T

theorem F_laws_szIntS (a : dens E_laws_szIntS.params) : E_laws_szIntS.run a = funK C_laws_szIntS Try.f44 E_laws_szIntS.params E_laws_szIntS.results a (fun o r => some (N_laws_szIntS o r)) := by
  kernel_rfl
theorem W_laws_szIntS : loopsOf D_laws_szIntS = [] := by kernel_rfl
theorem Q_laws_szIntS : Try.prog.funcs[44]? = some Try.f44 ∧ (Try.f44.name == "runtime.NumGoroutine") = false ∧ Try.f44.body = some D_laws_szIntS := ⟨Try.func44, by kernel_rfl, by kernel_rfl⟩
theorem H_laws_szIntS : Holds Try.prog 44 E_laws_szIntS :=
  holds_of (cx := C_laws_szIntS) (tabOk_ok tabT rfl).1 (allT_ok trivial) mixT Q_laws_szIntS.1 Q_laws_szIntS.2.2 (loops_of W_laws_szIntS trivial) (enc := N_laws_szIntS) (fun _ _ => ⟨rfl, rfl⟩) F_laws_szIntS

theorem K_laws_szIntSS_L5 (n : Nat) (x : (List (List Int)) × Int × Int) : laws_szIntSS_L5 (n + 1) x = roundK C_laws_szIntSS B_laws_szIntSS_L5 (S_laws_szIntSS_L5 fuel) x (laws_szIntSS_L5 n) := by
  obtain ⟨a, left, i⟩ := x
  kernel_rfl
theorem F_laws_szIntSS (a : dens E_laws_szIntSS.params) : E_laws_szIntSS.run a = funK C_laws_szIntSS Try.f22 E_laws_szIntSS.params E_laws_szIntSS.results a (fun o r => some (N_laws_szIntSS o r)) := by
  kernel_rfl
theorem W_laws_szIntSS : loopsOf D_laws_szIntSS = [B_laws_szIntSS_L5] := by kernel_rfl
theorem R_laws_szIntSS_L5 : firstReg B_laws_szIntSS_L5 = 5 := by kernel_rfl
theorem Q_laws_szIntSS : Try.prog.funcs[22]? = some Try.f22 ∧ (Try.f22.name == "runtime.NumGoroutine") = false ∧ Try.f22.body = some D_laws_szIntSS := ⟨Try.func22, by kernel_rfl, by kernel_rfl⟩
theorem H_laws_szIntSS : Holds Try.prog 22 E_laws_szIntSS :=
  holds_of (cx := C_laws_szIntSS) (tabOk_ok tabT rfl).1 (allT_ok ⟨⟨H_laws_szIntS, _, _, Q_laws_szIntS⟩, trivial⟩) mixT Q_laws_szIntSS.1 Q_laws_szIntSS.2.2 (loops_of W_laws_szIntSS ⟨loop_of (cx := C_laws_szIntSS) (L := S_laws_szIntSS_L5 fuel) rfl (by rw [R_laws_szIntSS_L5]; rfl) ⟨laws_szIntSS_L5, fun _ => rfl, fun n x => K_laws_szIntSS_L5 n x, fuel, fun _ => rfl⟩, trivial⟩) (enc := N_laws_szIntSS) (fun _ _ => ⟨rfl, rfl⟩) F_laws_szIntSS

theorem K_laws_toIntS_L3 (n : Nat) (x : (List Int) × (List Int) × Int) : laws_toIntS_L3 (n + 1) x = roundK C_laws_toIntS B_laws_toIntS_L3 (S_laws_toIntS_L3 fuel) x (laws_toIntS_L3 n) := by
  obtain ⟨a, out, i⟩ := x
  kernel_rfl
theorem F_laws_toIntS (a : dens E_laws_toIntS.params) : E_laws_toIntS.run a = funK C_laws_toIntS Try.f19 E_laws_toIntS.params E_laws_toIntS.results a (fun o r => some (N_laws_toIntS o r)) := by
  kernel_rfl
theorem W_laws_toIntS : loopsOf D_laws_toIntS = [B_laws_toIntS_L3] := by kernel_rfl
theorem R_laws_toIntS_L3 : firstReg B_laws_toIntS_L3 = 3 := by kernel_rfl
theorem Q_laws_toIntS : Try.prog.funcs[19]? = some Try.f19 ∧ (Try.f19.name == "runtime.NumGoroutine") = false ∧ Try.f19.body = some D_laws_toIntS := ⟨Try.func19, by kernel_rfl, by kernel_rfl⟩
theorem H_laws_toIntS : Holds Try.prog 19 E_laws_toIntS :=
  holds_of (cx := C_laws_toIntS) (tabOk_ok tabT rfl).1 (allT_ok trivial) mixT Q_laws_toIntS.1 Q_laws_toIntS.2.2 (loops_of W_laws_toIntS ⟨loop_of (cx := C_laws_toIntS) (L := S_laws_toIntS_L3 fuel) rfl (by rw [R_laws_toIntS_L3]; rfl) ⟨laws_toIntS_L3, fun _ => rfl, fun n x => K_laws_toIntS_L3 n x, fuel, fun _ => rfl⟩, trivial⟩) (enc := N_laws_toIntS) (fun _ _ => ⟨rfl, rfl⟩) F_laws_toIntS

theorem K_laws_toIntSS_L3 (n : Nat) (x : (List (List Int)) × (List (List Int)) × Int) : laws_toIntSS_L3 (n + 1) x = roundK C_laws_toIntSS B_laws_toIntSS_L3 (S_laws_toIntSS_L3 fuel) x (laws_toIntSS_L3 n) := by
  obtain ⟨a, out, i⟩ := x
  kernel_rfl
theorem F_laws_toIntSS (a : dens E_laws_toIntSS.params) : E_laws_toIntSS.run a = funK C_laws_toIntSS Try.f24 E_laws_toIntSS.params E_laws_toIntSS.results a (fun o r => some (N_laws_toIntSS o r)) := by
  kernel_rfl
theorem W_laws_toIntSS : loopsOf D_laws_toIntSS = [B_laws_toIntSS_L3] := by kernel_rfl
theorem R_laws_toIntSS_L3 : firstReg B_laws_toIntSS_L3 = 3 := by kernel_rfl
theorem Q_laws_toIntSS : Try.prog.funcs[24]? = some Try.f24 ∧ (Try.f24.name == "runtime.NumGoroutine") = false ∧ Try.f24.body = some D_laws_toIntSS := ⟨Try.func24, by kernel_rfl, by kernel_rfl⟩
theorem H_laws_toIntSS : Holds Try.prog 24 E_laws_toIntSS :=
  holds_of (cx := C_laws_toIntSS) (tabOk_ok tabT rfl).1 (allT_ok ⟨⟨H_laws_toIntS, _, _, Q_laws_toIntS⟩, trivial⟩) mixT Q_laws_toIntSS.1 Q_laws_toIntSS.2.2 (loops_of W_laws_toIntSS ⟨loop_of (cx := C_laws_toIntSS) (L := S_laws_toIntSS_L3 fuel) rfl (by rw [R_laws_toIntSS_L3]; rfl) ⟨laws_toIntSS_L3, fun _ => rfl, fun n x => K_laws_toIntSS_L3 n x, fuel, fun _ => rfl⟩, trivial⟩) (enc := N_laws_toIntSS) (fun _ _ => ⟨rfl, rfl⟩) F_laws_toIntSS

theorem F_spec_l21Prime (a : dens E_spec_l21Prime.params) : E_spec_l21Prime.run a = funK C_spec_l21Prime Try.f45 E_spec_l21Prime.params E_spec_l21Prime.results a (fun o r => some (N_spec_l21Prime o r)) := by
  kernel_rfl
theorem W_spec_l21Prime : loopsOf D_spec_l21Prime = [] := by kernel_rfl
theorem Q_spec_l21Prime : Try.prog.funcs[45]? = some Try.f45 ∧ (Try.f45.name == "runtime.NumGoroutine") = false ∧ Try.f45.body = some D_spec_l21Prime := ⟨Try.func45, by kernel_rfl, by kernel_rfl⟩
theorem H_spec_l21Prime : Holds Try.prog 45 E_spec_l21Prime :=
  holds_of (cx := C_spec_l21Prime) (tabOk_ok tabT rfl).1 (allT_ok trivial) mixT Q_spec_l21Prime.1 Q_spec_l21Prime.2.2 (loops_of W_spec_l21Prime trivial) (enc := N_spec_l21Prime) (fun _ _ => ⟨rfl, rfl⟩) F_spec_l21Prime

theorem F_spec_l1In (a : dens E_spec_l1In.params) : E_spec_l1In.run a = funK C_spec_l1In Try.f50 E_spec_l1In.params E_spec_l1In.results a (fun o r => some (N_spec_l1In o r)) := by
  kernel_rfl
theorem W_spec_l1In : loopsOf D_spec_l1In = [] := by kernel_rfl
theorem Q_spec_l1In : Try.prog.funcs[50]? = some Try.f50 ∧ (Try.f50.name == "runtime.NumGoroutine") = false ∧ Try.f50.body = some D_spec_l1In := ⟨Try.func50, by kernel_rfl, by kernel_rfl⟩
theorem H_spec_l1In : Holds Try.prog 50 E_spec_l1In :=
  holds_of (cx := C_spec_l1In) (tabOk_ok tabT rfl).1 (allT_ok trivial) mixT Q_spec_l1In.1 Q_spec_l1In.2.2 (loops_of W_spec_l1In trivial) (enc := N_spec_l1In) (fun _ _ => ⟨rfl, rfl⟩) F_spec_l1In

theorem F_spec_l6Size (a : dens E_spec_l6Size.params) : E_spec_l6Size.run a = funK C_spec_l6Size Try.f33 E_spec_l6Size.params E_spec_l6Size.results a (fun o r => some (N_spec_l6Size o r)) := by
  kernel_rfl
theorem W_spec_l6Size : loopsOf D_spec_l6Size = [] := by kernel_rfl
theorem Q_spec_l6Size : Try.prog.funcs[33]? = some Try.f33 ∧ (Try.f33.name == "runtime.NumGoroutine") = false ∧ Try.f33.body = some D_spec_l6Size := ⟨Try.func33, by kernel_rfl, by kernel_rfl⟩
theorem H_spec_l6Size : Holds Try.prog 33 E_spec_l6Size :=
  holds_of (cx := C_spec_l6Size) (tabOk_ok tabT rfl).1 (allT_ok ⟨⟨H_spec_l1In, _, _, Q_spec_l1In⟩, trivial⟩) mixT Q_spec_l6Size.1 Q_spec_l6Size.2.2 (loops_of W_spec_l6Size trivial) (enc := N_spec_l6Size) (fun _ _ => ⟨rfl, rfl⟩) F_spec_l6Size

theorem K_spec_l2Pow_L2 (n : Nat) (x : Int × Int × Int) : spec_l2Pow_L2 (n + 1) x = roundK C_spec_l2Pow B_spec_l2Pow_L2 (S_spec_l2Pow_L2 fuel) x (spec_l2Pow_L2 n) := by
  obtain ⟨n_, k, out⟩ := x
  kernel_rfl
theorem F_spec_l2Pow (a : dens E_spec_l2Pow.params) : E_spec_l2Pow.run a = funK C_spec_l2Pow Try.f52 E_spec_l2Pow.params E_spec_l2Pow.results a (fun o r => some (N_spec_l2Pow o r)) := by
  kernel_rfl
theorem W_spec_l2Pow : loopsOf D_spec_l2Pow = [B_spec_l2Pow_L2] := by kernel_rfl
theorem R_spec_l2Pow_L2 : firstReg B_spec_l2Pow_L2 = 2 := by kernel_rfl
theorem Q_spec_l2Pow : Try.prog.funcs[52]? = some Try.f52 ∧ (Try.f52.name == "runtime.NumGoroutine") = false ∧ Try.f52.body = some D_spec_l2Pow := ⟨Try.func52, by kernel_rfl, by kernel_rfl⟩
theorem H_spec_l2Pow : Holds Try.prog 52 E_spec_l2Pow :=
  holds_of (cx := C_spec_l2Pow) (tabOk_ok tabT rfl).1 (allT_ok trivial) mixT Q_spec_l2Pow.1 Q_spec_l2Pow.2.2 (loops_of W_spec_l2Pow ⟨loop_of (cx := C_spec_l2Pow) (L := S_spec_l2Pow_L2 fuel) rfl (by rw [R_spec_l2Pow_L2]; rfl) ⟨spec_l2Pow_L2, fun _ => rfl, fun n x => K_spec_l2Pow_L2 n x, fuel, fun _ => rfl⟩, trivial⟩) (enc := N_spec_l2Pow) (fun _ _ => ⟨rfl, rfl⟩) F_spec_l2Pow

theorem K_spec_l2Elements_L2 (n : Nat) (x : Int × (List Int) × Int) : spec_l2Elements_L2 (n + 1) x = roundK C_spec_l2Elements B_spec_l2Elements_L2 (S_spec_l2Elements_L2 fuel) x (spec_l2Elements_L2 n) := by
  obtain ⟨n_, list, i⟩ := x
  kernel_rfl
theorem F_spec_l2Elements (a : dens E_spec_l2Elements.params) : E_spec_l2Elements.run a = funK C_spec_l2Elements Try.f60 E_spec_l2Elements.params E_spec_l2Elements.results a (fun o r => some (N_spec_l2Elements o r)) := by
  kernel_rfl
theorem W_spec_l2Elements : loopsOf D_spec_l2Elements = [B_spec_l2Elements_L2] := by kernel_rfl
theorem R_spec_l2Elements_L2 : firstReg B_spec_l2Elements_L2 = 2 := by kernel_rfl
theorem Q_spec_l2Elements : Try.prog.funcs[60]? = some Try.f60 ∧ (Try.f60.name == "runtime.NumGoroutine") = false ∧ Try.f60.body = some D_spec_l2Elements := ⟨Try.func60, by kernel_rfl, by kernel_rfl⟩
theorem H_spec_l2Elements : Holds Try.prog 60 E_spec_l2Elements :=
  holds_of (cx := C_spec_l2Elements) (tabOk_ok tabT rfl).1 (allT_ok ⟨⟨H_spec_l1In, _, _, Q_spec_l1In⟩, trivial⟩) mixT Q_spec_l2Elements.1 Q_spec_l2Elements.2.2 (loops_of W_spec_l2Elements ⟨loop_of (cx := C_spec_l2Elements) (L := S_spec_l2Elements_L2 fuel) rfl (by rw [R_spec_l2Elements_L2]; rfl) ⟨spec_l2Elements_L2, fun _ => rfl, fun n x => K_spec_l2Elements_L2 n x, fuel, fun _ => rfl⟩, trivial⟩) (enc := N_spec_l2Elements) (fun _ _ => ⟨rfl, rfl⟩) F_spec_l2Elements

theorem F_spec_l8Tuple (a : dens E_spec_l8Tuple.params) : E_spec_l8Tuple.run a = funK C_spec_l8Tuple Try.f43 E_spec_l8Tuple.params E_spec_l8Tuple.results a (fun o r => some (N_spec_l8Tuple o r)) := by
  kernel_rfl
theorem W_spec_l8Tuple : loopsOf D_spec_l8Tuple = [] := by kernel_rfl
theorem Q_spec_l8Tuple : Try.prog.funcs[43]? = some Try.f43 ∧ (Try.f43.name == "runtime.NumGoroutine") = false ∧ Try.f43.body = some D_spec_l8Tuple := ⟨Try.func43, by kernel_rfl, by kernel_rfl⟩
theorem H_spec_l8Tuple : Holds Try.prog 43 E_spec_l8Tuple :=
  holds_of (cx := C_spec_l8Tuple) (tabOk_ok tabT rfl).1 (allT_ok ⟨⟨H_spec_l2Elements, _, _, Q_spec_l2Elements⟩, trivial⟩) mixT Q_spec_l8Tuple.1 Q_spec_l8Tuple.2.2 (loops_of W_spec_l8Tuple trivial) (enc := N_spec_l8Tuple) (fun _ _ => ⟨rfl, rfl⟩) F_spec_l8Tuple

theorem K_spec_l3Less_L2 (n : Nat) (x : (List Int) × (List Int) × Int) : spec_l3Less_L2 (n + 1) x = roundK C_spec_l3Less B_spec_l3Less_L2 (S_spec_l3Less_L2 fuel) x (spec_l3Less_L2 n) := by
  obtain ⟨a, b, i⟩ := x
  kernel_rfl
theorem F_spec_l3Less (a : dens E_spec_l3Less.params) : E_spec_l3Less.run a = funK C_spec_l3Less Try.f61 E_spec_l3Less.params E_spec_l3Less.results a (fun o r => some (N_spec_l3Less o r)) := by
  kernel_rfl
theorem W_spec_l3Less : loopsOf D_spec_l3Less = [B_spec_l3Less_L2] := by kernel_rfl
theorem R_spec_l3Less_L2 : firstReg B_spec_l3Less_L2 = 2 := by kernel_rfl
theorem Q_spec_l3Less : Try.prog.funcs[61]? = some Try.f61 ∧ (Try.f61.name == "runtime.NumGoroutine") = false ∧ Try.f61.body = some D_spec_l3Less := ⟨Try.func61, by kernel_rfl, by kernel_rfl⟩
theorem H_spec_l3Less : Holds Try.prog 61 E_spec_l3Less :=
  holds_of (cx := C_spec_l3Less) (tabOk_ok tabT rfl).1 (allT_ok trivial) mixT Q_spec_l3Less.1 Q_spec_l3Less.2.2 (loops_of W_spec_l3Less ⟨loop_of (cx := C_spec_l3Less) (L := S_spec_l3Less_L2 fuel) rfl (by rw [R_spec_l3Less_L2]; rfl) ⟨spec_l3Less_L2, fun _ => rfl, fun n x => K_spec_l3Less_L2 n x, fuel, fun _ => rfl⟩, trivial⟩) (enc := N_spec_l3Less) (fun _ _ => ⟨rfl, rfl⟩) F_spec_l3Less

theorem K_spec_l21Set_L4 (n : Nat) (x : Int × Int × (List (List Int)) × Int) : spec_l21Set_L4 (n + 1) x = roundK C_spec_l21Set B_spec_l21Set_L4 (S_spec_l21Set_L4 fuel) x (spec_l21Set_L4 n) := by
  obtain ⟨n_, k, tuples, i⟩ := x
  kernel_rfl
theorem F_spec_l21Set (a : dens E_spec_l21Set.params) : E_spec_l21Set.run a = funK C_spec_l21Set Try.f46 E_spec_l21Set.params E_spec_l21Set.results a (fun o r => some (N_spec_l21Set o r)) := by
  kernel_rfl
theorem W_spec_l21Set : loopsOf D_spec_l21Set = [B_spec_l21Set_L4] := by kernel_rfl
theorem R_spec_l21Set_L4 : firstReg B_spec_l21Set_L4 = 4 := by kernel_rfl
theorem Q_spec_l21Set : Try.prog.funcs[46]? = some Try.f46 ∧ (Try.f46.name == "runtime.NumGoroutine") = false ∧ Try.f46.body = some D_spec_l21Set := ⟨Try.func46, by kernel_rfl, by kernel_rfl⟩
theorem H_spec_l21Set : Holds Try.prog 46 E_spec_l21Set :=
  holds_of (cx := C_spec_l21Set) (tabOk_ok tabT rfl).1 (allT_ok ⟨⟨H_spec_l6Size, _, _, Q_spec_l6Size⟩, ⟨⟨H_spec_l8Tuple, _, _, Q_spec_l8Tuple⟩, ⟨⟨H_spec_l1In, _, _, Q_spec_l1In⟩, ⟨⟨H_spec_l2Pow, _, _, Q_spec_l2Pow⟩, ⟨⟨H_spec_l3Less, _, _, Q_spec_l3Less⟩, trivial⟩⟩⟩⟩⟩) mixT Q_spec_l21Set.1 Q_spec_l21Set.2.2 (loops_of W_spec_l21Set ⟨loop_of (cx := C_spec_l21Set) (L := S_spec_l21Set_L4 fuel) rfl (by rw [R_spec_l21Set_L4]; rfl) ⟨spec_l21Set_L4, fun _ => rfl, fun n x => K_spec_l21Set_L4 n x, fuel, fun _ => rfl⟩, trivial⟩) (enc := N_spec_l21Set) (fun _ _ => ⟨rfl, rfl⟩) F_spec_l21Set

theorem K_spec_l21Less_L3 (n : Nat) (x : Int × (List Int) × (List Int) × Int × (List Int) × Int) : spec_l21Less_L3 (n + 1) x = roundK C_spec_l21Less B_spec_l21Less_L3 (S_spec_l21Less_L3 fuel) x (spec_l21Less_L3 n) := by
  obtain ⟨p, row, other, by_, out, i⟩ := x
  kernel_rfl
theorem F_spec_l21Less (a : dens E_spec_l21Less.params) : E_spec_l21Less.run a = funK C_spec_l21Less Try.f62 E_spec_l21Less.params E_spec_l21Less.results a (fun o r => some (N_spec_l21Less o r)) := by
  kernel_rfl
theorem W_spec_l21Less : loopsOf D_spec_l21Less = [B_spec_l21Less_L3] := by kernel_rfl
theorem R_spec_l21Less_L3 : firstReg B_spec_l21Less_L3 = 3 := by kernel_rfl
theorem Q_spec_l21Less : Try.prog.funcs[62]? = some Try.f62 ∧ (Try.f62.name == "runtime.NumGoroutine") = false ∧ Try.f62.body = some D_spec_l21Less := ⟨Try.func62, by kernel_rfl, by kernel_rfl⟩
theorem H_spec_l21Less : Holds Try.prog 62 E_spec_l21Less :=
  holds_of (cx := C_spec_l21Less) (tabOk_ok tabT rfl).1 (allT_ok trivial) mixT Q_spec_l21Less.1 Q_spec_l21Less.2.2 (loops_of W_spec_l21Less ⟨loop_of (cx := C_spec_l21Less) (L := S_spec_l21Less_L3 fuel) rfl (by rw [R_spec_l21Less_L3]; rfl) ⟨spec_l21Less_L3, fun _ => rfl, fun n x => K_spec_l21Less_L3 n x, fuel, fun _ => rfl⟩, trivial⟩) (enc := N_spec_l21Less) (fun _ _ => ⟨rfl, rfl⟩) F_spec_l21Less

theorem K_spec_l1Same_L4 (n : Nat) (x : (List Int) × (List Int) × Int) : spec_l1Same_L4 (n + 1) x = roundK C_spec_l1Same B_spec_l1Same_L4 (S_spec_l1Same_L4 fuel) x (spec_l1Same_L4 n) := by
  obtain ⟨a, b, i⟩ := x
  kernel_rfl
theorem F_spec_l1Same (a : dens E_spec_l1Same.params) : E_spec_l1Same.run a = funK C_spec_l1Same Try.f69 E_spec_l1Same.params E_spec_l1Same.results a (fun o r => some (N_spec_l1Same o r)) := by
  kernel_rfl
theorem W_spec_l1Same : loopsOf D_spec_l1Same = [B_spec_l1Same_L4] := by kernel_rfl
theorem R_spec_l1Same_L4 : firstReg B_spec_l1Same_L4 = 4 := by kernel_rfl
theorem Q_spec_l1Same : Try.prog.funcs[69]? = some Try.f69 ∧ (Try.f69.name == "runtime.NumGoroutine") = false ∧ Try.f69.body = some D_spec_l1Same := ⟨Try.func69, by kernel_rfl, by kernel_rfl⟩
theorem H_spec_l1Same : Holds Try.prog 69 E_spec_l1Same :=
  holds_of (cx := C_spec_l1Same) (tabOk_ok tabT rfl).1 (allT_ok trivial) mixT Q_spec_l1Same.1 Q_spec_l1Same.2.2 (loops_of W_spec_l1Same ⟨loop_of (cx := C_spec_l1Same) (L := S_spec_l1Same_L4 fuel) rfl (by rw [R_spec_l1Same_L4]; rfl) ⟨spec_l1Same_L4, fun _ => rfl, fun n x => K_spec_l1Same_L4 n x, fuel, fun _ => rfl⟩, trivial⟩) (enc := N_spec_l1Same) (fun _ _ => ⟨rfl, rfl⟩) F_spec_l1Same

theorem K_spec_l8Find_L2 (n : Nat) (x : (List (List Int)) × (List Int) × Int × Int) : spec_l8Find_L2 (n + 1) x = roundK C_spec_l8Find B_spec_l8Find_L2 (S_spec_l8Find_L2 fuel) x (spec_l8Find_L2 n) := by
  obtain ⟨list, t, from_, to⟩ := x
  kernel_rfl
theorem F_spec_l8Find (a : dens E_spec_l8Find.params) : E_spec_l8Find.run a = funK C_spec_l8Find Try.f63 E_spec_l8Find.params E_spec_l8Find.results a (fun o r => some (N_spec_l8Find o r)) := by
  kernel_rfl
theorem W_spec_l8Find : loopsOf D_spec_l8Find = [B_spec_l8Find_L2] := by kernel_rfl
theorem R_spec_l8Find_L2 : firstReg B_spec_l8Find_L2 = 2 := by kernel_rfl
theorem Q_spec_l8Find : Try.prog.funcs[63]? = some Try.f63 ∧ (Try.f63.name == "runtime.NumGoroutine") = false ∧ Try.f63.body = some D_spec_l8Find := ⟨Try.func63, by kernel_rfl, by kernel_rfl⟩
theorem H_spec_l8Find : Holds Try.prog 63 E_spec_l8Find :=
  holds_of (cx := C_spec_l8Find) (tabOk_ok tabT rfl).1 (allT_ok ⟨⟨H_spec_l3Less, _, _, Q_spec_l3Less⟩, ⟨⟨H_spec_l1Same, _, _, Q_spec_l1Same⟩, trivial⟩⟩) mixT Q_spec_l8Find.1 Q_spec_l8Find.2.2 (loops_of W_spec_l8Find ⟨loop_of (cx := C_spec_l8Find) (L := S_spec_l8Find_L2 fuel) rfl (by rw [R_spec_l8Find_L2]; rfl) ⟨spec_l8Find_L2, fun _ => rfl, fun n x => K_spec_l8Find_L2 n x, fuel, fun _ => rfl⟩, trivial⟩) (enc := N_spec_l8Find) (fun _ _ => ⟨rfl, rfl⟩) F_spec_l8Find

theorem K_spec_l21Affine_L9 (n : Nat) (x : Int × (List (List Int)) × Int × Int × (List Int) × Int) : spec_l21Affine_L9 (n + 1) x = roundK C_spec_l21Affine B_spec_l21Affine_L9 (S_spec_l21Affine_L9 fuel) x (spec_l21Affine_L9 n) := by
  obtain ⟨p, tuples, i, k, t, place⟩ := x
  kernel_rfl
theorem K_spec_l21Affine_L5 (n : Nat) (x : Int × (List (List Int)) × Int × Int) : spec_l21Affine_L5 (n + 1) x = roundK C_spec_l21Affine B_spec_l21Affine_L5 (S_spec_l21Affine_L5 fuel) x (spec_l21Affine_L5 n) := by
  obtain ⟨p, tuples, i, k⟩ := x
  kernel_rfl
theorem K_spec_l21Affine_L2 (n : Nat) (x : Int × (List (List Int)) × Int) : spec_l21Affine_L2 (n + 1) x = roundK C_spec_l21Affine B_spec_l21Affine_L2 (S_spec_l21Affine_L2 fuel) x (spec_l21Affine_L2 n) := by
  obtain ⟨p, tuples, i⟩ := x
  kernel_rfl
theorem F_spec_l21Affine (a : dens E_spec_l21Affine.params) : E_spec_l21Affine.run a = funK C_spec_l21Affine Try.f47 E_spec_l21Affine.params E_spec_l21Affine.results a (fun o r => some (N_spec_l21Affine o r)) := by
  kernel_rfl
theorem W_spec_l21Affine : loopsOf D_spec_l21Affine = [B_spec_l21Affine_L2, B_spec_l21Affine_L5, B_spec_l21Affine_L9] := by kernel_rfl
theorem R_spec_l21Affine_L9 : firstReg B_spec_l21Affine_L9 = 9 := by kernel_rfl
theorem R_spec_l21Affine_L5 : firstReg B_spec_l21Affine_L5 = 5 := by kernel_rfl
theorem R_spec_l21Affine_L2 : firstReg B_spec_l21Affine_L2 = 2 := by kernel_rfl
theorem Q_spec_l21Affine : Try.prog.funcs[47]? = some Try.f47 ∧ (Try.f47.name == "runtime.NumGoroutine") = false ∧ Try.f47.body = some D_spec_l21Affine := ⟨Try.func47, by kernel_rfl, by kernel_rfl⟩
theorem H_spec_l21Affine : Holds Try.prog 47 E_spec_l21Affine :=
  holds_of (cx := C_spec_l21Affine) (tabOk_ok tabT rfl).1 (allT_ok ⟨⟨H_spec_l21Less, _, _, Q_spec_l21Less⟩, ⟨⟨H_spec_l8Find, _, _, Q_spec_l8Find⟩, trivial⟩⟩) mixT Q_spec_l21Affine.1 Q_spec_l21Affine.2.2 (loops_of W_spec_l21Affine ⟨loop_of (cx := C_spec_l21Affine) (L := S_spec_l21Affine_L2 fuel) rfl (by rw [R_spec_l21Affine_L2]; rfl) ⟨spec_l21Affine_L2, fun _ => rfl, fun n x => K_spec_l21Affine_L2 n x, fuel, fun _ => rfl⟩, ⟨loop_of (cx := C_spec_l21Affine) (L := S_spec_l21Affine_L5 fuel) rfl (by rw [R_spec_l21Affine_L5]; rfl) ⟨spec_l21Affine_L5, fun _ => rfl, fun n x => K_spec_l21Affine_L5 n x, fuel, fun _ => rfl⟩, ⟨loop_of (cx := C_spec_l21Affine) (L := S_spec_l21Affine_L9 fuel) rfl (by rw [R_spec_l21Affine_L9]; rfl) ⟨spec_l21Affine_L9, fun _ => rfl, fun n x => K_spec_l21Affine_L9 n x, fuel, fun _ => rfl⟩, trivial⟩⟩⟩) (enc := N_spec_l21Affine) (fun _ _ => ⟨rfl, rfl⟩) F_spec_l21Affine

theorem F_spec_IsAffineSet (a : dens E_spec_IsAffineSet.params) : E_spec_IsAffineSet.run a = funK C_spec_IsAffineSet Try.f23 E_spec_IsAffineSet.params E_spec_IsAffineSet.results a (fun o r => some (N_spec_IsAffineSet o r)) := by
  kernel_rfl
theorem W_spec_IsAffineSet : loopsOf D_spec_IsAffineSet = [] := by kernel_rfl
theorem Q_spec_IsAffineSet : Try.prog.funcs[23]? = some Try.f23 ∧ (Try.f23.name == "runtime.NumGoroutine") = false ∧ Try.f23.body = some D_spec_IsAffineSet := ⟨Try.func23, by kernel_rfl, by kernel_rfl⟩
theorem H_spec_IsAffineSet : Holds Try.prog 23 E_spec_IsAffineSet :=
  holds_of (cx := C_spec_IsAffineSet) (tabOk_ok tabT rfl).1 (allT_ok ⟨⟨H_spec_l21Prime, _, _, Q_spec_l21Prime⟩, ⟨⟨H_spec_l21Set, _, _, Q_spec_l21Set⟩, ⟨⟨H_spec_l21Affine, _, _, Q_spec_l21Affine⟩, trivial⟩⟩⟩) mixT Q_spec_IsAffineSet.1 Q_spec_IsAffineSet.2.2 (loops_of W_spec_IsAffineSet trivial) (enc := N_spec_IsAffineSet) (fun _ _ => ⟨rfl, rfl⟩) F_spec_IsAffineSet

theorem F_impl_isPrime (a : dens E_impl_isPrime.params) : E_impl_isPrime.run a = funK C_impl_isPrime Try.f41 E_impl_isPrime.params E_impl_isPrime.results a (fun o r => some (N_impl_isPrime o r)) := by
  kernel_rfl
theorem W_impl_isPrime : loopsOf D_impl_isPrime = [] := by kernel_rfl
theorem Q_impl_isPrime : Try.prog.funcs[41]? = some Try.f41 ∧ (Try.f41.name == "runtime.NumGoroutine") = false ∧ Try.f41.body = some D_impl_isPrime := ⟨Try.func41, by kernel_rfl, by kernel_rfl⟩
theorem H_impl_isPrime : Holds Try.prog 41 E_impl_isPrime :=
  holds_of (cx := C_impl_isPrime) (tabOk_ok tabT rfl).1 (allT_ok trivial) mixT Q_impl_isPrime.1 Q_impl_isPrime.2.2 (loops_of W_impl_isPrime trivial) (enc := N_impl_isPrime) (fun _ _ => ⟨rfl, rfl⟩) F_impl_isPrime

theorem F_impl_isSize (a : dens E_impl_isSize.params) : E_impl_isSize.run a = funK C_impl_isSize Try.f35 E_impl_isSize.params E_impl_isSize.results a (fun o r => some (N_impl_isSize o r)) := by
  kernel_rfl
theorem W_impl_isSize : loopsOf D_impl_isSize = [] := by kernel_rfl
theorem Q_impl_isSize : Try.prog.funcs[35]? = some Try.f35 ∧ (Try.f35.name == "runtime.NumGoroutine") = false ∧ Try.f35.body = some D_impl_isSize := ⟨Try.func35, by kernel_rfl, by kernel_rfl⟩
theorem H_impl_isSize : Holds Try.prog 35 E_impl_isSize :=
  holds_of (cx := C_impl_isSize) (tabOk_ok tabT rfl).1 (allT_ok trivial) mixT Q_impl_isSize.1 Q_impl_isSize.2.2 (loops_of W_impl_isSize trivial) (enc := N_impl_isSize) (fun _ _ => ⟨rfl, rfl⟩) F_impl_isSize

theorem K_impl_inSize_L2 (n : Nat) (x : Int × (List Int) × Int × Int) : impl_inSize_L2 (n + 1) x = roundK C_impl_inSize B_impl_inSize_L2 (S_impl_inSize_L2 fuel) x (impl_inSize_L2 n) := by
  obtain ⟨n_, t7, t8, t9⟩ := x
  kernel_rfl
theorem F_impl_inSize (a : dens E_impl_inSize.params) : E_impl_inSize.run a = funK C_impl_inSize Try.f42 E_impl_inSize.params E_impl_inSize.results a (fun o r => some (N_impl_inSize o r)) := by
  kernel_rfl
theorem W_impl_inSize : loopsOf D_impl_inSize = [B_impl_inSize_L2] := by kernel_rfl
theorem R_impl_inSize_L2 : firstReg B_impl_inSize_L2 = 2 := by kernel_rfl
theorem Q_impl_inSize : Try.prog.funcs[42]? = some Try.f42 ∧ (Try.f42.name == "runtime.NumGoroutine") = false ∧ Try.f42.body = some D_impl_inSize := ⟨Try.func42, by kernel_rfl, by kernel_rfl⟩
theorem H_impl_inSize : Holds Try.prog 42 E_impl_inSize :=
  holds_of (cx := C_impl_inSize) (tabOk_ok tabT rfl).1 (allT_ok trivial) mixT Q_impl_inSize.1 Q_impl_inSize.2.2 (loops_of W_impl_inSize ⟨loop_of (cx := C_impl_inSize) (L := S_impl_inSize_L2 fuel) rfl (by rw [R_impl_inSize_L2]; rfl) ⟨impl_inSize_L2, fun _ => rfl, fun n x => K_impl_inSize_L2 n x, fuel, fun _ => rfl⟩, trivial⟩) (enc := N_impl_inSize) (fun _ _ => ⟨rfl, rfl⟩) F_impl_inSize

theorem K_impl_compareLists_L2 (n : Nat) (x : (List Int) × (List Int) × Int) : impl_compareLists_L2 (n + 1) x = roundK C_impl_compareLists B_impl_compareLists_L2 (S_impl_compareLists_L2 fuel) x (impl_compareLists_L2 n) := by
  obtain ⟨s, t, i⟩ := x
  kernel_rfl
theorem F_impl_compareLists (a : dens E_impl_compareLists.params) : E_impl_compareLists.run a = funK C_impl_compareLists Try.f64 E_impl_compareLists.params E_impl_compareLists.results a (fun o r => some (N_impl_compareLists o r)) := by
  kernel_rfl
theorem W_impl_compareLists : loopsOf D_impl_compareLists = [B_impl_compareLists_L2] := by kernel_rfl
theorem R_impl_compareLists_L2 : firstReg B_impl_compareLists_L2 = 2 := by kernel_rfl
theorem Q_impl_compareLists : Try.prog.funcs[64]? = some Try.f64 ∧ (Try.f64.name == "runtime.NumGoroutine") = false ∧ Try.f64.body = some D_impl_compareLists := ⟨Try.func64, by kernel_rfl, by kernel_rfl⟩
theorem H_impl_compareLists : Holds Try.prog 64 E_impl_compareLists :=
  holds_of (cx := C_impl_compareLists) (tabOk_ok tabT rfl).1 (allT_ok trivial) mixT Q_impl_compareLists.1 Q_impl_compareLists.2.2 (loops_of W_impl_compareLists ⟨loop_of (cx := C_impl_compareLists) (L := S_impl_compareLists_L2 fuel) rfl (by rw [R_impl_compareLists_L2]; rfl) ⟨impl_compareLists_L2, fun _ => rfl, fun n x => K_impl_compareLists_L2 n x, fuel, fun _ => rfl⟩, trivial⟩) (enc := N_impl_compareLists) (fun _ _ => ⟨rfl, rfl⟩) F_impl_compareLists

theorem K_impl_isTupleSet_L4 (n : Nat) (x : Int × Int × (List (List Int)) × (List (List Int)) × Int × Int) : impl_isTupleSet_L4 (n + 1) x = roundK C_impl_isTupleSet B_impl_isTupleSet_L4 (S_impl_isTupleSet_L4 fuel) x (impl_isTupleSet_L4 n) := by
  obtain ⟨n_, k, tuples, t20, t21, t22⟩ := x
  kernel_rfl
theorem F_impl_isTupleSet (a : dens E_impl_isTupleSet.params) : E_impl_isTupleSet.run a = funK C_impl_isTupleSet Try.f48 E_impl_isTupleSet.params E_impl_isTupleSet.results a (fun o r => some (N_impl_isTupleSet o r)) := by
  kernel_rfl
theorem W_impl_isTupleSet : loopsOf D_impl_isTupleSet = [B_impl_isTupleSet_L4] := by kernel_rfl
theorem R_impl_isTupleSet_L4 : firstReg B_impl_isTupleSet_L4 = 4 := by kernel_rfl
theorem Q_impl_isTupleSet : Try.prog.funcs[48]? = some Try.f48 ∧ (Try.f48.name == "runtime.NumGoroutine") = false ∧ Try.f48.body = some D_impl_isTupleSet := ⟨Try.func48, by kernel_rfl, by kernel_rfl⟩
theorem H_impl_isTupleSet : Holds Try.prog 48 E_impl_isTupleSet :=
  holds_of (cx := C_impl_isTupleSet) (tabOk_ok tabT rfl).1 (allT_ok ⟨⟨H_impl_isSize, _, _, Q_impl_isSize⟩, ⟨⟨H_impl_inSize, _, _, Q_impl_inSize⟩, ⟨⟨H_impl_compareLists, _, _, Q_impl_compareLists⟩, trivial⟩⟩⟩) mixT Q_impl_isTupleSet.1 Q_impl_isTupleSet.2.2 (loops_of W_impl_isTupleSet ⟨loop_of (cx := C_impl_isTupleSet) (L := S_impl_isTupleSet_L4 fuel) rfl (by rw [R_impl_isTupleSet_L4]; rfl) ⟨impl_isTupleSet_L4, fun _ => rfl, fun n x => K_impl_isTupleSet_L4 n x, fuel, fun _ => rfl⟩, trivial⟩) (enc := N_impl_isTupleSet) (fun _ _ => ⟨rfl, rfl⟩) F_impl_isTupleSet

theorem K_impl_power_L2 (n : Nat) (x : Int × Int × Int) : impl_power_L2 (n + 1) x = roundK C_impl_power B_impl_power_L2 (S_impl_power_L2 fuel) x (impl_power_L2 n) := by
  obtain ⟨n_, k, p⟩ := x
  kernel_rfl
theorem F_impl_power (a : dens E_impl_power.params) : E_impl_power.run a = funK C_impl_power Try.f65 E_impl_power.params E_impl_power.results a (fun o r => some (N_impl_power o r)) := by
  kernel_rfl
theorem W_impl_power : loopsOf D_impl_power = [B_impl_power_L2] := by kernel_rfl
theorem R_impl_power_L2 : firstReg B_impl_power_L2 = 2 := by kernel_rfl
theorem Q_impl_power : Try.prog.funcs[65]? = some Try.f65 ∧ (Try.f65.name == "runtime.NumGoroutine") = false ∧ Try.f65.body = some D_impl_power := ⟨Try.func65, by kernel_rfl, by kernel_rfl⟩
theorem H_impl_power : Holds Try.prog 65 E_impl_power :=
  holds_of (cx := C_impl_power) (tabOk_ok tabT rfl).1 (allT_ok trivial) mixT Q_impl_power.1 Q_impl_power.2.2 (loops_of W_impl_power ⟨loop_of (cx := C_impl_power) (L := S_impl_power_L2 fuel) rfl (by rw [R_impl_power_L2]; rfl) ⟨impl_power_L2, fun _ => rfl, fun n x => K_impl_power_L2 n x, fuel, fun _ => rfl⟩, trivial⟩) (enc := N_impl_power) (fun _ _ => ⟨rfl, rfl⟩) F_impl_power

theorem K_impl_indexOf_L3 (n : Nat) (x : Int × Int × (List Int) × Int × Int) : impl_indexOf_L3 (n + 1) x = roundK C_impl_indexOf B_impl_indexOf_L3 (S_impl_indexOf_L3 fuel) x (impl_indexOf_L3 n) := by
  obtain ⟨n_, i, t8, t9, t10⟩ := x
  kernel_rfl
theorem F_impl_indexOf (a : dens E_impl_indexOf.params) : E_impl_indexOf.run a = funK C_impl_indexOf Try.f66 E_impl_indexOf.params E_impl_indexOf.results a (fun o r => some (N_impl_indexOf o r)) := by
  kernel_rfl
theorem W_impl_indexOf : loopsOf D_impl_indexOf = [B_impl_indexOf_L3] := by kernel_rfl
theorem R_impl_indexOf_L3 : firstReg B_impl_indexOf_L3 = 3 := by kernel_rfl
theorem Q_impl_indexOf : Try.prog.funcs[66]? = some Try.f66 ∧ (Try.f66.name == "runtime.NumGoroutine") = false ∧ Try.f66.body = some D_impl_indexOf := ⟨Try.func66, by kernel_rfl, by kernel_rfl⟩
theorem H_impl_indexOf : Holds Try.prog 66 E_impl_indexOf :=
  holds_of (cx := C_impl_indexOf) (tabOk_ok tabT rfl).1 (allT_ok trivial) mixT Q_impl_indexOf.1 Q_impl_indexOf.2.2 (loops_of W_impl_indexOf ⟨loop_of (cx := C_impl_indexOf) (L := S_impl_indexOf_L3 fuel) rfl (by rw [R_impl_indexOf_L3]; rfl) ⟨impl_indexOf_L3, fun _ => rfl, fun n x => K_impl_indexOf_L3 n x, fuel, fun _ => rfl⟩, trivial⟩) (enc := N_impl_indexOf) (fun _ _ => ⟨rfl, rfl⟩) F_impl_indexOf

theorem K_impl_isAffine_L6 (n : Nat) (x : Int × (List (List Int)) × (List Int) × (List Bool) × (List (List Int)) × Int × Int) : impl_isAffine_L6 (n + 1) x = roundK C_impl_isAffine B_impl_isAffine_L6 (S_impl_isAffine_L6 fuel) x (impl_isAffine_L6 n) := by
  obtain ⟨t0, t1, t5, t6, t27, t28, t29⟩ := x
  kernel_rfl
theorem K_impl_isAffine_L18 (n : Nat) (x : Int × (List (List Int)) × (List Int) × (List Bool) × (List Int) × (List Int) × Int × (List (List Int)) × Int × Int × (List (List Int)) × Int × Int × (List Int) × Int × Int) : impl_isAffine_L18 (n + 1) x = roundK C_impl_isAffine B_impl_isAffine_L18 (S_impl_isAffine_L18 fuel) x (impl_isAffine_L18 n) := by
  obtain ⟨t0, t1, t5, t6, t10, t12, t13, t39, t40, t41, t45, t46, t47, t51, t52, t53⟩ := x
  kernel_rfl
theorem K_impl_isAffine_L14 (n : Nat) (x : Int × (List (List Int)) × (List Int) × (List Bool) × (List Int) × (List (List Int)) × Int × Int × (List (List Int)) × Int × Int) : impl_isAffine_L14 (n + 1) x = roundK C_impl_isAffine B_impl_isAffine_L14 (S_impl_isAffine_L14 fuel) x (impl_isAffine_L14 n) := by
  obtain ⟨t0, t1, t5, t6, t10, t39, t40, t41, t45, t46, t47⟩ := x
  kernel_rfl
theorem K_impl_isAffine_L11 (n : Nat) (x : Int × (List (List Int)) × (List Int) × (List Bool) × (List (List Int)) × Int × Int) : impl_isAffine_L11 (n + 1) x = roundK C_impl_isAffine B_impl_isAffine_L11 (S_impl_isAffine_L11 fuel) x (impl_isAffine_L11 n) := by
  obtain ⟨t0, t1, t5, t6, t39, t40, t41⟩ := x
  kernel_rfl
theorem F_impl_isAffine (a : dens E_impl_isAffine.params) : E_impl_isAffine.run a = funK C_impl_isAffine Try.f49 E_impl_isAffine.params E_impl_isAffine.results a (fun o r => some (N_impl_isAffine o r)) := by
  kernel_rfl
theorem W_impl_isAffine : loopsOf D_impl_isAffine = [B_impl_isAffine_L6, B_impl_isAffine_L11, B_impl_isAffine_L14, B_impl_isAffine_L18] := by kernel_rfl
theorem R_impl_isAffine_L6 : firstReg B_impl_isAffine_L6 = 6 := by kernel_rfl
theorem R_impl_isAffine_L18 : firstReg B_impl_isAffine_L18 = 18 := by kernel_rfl
theorem R_impl_isAffine_L14 : firstReg B_impl_isAffine_L14 = 14 := by kernel_rfl
theorem R_impl_isAffine_L11 : firstReg B_impl_isAffine_L11 = 11 := by kernel_rfl
theorem Q_impl_isAffine : Try.prog.funcs[49]? = some Try.f49 ∧ (Try.f49.name == "runtime.NumGoroutine") = false ∧ Try.f49.body = some D_impl_isAffine := ⟨Try.func49, by kernel_rfl, by kernel_rfl⟩
theorem H_impl_isAffine : Holds Try.prog 49 E_impl_isAffine :=
  holds_of (cx := C_impl_isAffine) (tabOk_ok tabT rfl).1 (allT_ok ⟨⟨H_impl_power, _, _, Q_impl_power⟩, ⟨⟨H_impl_indexOf, _, _, Q_impl_indexOf⟩, trivial⟩⟩) mixT Q_impl_isAffine.1 Q_impl_isAffine.2.2 (loops_of W_impl_isAffine ⟨loop_of (cx := C_impl_isAffine) (L := S_impl_isAffine_L6 fuel) rfl (by rw [R_impl_isAffine_L6]; rfl) ⟨impl_isAffine_L6, fun _ => rfl, fun n x => K_impl_isAffine_L6 n x, fuel, fun _ => rfl⟩, ⟨loop_of (cx := C_impl_isAffine) (L := S_impl_isAffine_L11 fuel) rfl (by rw [R_impl_isAffine_L11]; rfl) ⟨impl_isAffine_L11, fun _ => rfl, fun n x => K_impl_isAffine_L11 n x, fuel, fun _ => rfl⟩, ⟨loop_of (cx := C_impl_isAffine) (L := S_impl_isAffine_L14 fuel) rfl (by rw [R_impl_isAffine_L14]; rfl) ⟨impl_isAffine_L14, fun _ => rfl, fun n x => K_impl_isAffine_L14 n x, fuel, fun _ => rfl⟩, ⟨loop_of (cx := C_impl_isAffine) (L := S_impl_isAffine_L18 fuel) rfl (by rw [R_impl_isAffine_L18]; rfl) ⟨impl_isAffine_L18, fun _ => rfl, fun n x => K_impl_isAffine_L18 n x, fuel, fun _ => rfl⟩, trivial⟩⟩⟩⟩) (enc := N_impl_isAffine) (fun _ _ => ⟨rfl, rfl⟩) F_impl_isAffine

theorem F_impl_IsAffineSet (a : dens E_impl_IsAffineSet.params) : E_impl_IsAffineSet.run a = funK C_impl_IsAffineSet Try.f25 E_impl_IsAffineSet.params E_impl_IsAffineSet.results a (fun o r => some (N_impl_IsAffineSet o r)) := by
  kernel_rfl
theorem W_impl_IsAffineSet : loopsOf D_impl_IsAffineSet = [] := by kernel_rfl
theorem Q_impl_IsAffineSet : Try.prog.funcs[25]? = some Try.f25 ∧ (Try.f25.name == "runtime.NumGoroutine") = false ∧ Try.f25.body = some D_impl_IsAffineSet := ⟨Try.func25, by kernel_rfl, by kernel_rfl⟩
theorem H_impl_IsAffineSet : Holds Try.prog 25 E_impl_IsAffineSet :=
  holds_of (cx := C_impl_IsAffineSet) (tabOk_ok tabT rfl).1 (allT_ok ⟨⟨H_impl_isPrime, _, _, Q_impl_isPrime⟩, ⟨⟨H_impl_isTupleSet, _, _, Q_impl_isTupleSet⟩, ⟨⟨H_impl_isAffine, _, _, Q_impl_isAffine⟩, trivial⟩⟩⟩) mixT Q_impl_IsAffineSet.1 Q_impl_IsAffineSet.2.2 (loops_of W_impl_IsAffineSet trivial) (enc := N_impl_IsAffineSet) (fun _ _ => ⟨rfl, rfl⟩) F_impl_IsAffineSet

theorem K_laws_eqIntS_L4 (n : Nat) (x : (List Int) × (List Int) × Int) : laws_eqIntS_L4 (n + 1) x = roundK C_laws_eqIntS B_laws_eqIntS_L4 (S_laws_eqIntS_L4 fuel) x (laws_eqIntS_L4 n) := by
  obtain ⟨a, b, i⟩ := x
  kernel_rfl
theorem F_laws_eqIntS (a : dens E_laws_eqIntS.params) : E_laws_eqIntS.run a = funK C_laws_eqIntS Try.f21 E_laws_eqIntS.params E_laws_eqIntS.results a (fun o r => some (N_laws_eqIntS o r)) := by
  kernel_rfl
theorem W_laws_eqIntS : loopsOf D_laws_eqIntS = [B_laws_eqIntS_L4] := by kernel_rfl
theorem R_laws_eqIntS_L4 : firstReg B_laws_eqIntS_L4 = 4 := by kernel_rfl
theorem Q_laws_eqIntS : Try.prog.funcs[21]? = some Try.f21 ∧ (Try.f21.name == "runtime.NumGoroutine") = false ∧ Try.f21.body = some D_laws_eqIntS := ⟨Try.func21, by kernel_rfl, by kernel_rfl⟩
theorem H_laws_eqIntS : Holds Try.prog 21 E_laws_eqIntS :=
  holds_of (cx := C_laws_eqIntS) (tabOk_ok tabT rfl).1 (allT_ok trivial) mixT Q_laws_eqIntS.1 Q_laws_eqIntS.2.2 (loops_of W_laws_eqIntS ⟨loop_of (cx := C_laws_eqIntS) (L := S_laws_eqIntS_L4 fuel) rfl (by rw [R_laws_eqIntS_L4]; rfl) ⟨laws_eqIntS_L4, fun _ => rfl, fun n x => K_laws_eqIntS_L4 n x, fuel, fun _ => rfl⟩, trivial⟩) (enc := N_laws_eqIntS) (fun _ _ => ⟨rfl, rfl⟩) F_laws_eqIntS

theorem K_laws_eqIntSS_L4 (n : Nat) (x : (List (List Int)) × (List (List Int)) × Int) : laws_eqIntSS_L4 (n + 1) x = roundK C_laws_eqIntSS B_laws_eqIntSS_L4 (S_laws_eqIntSS_L4 fuel) x (laws_eqIntSS_L4 n) := by
  obtain ⟨a, b, i⟩ := x
  kernel_rfl
theorem F_laws_eqIntSS (a : dens E_laws_eqIntSS.params) : E_laws_eqIntSS.run a = funK C_laws_eqIntSS Try.f26 E_laws_eqIntSS.params E_laws_eqIntSS.results a (fun o r => some (N_laws_eqIntSS o r)) := by
  kernel_rfl
theorem W_laws_eqIntSS : loopsOf D_laws_eqIntSS = [B_laws_eqIntSS_L4] := by kernel_rfl
theorem R_laws_eqIntSS_L4 : firstReg B_laws_eqIntSS_L4 = 4 := by kernel_rfl
theorem Q_laws_eqIntSS : Try.prog.funcs[26]? = some Try.f26 ∧ (Try.f26.name == "runtime.NumGoroutine") = false ∧ Try.f26.body = some D_laws_eqIntSS := ⟨Try.func26, by kernel_rfl, by kernel_rfl⟩
theorem H_laws_eqIntSS : Holds Try.prog 26 E_laws_eqIntSS :=
  holds_of (cx := C_laws_eqIntSS) (tabOk_ok tabT rfl).1 (allT_ok ⟨⟨H_laws_eqIntS, _, _, Q_laws_eqIntS⟩, trivial⟩) mixT Q_laws_eqIntSS.1 Q_laws_eqIntSS.2.2 (loops_of W_laws_eqIntSS ⟨loop_of (cx := C_laws_eqIntSS) (L := S_laws_eqIntSS_L4 fuel) rfl (by rw [R_laws_eqIntSS_L4]; rfl) ⟨laws_eqIntSS_L4, fun _ => rfl, fun n x => K_laws_eqIntSS_L4 n x, fuel, fun _ => rfl⟩, trivial⟩) (enc := N_laws_eqIntSS) (fun _ _ => ⟨rfl, rfl⟩) F_laws_eqIntSS

theorem F_laws_FnExactIsAffineSet (a : dens E_laws_FnExactIsAffineSet.params) : E_laws_FnExactIsAffineSet.run a = funK C_laws_FnExactIsAffineSet Try.f6 E_laws_FnExactIsAffineSet.params E_laws_FnExactIsAffineSet.results a (fun o r => some (N_laws_FnExactIsAffineSet o r)) := by
  kernel_rfl
theorem W_laws_FnExactIsAffineSet : loopsOf D_laws_FnExactIsAffineSet = [] := by kernel_rfl
theorem Q_laws_FnExactIsAffineSet : Try.prog.funcs[6]? = some Try.f6 ∧ (Try.f6.name == "runtime.NumGoroutine") = false ∧ Try.f6.body = some D_laws_FnExactIsAffineSet := ⟨Try.func6, by kernel_rfl, by kernel_rfl⟩
theorem H_laws_FnExactIsAffineSet : Holds Try.prog 6 E_laws_FnExactIsAffineSet :=
  holds_of (cx := C_laws_FnExactIsAffineSet) (tabOk_ok tabT rfl).1 (allT_ok ⟨⟨H_laws_szIntSS, _, _, Q_laws_szIntSS⟩, ⟨⟨H_spec_IsAffineSet, _, _, Q_spec_IsAffineSet⟩, ⟨⟨H_laws_toIntSS, _, _, Q_laws_toIntSS⟩, ⟨⟨H_impl_IsAffineSet, _, _, Q_impl_IsAffineSet⟩, ⟨⟨H_laws_eqIntSS, _, _, Q_laws_eqIntSS⟩, trivial⟩⟩⟩⟩⟩) mixT Q_laws_FnExactIsAffineSet.1 Q_laws_FnExactIsAffineSet.2.2 (loops_of W_laws_FnExactIsAffineSet trivial) (enc := N_laws_FnExactIsAffineSet) (fun _ _ => ⟨rfl, rfl⟩) F_laws_FnExactIsAffineSet
end T
