/- Contexts of the typed functions; no conditions. -/
import Derived.Test.YtdjeihpjpaaoeaaV5
import Derived.Test.YtdjeihpjpaaoeaaProg
import Derived.Test.YtdjeihpjpaaoeaaPFnExactSolutionRelation
import Derived.KernelRfl
set_option linter.all false
set_option linter.unusedVariables false
set_option maxRecDepth 10000
open Go Go.Va Go.Proofs
namespace T
noncomputable def tt : List (Nat × TI) := [
 (2, { ty := .int }),
 (3, { ty := .int }),
 (4, { ty := .bool }),
 (5, { ty := (.num .u8) }),
 (9, { ty := .str }),
 (22, { ty := (.slice (.pair (.slice .int) (.pair .int (.slice (.slice .int))))), elem := 122 }),
 (24, { ty := (.pair .int (.pair .int (.slice (.pair (.slice .int) (.pair .int (.slice (.slice .int))))))), fields := [3, 3, 22] }),
 (25, { ty := (.slice .int), elem := 3 }),
 (27, { ty := (.slice (.slice .int)), elem := 25 }),
 (29, { ty := (.pair .int (.slice (.slice .int))), fields := [3, 27] }),
 (32, { ty := (.slice (.pair (.slice .int) (.pair .int (.slice (.slice .int))))), elem := 56 }),
 (34, { ty := (.pair .int (.pair .int (.slice (.pair (.slice .int) (.pair .int (.slice (.slice .int))))))), fields := [3, 3, 32] }),
 (44, { ty := (.slice (.num .u8)), elem := 5 }),
 (56, { ty := (.pair (.slice .int) (.pair .int (.slice (.slice .int)))), fields := [25, 29] }),
 (79, { ty := (.pair (.slice (.slice .int)) (.pair .int (.pair .int .bool))), fields := [27, 3, 3, 4] }),
 (82, { ty := .smap }),
 (86, { ty := (.op false) }),
 (98, { ty := (.op false) }),
 (120, { ty := (.pair .int (.slice (.slice .int))), fields := [3, 27] }),
 (122, { ty := (.pair (.slice .int) (.pair .int (.slice (.slice .int)))), fields := [25, 120] }),
 (125, { ty := (.slice (.slice (.pair (.slice .int) (.pair .int (.slice (.slice .int)))))), elem := 32 }),
 (128, { ty := (.op true) }),
 (131, { ty := (.num .u64) }),
 (149, { ty := (.slice (.slice (.slice .int))), elem := 27 }),
 (150, { ty := (.slice (.slice .smap)), elem := 153 }),
 (152, { ty := (.pair .int (.pair (.slice (.slice (.slice .int))) (.slice (.slice .smap)))), fields := [3, 149, 150] }),
 (153, { ty := (.slice .smap), elem := 82 }),
 (156, { ty := (.op false) })]
theorem tabT : tabOk Try.prog tt = true := by kernel_rfl
theorem mixT : Try.prog.follows .mixedOrders = true := by kernel_rfl
noncomputable def E_1 : Entry where
 params := [.v (.slice .int), .v .int]
 results := [.v .int]
 B := Int
 run := fun a => laws_szIntS a.1 a.2
 out := fun b => ((), ())
 res := fun b => b
noncomputable def C_1 : Cx where
 tt := tblTT tt
 T := tblT []
 L := tblL []
 dep := fun i => 0
 n := 2
noncomputable def D_1 : Code := Try.f136.body.getD .skip
noncomputable def N_1 (_ : outs [.v (.slice .int), .v .int]) (r : dens [.v .int]) : Int := r
noncomputable def E_2 : Entry where
 params := [.v (.slice (.slice .int)), .v .int]
 results := [.v .int]
 B := Int
 run := fun a => laws_szIntSS a.1 a.2
 out := fun b => ((), ())
 res := fun b => b
noncomputable def S_2L5 (n : Nat) : LoopSpec where
 sh := [(0, .v (.slice (.slice .int))), (1, .v .int), (5, .v .int)]
 ex := [(.exit 0, [(1, .v .int)]), (.ret, [(4, .v .int)])]
 run := laws_szIntSS_L5 n
noncomputable def C_2 : Cx where
 tt := tblTT tt
 T := tblT [(136, E_1)]
 L := tblL [(5, S_2L5 fuel)]
 dep := fun i => 0
 n := 2
noncomputable def B_2L5 : Code := (Try.f154.body.bind (loopBody 5)).getD .skip
noncomputable def D_2 : Code := Try.f154.body.getD .skip
noncomputable def N_2 (_ : outs [.v (.slice (.slice .int)), .v .int]) (r : dens [.v .int]) : Int := r
noncomputable def E_3 : Entry where
 params := [.v (.pair .int (.slice (.slice .int))), .v .int]
 results := [.v .int]
 B := Int
 run := fun a => laws_szRelation a.1 a.2
 out := fun b => ((), ())
 res := fun b => b
noncomputable def C_3 : Cx where
 tt := tblTT tt
 T := tblT [(154, E_2)]
 L := tblL []
 dep := fun i => 0
 n := 2
noncomputable def D_3 : Code := Try.f137.body.getD .skip
noncomputable def N_3 (_ : outs [.v (.pair .int (.slice (.slice .int))), .v .int]) (r : dens [.v .int]) : Int := r
noncomputable def E_4 : Entry where
 params := [.v (.pair (.slice .int) (.pair .int (.slice (.slice .int)))), .v .int]
 results := [.v .int]
 B := Int
 run := fun a => laws_szConstraint a.1 a.2
 out := fun b => ((), ())
 res := fun b => b
noncomputable def C_4 : Cx where
 tt := tblTT tt
 T := tblT [(136, E_1), (137, E_3)]
 L := tblL []
 dep := fun i => 0
 n := 2
noncomputable def D_4 : Code := Try.f103.body.getD .skip
noncomputable def N_4 (_ : outs [.v (.pair (.slice .int) (.pair .int (.slice (.slice .int)))), .v .int]) (r : dens [.v .int]) : Int := r
noncomputable def E_5 : Entry where
 params := [.v (.slice (.pair (.slice .int) (.pair .int (.slice (.slice .int))))), .v .int]
 results := [.v .int]
 B := Int
 run := fun a => laws_szConstraintS a.1 a.2
 out := fun b => ((), ())
 res := fun b => b
noncomputable def S_5L5 (n : Nat) : LoopSpec where
 sh := [(0, .v (.slice (.pair (.slice .int) (.pair .int (.slice (.slice .int)))))), (1, .v .int), (5, .v .int)]
 ex := [(.exit 0, [(1, .v .int)]), (.ret, [(4, .v .int)])]
 run := laws_szConstraintS_L5 n
noncomputable def C_5 : Cx where
 tt := tblTT tt
 T := tblT [(103, E_4)]
 L := tblL [(5, S_5L5 fuel)]
 dep := fun i => 0
 n := 2
noncomputable def B_5L5 : Code := (Try.f48.body.bind (loopBody 5)).getD .skip
noncomputable def D_5 : Code := Try.f48.body.getD .skip
noncomputable def N_5 (_ : outs [.v (.slice (.pair (.slice .int) (.pair .int (.slice (.slice .int))))), .v .int]) (r : dens [.v .int]) : Int := r
noncomputable def E_6 : Entry where
 params := [.v (.pair .int (.pair .int (.slice (.pair (.slice .int) (.pair .int (.slice (.slice .int))))))), .v .int]
 results := [.v .int]
 B := Int
 run := fun a => laws_szNetwork a.1 a.2
 out := fun b => ((), ())
 res := fun b => b
noncomputable def C_6 : Cx where
 tt := tblTT tt
 T := tblT [(48, E_5)]
 L := tblL []
 dep := fun i => 0
 n := 2
noncomputable def D_6 : Code := Try.f6.body.getD .skip
noncomputable def N_6 (_ : outs [.v (.pair .int (.pair .int (.slice (.pair (.slice .int) (.pair .int (.slice (.slice .int))))))), .v .int]) (r : dens [.v .int]) : Int := r
noncomputable def E_7 : Entry where
 params := [.v (.slice .int)]
 results := [.mv .int 0]
 B := (List Int)
 run := fun a => laws_toIntS a
 out := fun b => ()
 res := fun b => b
noncomputable def S_7L3 (n : Nat) : LoopSpec where
 sh := [(0, .v (.slice .int)), (3, .mv .int 0), (4, .v .int)]
 ex := [(.exit 0, [(3, .mv .int 0)])]
 run := laws_toIntS_L3 n
noncomputable def C_7 : Cx where
 tt := tblTT tt
 T := tblT []
 L := tblL [(3, S_7L3 fuel)]
 dep := fun i => 0
 n := 1
noncomputable def B_7L3 : Code := (Try.f9.body.bind (loopBody 3)).getD .skip
noncomputable def D_7 : Code := Try.f9.body.getD .skip
noncomputable def N_7 (_ : outs [.v (.slice .int)]) (r : dens [.mv .int 0]) : (List Int) := r
noncomputable def E_8 : Entry where
 params := [.v (.slice (.slice .int))]
 results := [.mv (.slice .int) 1]
 B := (List (List Int))
 run := fun a => laws_toIntSS a
 out := fun b => ()
 res := fun b => b
noncomputable def S_8L3 (n : Nat) : LoopSpec where
 sh := [(0, .v (.slice (.slice .int))), (3, .mv (.slice .int) 1), (4, .v .int)]
 ex := [(.exit 0, [(3, .mv (.slice .int) 1)])]
 run := laws_toIntSS_L3 n
noncomputable def C_8 : Cx where
 tt := tblTT tt
 T := tblT [(9, E_7)]
 L := tblL [(3, S_8L3 fuel)]
 dep := fun i => match i with
  | 7 => 1
  | _ => 0
 n := 1
noncomputable def B_8L3 : Code := (Try.f157.body.bind (loopBody 3)).getD .skip
noncomputable def D_8 : Code := Try.f157.body.getD .skip
noncomputable def N_8 (_ : outs [.v (.slice (.slice .int))]) (r : dens [.mv (.slice .int) 1]) : (List (List Int)) := r
noncomputable def E_9 : Entry where
 params := [.v (.pair .int (.slice (.slice .int)))]
 results := [.pr (.v .int) (.mv (.slice .int) 1)]
 B := (Int × (List (List Int)))
 run := fun a => laws_toRelation a
 out := fun b => ()
 res := fun b => b
noncomputable def C_9 : Cx where
 tt := tblTT tt
 T := tblT [(157, E_8)]
 L := tblL []
 dep := fun i => 0
 n := 1
noncomputable def D_9 : Code := Try.f139.body.getD .skip
noncomputable def N_9 (_ : outs [.v (.pair .int (.slice (.slice .int)))]) (r : dens [.pr (.v .int) (.mv (.slice .int) 1)]) : (Int × (List (List Int))) := r
noncomputable def E_10 : Entry where
 params := [.v (.pair (.slice .int) (.pair .int (.slice (.slice .int))))]
 results := [.pr (.mv .int 0) (.pr (.v .int) (.mv (.slice .int) 1))]
 B := ((List Int) × (Int × (List (List Int))))
 run := fun a => laws_toConstraint a
 out := fun b => ()
 res := fun b => b
noncomputable def C_10 : Cx where
 tt := tblTT tt
 T := tblT [(9, E_7), (139, E_9)]
 L := tblL []
 dep := fun i => 0
 n := 1
noncomputable def D_10 : Code := Try.f107.body.getD .skip
noncomputable def N_10 (_ : outs [.v (.pair (.slice .int) (.pair .int (.slice (.slice .int))))]) (r : dens [.pr (.mv .int 0) (.pr (.v .int) (.mv (.slice .int) 1))]) : ((List Int) × (Int × (List (List Int)))) := r
noncomputable def E_11 : Entry where
 params := [.v (.slice (.pair (.slice .int) (.pair .int (.slice (.slice .int)))))]
 results := [.mv (.pair (.slice .int) (.pair .int (.slice (.slice .int)))) 2]
 B := (List ((List Int) × Int × (List (List Int))))
 run := fun a => laws_toConstraintS a
 out := fun b => ()
 res := fun b => b
noncomputable def S_11L3 (n : Nat) : LoopSpec where
 sh := [(0, .v (.slice (.pair (.slice .int) (.pair .int (.slice (.slice .int)))))), (3, .mv (.pair (.slice .int) (.pair .int (.slice (.slice .int)))) 2), (4, .v .int)]
 ex := [(.exit 0, [(3, .mv (.pair (.slice .int) (.pair .int (.slice (.slice .int)))) 2)])]
 run := laws_toConstraintS_L3 n
noncomputable def C_11 : Cx where
 tt := tblTT tt
 T := tblT [(107, E_10)]
 L := tblL [(3, S_11L3 fuel)]
 dep := fun i => match i with
  | 7 => 2
  | _ => 0
 n := 1
noncomputable def B_11L3 : Code := (Try.f56.body.bind (loopBody 3)).getD .skip
noncomputable def D_11 : Code := Try.f56.body.getD .skip
noncomputable def N_11 (_ : outs [.v (.slice (.pair (.slice .int) (.pair .int (.slice (.slice .int)))))]) (r : dens [.mv (.pair (.slice .int) (.pair .int (.slice (.slice .int)))) 2]) : (List ((List Int) × Int × (List (List Int)))) := r
noncomputable def E_12 : Entry where
 params := [.v (.pair .int (.pair .int (.slice (.pair (.slice .int) (.pair .int (.slice (.slice .int)))))))]
 results := [.pr (.v .int) (.pr (.v .int) (.mv (.pair (.slice .int) (.pair .int (.slice (.slice .int)))) 2))]
 B := (Int × (Int × (List ((List Int) × Int × (List (List Int))))))
 run := fun a => laws_toNetwork a
 out := fun b => ()
 res := fun b => b
noncomputable def C_12 : Cx where
 tt := tblTT tt
 T := tblT [(56, E_11)]
 L := tblL []
 dep := fun i => 0
 n := 1
noncomputable def D_12 : Code := Try.f8.body.getD .skip
noncomputable def N_12 (_ : outs [.v (.pair .int (.pair .int (.slice (.pair (.slice .int) (.pair .int (.slice (.slice .int)))))))]) (r : dens [.pr (.v .int) (.pr (.v .int) (.mv (.pair (.slice .int) (.pair .int (.slice (.slice .int)))) 2))]) : (Int × (Int × (List ((List Int) × Int × (List (List Int)))))) := r
noncomputable def E_13 : Entry where
 params := [.v .int, .v .int, .v .int]
 results := [.v .bool]
 B := Bool
 run := fun a => spec_l1In a.1 a.2.1 a.2.2
 out := fun b => ((), (), ())
 res := fun b => b
noncomputable def C_13 : Cx where
 tt := tblTT tt
 T := tblT []
 L := tblL []
 dep := fun i => 0
 n := 3
noncomputable def D_13 : Code := Try.f50.body.getD .skip
noncomputable def N_13 (_ : outs [.v .int, .v .int, .v .int]) (r : dens [.v .bool]) : Bool := r
noncomputable def E_14 : Entry where
 params := [.v .int, .v .int]
 results := [.v .int]
 B := Int
 run := fun a => spec_l2Pow a.1 a.2
 out := fun b => ((), ())
 res := fun b => b
noncomputable def S_14L2 (n : Nat) : LoopSpec where
 sh := [(0, .v .int), (1, .v .int), (5, .v .int)]
 ex := [(.exit 0, [(5, .v .int)])]
 run := spec_l2Pow_L2 n
noncomputable def C_14 : Cx where
 tt := tblTT tt
 T := tblT []
 L := tblL [(2, S_14L2 fuel)]
 dep := fun i => 0
 n := 2
noncomputable def B_14L2 : Code := (Try.f52.body.bind (loopBody 2)).getD .skip
noncomputable def D_14 : Code := Try.f52.body.getD .skip
noncomputable def N_14 (_ : outs [.v .int, .v .int]) (r : dens [.v .int]) : Int := r
noncomputable def E_15 : Entry where
 params := [.v .int, .v (.slice .int)]
 results := [.v .bool]
 B := Bool
 run := fun a => spec_l2Elements a.1 a.2
 out := fun b => ((), ())
 res := fun b => b
noncomputable def S_15L2 (n : Nat) : LoopSpec where
 sh := [(0, .v .int), (1, .v (.slice .int)), (5, .v .int)]
 ex := [(.exit 0, []), (.ret, [(4, .v .bool)])]
 run := spec_l2Elements_L2 n
noncomputable def C_15 : Cx where
 tt := tblTT tt
 T := tblT [(50, E_13)]
 L := tblL [(2, S_15L2 fuel)]
 dep := fun i => 0
 n := 2
noncomputable def B_15L2 : Code := (Try.f51.body.bind (loopBody 2)).getD .skip
noncomputable def D_15 : Code := Try.f51.body.getD .skip
noncomputable def N_15 (_ : outs [.v .int, .v (.slice .int)]) (r : dens [.v .bool]) : Bool := r
noncomputable def E_16 : Entry where
 params := [.v .int, .v .int, .v (.slice .int)]
 results := [.v .bool]
 B := Bool
 run := fun a => spec_l8Tuple a.1 a.2.1 a.2.2
 out := fun b => ((), (), ())
 res := fun b => b
noncomputable def C_16 : Cx where
 tt := tblTT tt
 T := tblT [(51, E_15)]
 L := tblL []
 dep := fun i => 0
 n := 3
noncomputable def D_16 : Code := Try.f155.body.getD .skip
noncomputable def N_16 (_ : outs [.v .int, .v .int, .v (.slice .int)]) (r : dens [.v .bool]) : Bool := r
noncomputable def E_17 : Entry where
 params := [.v (.slice .int), .v (.slice .int)]
 results := [.v .bool]
 B := Bool
 run := fun a => spec_l3Less a.1 a.2
 out := fun b => ((), ())
 res := fun b => b
noncomputable def S_17L2 (n : Nat) : LoopSpec where
 sh := [(0, .v (.slice .int)), (1, .v (.slice .int)), (5, .v .int)]
 ex := [(.exit 0, []), (.ret, [(4, .v .bool)])]
 run := spec_l3Less_L2 n
noncomputable def C_17 : Cx where
 tt := tblTT tt
 T := tblT []
 L := tblL [(2, S_17L2 fuel)]
 dep := fun i => 0
 n := 2
noncomputable def B_17L2 : Code := (Try.f156.body.bind (loopBody 2)).getD .skip
noncomputable def D_17 : Code := Try.f156.body.getD .skip
noncomputable def N_17 (_ : outs [.v (.slice .int), .v (.slice .int)]) (r : dens [.v .bool]) : Bool := r
noncomputable def E_18 : Entry where
 params := [.v .int, .v (.pair .int (.slice (.slice .int)))]
 results := [.v .bool]
 B := Bool
 run := fun a => spec_l13Good a.1 a.2
 out := fun b => ((), ())
 res := fun b => b
noncomputable def S_18L4 (n : Nat) : LoopSpec where
 sh := [(0, .v .int), (3, .bx (.v (.pair .int (.slice (.slice .int))))), (5, .v .int)]
 ex := [(.exit 0, []), (.ret, [(4, .v .bool)])]
 run := spec_l13Good_L4 n
noncomputable def C_18 : Cx where
 tt := tblTT tt
 T := tblT [(50, E_13), (52, E_14), (155, E_16), (156, E_17)]
 L := tblL [(4, S_18L4 fuel)]
 dep := fun i => 0
 n := 2
noncomputable def B_18L4 : Code := (Try.f138.body.bind (loopBody 4)).getD .skip
noncomputable def D_18 : Code := Try.f138.body.getD .skip
noncomputable def N_18 (_ : outs [.v .int, .v (.pair .int (.slice (.slice .int)))]) (r : dens [.v .bool]) : Bool := r
noncomputable def E_19 : Entry where
 params := [.v .int, .v .int, .v (.pair (.slice .int) (.pair .int (.slice (.slice .int))))]
 results := [.v .bool]
 B := Bool
 run := fun a => spec_l19Is a.1 a.2.1 a.2.2
 out := fun b => ((), (), ())
 res := fun b => b
noncomputable def C_19 : Cx where
 tt := tblTT tt
 T := tblT [(51, E_15), (138, E_18)]
 L := tblL []
 dep := fun i => 0
 n := 3
noncomputable def D_19 : Code := Try.f104.body.getD .skip
noncomputable def N_19 (_ : outs [.v .int, .v .int, .v (.pair (.slice .int) (.pair .int (.slice (.slice .int))))]) (r : dens [.v .bool]) : Bool := r
noncomputable def E_20 : Entry where
 params := [.v (.pair .int (.pair .int (.slice (.pair (.slice .int) (.pair .int (.slice (.slice .int)))))))]
 results := [.v .bool]
 B := Bool
 run := fun a => spec_l19Good a
 out := fun b => ()
 res := fun b => b
noncomputable def S_20L4 (n : Nat) : LoopSpec where
 sh := [(1, .bx (.v (.pair .int (.pair .int (.slice (.pair (.slice .int) (.pair .int (.slice (.slice .int))))))))), (3, .v .int)]
 ex := [(.exit 0, []), (.ret, [(2, .v .bool)])]
 run := spec_l19Good_L4 n
noncomputable def C_20 : Cx where
 tt := tblTT tt
 T := tblT [(50, E_13), (104, E_19)]
 L := tblL [(4, S_20L4 fuel)]
 dep := fun i => 0
 n := 1
noncomputable def B_20L4 : Code := (Try.f49.body.bind (loopBody 4)).getD .skip
noncomputable def D_20 : Code := Try.f49.body.getD .skip
noncomputable def N_20 (_ : outs [.v (.pair .int (.pair .int (.slice (.pair (.slice .int) (.pair .int (.slice (.slice .int)))))))]) (r : dens [.v .bool]) : Bool := r
noncomputable def E_21 : Entry where
 params := [.v .int, .v .int, .v .int]
 results := [.mv .int 0]
 B := (List Int)
 run := fun a => spec_l2Args a.1 a.2.1 a.2.2
 out := fun b => ((), (), ())
 res := fun b => b
noncomputable def S_21L3 (n : Nat) : LoopSpec where
 sh := [(0, .v .int), (2, .v .int), (7, .mv .int 0), (8, .v .int)]
 ex := [(.exit 0, [(7, .mv .int 0)])]
 run := spec_l2Args_L3 n
noncomputable def C_21 : Cx where
 tt := tblTT tt
 T := tblT []
 L := tblL [(3, S_21L3 fuel)]
 dep := fun i => 0
 n := 3
noncomputable def B_21L3 : Code := (Try.f53.body.bind (loopBody 3)).getD .skip
noncomputable def D_21 : Code := Try.f53.body.getD .skip
noncomputable def N_21 (_ : outs [.v .int, .v .int, .v .int]) (r : dens [.mv .int 0]) : (List Int) := r
noncomputable def E_22 : Entry where
 params := [.v .int]
 results := [.mv .int 0]
 B := (List Int)
 run := fun a => spec_l14Free a
 out := fun b => ()
 res := fun b => b
noncomputable def S_22L3 (n : Nat) : LoopSpec where
 sh := [(0, .v .int), (3, .mv .int 0), (4, .v .int)]
 ex := [(.exit 0, [(3, .mv .int 0)])]
 run := spec_l14Free_L3 n
noncomputable def C_22 : Cx where
 tt := tblTT tt
 T := tblT []
 L := tblL [(3, S_22L3 fuel)]
 dep := fun i => 0
 n := 1
noncomputable def B_22L3 : Code := (Try.f54.body.bind (loopBody 3)).getD .skip
noncomputable def D_22 : Code := Try.f54.body.getD .skip
noncomputable def N_22 (_ : outs [.v .int]) (r : dens [.mv .int 0]) : (List Int) := r
noncomputable def E_23 : Entry where
 params := [.v .int, .v .int]
 results := [.v .int]
 B := Int
 run := fun a => spec_l1Most a.1 a.2
 out := fun b => ((), ())
 res := fun b => b
noncomputable def C_23 : Cx where
 tt := tblTT tt
 T := tblT []
 L := tblL []
 dep := fun i => 0
 n := 2
noncomputable def D_23 : Code := Try.f119.body.getD .skip
noncomputable def N_23 (_ : outs [.v .int, .v .int]) (r : dens [.v .int]) : Int := r
noncomputable def E_24 : Entry where
 params := [.v .int, .v (.slice (.pair (.slice .int) (.pair .int (.slice (.slice .int)))))]
 results := [.mv (.slice (.pair (.slice .int) (.pair .int (.slice (.slice .int))))) 1]
 B := (List (List ((List Int) × Int × (List (List Int)))))
 run := fun a => spec_l19Most a.1 a.2
 out := fun b => ((), ())
 res := fun b => b
noncomputable def S_24L7 (n : Nat) : LoopSpec where
 sh := [(1, .v (.slice (.pair (.slice .int) (.pair .int (.slice (.slice .int)))))), (5, .mv (.slice (.pair (.slice .int) (.pair .int (.slice (.slice .int))))) 1), (6, .v .int), (7, .v .int), (8, .v .int)]
 ex := [(.exit 2, [(1, .v (.slice (.pair (.slice .int) (.pair .int (.slice (.slice .int)))))), (5, .mv (.slice (.pair (.slice .int) (.pair .int (.slice (.slice .int))))) 1), (6, .v .int), (7, .v .int)])]
 run := spec_l19Most_L7 n
noncomputable def S_24L3 (n : Nat) : LoopSpec where
 sh := [(1, .v (.slice (.pair (.slice .int) (.pair .int (.slice (.slice .int)))))), (5, .mv (.slice (.pair (.slice .int) (.pair .int (.slice (.slice .int))))) 1), (6, .v .int)]
 ex := [(.exit 0, [(5, .mv (.slice (.pair (.slice .int) (.pair .int (.slice (.slice .int))))) 1)])]
 run := spec_l19Most_L3 n
noncomputable def C_24 : Cx where
 tt := tblTT tt
 T := tblT [(119, E_23)]
 L := tblL [(7, S_24L7 fuel), (3, S_24L3 fuel)]
 dep := fun i => match i with
  | 10 => 1
  | _ => 0
 n := 2
 fine := true
noncomputable def B_24L7 : Code := (Try.f106.body.bind (loopBody 7)).getD .skip
noncomputable def B_24L3 : Code := (Try.f106.body.bind (loopBody 3)).getD .skip
noncomputable def D_24 : Code := Try.f106.body.getD .skip
noncomputable def N_24 (_ : outs [.v .int, .v (.slice (.pair (.slice .int) (.pair .int (.slice (.slice .int)))))]) (r : dens [.mv (.slice (.pair (.slice .int) (.pair .int (.slice (.slice .int))))) 1]) : (List (List ((List Int) × Int × (List (List Int))))) := r
noncomputable def E_25 : Entry where
 params := [.v (.slice .int)]
 results := [.mv .int 0]
 B := (List Int)
 run := fun a => spec_l1Own a
 out := fun b => ()
 res := fun b => b
noncomputable def C_25 : Cx where
 tt := tblTT tt
 T := tblT []
 L := tblL []
 dep := fun i => 0
 n := 1
noncomputable def D_25 : Code := Try.f129.body.getD .skip
noncomputable def N_25 (_ : outs [.v (.slice .int)]) (r : dens [.mv .int 0]) : (List Int) := r
noncomputable def E_26 : Entry where
 params := [.v (.slice .int), .v (.slice .int)]
 results := [.v .bool]
 B := Bool
 run := fun a => spec_l1Same a.1 a.2
 out := fun b => ((), ())
 res := fun b => b
noncomputable def S_26L4 (n : Nat) : LoopSpec where
 sh := [(0, .v (.slice .int)), (1, .v (.slice .int)), (5, .v .int)]
 ex := [(.exit 0, []), (.ret, [(4, .v .bool)])]
 run := spec_l1Same_L4 n
noncomputable def C_26 : Cx where
 tt := tblTT tt
 T := tblT []
 L := tblL [(4, S_26L4 fuel)]
 dep := fun i => 0
 n := 2
noncomputable def B_26L4 : Code := (Try.f166.body.bind (loopBody 4)).getD .skip
noncomputable def D_26 : Code := Try.f166.body.getD .skip
noncomputable def N_26 (_ : outs [.v (.slice .int), .v (.slice .int)]) (r : dens [.v .bool]) : Bool := r
noncomputable def E_27 : Entry where
 params := [.v (.slice (.slice .int)), .v (.slice .int)]
 results := [.v .int, .v .bool]
 B := Int × Bool
 run := fun a => spec_l8Find a.1 a.2
 out := fun b => ((), ())
 res := fun b => (b.1, b.2)
noncomputable def S_27L2 (n : Nat) : LoopSpec where
 sh := [(0, .v (.slice (.slice .int))), (1, .v (.slice .int)), (6, .v .int), (7, .v .int)]
 ex := [(.exit 0, [(0, .v (.slice (.slice .int))), (1, .v (.slice .int)), (6, .v .int)])]
 run := spec_l8Find_L2 n
noncomputable def C_27 : Cx where
 tt := tblTT tt
 T := tblT [(156, E_17), (166, E_26)]
 L := tblL [(2, S_27L2 fuel)]
 dep := fun i => 0
 n := 2
noncomputable def B_27L2 : Code := (Try.f160.body.bind (loopBody 2)).getD .skip
noncomputable def D_27 : Code := Try.f160.body.getD .skip
noncomputable def N_27 (_ : outs [.v (.slice (.slice .int)), .v (.slice .int)]) (r : dens [.v .int, .v .bool]) : Int × Bool := (r.1, r.2)
noncomputable def E_28 : Entry where
 params := [.v (.pair .int (.slice (.slice .int))), .v (.slice .int)]
 results := [.v .bool]
 B := Bool
 run := fun a => spec_l13Has a.1 a.2
 out := fun b => ((), ())
 res := fun b => b
noncomputable def C_28 : Cx where
 tt := tblTT tt
 T := tblT [(160, E_27)]
 L := tblL []
 dep := fun i => 0
 n := 2
noncomputable def D_28 : Code := Try.f152.body.getD .skip
noncomputable def N_28 (_ : outs [.v (.pair .int (.slice (.slice .int))), .v (.slice .int)]) (r : dens [.v .bool]) : Bool := r
noncomputable def E_29 : Entry where
 params := [.v (.pair (.slice .int) (.pair .int (.slice (.slice .int)))), .v (.slice .int)]
 results := [.v .bool]
 B := Bool
 run := fun a => spec_l19Satisfies a.1 a.2
 out := fun b => ((), ())
 res := fun b => b
noncomputable def S_29L3 (n : Nat) : LoopSpec where
 sh := [(1, .v (.slice .int)), (2, .bx (.v (.pair (.slice .int) (.pair .int (.slice (.slice .int)))))), (5, .mv .int 0), (6, .v .int)]
 ex := [(.exit 0, [(2, .bx (.v (.pair (.slice .int) (.pair .int (.slice (.slice .int)))))), (5, .mv .int 0)])]
 run := spec_l19Satisfies_L3 n
noncomputable def C_29 : Cx where
 tt := tblTT tt
 T := tblT [(152, E_28)]
 L := tblL [(3, S_29L3 fuel)]
 dep := fun i => 0
 n := 2
noncomputable def B_29L3 : Code := (Try.f123.body.bind (loopBody 3)).getD .skip
noncomputable def D_29 : Code := Try.f123.body.getD .skip
noncomputable def N_29 (_ : outs [.v (.pair (.slice .int) (.pair .int (.slice (.slice .int)))), .v (.slice .int)]) (r : dens [.v .bool]) : Bool := r
noncomputable def E_30_of (rec : (Int × (List (List ((List Int) × Int × (List (List Int))))) × (List Int) × (List Int) × ((List (List Int)) × (Int × Int × Bool))) → Option (((List (List Int)) × (Int × Int × Bool)))) : Entry where
 params := [.v .int, .v (.slice (.slice (.pair (.slice .int) (.pair .int (.slice (.slice .int)))))), .v (.slice .int), .v (.slice .int), .pr (.mv (.slice .int) 1) (.v (.pair .int (.pair .int .bool)))]
 results := [.pr (.mv (.slice .int) 1) (.v (.pair .int (.pair .int .bool)))]
 B := ((List (List Int)) × (Int × Int × Bool))
 run := rec
 out := fun b => ((), (), (), (), ((), ()))
 res := fun b => b
noncomputable def E_30 (d : Nat) : Entry := E_30_of (spec_l19Go d)
noncomputable def S_30L14 (rec : (Int × (List (List ((List Int) × Int × (List (List Int))))) × (List Int) × (List Int) × ((List (List Int)) × (Int × Int × Bool))) → Option (((List (List Int)) × (Int × Int × Bool)))) (n : Nat) : LoopSpec where
 sh := [(0, .v .int), (1, .v (.slice (.slice (.pair (.slice .int) (.pair .int (.slice (.slice .int))))))), (2, .v (.slice .int)), (3, .v (.slice .int)), (9, .bx (.pr (.mv (.slice .int) 1) (.v (.pair .int (.pair .int .bool))))), (10, .bx (.pr (.mv (.slice .int) 1) (.v (.pair .int (.pair .int .bool))))), (11, .v .int), (12, .v .int), (13, .mv .int 0), (14, .v .bool), (15, .v .int)]
 ex := [(.exit 2, [(0, .v .int), (1, .v (.slice (.slice (.pair (.slice .int) (.pair .int (.slice (.slice .int))))))), (2, .v (.slice .int)), (3, .v (.slice .int)), (9, .bx (.pr (.mv (.slice .int) 1) (.v (.pair .int (.pair .int .bool))))), (10, .bx (.pr (.mv (.slice .int) 1) (.v (.pair .int (.pair .int .bool))))), (11, .v .int), (12, .v .int), (13, .mv .int 0), (14, .v .bool)])]
 run := spec_l19Go_L14 rec n
noncomputable def S_30L8 (rec : (Int × (List (List ((List Int) × Int × (List (List Int))))) × (List Int) × (List Int) × ((List (List Int)) × (Int × Int × Bool))) → Option (((List (List Int)) × (Int × Int × Bool)))) (n : Nat) : LoopSpec where
 sh := [(0, .v .int), (1, .v (.slice (.slice (.pair (.slice .int) (.pair .int (.slice (.slice .int))))))), (2, .v (.slice .int)), (3, .v (.slice .int)), (9, .bx (.pr (.mv (.slice .int) 1) (.v (.pair .int (.pair .int .bool))))), (10, .bx (.pr (.mv (.slice .int) 1) (.v (.pair .int (.pair .int .bool))))), (11, .v .int), (12, .v .int)]
 ex := [(.exit 0, [(9, .bx (.pr (.mv (.slice .int) 1) (.v (.pair .int (.pair .int .bool))))), (10, .bx (.pr (.mv (.slice .int) 1) (.v (.pair .int (.pair .int .bool)))))])]
 run := spec_l19Go_L8 rec n
noncomputable def C_30 (rec : (Int × (List (List ((List Int) × Int × (List (List Int))))) × (List Int) × (List Int) × ((List (List Int)) × (Int × Int × Bool))) → Option (((List (List Int)) × (Int × Int × Bool)))) : Cx where
 tt := tblTT tt
 T := tblT [(105, E_30_of rec), (123, E_29), (129, E_25)]
 L := tblL [(14, S_30L14 rec fuel), (8, S_30L8 rec fuel)]
 dep := fun i => match i with
  | 36 => 1
  | 37 => 1
  | _ => 0
 n := 5
noncomputable def B_30L14 : Code := (Try.f105.body.bind (loopBody 14)).getD .skip
noncomputable def B_30L8 : Code := (Try.f105.body.bind (loopBody 8)).getD .skip
noncomputable def D_30 : Code := Try.f105.body.getD .skip
noncomputable def N_30 (_ : outs [.v .int, .v (.slice (.slice (.pair (.slice .int) (.pair .int (.slice (.slice .int)))))), .v (.slice .int), .v (.slice .int), .pr (.mv (.slice .int) 1) (.v (.pair .int (.pair .int .bool)))]) (r : dens [.pr (.mv (.slice .int) 1) (.v (.pair .int (.pair .int .bool)))]) : ((List (List Int)) × (Int × Int × Bool)) := r
noncomputable def E_31 : Entry where
 params := [.v (.pair .int (.pair .int (.slice (.pair (.slice .int) (.pair .int (.slice (.slice .int))))))), .v (.slice (.pair (.slice .int) (.pair .int (.slice (.slice .int))))), .v (.slice .int), .v .int, .v .bool]
 results := [.pr (.mv (.slice .int) 1) (.v (.pair .int (.pair .int .bool)))]
 B := ((List (List Int)) × (Int × Int × Bool))
 run := fun a => spec_l19Find a.1 a.2.1 a.2.2.1 a.2.2.2.1 a.2.2.2.2
 out := fun b => ((), (), (), (), ())
 res := fun b => b
noncomputable def C_31 : Cx where
 tt := tblTT tt
 T := tblT [(105, E_30 fuel), (106, E_24)]
 L := tblL []
 dep := fun i => 0
 n := 5
noncomputable def D_31 : Code := Try.f55.body.getD .skip
noncomputable def N_31 (_ : outs [.v (.pair .int (.pair .int (.slice (.pair (.slice .int) (.pair .int (.slice (.slice .int))))))), .v (.slice (.pair (.slice .int) (.pair .int (.slice (.slice .int))))), .v (.slice .int), .v .int, .v .bool]) (r : dens [.pr (.mv (.slice .int) 1) (.v (.pair .int (.pair .int .bool)))]) : ((List (List Int)) × (Int × Int × Bool)) := r
noncomputable def E_32 : Entry where
 params := [.v (.pair .int (.pair .int (.slice (.pair (.slice .int) (.pair .int (.slice (.slice .int))))))), .v (.slice .int)]
 results := [.pr (.v .int) (.mv (.slice .int) 0), .v .bool]
 B := (Int × (List (List Int))) × Bool
 run := fun a => spec_SolutionRelation a.1 a.2
 out := fun b => ((), ())
 res := fun b => (b.1, b.2)
noncomputable def S_32L10 (n : Nat) : LoopSpec where
 sh := [(1, .v (.slice .int)), (2, .bx (.v (.pair .int (.pair .int (.slice (.pair (.slice .int) (.pair .int (.slice (.slice .int))))))))), (4, .bx (.pr (.v .int) (.mv (.slice .int) 0))), (6, .bx (.pr (.v .int) (.mv (.slice .int) 0))), (7, .v .int), (8, .mv .int 0), (9, .mv .int 0), (10, .v .bool), (11, .v .int)]
 ex := [(.exit 2, [(1, .v (.slice .int)), (2, .bx (.v (.pair .int (.pair .int (.slice (.pair (.slice .int) (.pair .int (.slice (.slice .int))))))))), (4, .bx (.pr (.v .int) (.mv (.slice .int) 0))), (6, .bx (.pr (.v .int) (.mv (.slice .int) 0))), (7, .v .int), (8, .mv .int 0), (9, .mv .int 0), (10, .v .bool)])]
 run := spec_SolutionRelation_L10 n
noncomputable def S_32L5 (n : Nat) : LoopSpec where
 sh := [(1, .v (.slice .int)), (2, .bx (.v (.pair .int (.pair .int (.slice (.pair (.slice .int) (.pair .int (.slice (.slice .int))))))))), (4, .bx (.pr (.v .int) (.mv (.slice .int) 0))), (6, .bx (.pr (.v .int) (.mv (.slice .int) 0))), (7, .v .int)]
 ex := [(.exit 0, [(4, .bx (.pr (.v .int) (.mv (.slice .int) 0))), (6, .bx (.pr (.v .int) (.mv (.slice .int) 0)))])]
 run := spec_SolutionRelation_L5 n
noncomputable def C_32 : Cx where
 tt := tblTT tt
 T := tblT [(49, E_20), (50, E_13), (51, E_15), (52, E_14), (53, E_21), (54, E_22), (55, E_31)]
 L := tblL [(10, S_32L10 fuel), (5, S_32L5 fuel)]
 dep := fun i => 0
 n := 2
noncomputable def B_32L10 : Code := (Try.f7.body.bind (loopBody 10)).getD .skip
noncomputable def B_32L5 : Code := (Try.f7.body.bind (loopBody 5)).getD .skip
noncomputable def D_32 : Code := Try.f7.body.getD .skip
noncomputable def N_32 (_ : outs [.v (.pair .int (.pair .int (.slice (.pair (.slice .int) (.pair .int (.slice (.slice .int))))))), .v (.slice .int)]) (r : dens [.pr (.v .int) (.mv (.slice .int) 0), .v .bool]) : (Int × (List (List Int))) × Bool := (r.1, r.2)
noncomputable def E_33 : Entry where
 params := [.v .int]
 results := [.v .bool]
 B := Bool
 run := fun a => impl_isTemplateSize a
 out := fun b => ()
 res := fun b => b
noncomputable def C_33 : Cx where
 tt := tblTT tt
 T := tblT []
 L := tblL []
 dep := fun i => 0
 n := 1
noncomputable def D_33 : Code := Try.f108.body.getD .skip
noncomputable def N_33 (_ : outs [.v .int]) (r : dens [.v .bool]) : Bool := r
noncomputable def E_34 : Entry where
 params := [.v (.slice .int), .v .int]
 results := [.v .bool]
 B := Bool
 run := fun a => impl_inSize a.1 a.2
 out := fun b => ((), ())
 res := fun b => b
noncomputable def S_34L2 (n : Nat) : LoopSpec where
 sh := [(1, .v .int), (7, .v (.slice .int)), (8, .v .int), (9, .v .int)]
 ex := [(.exit 0, []), (.ret, [(4, .v .bool)])]
 run := impl_inSize_L2 n
noncomputable def C_34 : Cx where
 tt := tblTT tt
 T := tblT []
 L := tblL [(2, S_34L2 fuel)]
 dep := fun i => 0
 n := 2
noncomputable def B_34L2 : Code := (Try.f58.body.bind (loopBody 2)).getD .skip
noncomputable def D_34 : Code := Try.f58.body.getD .skip
noncomputable def N_34 (_ : outs [.v (.slice .int), .v .int]) (r : dens [.v .bool]) : Bool := r
noncomputable def E_35 : Entry where
 params := [.v (.slice .int), .v (.slice .int)]
 results := [.v .int]
 B := Int
 run := fun a => impl_compareLists a.1 a.2
 out := fun b => ((), ())
 res := fun b => b
noncomputable def S_35L2 (n : Nat) : LoopSpec where
 sh := [(0, .v (.slice .int)), (1, .v (.slice .int)), (5, .v .int)]
 ex := [(.exit 0, [(0, .v (.slice .int)), (1, .v (.slice .int))]), (.ret, [(4, .v .int)])]
 run := impl_compareLists_L2 n
noncomputable def C_35 : Cx where
 tt := tblTT tt
 T := tblT []
 L := tblL [(2, S_35L2 fuel)]
 dep := fun i => 0
 n := 2
noncomputable def B_35L2 : Code := (Try.f144.body.bind (loopBody 2)).getD .skip
noncomputable def D_35 : Code := Try.f144.body.getD .skip
noncomputable def N_35 (_ : outs [.v (.slice .int), .v (.slice .int)]) (r : dens [.v .int]) : Int := r
noncomputable def E_36 : Entry where
 params := [.v .int, .v (.pair .int (.slice (.slice .int)))]
 results := [.v .bool]
 B := Bool
 run := fun a => impl_isRelation a.1 a.2
 out := fun b => ((), ())
 res := fun b => b
noncomputable def S_36L4 (n : Nat) : LoopSpec where
 sh := [(0, .v .int), (3, .bx (.v (.pair .int (.slice (.slice .int))))), (16, .v (.slice (.slice .int))), (17, .v .int), (18, .v .int)]
 ex := [(.exit 0, []), (.ret, [(4, .v .bool)])]
 run := impl_isRelation_L4 n
noncomputable def C_36 : Cx where
 tt := tblTT tt
 T := tblT [(58, E_34), (144, E_35)]
 L := tblL [(4, S_36L4 fuel)]
 dep := fun i => 0
 n := 2
noncomputable def B_36L4 : Code := (Try.f125.body.bind (loopBody 4)).getD .skip
noncomputable def D_36 : Code := Try.f125.body.getD .skip
noncomputable def N_36 (_ : outs [.v .int, .v (.pair .int (.slice (.slice .int)))]) (r : dens [.v .bool]) : Bool := r
noncomputable def E_37 : Entry where
 params := [.v .int, .v .int, .v (.pair (.slice .int) (.pair .int (.slice (.slice .int))))]
 results := [.v .bool]
 B := Bool
 run := fun a => impl_isConstraint a.1 a.2.1 a.2.2
 out := fun b => ((), (), ())
 res := fun b => b
noncomputable def C_37 : Cx where
 tt := tblTT tt
 T := tblT [(58, E_34), (125, E_36)]
 L := tblL []
 dep := fun i => 0
 n := 3
noncomputable def D_37 : Code := Try.f109.body.getD .skip
noncomputable def N_37 (_ : outs [.v .int, .v .int, .v (.pair (.slice .int) (.pair .int (.slice (.slice .int))))]) (r : dens [.v .bool]) : Bool := r
noncomputable def E_38 : Entry where
 params := [.v (.pair .int (.pair .int (.slice (.pair (.slice .int) (.pair .int (.slice (.slice .int)))))))]
 results := [.v .bool]
 B := Bool
 run := fun a => impl_IsNetwork a
 out := fun b => ()
 res := fun b => b
noncomputable def S_38L4 (n : Nat) : LoopSpec where
 sh := [(1, .bx (.v (.pair .int (.pair .int (.slice (.pair (.slice .int) (.pair .int (.slice (.slice .int))))))))), (26, .v (.slice (.pair (.slice .int) (.pair .int (.slice (.slice .int)))))), (27, .v .int), (28, .v .int)]
 ex := [(.exit 0, []), (.ret, [(2, .v .bool)])]
 run := impl_IsNetwork_L4 n
noncomputable def C_38 : Cx where
 tt := tblTT tt
 T := tblT [(108, E_33), (109, E_37)]
 L := tblL [(4, S_38L4 fuel)]
 dep := fun i => 0
 n := 1
noncomputable def B_38L4 : Code := (Try.f57.body.bind (loopBody 4)).getD .skip
noncomputable def D_38 : Code := Try.f57.body.getD .skip
noncomputable def N_38 (_ : outs [.v (.pair .int (.pair .int (.slice (.pair (.slice .int) (.pair .int (.slice (.slice .int)))))))]) (r : dens [.v .bool]) : Bool := r
noncomputable def E_39 : Entry where
 params := [.v (.slice .int)]
 results := [.v .str]
 B := ByteArray
 run := fun a => impl_keyOf a
 out := fun b => ()
 res := fun b => b
noncomputable def S_39L3 (n : Nat) : LoopSpec where
 sh := [(3, .mv (.num .u8) 0), (10, .v (.slice .int)), (11, .v .int), (12, .v .int)]
 ex := [(.exit 0, [(3, .mv (.num .u8) 0)])]
 run := impl_keyOf_L3 n
noncomputable def C_39 : Cx where
 tt := tblTT tt
 T := tblT []
 L := tblL [(3, S_39L3 fuel)]
 dep := fun i => 0
 n := 1
noncomputable def B_39L3 : Code := (Try.f62.body.bind (loopBody 3)).getD .skip
noncomputable def D_39 : Code := Try.f62.body.getD .skip
noncomputable def N_39 (_ : outs [.v (.slice .int)]) (r : dens [.v .str]) : ByteArray := r
noncomputable def E_40 : Entry where
 params := [.v (.pair .int (.slice (.slice .int)))]
 results := [.v .smap]
 B := (List ByteArray)
 run := fun a => impl_tupleSet a
 out := fun b => ()
 res := fun b => b
noncomputable def S_40L3 (n : Nat) : LoopSpec where
 sh := [(3, .mp), (8, .v (.slice (.slice .int))), (9, .v .int), (10, .v .int)]
 ex := [(.exit 0, [(3, .mp)])]
 run := impl_tupleSet_L3 n
noncomputable def C_40 : Cx where
 tt := tblTT tt
 T := tblT [(62, E_39)]
 L := tblL [(3, S_40L3 fuel)]
 dep := fun i => 0
 n := 1
noncomputable def B_40L3 : Code := (Try.f140.body.bind (loopBody 3)).getD .skip
noncomputable def D_40 : Code := Try.f140.body.getD .skip
noncomputable def N_40 (_ : outs [.v (.pair .int (.slice (.slice .int)))]) (r : dens [.v .smap]) : (List ByteArray) := r
noncomputable def E_41 : Entry where
 params := [.v (.pair .int (.pair .int (.slice (.pair (.slice .int) (.pair .int (.slice (.slice .int)))))))]
 results := [.v (.ptr (.pair .int (.pair (.slice (.slice (.slice .int))) (.slice (.slice .smap)))))]
 B := (Bool × Int × (List (List (List Int))) × (List (List (List ByteArray))))
 run := fun a => impl_newNetSearch a
 out := fun b => ()
 res := fun b => b
noncomputable def S_41L7 (n : Nat) : LoopSpec where
 sh := [(3, .bx (.pr (.v .int) (.pr (.mv (.slice (.slice .int)) 1) (.mv (.slice .smap) 1)))), (5, .bx (.v (.pair (.slice .int) (.pair .int (.slice (.slice .int)))))), (6, .v .int), (20, .v (.slice (.pair (.slice .int) (.pair .int (.slice (.slice .int)))))), (21, .v .int), (22, .v .int), (27, .v (.slice .int)), (28, .v .int), (29, .v .int)]
 ex := [(.exit 2, [(3, .bx (.pr (.v .int) (.pr (.mv (.slice (.slice .int)) 1) (.mv (.slice .smap) 1)))), (5, .bx (.v (.pair (.slice .int) (.pair .int (.slice (.slice .int)))))), (6, .v .int), (20, .v (.slice (.pair (.slice .int) (.pair .int (.slice (.slice .int)))))), (21, .v .int), (22, .v .int)])]
 run := impl_newNetSearch_L7 n
noncomputable def S_41L3 (n : Nat) : LoopSpec where
 sh := [(3, .bx (.pr (.v .int) (.pr (.mv (.slice (.slice .int)) 1) (.mv (.slice .smap) 1)))), (20, .v (.slice (.pair (.slice .int) (.pair .int (.slice (.slice .int)))))), (21, .v .int), (22, .v .int)]
 ex := [(.exit 0, [(3, .bx (.pr (.v .int) (.pr (.mv (.slice (.slice .int)) 1) (.mv (.slice .smap) 1))))])]
 run := impl_newNetSearch_L3 n
noncomputable def C_41 : Cx where
 tt := tblTT tt
 T := tblT [(140, E_40)]
 L := tblL [(7, S_41L7 fuel), (3, S_41L3 fuel)]
 dep := fun i => match i with
  | 13 => 1
  | 16 => 1
  | _ => 0
 n := 1
 fine := true
noncomputable def B_41L7 : Code := (Try.f110.body.bind (loopBody 7)).getD .skip
noncomputable def B_41L3 : Code := (Try.f110.body.bind (loopBody 3)).getD .skip
noncomputable def D_41 : Code := Try.f110.body.getD .skip
noncomputable def N_41 (_ : outs [.v (.pair .int (.pair .int (.slice (.pair (.slice .int) (.pair .int (.slice (.slice .int)))))))]) (r : dens [.v (.ptr (.pair .int (.pair (.slice (.slice (.slice .int))) (.slice (.slice .smap)))))]) : (Bool × Int × (List (List (List Int))) × (List (List (List ByteArray)))) := r
noncomputable def E_42 : Entry where
 params := [.v .int]
 results := [.mv .int 0]
 B := (List Int)
 run := fun a => impl_freeTable a
 out := fun b => ()
 res := fun b => b
noncomputable def S_42L3 (n : Nat) : LoopSpec where
 sh := [(3, .mv .int 0), (8, .v .int), (9, .v .int)]
 ex := [(.exit 0, [(3, .mv .int 0)])]
 run := impl_freeTable_L3 n
noncomputable def C_42 : Cx where
 tt := tblTT tt
 T := tblT []
 L := tblL [(3, S_42L3 fuel)]
 dep := fun i => 0
 n := 1
noncomputable def B_42L3 : Code := (Try.f112.body.bind (loopBody 3)).getD .skip
noncomputable def D_42 : Code := Try.f112.body.getD .skip
noncomputable def N_42 (_ : outs [.v .int]) (r : dens [.mv .int 0]) : (List Int) := r
noncomputable def E_43 : Entry where
 params := [.v (.slice .int)]
 results := [.mv .int 0]
 B := (List Int)
 run := fun a => impl_clone a
 out := fun b => ()
 res := fun b => b
noncomputable def C_43 : Cx where
 tt := tblTT tt
 T := tblT []
 L := tblL []
 dep := fun i => 0
 n := 1
noncomputable def D_43 : Code := Try.f135.body.getD .skip
noncomputable def N_43 (_ : outs [.v (.slice .int)]) (r : dens [.mv .int 0]) : (List Int) := r
noncomputable def E_44 : Entry where
 params := [.v (.slice (.slice .int))]
 results := [.mv (.slice .int) 1]
 B := (List (List Int))
 run := fun a => impl_cloneRows a
 out := fun b => ()
 res := fun b => b
noncomputable def S_44L3 (n : Nat) : LoopSpec where
 sh := [(3, .mv (.slice .int) 1), (7, .v (.slice (.slice .int))), (8, .v .int), (9, .v .int)]
 ex := [(.exit 0, [(3, .mv (.slice .int) 1)])]
 run := impl_cloneRows_L3 n
noncomputable def C_44 : Cx where
 tt := tblTT tt
 T := tblT [(135, E_43)]
 L := tblL [(3, S_44L3 fuel)]
 dep := fun i => match i with
  | 6 => 1
  | 16 => 1
  | 17 => 1
  | _ => 0
 n := 1
noncomputable def B_44L3 : Code := (Try.f142.body.bind (loopBody 3)).getD .skip
noncomputable def D_44 : Code := Try.f142.body.getD .skip
noncomputable def N_44 (_ : outs [.v (.slice (.slice .int))]) (r : dens [.mv (.slice .int) 1]) : (List (List Int)) := r
noncomputable def E_45 : Entry where
 params := [.io (.slice .int) 1, .v (.fn 144)]
 results := []
 B := List (List Int)
 run := fun a => impl_sortRows_impl_compareLists a.1 a.2
 out := fun b => (b, ())
 res := fun b => ()
noncomputable def D_45 : Code := Try.f143.body.getD .skip
noncomputable def E_46 : Entry where
 params := [.v (.slice (.slice .int))]
 results := [.mv (.slice .int) 1]
 B := (List (List Int))
 run := fun a => impl_sortedTuples a
 out := fun b => ()
 res := fun b => b
noncomputable def C_46 : Cx where
 tt := tblTT tt
 T := tblT [(142, E_44), (9502863, E_45)]
 L := tblL []
 dep := fun i => 0
 n := 1
noncomputable def D_46 : Code := Try.f114.body.getD .skip
noncomputable def N_46 (_ : outs [.v (.slice (.slice .int))]) (r : dens [.mv (.slice .int) 1]) : (List (List Int)) := r
noncomputable def E_47 : Entry where
 params := [.v (.slice .int), .v (.slice .int)]
 results := [.v .bool]
 B := Bool
 run := fun a => impl_sameList a.1 a.2
 out := fun b => ((), ())
 res := fun b => b
noncomputable def S_47L4 (n : Nat) : LoopSpec where
 sh := [(1, .v (.slice .int)), (12, .v (.slice .int)), (13, .v .int), (14, .v .int)]
 ex := [(.exit 0, []), (.ret, [(4, .v .bool)])]
 run := impl_sameList_L4 n
noncomputable def C_47 : Cx where
 tt := tblTT tt
 T := tblT []
 L := tblL [(4, S_47L4 fuel)]
 dep := fun i => 0
 n := 2
noncomputable def B_47L4 : Code := (Try.f86.body.bind (loopBody 4)).getD .skip
noncomputable def D_47 : Code := Try.f86.body.getD .skip
noncomputable def N_47 (_ : outs [.v (.slice .int), .v (.slice .int)]) (r : dens [.v .bool]) : Bool := r
noncomputable def E_48 : Entry where
 params := [.mv (.slice .int) 1]
 results := [.mv (.slice .int) 1]
 B := List (List Int)
 run := fun a => impl_different a
 out := fun b => ()
 res := fun b => b
noncomputable def D_48 : Code := Try.f113.body.getD .skip
noncomputable def E_49 : Entry where
 params := [.v .int, .v (.slice (.slice .int))]
 results := [.pr (.v .int) (.mv (.slice .int) 1)]
 B := (Int × (List (List Int)))
 run := fun a => impl_makeRelation a.1 a.2
 out := fun b => ((), ())
 res := fun b => b
noncomputable def C_49 : Cx where
 tt := tblTT tt
 T := tblT [(113, E_48), (114, E_46)]
 L := tblL []
 dep := fun i => 0
 n := 2
noncomputable def D_49 : Code := Try.f63.body.getD .skip
noncomputable def N_49 (_ : outs [.v .int, .v (.slice (.slice .int))]) (r : dens [.pr (.v .int) (.mv (.slice .int) 1)]) : (Int × (List (List Int))) := r
noncomputable def E_50 : Entry where
 params := [.v (.slice .int), .v (.slice .int)]
 results := [.mv .int 0]
 B := (List Int)
 run := fun a => impl_compose a.1 a.2
 out := fun b => ((), ())
 res := fun b => b
noncomputable def S_50L3 (n : Nat) : LoopSpec where
 sh := [(1, .v (.slice .int)), (5, .mv .int 0), (11, .v (.slice .int)), (12, .v .int), (13, .v .int)]
 ex := [(.exit 0, [(5, .mv .int 0)])]
 run := impl_compose_L3 n
noncomputable def C_50 : Cx where
 tt := tblTT tt
 T := tblT []
 L := tblL [(3, S_50L3 fuel)]
 dep := fun i => 0
 n := 2
noncomputable def B_50L3 : Code := (Try.f61.body.bind (loopBody 3)).getD .skip
noncomputable def D_50 : Code := Try.f61.body.getD .skip
noncomputable def N_50 (_ : outs [.v (.slice .int), .v (.slice .int)]) (r : dens [.mv .int 0]) : (List Int) := r
noncomputable def E_51 : Entry where
 params := [.v (.slice .int), .pz (.slice .int), .bx (.mp), .bx (.mv (.slice .int) 1)]
 results := [.v .bool]
 B := (List ByteArray) × (List (List Int)) × Bool
 run := fun a => impl_SolutionRelation_c1 a.1 a.2.1 a.2.2.1 a.2.2.2
 out := fun b => ((), (), b.1, b.2.1)
 res := fun b => b.2.2
noncomputable def C_51 : Cx where
 tt := tblTT tt
 T := tblT [(61, E_50), (62, E_39)]
 L := tblL []
 dep := fun i => match i with
  | 21 => 1
  | 22 => 1
  | _ => 0
 n := 4
noncomputable def D_51 : Code := Try.f60.body.getD .skip
noncomputable def N_51 (o : outs [.v (.slice .int), .pz (.slice .int), .bx (.mp), .bx (.mv (.slice .int) 1)]) (r : dens [.v .bool]) : (List ByteArray) × (List (List Int)) × Bool := (o.2.2.1, o.2.2.2, r)
noncomputable def E_52_of (rec : (Int × (List Int) × ((List Int) × ((List ByteArray) × (List (List Int)))) × (Bool × Int × (List (List (List Int))) × (List (List (List ByteArray)))) × (List Int) × Unit) → Option ((List Int) × (Unit × ((List ByteArray) × (List (List Int)))) × (Bool × Int × (List (List (List Int))) × (List (List (List ByteArray)))) × (List Int) × Bool)) : Entry where
 params := [.v .int, .bx (.mv .int 0), .pr (.pz (.slice .int)) (.pr (.bx (.mp)) (.bx (.mv (.slice .int) 1))), .bx (.v (.ptr (.pair .int (.pair (.slice (.slice (.slice .int))) (.slice (.slice .smap)))))), .bx (.v (.slice .int)), .jk 1]
 results := [.v .bool]
 cod := [(2, .kb 60), (5, .kn 141 1 5)]
 B := (List Int) × (Unit × ((List ByteArray) × (List (List Int)))) × (Bool × Int × (List (List (List Int))) × (List (List (List ByteArray)))) × (List Int) × Bool
 run := rec
 out := fun b => ((), b.1, b.2.1, b.2.2.1, b.2.2.2.1, ())
 res := fun b => b.2.2.2.2
noncomputable def E_52 (d : Nat) : Entry := E_52_of (impl_netSearch_each_c1_impl_SolutionRelation_c1 d)
noncomputable def S_52L10 (rec : (Int × (List Int) × ((List Int) × ((List ByteArray) × (List (List Int)))) × (Bool × Int × (List (List (List Int))) × (List (List (List ByteArray)))) × (List Int) × Unit) → Option ((List Int) × (Unit × ((List ByteArray) × (List (List Int)))) × (Bool × Int × (List (List (List Int))) × (List (List (List ByteArray)))) × (List Int) × Bool)) (n : Nat) : LoopSpec where
 sh := [(0, .v .int), (1, .bx (.mv .int 0)), (2, .pr (.pz (.slice .int)) (.pr (.bx (.mp)) (.bx (.mv (.slice .int) 1)))), (3, .bx (.v (.ptr (.pair .int (.pair (.slice (.slice (.slice .int))) (.slice (.slice .smap))))))), (4, .bx (.v (.slice .int))), (5, .jk 1), (8, .v .int), (9, .v .bool), (50, .v (.slice (.slice .int))), (51, .v .int), (52, .v .int)]
 ex := [(.exit 2, [(0, .v .int), (1, .bx (.mv .int 0)), (2, .pr (.pz (.slice .int)) (.pr (.bx (.mp)) (.bx (.mv (.slice .int) 1)))), (3, .bx (.v (.ptr (.pair .int (.pair (.slice (.slice (.slice .int))) (.slice (.slice .smap))))))), (4, .bx (.v (.slice .int))), (5, .jk 1), (8, .v .int), (9, .v .bool)])]
 run := impl_netSearch_each_c1_impl_SolutionRelation_c1_L10 rec n
noncomputable def S_52L4 (rec : (Int × (List Int) × ((List Int) × ((List ByteArray) × (List (List Int)))) × (Bool × Int × (List (List (List Int))) × (List (List (List ByteArray)))) × (List Int) × Unit) → Option ((List Int) × (Unit × ((List ByteArray) × (List (List Int)))) × (Bool × Int × (List (List (List Int))) × (List (List (List ByteArray)))) × (List Int) × Bool)) (n : Nat) : LoopSpec where
 sh := [(0, .v .int), (1, .bx (.mv .int 0)), (2, .pr (.pz (.slice .int)) (.pr (.bx (.mp)) (.bx (.mv (.slice .int) 1)))), (3, .bx (.v (.ptr (.pair .int (.pair (.slice (.slice (.slice .int))) (.slice (.slice .smap))))))), (4, .bx (.v (.slice .int))), (5, .jk 1), (8, .v .int)]
 ex := [(.exit 0, [(1, .bx (.mv .int 0)), (2, .pr (.pz (.slice .int)) (.pr (.bx (.mp)) (.bx (.mv (.slice .int) 1)))), (3, .bx (.v (.ptr (.pair .int (.pair (.slice (.slice (.slice .int))) (.slice (.slice .smap))))))), (4, .bx (.v (.slice .int))), (5, .jk 1)]), (.ret, [(1, .bx (.mv .int 0)), (2, .pr (.pz (.slice .int)) (.pr (.bx (.mp)) (.bx (.mv (.slice .int) 1)))), (3, .bx (.v (.ptr (.pair .int (.pair (.slice (.slice (.slice .int))) (.slice (.slice .smap))))))), (4, .bx (.v (.slice .int))), (5, .jk 1), (7, .v .bool)])]
 run := impl_netSearch_each_c1_impl_SolutionRelation_c1_L4 rec n
noncomputable def C_52 (rec : (Int × (List Int) × ((List Int) × ((List ByteArray) × (List (List Int)))) × (Bool × Int × (List (List (List Int))) × (List (List (List ByteArray)))) × (List Int) × Unit) → Option ((List Int) × (Unit × ((List ByteArray) × (List (List Int)))) × (Bool × Int × (List (List (List Int))) × (List (List (List ByteArray)))) × (List Int) × Bool)) : Cx where
 tt := tblTT tt
 T := tblT [(60, E_51), (61, E_50), (62, E_39), (3997837, E_52_of rec)]
 L := tblL [(10, S_52L10 rec fuel), (4, S_52L4 rec fuel)]
 dep := fun i => 0
 n := 6
 cod := [(2, .kb 60), (5, .kn 141 1 5)]
noncomputable def B_52L10 : Code := (Try.f141.body.bind (loopBody 10)).getD .skip
noncomputable def B_52L4 : Code := (Try.f141.body.bind (loopBody 4)).getD .skip
noncomputable def D_52 : Code := Try.f141.body.getD .skip
noncomputable def N_52 (o : outs [.v .int, .bx (.mv .int 0), .pr (.pz (.slice .int)) (.pr (.bx (.mp)) (.bx (.mv (.slice .int) 1))), .bx (.v (.ptr (.pair .int (.pair (.slice (.slice (.slice .int))) (.slice (.slice .smap)))))), .bx (.v (.slice .int)), .jk 1]) (r : dens [.v .bool]) : (List Int) × (Unit × ((List ByteArray) × (List (List Int)))) × (Bool × Int × (List (List (List Int))) × (List (List (List ByteArray)))) × (List Int) × Bool := (o.2.1, o.2.2.1, o.2.2.2.1, o.2.2.2.2.1, r)
noncomputable def E_53 : Entry where
 params := [.v (.ptr (.pair .int (.pair (.slice (.slice (.slice .int))) (.slice (.slice .smap))))), .v (.slice .int), .pr (.pz (.slice .int)) (.pr (.bx (.mp)) (.bx (.mv (.slice .int) 1)))]
 results := []
 cod := [(2, .cl 60)]
 B := (Unit × ((List ByteArray) × (List (List Int))))
 run := fun a => impl_netSearch_each_impl_SolutionRelation_c1 a.1 a.2.1 a.2.2
 out := fun b => ((), (), b)
 res := fun b => ()
noncomputable def C_53 : Cx where
 tt := tblTT tt
 T := tblT [(3997837, E_52 fuel)]
 L := tblL []
 dep := fun i => 0
 n := 3
 cod := [(2, .cl 60)]
noncomputable def D_53 : Code := Try.f111.body.getD .skip
noncomputable def N_53 (o : outs [.v (.ptr (.pair .int (.pair (.slice (.slice (.slice .int))) (.slice (.slice .smap))))), .v (.slice .int), .pr (.pz (.slice .int)) (.pr (.bx (.mp)) (.bx (.mv (.slice .int) 1)))]) (_ : dens []) : (Unit × ((List ByteArray) × (List (List Int)))) := o.2.2
noncomputable def E_54 : Entry where
 params := [.v (.pair .int (.pair .int (.slice (.pair (.slice .int) (.pair .int (.slice (.slice .int))))))), .pr (.pz (.slice .int)) (.pr (.bx (.mp)) (.bx (.mv (.slice .int) 1)))]
 results := []
 cod := [(1, .cl 60)]
 B := (Unit × ((List ByteArray) × (List (List Int))))
 run := fun a => impl_eachSolution_impl_SolutionRelation_c1 a.1 a.2
 out := fun b => ((), b)
 res := fun b => ()
noncomputable def C_54 : Cx where
 tt := tblTT tt
 T := tblT [(110, E_41), (112, E_42), (3997807, E_53)]
 L := tblL []
 dep := fun i => 0
 n := 2
 cod := [(1, .cl 60)]
noncomputable def D_54 : Code := Try.f59.body.getD .skip
noncomputable def N_54 (o : outs [.v (.pair .int (.pair .int (.slice (.pair (.slice .int) (.pair .int (.slice (.slice .int))))))), .pr (.pz (.slice .int)) (.pr (.bx (.mp)) (.bx (.mv (.slice .int) 1)))]) (_ : dens []) : (Unit × ((List ByteArray) × (List (List Int)))) := o.2
noncomputable def E_55 : Entry where
 params := [.v (.pair .int (.pair .int (.slice (.pair (.slice .int) (.pair .int (.slice (.slice .int))))))), .v (.slice .int)]
 results := [.pr (.v .int) (.mv (.slice .int) 1), .v .bool]
 B := (Int × (List (List Int))) × Bool
 run := fun a => impl_SolutionRelation a.1 a.2
 out := fun b => ((), ())
 res := fun b => (b.1, b.2)
noncomputable def C_55 : Cx where
 tt := tblTT tt
 T := tblT [(57, E_38), (58, E_34), (63, E_49), (3997755, E_54)]
 L := tblL []
 dep := fun i => match i with
  | 30 => 1
  | _ => 0
 n := 2
noncomputable def D_55 : Code := Try.f10.body.getD .skip
noncomputable def N_55 (_ : outs [.v (.pair .int (.pair .int (.slice (.pair (.slice .int) (.pair .int (.slice (.slice .int))))))), .v (.slice .int)]) (r : dens [.pr (.v .int) (.mv (.slice .int) 1), .v .bool]) : (Int × (List (List Int))) × Bool := (r.1, r.2)
noncomputable def E_56 : Entry where
 params := [.v (.slice .int), .v (.slice .int)]
 results := [.v .bool]
 B := Bool
 run := fun a => laws_eqIntS a.1 a.2
 out := fun b => ((), ())
 res := fun b => b
noncomputable def S_56L4 (n : Nat) : LoopSpec where
 sh := [(0, .v (.slice .int)), (1, .v (.slice .int)), (5, .v .int)]
 ex := [(.exit 0, []), (.ret, [(4, .v .bool)])]
 run := laws_eqIntS_L4 n
noncomputable def C_56 : Cx where
 tt := tblTT tt
 T := tblT []
 L := tblL [(4, S_56L4 fuel)]
 dep := fun i => 0
 n := 2
noncomputable def B_56L4 : Code := (Try.f13.body.bind (loopBody 4)).getD .skip
noncomputable def D_56 : Code := Try.f13.body.getD .skip
noncomputable def N_56 (_ : outs [.v (.slice .int), .v (.slice .int)]) (r : dens [.v .bool]) : Bool := r
noncomputable def E_57 : Entry where
 params := [.v (.slice (.slice .int)), .v (.slice (.slice .int))]
 results := [.v .bool]
 B := Bool
 run := fun a => laws_eqIntSS a.1 a.2
 out := fun b => ((), ())
 res := fun b => b
noncomputable def S_57L4 (n : Nat) : LoopSpec where
 sh := [(0, .v (.slice (.slice .int))), (1, .v (.slice (.slice .int))), (5, .v .int)]
 ex := [(.exit 0, []), (.ret, [(4, .v .bool)])]
 run := laws_eqIntSS_L4 n
noncomputable def C_57 : Cx where
 tt := tblTT tt
 T := tblT [(13, E_56)]
 L := tblL [(4, S_57L4 fuel)]
 dep := fun i => 0
 n := 2
noncomputable def B_57L4 : Code := (Try.f64.body.bind (loopBody 4)).getD .skip
noncomputable def D_57 : Code := Try.f64.body.getD .skip
noncomputable def N_57 (_ : outs [.v (.slice (.slice .int)), .v (.slice (.slice .int))]) (r : dens [.v .bool]) : Bool := r
noncomputable def E_58 : Entry where
 params := [.v (.pair .int (.slice (.slice .int))), .v (.pair .int (.slice (.slice .int)))]
 results := [.v .bool]
 B := Bool
 run := fun a => laws_eqRelation a.1 a.2
 out := fun b => ((), ())
 res := fun b => b
noncomputable def C_58 : Cx where
 tt := tblTT tt
 T := tblT [(64, E_57)]
 L := tblL []
 dep := fun i => 0
 n := 2
noncomputable def D_58 : Code := Try.f11.body.getD .skip
noncomputable def N_58 (_ : outs [.v (.pair .int (.slice (.slice .int))), .v (.pair .int (.slice (.slice .int)))]) (r : dens [.v .bool]) : Bool := r
noncomputable def E_59 : Entry where
 params := [.v (.pair (.slice .int) (.pair .int (.slice (.slice .int)))), .v (.pair (.slice .int) (.pair .int (.slice (.slice .int))))]
 results := [.v .bool]
 B := Bool
 run := fun a => laws_eqConstraint a.1 a.2
 out := fun b => ((), ())
 res := fun b => b
noncomputable def C_59 : Cx where
 tt := tblTT tt
 T := tblT [(11, E_58), (13, E_56)]
 L := tblL []
 dep := fun i => 0
 n := 2
noncomputable def D_59 : Code := Try.f115.body.getD .skip
noncomputable def N_59 (_ : outs [.v (.pair (.slice .int) (.pair .int (.slice (.slice .int)))), .v (.pair (.slice .int) (.pair .int (.slice (.slice .int))))]) (r : dens [.v .bool]) : Bool := r
noncomputable def E_60 : Entry where
 params := [.v (.slice (.pair (.slice .int) (.pair .int (.slice (.slice .int))))), .v (.slice (.pair (.slice .int) (.pair .int (.slice (.slice .int)))))]
 results := [.v .bool]
 B := Bool
 run := fun a => laws_eqConstraintS a.1 a.2
 out := fun b => ((), ())
 res := fun b => b
noncomputable def S_60L4 (n : Nat) : LoopSpec where
 sh := [(0, .v (.slice (.pair (.slice .int) (.pair .int (.slice (.slice .int)))))), (1, .v (.slice (.pair (.slice .int) (.pair .int (.slice (.slice .int)))))), (5, .v .int)]
 ex := [(.exit 0, []), (.ret, [(4, .v .bool)])]
 run := laws_eqConstraintS_L4 n
noncomputable def C_60 : Cx where
 tt := tblTT tt
 T := tblT [(115, E_59)]
 L := tblL [(4, S_60L4 fuel)]
 dep := fun i => 0
 n := 2
noncomputable def B_60L4 : Code := (Try.f65.body.bind (loopBody 4)).getD .skip
noncomputable def D_60 : Code := Try.f65.body.getD .skip
noncomputable def N_60 (_ : outs [.v (.slice (.pair (.slice .int) (.pair .int (.slice (.slice .int))))), .v (.slice (.pair (.slice .int) (.pair .int (.slice (.slice .int)))))]) (r : dens [.v .bool]) : Bool := r
noncomputable def E_61 : Entry where
 params := [.v (.pair .int (.pair .int (.slice (.pair (.slice .int) (.pair .int (.slice (.slice .int))))))), .v (.pair .int (.pair .int (.slice (.pair (.slice .int) (.pair .int (.slice (.slice .int)))))))]
 results := [.v .bool]
 B := Bool
 run := fun a => laws_eqNetwork a.1 a.2
 out := fun b => ((), ())
 res := fun b => b
noncomputable def C_61 : Cx where
 tt := tblTT tt
 T := tblT [(65, E_60)]
 L := tblL []
 dep := fun i => 0
 n := 2
noncomputable def D_61 : Code := Try.f12.body.getD .skip
noncomputable def N_61 (_ : outs [.v (.pair .int (.pair .int (.slice (.pair (.slice .int) (.pair .int (.slice (.slice .int))))))), .v (.pair .int (.pair .int (.slice (.pair (.slice .int) (.pair .int (.slice (.slice .int)))))))]) (r : dens [.v .bool]) : Bool := r
noncomputable def E_62 : Entry where
 params := [.io .int 0, .v .int]
 results := [.v .int]
 B := (List Int) × Int
 run := fun a => laws_markIntS a.1 a.2
 out := fun b => (b.1, ())
 res := fun b => b.2
noncomputable def S_62L2 (n : Nat) : LoopSpec where
 sh := [(0, .io .int 0), (1, .v .int), (5, .v .int)]
 ex := [(.exit 0, [(0, .io .int 0), (1, .v .int)])]
 run := laws_markIntS_L2 n
noncomputable def C_62 : Cx where
 tt := tblTT tt
 T := tblT []
 L := tblL [(2, S_62L2 fuel)]
 dep := fun i => 0
 n := 2
noncomputable def B_62L2 : Code := (Try.f15.body.bind (loopBody 2)).getD .skip
noncomputable def D_62 : Code := Try.f15.body.getD .skip
noncomputable def N_62 (o : outs [.io .int 0, .v .int]) (r : dens [.v .int]) : (List Int) × Int := (o.1, r)
noncomputable def E_63 : Entry where
 params := [.io (.slice .int) 1, .v .int]
 results := [.v .int]
 B := (List (List Int)) × Int
 run := fun a => laws_markIntSS a.1 a.2
 out := fun b => (b.1, ())
 res := fun b => b.2
noncomputable def S_63L2 (n : Nat) : LoopSpec where
 sh := [(0, .io (.slice .int) 1), (1, .v .int), (5, .v .int)]
 ex := [(.exit 0, [(0, .io (.slice .int) 1), (1, .v .int)])]
 run := laws_markIntSS_L2 n
noncomputable def C_63 : Cx where
 tt := tblTT tt
 T := tblT [(15, E_62)]
 L := tblL [(2, S_63L2 fuel)]
 dep := fun i => 0
 n := 2
noncomputable def B_63L2 : Code := (Try.f67.body.bind (loopBody 2)).getD .skip
noncomputable def D_63 : Code := Try.f67.body.getD .skip
noncomputable def N_63 (o : outs [.io (.slice .int) 1, .v .int]) (r : dens [.v .int]) : (List (List Int)) × Int := (o.1, r)
noncomputable def E_64 : Entry where
 params := [.io (.pair (.slice .int) (.pair .int (.slice (.slice .int)))) 2, .v .int]
 results := [.v .int]
 B := (List ((List Int) × Int × (List (List Int)))) × Int
 run := fun a => laws_markConstraintS a.1 a.2
 out := fun b => (b.1, ())
 res := fun b => b.2
noncomputable def S_64L2 (n : Nat) : LoopSpec where
 sh := [(0, .io (.pair (.slice .int) (.pair .int (.slice (.slice .int)))) 2), (1, .v .int), (5, .v .int)]
 ex := [(.exit 0, [(0, .io (.pair (.slice .int) (.pair .int (.slice (.slice .int)))) 2), (1, .v .int)])]
 run := laws_markConstraintS_L2 n
noncomputable def C_64 : Cx where
 tt := tblTT tt
 T := tblT [(15, E_62), (67, E_63)]
 L := tblL [(2, S_64L2 fuel)]
 dep := fun i => 0
 n := 2
noncomputable def B_64L2 : Code := (Try.f66.body.bind (loopBody 2)).getD .skip
noncomputable def D_64 : Code := Try.f66.body.getD .skip
noncomputable def N_64 (o : outs [.io (.pair (.slice .int) (.pair .int (.slice (.slice .int)))) 2, .v .int]) (r : dens [.v .int]) : (List ((List Int) × Int × (List (List Int)))) × Int := (o.1, r)
noncomputable def E_65 : Entry where
 params := [.pr (.v .int) (.pr (.v .int) (.io (.pair (.slice .int) (.pair .int (.slice (.slice .int)))) 2)), .v .int]
 results := [.v .int]
 B := (Unit × (Unit × (List ((List Int) × Int × (List (List Int)))))) × Int
 run := fun a => laws_markNetwork a.1 a.2
 out := fun b => (b.1, ())
 res := fun b => b.2
noncomputable def C_65 : Cx where
 tt := tblTT tt
 T := tblT [(66, E_64)]
 L := tblL []
 dep := fun i => 0
 n := 2
noncomputable def D_65 : Code := Try.f14.body.getD .skip
noncomputable def N_65 (o : outs [.pr (.v .int) (.pr (.v .int) (.io (.pair (.slice .int) (.pair .int (.slice (.slice .int)))) 2)), .v .int]) (r : dens [.v .int]) : (Unit × (Unit × (List ((List Int) × Int × (List (List Int)))))) × Int := (o.1, r)
noncomputable def E_66 : Entry where
 params := [.pr (.v .int) (.io (.slice .int) 1), .v .int]
 results := [.v .int]
 B := (Unit × (List (List Int))) × Int
 run := fun a => laws_markRelation a.1 a.2
 out := fun b => (b.1, ())
 res := fun b => b.2
noncomputable def C_66 : Cx where
 tt := tblTT tt
 T := tblT [(67, E_63)]
 L := tblL []
 dep := fun i => 0
 n := 2
noncomputable def D_66 : Code := Try.f16.body.getD .skip
noncomputable def N_66 (o : outs [.pr (.v .int) (.io (.slice .int) 1), .v .int]) (r : dens [.v .int]) : (Unit × (List (List Int))) × Int := (o.1, r)
noncomputable def E_67 : Entry where
 params := [.v (.slice .int), .v .int]
 results := [.v .int]
 B := Int
 run := fun a => laws_heldIntS a.1 a.2
 out := fun b => ((), ())
 res := fun b => b
noncomputable def S_67L2 (n : Nat) : LoopSpec where
 sh := [(0, .v (.slice .int)), (1, .v .int), (5, .v .int)]
 ex := [(.exit 0, [(1, .v .int)]), (.ret, [(4, .v .int)])]
 run := laws_heldIntS_L2 n
noncomputable def C_67 : Cx where
 tt := tblTT tt
 T := tblT []
 L := tblL [(2, S_67L2 fuel)]
 dep := fun i => 0
 n := 2
noncomputable def B_67L2 : Code := (Try.f116.body.bind (loopBody 2)).getD .skip
noncomputable def D_67 : Code := Try.f116.body.getD .skip
noncomputable def N_67 (_ : outs [.v (.slice .int), .v .int]) (r : dens [.v .int]) : Int := r
noncomputable def E_68 : Entry where
 params := [.v (.slice (.slice .int)), .v .int]
 results := [.v .int]
 B := Int
 run := fun a => laws_heldIntSS a.1 a.2
 out := fun b => ((), ())
 res := fun b => b
noncomputable def S_68L2 (n : Nat) : LoopSpec where
 sh := [(0, .v (.slice (.slice .int))), (1, .v .int), (5, .v .int)]
 ex := [(.exit 0, [(1, .v .int)]), (.ret, [(4, .v .int)])]
 run := laws_heldIntSS_L2 n
noncomputable def C_68 : Cx where
 tt := tblTT tt
 T := tblT [(116, E_67)]
 L := tblL [(2, S_68L2 fuel)]
 dep := fun i => 0
 n := 2
noncomputable def B_68L2 : Code := (Try.f68.body.bind (loopBody 2)).getD .skip
noncomputable def D_68 : Code := Try.f68.body.getD .skip
noncomputable def N_68 (_ : outs [.v (.slice (.slice .int)), .v .int]) (r : dens [.v .int]) : Int := r
noncomputable def E_69 : Entry where
 params := [.v (.pair .int (.slice (.slice .int))), .v .int]
 results := [.v .int]
 B := Int
 run := fun a => laws_heldRelation a.1 a.2
 out := fun b => ((), ())
 res := fun b => b
noncomputable def C_69 : Cx where
 tt := tblTT tt
 T := tblT [(68, E_68)]
 L := tblL []
 dep := fun i => 0
 n := 2
noncomputable def D_69 : Code := Try.f17.body.getD .skip
noncomputable def N_69 (_ : outs [.v (.pair .int (.slice (.slice .int))), .v .int]) (r : dens [.v .int]) : Int := r
noncomputable def E_70 : Entry where
 params := [.v (.pair .int (.pair .int (.slice (.pair (.slice .int) (.pair .int (.slice (.slice .int))))))), .v (.slice .int)]
 results := [.v .bool]
 B := Bool
 run := fun a => laws_FnExactSolutionRelation a.1 a.2
 out := fun b => ((), ())
 res := fun b => b
noncomputable def C_70 : Cx where
 tt := tblTT tt
 T := tblT [(6, E_6), (7, E_32), (8, E_12), (9, E_7), (10, E_55), (11, E_58), (12, E_61), (13, E_56), (14, E_65), (15, E_62), (16, E_66), (17, E_69)]
 L := tblL []
 dep := fun i => 0
 n := 2
noncomputable def D_70 : Code := Try.f3.body.getD .skip
noncomputable def N_70 (_ : outs [.v (.pair .int (.pair .int (.slice (.pair (.slice .int) (.pair .int (.slice (.slice .int))))))), .v (.slice .int)]) (r : dens [.v .bool]) : Bool := r
end T
