/- Contexts of the typed functions; no conditions. -/
import Derived.Test.YtkfjpjmgfijkgaaV5
import Derived.Test.YtkfjpjmgfijkgaaProg
import Derived.Test.YtkfjpjmgfijkgaaPFnExactConflictCore
import Derived.KernelRfl
set_option linter.all false
set_option linter.unusedVariables false
set_option maxRecDepth 10000
open Go Go.Va Go.Proofs
namespace T
noncomputable def tt : List (Nat × TI) := [
 (2, { ty := .int }),
 (3, { ty := .int }),
 (4, { ty := .bool }),
 (5, { ty := (.num .u8) }),
 (9, { ty := .str }),
 (22, { ty := (.slice (.pair (.slice .int) (.pair .int (.slice (.slice .int))))), elem := 109 }),
 (24, { ty := (.pair .int (.pair .int (.slice (.pair (.slice .int) (.pair .int (.slice (.slice .int))))))), fields := [3, 3, 22] }),
 (26, { ty := (.slice .int), elem := 3 }),
 (29, { ty := (.slice (.pair (.slice .int) (.pair .int (.slice (.slice .int))))), elem := 63 }),
 (31, { ty := (.pair .int (.pair .int (.slice (.pair (.slice .int) (.pair .int (.slice (.slice .int))))))), fields := [3, 3, 29] }),
 (59, { ty := (.slice (.slice .int)), elem := 26 }),
 (61, { ty := (.pair .int (.slice (.slice .int))), fields := [3, 59] }),
 (63, { ty := (.pair (.slice .int) (.pair .int (.slice (.slice .int)))), fields := [26, 61] }),
 (69, { ty := (.pair .int (.slice (.slice .int))), fields := [3, 59] }),
 (83, { ty := (.op false) }),
 (91, { ty := (.pair (.slice (.slice .int)) (.pair .int (.pair .int .bool))), fields := [59, 3, 3, 4] }),
 (109, { ty := (.pair (.slice .int) (.pair .int (.slice (.slice .int)))), fields := [26, 69] }),
 (113, { ty := (.op false) }),
 (133, { ty := (.slice (.slice (.pair (.slice .int) (.pair .int (.slice (.slice .int)))))), elem := 29 }),
 (136, { ty := (.op true) }),
 (165, { ty := .smap }),
 (173, { ty := (.slice (.slice (.slice .int))), elem := 59 }),
 (174, { ty := (.slice (.slice .smap)), elem := 177 }),
 (176, { ty := (.pair .int (.pair (.slice (.slice (.slice .int))) (.slice (.slice .smap)))), fields := [3, 173, 174] }),
 (177, { ty := (.slice .smap), elem := 165 }),
 (197, { ty := (.slice (.num .u8)), elem := 5 }),
 (198, { ty := (.num .u64) })]
theorem tabT : tabOk Try.prog tt = true := by kernel_rfl
theorem mixT : Try.prog.follows .mixedOrders = true := by kernel_rfl
noncomputable def E_1 : Entry where
 params := [.v (.slice .int), .v .int]
 results := [.v .int]
 B := Int
 run := fun a => laws_szIntS a.1 a.2
 out := fun b => ((), ())
 res := fun b => b
noncomputable def C_1 : Cx where
 tt := tblTT tt
 T := tblT []
 L := tblL []
 dep := fun i => 0
 n := 2
noncomputable def D_1 : Code := Try.f133.body.getD .skip
noncomputable def N_1 (_ : outs [.v (.slice .int), .v .int]) (r : dens [.v .int]) : Int := r
noncomputable def E_2 : Entry where
 params := [.v (.slice (.slice .int)), .v .int]
 results := [.v .int]
 B := Int
 run := fun a => laws_szIntSS a.1 a.2
 out := fun b => ((), ())
 res := fun b => b
noncomputable def S_2L5 (n : Nat) : LoopSpec where
 sh := [(0, .v (.slice (.slice .int))), (1, .v .int), (5, .v .int)]
 ex := [(.exit 0, [(1, .v .int)]), (.ret, [(4, .v .int)])]
 run := laws_szIntSS_L5 n
noncomputable def C_2 : Cx where
 tt := tblTT tt
 T := tblT [(133, E_1)]
 L := tblL [(5, S_2L5 fuel)]
 dep := fun i => 0
 n := 2
noncomputable def B_2L5 : Code := (Try.f87.body.bind (loopBody 5)).getD .skip
noncomputable def D_2 : Code := Try.f87.body.getD .skip
noncomputable def N_2 (_ : outs [.v (.slice (.slice .int)), .v .int]) (r : dens [.v .int]) : Int := r
noncomputable def E_3 : Entry where
 params := [.v (.pair .int (.slice (.slice .int))), .v .int]
 results := [.v .int]
 B := Int
 run := fun a => laws_szRelation a.1 a.2
 out := fun b => ((), ())
 res := fun b => b
noncomputable def C_3 : Cx where
 tt := tblTT tt
 T := tblT [(87, E_2)]
 L := tblL []
 dep := fun i => 0
 n := 2
noncomputable def D_3 : Code := Try.f43.body.getD .skip
noncomputable def N_3 (_ : outs [.v (.pair .int (.slice (.slice .int))), .v .int]) (r : dens [.v .int]) : Int := r
noncomputable def E_4 : Entry where
 params := [.v (.pair (.slice .int) (.pair .int (.slice (.slice .int)))), .v .int]
 results := [.v .int]
 B := Int
 run := fun a => laws_szConstraint a.1 a.2
 out := fun b => ((), ())
 res := fun b => b
noncomputable def C_4 : Cx where
 tt := tblTT tt
 T := tblT [(43, E_3), (133, E_1)]
 L := tblL []
 dep := fun i => 0
 n := 2
noncomputable def D_4 : Code := Try.f78.body.getD .skip
noncomputable def N_4 (_ : outs [.v (.pair (.slice .int) (.pair .int (.slice (.slice .int)))), .v .int]) (r : dens [.v .int]) : Int := r
noncomputable def E_5 : Entry where
 params := [.v (.slice (.pair (.slice .int) (.pair .int (.slice (.slice .int))))), .v .int]
 results := [.v .int]
 B := Int
 run := fun a => laws_szConstraintS a.1 a.2
 out := fun b => ((), ())
 res := fun b => b
noncomputable def S_5L5 (n : Nat) : LoopSpec where
 sh := [(0, .v (.slice (.pair (.slice .int) (.pair .int (.slice (.slice .int)))))), (1, .v .int), (5, .v .int)]
 ex := [(.exit 0, [(1, .v .int)]), (.ret, [(4, .v .int)])]
 run := laws_szConstraintS_L5 n
noncomputable def C_5 : Cx where
 tt := tblTT tt
 T := tblT [(78, E_4)]
 L := tblL [(5, S_5L5 fuel)]
 dep := fun i => 0
 n := 2
noncomputable def B_5L5 : Code := (Try.f32.body.bind (loopBody 5)).getD .skip
noncomputable def D_5 : Code := Try.f32.body.getD .skip
noncomputable def N_5 (_ : outs [.v (.slice (.pair (.slice .int) (.pair .int (.slice (.slice .int))))), .v .int]) (r : dens [.v .int]) : Int := r
noncomputable def E_6 : Entry where
 params := [.v (.pair .int (.pair .int (.slice (.pair (.slice .int) (.pair .int (.slice (.slice .int))))))), .v .int]
 results := [.v .int]
 B := Int
 run := fun a => laws_szNetwork a.1 a.2
 out := fun b => ((), ())
 res := fun b => b
noncomputable def C_6 : Cx where
 tt := tblTT tt
 T := tblT [(32, E_5)]
 L := tblL []
 dep := fun i => 0
 n := 2
noncomputable def D_6 : Code := Try.f8.body.getD .skip
noncomputable def N_6 (_ : outs [.v (.pair .int (.pair .int (.slice (.pair (.slice .int) (.pair .int (.slice (.slice .int))))))), .v .int]) (r : dens [.v .int]) : Int := r
noncomputable def E_7 : Entry where
 params := [.v (.slice .int)]
 results := [.mv .int 0]
 B := (List Int)
 run := fun a => laws_toIntS a
 out := fun b => ()
 res := fun b => b
noncomputable def S_7L3 (n : Nat) : LoopSpec where
 sh := [(0, .v (.slice .int)), (3, .mv .int 0), (4, .v .int)]
 ex := [(.exit 0, [(3, .mv .int 0)])]
 run := laws_toIntS_L3 n
noncomputable def C_7 : Cx where
 tt := tblTT tt
 T := tblT []
 L := tblL [(3, S_7L3 fuel)]
 dep := fun i => 0
 n := 1
noncomputable def B_7L3 : Code := (Try.f136.body.bind (loopBody 3)).getD .skip
noncomputable def D_7 : Code := Try.f136.body.getD .skip
noncomputable def N_7 (_ : outs [.v (.slice .int)]) (r : dens [.mv .int 0]) : (List Int) := r
noncomputable def E_8 : Entry where
 params := [.v (.slice (.slice .int))]
 results := [.mv (.slice .int) 1]
 B := (List (List Int))
 run := fun a => laws_toIntSS a
 out := fun b => ()
 res := fun b => b
noncomputable def S_8L3 (n : Nat) : LoopSpec where
 sh := [(0, .v (.slice (.slice .int))), (3, .mv (.slice .int) 1), (4, .v .int)]
 ex := [(.exit 0, [(3, .mv (.slice .int) 1)])]
 run := laws_toIntSS_L3 n
noncomputable def C_8 : Cx where
 tt := tblTT tt
 T := tblT [(136, E_7)]
 L := tblL [(3, S_8L3 fuel)]
 dep := fun i => match i with
  | 7 => 1
  | _ => 0
 n := 1
noncomputable def B_8L3 : Code := (Try.f95.body.bind (loopBody 3)).getD .skip
noncomputable def D_8 : Code := Try.f95.body.getD .skip
noncomputable def N_8 (_ : outs [.v (.slice (.slice .int))]) (r : dens [.mv (.slice .int) 1]) : (List (List Int)) := r
noncomputable def E_9 : Entry where
 params := [.v (.pair .int (.slice (.slice .int)))]
 results := [.pr (.v .int) (.mv (.slice .int) 1)]
 B := (Int × (List (List Int)))
 run := fun a => laws_toRelation a
 out := fun b => ()
 res := fun b => b
noncomputable def C_9 : Cx where
 tt := tblTT tt
 T := tblT [(95, E_8)]
 L := tblL []
 dep := fun i => 0
 n := 1
noncomputable def D_9 : Code := Try.f49.body.getD .skip
noncomputable def N_9 (_ : outs [.v (.pair .int (.slice (.slice .int)))]) (r : dens [.pr (.v .int) (.mv (.slice .int) 1)]) : (Int × (List (List Int))) := r
noncomputable def E_10 : Entry where
 params := [.v (.pair (.slice .int) (.pair .int (.slice (.slice .int))))]
 results := [.pr (.mv .int 0) (.pr (.v .int) (.mv (.slice .int) 1))]
 B := ((List Int) × (Int × (List (List Int))))
 run := fun a => laws_toConstraint a
 out := fun b => ()
 res := fun b => b
noncomputable def C_10 : Cx where
 tt := tblTT tt
 T := tblT [(49, E_9), (136, E_7)]
 L := tblL []
 dep := fun i => 0
 n := 1
noncomputable def D_10 : Code := Try.f81.body.getD .skip
noncomputable def N_10 (_ : outs [.v (.pair (.slice .int) (.pair .int (.slice (.slice .int))))]) (r : dens [.pr (.mv .int 0) (.pr (.v .int) (.mv (.slice .int) 1))]) : ((List Int) × (Int × (List (List Int)))) := r
noncomputable def E_11 : Entry where
 params := [.v (.slice (.pair (.slice .int) (.pair .int (.slice (.slice .int)))))]
 results := [.mv (.pair (.slice .int) (.pair .int (.slice (.slice .int)))) 2]
 B := (List ((List Int) × Int × (List (List Int))))
 run := fun a => laws_toConstraintS a
 out := fun b => ()
 res := fun b => b
noncomputable def S_11L3 (n : Nat) : LoopSpec where
 sh := [(0, .v (.slice (.pair (.slice .int) (.pair .int (.slice (.slice .int)))))), (3, .mv (.pair (.slice .int) (.pair .int (.slice (.slice .int)))) 2), (4, .v .int)]
 ex := [(.exit 0, [(3, .mv (.pair (.slice .int) (.pair .int (.slice (.slice .int)))) 2)])]
 run := laws_toConstraintS_L3 n
noncomputable def C_11 : Cx where
 tt := tblTT tt
 T := tblT [(81, E_10)]
 L := tblL [(3, S_11L3 fuel)]
 dep := fun i => match i with
  | 7 => 2
  | _ => 0
 n := 1
noncomputable def B_11L3 : Code := (Try.f36.body.bind (loopBody 3)).getD .skip
noncomputable def D_11 : Code := Try.f36.body.getD .skip
noncomputable def N_11 (_ : outs [.v (.slice (.pair (.slice .int) (.pair .int (.slice (.slice .int)))))]) (r : dens [.mv (.pair (.slice .int) (.pair .int (.slice (.slice .int)))) 2]) : (List ((List Int) × Int × (List (List Int)))) := r
noncomputable def E_12 : Entry where
 params := [.v (.pair .int (.pair .int (.slice (.pair (.slice .int) (.pair .int (.slice (.slice .int)))))))]
 results := [.pr (.v .int) (.pr (.v .int) (.mv (.pair (.slice .int) (.pair .int (.slice (.slice .int)))) 2))]
 B := (Int × (Int × (List ((List Int) × Int × (List (List Int))))))
 run := fun a => laws_toNetwork a
 out := fun b => ()
 res := fun b => b
noncomputable def C_12 : Cx where
 tt := tblTT tt
 T := tblT [(36, E_11)]
 L := tblL []
 dep := fun i => 0
 n := 1
noncomputable def D_12 : Code := Try.f10.body.getD .skip
noncomputable def N_12 (_ : outs [.v (.pair .int (.pair .int (.slice (.pair (.slice .int) (.pair .int (.slice (.slice .int)))))))]) (r : dens [.pr (.v .int) (.pr (.v .int) (.mv (.pair (.slice .int) (.pair .int (.slice (.slice .int)))) 2))]) : (Int × (Int × (List ((List Int) × Int × (List (List Int)))))) := r
noncomputable def E_13 : Entry where
 params := [.v .int, .v .int, .v .int]
 results := [.v .bool]
 B := Bool
 run := fun a => spec_l1In a.1 a.2.1 a.2.2
 out := fun b => ((), (), ())
 res := fun b => b
noncomputable def C_13 : Cx where
 tt := tblTT tt
 T := tblT []
 L := tblL []
 dep := fun i => 0
 n := 3
noncomputable def D_13 : Code := Try.f79.body.getD .skip
noncomputable def N_13 (_ : outs [.v .int, .v .int, .v .int]) (r : dens [.v .bool]) : Bool := r
noncomputable def E_14 : Entry where
 params := [.v .int, .v .int]
 results := [.v .int]
 B := Int
 run := fun a => spec_l2Pow a.1 a.2
 out := fun b => ((), ())
 res := fun b => b
noncomputable def S_14L2 (n : Nat) : LoopSpec where
 sh := [(0, .v .int), (1, .v .int), (5, .v .int)]
 ex := [(.exit 0, [(5, .v .int)])]
 run := spec_l2Pow_L2 n
noncomputable def C_14 : Cx where
 tt := tblTT tt
 T := tblT []
 L := tblL [(2, S_14L2 fuel)]
 dep := fun i => 0
 n := 2
noncomputable def B_14L2 : Code := (Try.f92.body.bind (loopBody 2)).getD .skip
noncomputable def D_14 : Code := Try.f92.body.getD .skip
noncomputable def N_14 (_ : outs [.v .int, .v .int]) (r : dens [.v .int]) : Int := r
noncomputable def E_15 : Entry where
 params := [.v .int, .v (.slice .int)]
 results := [.v .bool]
 B := Bool
 run := fun a => spec_l2Elements a.1 a.2
 out := fun b => ((), ())
 res := fun b => b
noncomputable def S_15L2 (n : Nat) : LoopSpec where
 sh := [(0, .v .int), (1, .v (.slice .int)), (5, .v .int)]
 ex := [(.exit 0, []), (.ret, [(4, .v .bool)])]
 run := spec_l2Elements_L2 n
noncomputable def C_15 : Cx where
 tt := tblTT tt
 T := tblT [(79, E_13)]
 L := tblL [(2, S_15L2 fuel)]
 dep := fun i => 0
 n := 2
noncomputable def B_15L2 : Code := (Try.f135.body.bind (loopBody 2)).getD .skip
noncomputable def D_15 : Code := Try.f135.body.getD .skip
noncomputable def N_15 (_ : outs [.v .int, .v (.slice .int)]) (r : dens [.v .bool]) : Bool := r
noncomputable def E_16 : Entry where
 params := [.v .int, .v .int, .v (.slice .int)]
 results := [.v .bool]
 B := Bool
 run := fun a => spec_l8Tuple a.1 a.2.1 a.2.2
 out := fun b => ((), (), ())
 res := fun b => b
noncomputable def C_16 : Cx where
 tt := tblTT tt
 T := tblT [(135, E_15)]
 L := tblL []
 dep := fun i => 0
 n := 3
noncomputable def D_16 : Code := Try.f172.body.getD .skip
noncomputable def N_16 (_ : outs [.v .int, .v .int, .v (.slice .int)]) (r : dens [.v .bool]) : Bool := r
noncomputable def E_17 : Entry where
 params := [.v (.slice .int), .v (.slice .int)]
 results := [.v .bool]
 B := Bool
 run := fun a => spec_l3Less a.1 a.2
 out := fun b => ((), ())
 res := fun b => b
noncomputable def S_17L2 (n : Nat) : LoopSpec where
 sh := [(0, .v (.slice .int)), (1, .v (.slice .int)), (5, .v .int)]
 ex := [(.exit 0, []), (.ret, [(4, .v .bool)])]
 run := spec_l3Less_L2 n
noncomputable def C_17 : Cx where
 tt := tblTT tt
 T := tblT []
 L := tblL [(2, S_17L2 fuel)]
 dep := fun i => 0
 n := 2
noncomputable def B_17L2 : Code := (Try.f173.body.bind (loopBody 2)).getD .skip
noncomputable def D_17 : Code := Try.f173.body.getD .skip
noncomputable def N_17 (_ : outs [.v (.slice .int), .v (.slice .int)]) (r : dens [.v .bool]) : Bool := r
noncomputable def E_18 : Entry where
 params := [.v .int, .v (.pair .int (.slice (.slice .int)))]
 results := [.v .bool]
 B := Bool
 run := fun a => spec_l13Good a.1 a.2
 out := fun b => ((), ())
 res := fun b => b
noncomputable def S_18L4 (n : Nat) : LoopSpec where
 sh := [(0, .v .int), (3, .bx (.v (.pair .int (.slice (.slice .int))))), (5, .v .int)]
 ex := [(.exit 0, []), (.ret, [(4, .v .bool)])]
 run := spec_l13Good_L4 n
noncomputable def C_18 : Cx where
 tt := tblTT tt
 T := tblT [(79, E_13), (92, E_14), (172, E_16), (173, E_17)]
 L := tblL [(4, S_18L4 fuel)]
 dep := fun i => 0
 n := 2
noncomputable def B_18L4 : Code := (Try.f134.body.bind (loopBody 4)).getD .skip
noncomputable def D_18 : Code := Try.f134.body.getD .skip
noncomputable def N_18 (_ : outs [.v .int, .v (.pair .int (.slice (.slice .int)))]) (r : dens [.v .bool]) : Bool := r
noncomputable def E_19 : Entry where
 params := [.v .int, .v .int, .v (.pair (.slice .int) (.pair .int (.slice (.slice .int))))]
 results := [.v .bool]
 B := Bool
 run := fun a => spec_l19Is a.1 a.2.1 a.2.2
 out := fun b => ((), (), ())
 res := fun b => b
noncomputable def C_19 : Cx where
 tt := tblTT tt
 T := tblT [(134, E_18), (135, E_15)]
 L := tblL []
 dep := fun i => 0
 n := 3
noncomputable def D_19 : Code := Try.f80.body.getD .skip
noncomputable def N_19 (_ : outs [.v .int, .v .int, .v (.pair (.slice .int) (.pair .int (.slice (.slice .int))))]) (r : dens [.v .bool]) : Bool := r
noncomputable def E_20 : Entry where
 params := [.v (.pair .int (.pair .int (.slice (.pair (.slice .int) (.pair .int (.slice (.slice .int)))))))]
 results := [.v .bool]
 B := Bool
 run := fun a => spec_l19Good a
 out := fun b => ()
 res := fun b => b
noncomputable def S_20L4 (n : Nat) : LoopSpec where
 sh := [(1, .bx (.v (.pair .int (.pair .int (.slice (.pair (.slice .int) (.pair .int (.slice (.slice .int))))))))), (3, .v .int)]
 ex := [(.exit 0, []), (.ret, [(2, .v .bool)])]
 run := spec_l19Good_L4 n
noncomputable def C_20 : Cx where
 tt := tblTT tt
 T := tblT [(79, E_13), (80, E_19)]
 L := tblL [(4, S_20L4 fuel)]
 dep := fun i => 0
 n := 1
noncomputable def B_20L4 : Code := (Try.f33.body.bind (loopBody 4)).getD .skip
noncomputable def D_20 : Code := Try.f33.body.getD .skip
noncomputable def N_20 (_ : outs [.v (.pair .int (.pair .int (.slice (.pair (.slice .int) (.pair .int (.slice (.slice .int)))))))]) (r : dens [.v .bool]) : Bool := r
noncomputable def E_21 : Entry where
 params := [.v .int]
 results := [.mv .int 0]
 B := (List Int)
 run := fun a => spec_l14Free a
 out := fun b => ()
 res := fun b => b
noncomputable def S_21L3 (n : Nat) : LoopSpec where
 sh := [(0, .v .int), (3, .mv .int 0), (4, .v .int)]
 ex := [(.exit 0, [(3, .mv .int 0)])]
 run := spec_l14Free_L3 n
noncomputable def C_21 : Cx where
 tt := tblTT tt
 T := tblT []
 L := tblL [(3, S_21L3 fuel)]
 dep := fun i => 0
 n := 1
noncomputable def B_21L3 : Code := (Try.f59.body.bind (loopBody 3)).getD .skip
noncomputable def D_21 : Code := Try.f59.body.getD .skip
noncomputable def N_21 (_ : outs [.v .int]) (r : dens [.mv .int 0]) : (List Int) := r
noncomputable def E_22 : Entry where
 params := [.v .int, .v .int]
 results := [.v .int]
 B := Int
 run := fun a => spec_l1Most a.1 a.2
 out := fun b => ((), ())
 res := fun b => b
noncomputable def C_22 : Cx where
 tt := tblTT tt
 T := tblT []
 L := tblL []
 dep := fun i => 0
 n := 2
noncomputable def D_22 : Code := Try.f142.body.getD .skip
noncomputable def N_22 (_ : outs [.v .int, .v .int]) (r : dens [.v .int]) : Int := r
noncomputable def E_23 : Entry where
 params := [.v .int, .v (.slice (.pair (.slice .int) (.pair .int (.slice (.slice .int)))))]
 results := [.mv (.slice (.pair (.slice .int) (.pair .int (.slice (.slice .int))))) 1]
 B := (List (List ((List Int) × Int × (List (List Int)))))
 run := fun a => spec_l19Most a.1 a.2
 out := fun b => ((), ())
 res := fun b => b
noncomputable def S_23L7 (n : Nat) : LoopSpec where
 sh := [(1, .v (.slice (.pair (.slice .int) (.pair .int (.slice (.slice .int)))))), (5, .mv (.slice (.pair (.slice .int) (.pair .int (.slice (.slice .int))))) 1), (6, .v .int), (7, .v .int), (8, .v .int)]
 ex := [(.exit 2, [(1, .v (.slice (.pair (.slice .int) (.pair .int (.slice (.slice .int)))))), (5, .mv (.slice (.pair (.slice .int) (.pair .int (.slice (.slice .int))))) 1), (6, .v .int), (7, .v .int)])]
 run := spec_l19Most_L7 n
noncomputable def S_23L3 (n : Nat) : LoopSpec where
 sh := [(1, .v (.slice (.pair (.slice .int) (.pair .int (.slice (.slice .int)))))), (5, .mv (.slice (.pair (.slice .int) (.pair .int (.slice (.slice .int))))) 1), (6, .v .int)]
 ex := [(.exit 0, [(5, .mv (.slice (.pair (.slice .int) (.pair .int (.slice (.slice .int))))) 1)])]
 run := spec_l19Most_L3 n
noncomputable def C_23 : Cx where
 tt := tblTT tt
 T := tblT [(142, E_22)]
 L := tblL [(7, S_23L7 fuel), (3, S_23L3 fuel)]
 dep := fun i => match i with
  | 10 => 1
  | _ => 0
 n := 2
 fine := true
noncomputable def B_23L7 : Code := (Try.f109.body.bind (loopBody 7)).getD .skip
noncomputable def B_23L3 : Code := (Try.f109.body.bind (loopBody 3)).getD .skip
noncomputable def D_23 : Code := Try.f109.body.getD .skip
noncomputable def N_23 (_ : outs [.v .int, .v (.slice (.pair (.slice .int) (.pair .int (.slice (.slice .int)))))]) (r : dens [.mv (.slice (.pair (.slice .int) (.pair .int (.slice (.slice .int))))) 1]) : (List (List ((List Int) × Int × (List (List Int))))) := r
noncomputable def E_24 : Entry where
 params := [.v (.slice .int)]
 results := [.mv .int 0]
 B := (List Int)
 run := fun a => spec_l1Own a
 out := fun b => ()
 res := fun b => b
noncomputable def C_24 : Cx where
 tt := tblTT tt
 T := tblT []
 L := tblL []
 dep := fun i => 0
 n := 1
noncomputable def D_24 : Code := Try.f122.body.getD .skip
noncomputable def N_24 (_ : outs [.v (.slice .int)]) (r : dens [.mv .int 0]) : (List Int) := r
noncomputable def E_25 : Entry where
 params := [.v (.slice .int), .v (.slice .int)]
 results := [.v .bool]
 B := Bool
 run := fun a => spec_l1Same a.1 a.2
 out := fun b => ((), ())
 res := fun b => b
noncomputable def S_25L4 (n : Nat) : LoopSpec where
 sh := [(0, .v (.slice .int)), (1, .v (.slice .int)), (5, .v .int)]
 ex := [(.exit 0, []), (.ret, [(4, .v .bool)])]
 run := spec_l1Same_L4 n
noncomputable def C_25 : Cx where
 tt := tblTT tt
 T := tblT []
 L := tblL [(4, S_25L4 fuel)]
 dep := fun i => 0
 n := 2
noncomputable def B_25L4 : Code := (Try.f192.body.bind (loopBody 4)).getD .skip
noncomputable def D_25 : Code := Try.f192.body.getD .skip
noncomputable def N_25 (_ : outs [.v (.slice .int), .v (.slice .int)]) (r : dens [.v .bool]) : Bool := r
noncomputable def E_26 : Entry where
 params := [.v (.slice (.slice .int)), .v (.slice .int)]
 results := [.v .int, .v .bool]
 B := Int × Bool
 run := fun a => spec_l8Find a.1 a.2
 out := fun b => ((), ())
 res := fun b => (b.1, b.2)
noncomputable def S_26L2 (n : Nat) : LoopSpec where
 sh := [(0, .v (.slice (.slice .int))), (1, .v (.slice .int)), (6, .v .int), (7, .v .int)]
 ex := [(.exit 0, [(0, .v (.slice (.slice .int))), (1, .v (.slice .int)), (6, .v .int)])]
 run := spec_l8Find_L2 n
noncomputable def C_26 : Cx where
 tt := tblTT tt
 T := tblT [(173, E_17), (192, E_25)]
 L := tblL [(2, S_26L2 fuel)]
 dep := fun i => 0
 n := 2
noncomputable def B_26L2 : Code := (Try.f178.body.bind (loopBody 2)).getD .skip
noncomputable def D_26 : Code := Try.f178.body.getD .skip
noncomputable def N_26 (_ : outs [.v (.slice (.slice .int)), .v (.slice .int)]) (r : dens [.v .int, .v .bool]) : Int × Bool := (r.1, r.2)
noncomputable def E_27 : Entry where
 params := [.v (.pair .int (.slice (.slice .int))), .v (.slice .int)]
 results := [.v .bool]
 B := Bool
 run := fun a => spec_l13Has a.1 a.2
 out := fun b => ((), ())
 res := fun b => b
noncomputable def C_27 : Cx where
 tt := tblTT tt
 T := tblT [(178, E_26)]
 L := tblL []
 dep := fun i => 0
 n := 2
noncomputable def D_27 : Code := Try.f156.body.getD .skip
noncomputable def N_27 (_ : outs [.v (.pair .int (.slice (.slice .int))), .v (.slice .int)]) (r : dens [.v .bool]) : Bool := r
noncomputable def E_28 : Entry where
 params := [.v (.pair (.slice .int) (.pair .int (.slice (.slice .int)))), .v (.slice .int)]
 results := [.v .bool]
 B := Bool
 run := fun a => spec_l19Satisfies a.1 a.2
 out := fun b => ((), ())
 res := fun b => b
noncomputable def S_28L3 (n : Nat) : LoopSpec where
 sh := [(1, .v (.slice .int)), (2, .bx (.v (.pair (.slice .int) (.pair .int (.slice (.slice .int)))))), (5, .mv .int 0), (6, .v .int)]
 ex := [(.exit 0, [(2, .bx (.v (.pair (.slice .int) (.pair .int (.slice (.slice .int)))))), (5, .mv .int 0)])]
 run := spec_l19Satisfies_L3 n
noncomputable def C_28 : Cx where
 tt := tblTT tt
 T := tblT [(156, E_27)]
 L := tblL [(3, S_28L3 fuel)]
 dep := fun i => 0
 n := 2
noncomputable def B_28L3 : Code := (Try.f152.body.bind (loopBody 3)).getD .skip
noncomputable def D_28 : Code := Try.f152.body.getD .skip
noncomputable def N_28 (_ : outs [.v (.pair (.slice .int) (.pair .int (.slice (.slice .int)))), .v (.slice .int)]) (r : dens [.v .bool]) : Bool := r
noncomputable def E_29_of (rec : (Int × (List (List ((List Int) × Int × (List (List Int))))) × (List Int) × (List Int) × ((List (List Int)) × (Int × Int × Bool))) → Option (((List (List Int)) × (Int × Int × Bool)))) : Entry where
 params := [.v .int, .v (.slice (.slice (.pair (.slice .int) (.pair .int (.slice (.slice .int)))))), .v (.slice .int), .v (.slice .int), .pr (.mv (.slice .int) 1) (.v (.pair .int (.pair .int .bool)))]
 results := [.pr (.mv (.slice .int) 1) (.v (.pair .int (.pair .int .bool)))]
 B := ((List (List Int)) × (Int × Int × Bool))
 run := rec
 out := fun b => ((), (), (), (), ((), ()))
 res := fun b => b
noncomputable def E_29 (d : Nat) : Entry := E_29_of (spec_l19Go d)
noncomputable def S_29L14 (rec : (Int × (List (List ((List Int) × Int × (List (List Int))))) × (List Int) × (List Int) × ((List (List Int)) × (Int × Int × Bool))) → Option (((List (List Int)) × (Int × Int × Bool)))) (n : Nat) : LoopSpec where
 sh := [(0, .v .int), (1, .v (.slice (.slice (.pair (.slice .int) (.pair .int (.slice (.slice .int))))))), (2, .v (.slice .int)), (3, .v (.slice .int)), (9, .bx (.pr (.mv (.slice .int) 1) (.v (.pair .int (.pair .int .bool))))), (10, .bx (.pr (.mv (.slice .int) 1) (.v (.pair .int (.pair .int .bool))))), (11, .v .int), (12, .v .int), (13, .mv .int 0), (14, .v .bool), (15, .v .int)]
 ex := [(.exit 2, [(0, .v .int), (1, .v (.slice (.slice (.pair (.slice .int) (.pair .int (.slice (.slice .int))))))), (2, .v (.slice .int)), (3, .v (.slice .int)), (9, .bx (.pr (.mv (.slice .int) 1) (.v (.pair .int (.pair .int .bool))))), (10, .bx (.pr (.mv (.slice .int) 1) (.v (.pair .int (.pair .int .bool))))), (11, .v .int), (12, .v .int), (13, .mv .int 0), (14, .v .bool)])]
 run := spec_l19Go_L14 rec n
noncomputable def S_29L8 (rec : (Int × (List (List ((List Int) × Int × (List (List Int))))) × (List Int) × (List Int) × ((List (List Int)) × (Int × Int × Bool))) → Option (((List (List Int)) × (Int × Int × Bool)))) (n : Nat) : LoopSpec where
 sh := [(0, .v .int), (1, .v (.slice (.slice (.pair (.slice .int) (.pair .int (.slice (.slice .int))))))), (2, .v (.slice .int)), (3, .v (.slice .int)), (9, .bx (.pr (.mv (.slice .int) 1) (.v (.pair .int (.pair .int .bool))))), (10, .bx (.pr (.mv (.slice .int) 1) (.v (.pair .int (.pair .int .bool))))), (11, .v .int), (12, .v .int)]
 ex := [(.exit 0, [(9, .bx (.pr (.mv (.slice .int) 1) (.v (.pair .int (.pair .int .bool))))), (10, .bx (.pr (.mv (.slice .int) 1) (.v (.pair .int (.pair .int .bool)))))])]
 run := spec_l19Go_L8 rec n
noncomputable def C_29 (rec : (Int × (List (List ((List Int) × Int × (List (List Int))))) × (List Int) × (List Int) × ((List (List Int)) × (Int × Int × Bool))) → Option (((List (List Int)) × (Int × Int × Bool)))) : Cx where
 tt := tblTT tt
 T := tblT [(108, E_29_of rec), (122, E_24), (152, E_28)]
 L := tblL [(14, S_29L14 rec fuel), (8, S_29L8 rec fuel)]
 dep := fun i => match i with
  | 36 => 1
  | 37 => 1
  | _ => 0
 n := 5
noncomputable def B_29L14 : Code := (Try.f108.body.bind (loopBody 14)).getD .skip
noncomputable def B_29L8 : Code := (Try.f108.body.bind (loopBody 8)).getD .skip
noncomputable def D_29 : Code := Try.f108.body.getD .skip
noncomputable def N_29 (_ : outs [.v .int, .v (.slice (.slice (.pair (.slice .int) (.pair .int (.slice (.slice .int)))))), .v (.slice .int), .v (.slice .int), .pr (.mv (.slice .int) 1) (.v (.pair .int (.pair .int .bool)))]) (r : dens [.pr (.mv (.slice .int) 1) (.v (.pair .int (.pair .int .bool)))]) : ((List (List Int)) × (Int × Int × Bool)) := r
noncomputable def E_30 : Entry where
 params := [.v (.pair .int (.pair .int (.slice (.pair (.slice .int) (.pair .int (.slice (.slice .int))))))), .v (.slice (.pair (.slice .int) (.pair .int (.slice (.slice .int))))), .v (.slice .int), .v .int, .v .bool]
 results := [.pr (.mv (.slice .int) 1) (.v (.pair .int (.pair .int .bool)))]
 B := ((List (List Int)) × (Int × Int × Bool))
 run := fun a => spec_l19Find a.1 a.2.1 a.2.2.1 a.2.2.2.1 a.2.2.2.2
 out := fun b => ((), (), (), (), ())
 res := fun b => b
noncomputable def C_30 : Cx where
 tt := tblTT tt
 T := tblT [(108, E_29 fuel), (109, E_23)]
 L := tblL []
 dep := fun i => 0
 n := 5
noncomputable def D_30 : Code := Try.f60.body.getD .skip
noncomputable def N_30 (_ : outs [.v (.pair .int (.pair .int (.slice (.pair (.slice .int) (.pair .int (.slice (.slice .int))))))), .v (.slice (.pair (.slice .int) (.pair .int (.slice (.slice .int))))), .v (.slice .int), .v .int, .v .bool]) (r : dens [.pr (.mv (.slice .int) 1) (.v (.pair .int (.pair .int .bool)))]) : ((List (List Int)) × (Int × Int × Bool)) := r
noncomputable def E_31 : Entry where
 params := [.v (.pair .int (.pair .int (.slice (.pair (.slice .int) (.pair .int (.slice (.slice .int))))))), .v (.slice (.pair (.slice .int) (.pair .int (.slice (.slice .int)))))]
 results := [.v .bool]
 B := Bool
 run := fun a => spec_l19Can a.1 a.2
 out := fun b => ((), ())
 res := fun b => b
noncomputable def C_31 : Cx where
 tt := tblTT tt
 T := tblT [(59, E_21), (60, E_30)]
 L := tblL []
 dep := fun i => 0
 n := 2
noncomputable def D_31 : Code := Try.f34.body.getD .skip
noncomputable def N_31 (_ : outs [.v (.pair .int (.pair .int (.slice (.pair (.slice .int) (.pair .int (.slice (.slice .int))))))), .v (.slice (.pair (.slice .int) (.pair .int (.slice (.slice .int)))))]) (r : dens [.v .bool]) : Bool := r
noncomputable def E_32 : Entry where
 params := [.v .int]
 results := [.mv .int 0]
 B := (List Int)
 run := fun a => spec_l6Identity a
 out := fun b => ()
 res := fun b => b
noncomputable def S_32L3 (n : Nat) : LoopSpec where
 sh := [(0, .v .int), (3, .mv .int 0), (4, .v .int)]
 ex := [(.exit 0, [(3, .mv .int 0)])]
 run := spec_l6Identity_L3 n
noncomputable def C_32 : Cx where
 tt := tblTT tt
 T := tblT []
 L := tblL [(3, S_32L3 fuel)]
 dep := fun i => 0
 n := 1
noncomputable def B_32L3 : Code := (Try.f35.body.bind (loopBody 3)).getD .skip
noncomputable def D_32 : Code := Try.f35.body.getD .skip
noncomputable def N_32 (_ : outs [.v .int]) (r : dens [.mv .int 0]) : (List Int) := r
noncomputable def E_33 : Entry where
 params := [.v (.pair .int (.pair .int (.slice (.pair (.slice .int) (.pair .int (.slice (.slice .int)))))))]
 results := [.mv .int 0, .v .bool]
 B := (List Int) × Bool
 run := fun a => spec_ConflictCore a
 out := fun b => ()
 res := fun b => (b.1, b.2)
noncomputable def S_33L9 (n : Nat) : LoopSpec where
 sh := [(1, .bx (.v (.pair .int (.pair .int (.slice (.pair (.slice .int) (.pair .int (.slice (.slice .int))))))))), (4, .mv .int 0), (5, .v .int), (6, .mv .int 0), (7, .mv (.pair (.slice .int) (.pair .int (.slice (.slice .int)))) 0), (8, .v .int)]
 ex := [(.exit 2, [(1, .bx (.v (.pair .int (.pair .int (.slice (.pair (.slice .int) (.pair .int (.slice (.slice .int))))))))), (4, .mv .int 0), (5, .v .int), (6, .mv .int 0), (7, .mv (.pair (.slice .int) (.pair .int (.slice (.slice .int)))) 0)])]
 run := spec_ConflictCore_L9 n
noncomputable def S_33L5 (n : Nat) : LoopSpec where
 sh := [(1, .bx (.v (.pair .int (.pair .int (.slice (.pair (.slice .int) (.pair .int (.slice (.slice .int))))))))), (4, .mv .int 0), (5, .v .int)]
 ex := [(.exit 0, [(4, .mv .int 0)])]
 run := spec_ConflictCore_L5 n
noncomputable def C_33 : Cx where
 tt := tblTT tt
 T := tblT [(33, E_20), (34, E_31), (35, E_32)]
 L := tblL [(9, S_33L9 fuel), (5, S_33L5 fuel)]
 dep := fun i => 0
 n := 1
noncomputable def B_33L9 : Code := (Try.f9.body.bind (loopBody 9)).getD .skip
noncomputable def B_33L5 : Code := (Try.f9.body.bind (loopBody 5)).getD .skip
noncomputable def D_33 : Code := Try.f9.body.getD .skip
noncomputable def N_33 (_ : outs [.v (.pair .int (.pair .int (.slice (.pair (.slice .int) (.pair .int (.slice (.slice .int)))))))]) (r : dens [.mv .int 0, .v .bool]) : (List Int) × Bool := (r.1, r.2)
noncomputable def E_34 : Entry where
 params := [.v .int]
 results := [.v .bool]
 B := Bool
 run := fun a => impl_isTemplateSize a
 out := fun b => ()
 res := fun b => b
noncomputable def C_34 : Cx where
 tt := tblTT tt
 T := tblT []
 L := tblL []
 dep := fun i => 0
 n := 1
noncomputable def D_34 : Code := Try.f82.body.getD .skip
noncomputable def N_34 (_ : outs [.v .int]) (r : dens [.v .bool]) : Bool := r
noncomputable def E_35 : Entry where
 params := [.v (.slice .int), .v .int]
 results := [.v .bool]
 B := Bool
 run := fun a => impl_inSize a.1 a.2
 out := fun b => ((), ())
 res := fun b => b
noncomputable def S_35L2 (n : Nat) : LoopSpec where
 sh := [(1, .v .int), (7, .v (.slice .int)), (8, .v .int), (9, .v .int)]
 ex := [(.exit 0, []), (.ret, [(4, .v .bool)])]
 run := impl_inSize_L2 n
noncomputable def C_35 : Cx where
 tt := tblTT tt
 T := tblT []
 L := tblL [(2, S_35L2 fuel)]
 dep := fun i => 0
 n := 2
noncomputable def B_35L2 : Code := (Try.f138.body.bind (loopBody 2)).getD .skip
noncomputable def D_35 : Code := Try.f138.body.getD .skip
noncomputable def N_35 (_ : outs [.v (.slice .int), .v .int]) (r : dens [.v .bool]) : Bool := r
noncomputable def E_36 : Entry where
 params := [.v (.slice .int), .v (.slice .int)]
 results := [.v .int]
 B := Int
 run := fun a => impl_compareLists a.1 a.2
 out := fun b => ((), ())
 res := fun b => b
noncomputable def S_36L2 (n : Nat) : LoopSpec where
 sh := [(0, .v (.slice .int)), (1, .v (.slice .int)), (5, .v .int)]
 ex := [(.exit 0, [(0, .v (.slice .int)), (1, .v (.slice .int))]), (.ret, [(4, .v .int)])]
 run := impl_compareLists_L2 n
noncomputable def C_36 : Cx where
 tt := tblTT tt
 T := tblT []
 L := tblL [(2, S_36L2 fuel)]
 dep := fun i => 0
 n := 2
noncomputable def B_36L2 : Code := (Try.f174.body.bind (loopBody 2)).getD .skip
noncomputable def D_36 : Code := Try.f174.body.getD .skip
noncomputable def N_36 (_ : outs [.v (.slice .int), .v (.slice .int)]) (r : dens [.v .int]) : Int := r
noncomputable def E_37 : Entry where
 params := [.v .int, .v (.pair .int (.slice (.slice .int)))]
 results := [.v .bool]
 B := Bool
 run := fun a => impl_isRelation a.1 a.2
 out := fun b => ((), ())
 res := fun b => b
noncomputable def S_37L4 (n : Nat) : LoopSpec where
 sh := [(0, .v .int), (3, .bx (.v (.pair .int (.slice (.slice .int))))), (16, .v (.slice (.slice .int))), (17, .v .int), (18, .v .int)]
 ex := [(.exit 0, []), (.ret, [(4, .v .bool)])]
 run := impl_isRelation_L4 n
noncomputable def C_37 : Cx where
 tt := tblTT tt
 T := tblT [(138, E_35), (174, E_36)]
 L := tblL [(4, S_37L4 fuel)]
 dep := fun i => 0
 n := 2
noncomputable def B_37L4 : Code := (Try.f137.body.bind (loopBody 4)).getD .skip
noncomputable def D_37 : Code := Try.f137.body.getD .skip
noncomputable def N_37 (_ : outs [.v .int, .v (.pair .int (.slice (.slice .int)))]) (r : dens [.v .bool]) : Bool := r
noncomputable def E_38 : Entry where
 params := [.v .int, .v .int, .v (.pair (.slice .int) (.pair .int (.slice (.slice .int))))]
 results := [.v .bool]
 B := Bool
 run := fun a => impl_isConstraint a.1 a.2.1 a.2.2
 out := fun b => ((), (), ())
 res := fun b => b
noncomputable def C_38 : Cx where
 tt := tblTT tt
 T := tblT [(137, E_37), (138, E_35)]
 L := tblL []
 dep := fun i => 0
 n := 3
noncomputable def D_38 : Code := Try.f83.body.getD .skip
noncomputable def N_38 (_ : outs [.v .int, .v .int, .v (.pair (.slice .int) (.pair .int (.slice (.slice .int))))]) (r : dens [.v .bool]) : Bool := r
noncomputable def E_39 : Entry where
 params := [.v (.pair .int (.pair .int (.slice (.pair (.slice .int) (.pair .int (.slice (.slice .int)))))))]
 results := [.v .bool]
 B := Bool
 run := fun a => impl_IsNetwork a
 out := fun b => ()
 res := fun b => b
noncomputable def S_39L4 (n : Nat) : LoopSpec where
 sh := [(1, .bx (.v (.pair .int (.pair .int (.slice (.pair (.slice .int) (.pair .int (.slice (.slice .int))))))))), (26, .v (.slice (.pair (.slice .int) (.pair .int (.slice (.slice .int)))))), (27, .v .int), (28, .v .int)]
 ex := [(.exit 0, []), (.ret, [(2, .v .bool)])]
 run := impl_IsNetwork_L4 n
noncomputable def C_39 : Cx where
 tt := tblTT tt
 T := tblT [(82, E_34), (83, E_38)]
 L := tblL [(4, S_39L4 fuel)]
 dep := fun i => 0
 n := 1
noncomputable def B_39L4 : Code := (Try.f37.body.bind (loopBody 4)).getD .skip
noncomputable def D_39 : Code := Try.f37.body.getD .skip
noncomputable def N_39 (_ : outs [.v (.pair .int (.pair .int (.slice (.pair (.slice .int) (.pair .int (.slice (.slice .int)))))))]) (r : dens [.v .bool]) : Bool := r
noncomputable def E_40 : Entry where
 params := [.v .int]
 results := [.mv .int 0]
 B := (List Int)
 run := fun a => impl_freeTable a
 out := fun b => ()
 res := fun b => b
noncomputable def S_40L3 (n : Nat) : LoopSpec where
 sh := [(3, .mv .int 0), (8, .v .int), (9, .v .int)]
 ex := [(.exit 0, [(3, .mv .int 0)])]
 run := impl_freeTable_L3 n
noncomputable def C_40 : Cx where
 tt := tblTT tt
 T := tblT []
 L := tblL [(3, S_40L3 fuel)]
 dep := fun i => 0
 n := 1
noncomputable def B_40L3 : Code := (Try.f85.body.bind (loopBody 3)).getD .skip
noncomputable def D_40 : Code := Try.f85.body.getD .skip
noncomputable def N_40 (_ : outs [.v .int]) (r : dens [.mv .int 0]) : (List Int) := r
noncomputable def E_41 : Entry where
 params := [.v (.slice .int)]
 results := [.v .str]
 B := ByteArray
 run := fun a => impl_keyOf a
 out := fun b => ()
 res := fun b => b
noncomputable def S_41L3 (n : Nat) : LoopSpec where
 sh := [(3, .mv (.num .u8) 0), (10, .v (.slice .int)), (11, .v .int), (12, .v .int)]
 ex := [(.exit 0, [(3, .mv (.num .u8) 0)])]
 run := impl_keyOf_L3 n
noncomputable def C_41 : Cx where
 tt := tblTT tt
 T := tblT []
 L := tblL [(3, S_41L3 fuel)]
 dep := fun i => 0
 n := 1
noncomputable def B_41L3 : Code := (Try.f146.body.bind (loopBody 3)).getD .skip
noncomputable def D_41 : Code := Try.f146.body.getD .skip
noncomputable def N_41 (_ : outs [.v (.slice .int)]) (r : dens [.v .str]) : ByteArray := r
noncomputable def E_42 : Entry where
 params := [.v (.pair .int (.slice (.slice .int)))]
 results := [.v .smap]
 B := (List ByteArray)
 run := fun a => impl_tupleSet a
 out := fun b => ()
 res := fun b => b
noncomputable def S_42L3 (n : Nat) : LoopSpec where
 sh := [(3, .mp), (8, .v (.slice (.slice .int))), (9, .v .int), (10, .v .int)]
 ex := [(.exit 0, [(3, .mp)])]
 run := impl_tupleSet_L3 n
noncomputable def C_42 : Cx where
 tt := tblTT tt
 T := tblT [(146, E_41)]
 L := tblL [(3, S_42L3 fuel)]
 dep := fun i => 0
 n := 1
noncomputable def B_42L3 : Code := (Try.f144.body.bind (loopBody 3)).getD .skip
noncomputable def D_42 : Code := Try.f144.body.getD .skip
noncomputable def N_42 (_ : outs [.v (.pair .int (.slice (.slice .int)))]) (r : dens [.v .smap]) : (List ByteArray) := r
noncomputable def E_43 : Entry where
 params := [.v (.pair .int (.pair .int (.slice (.pair (.slice .int) (.pair .int (.slice (.slice .int)))))))]
 results := [.v (.ptr (.pair .int (.pair (.slice (.slice (.slice .int))) (.slice (.slice .smap)))))]
 B := (Bool × Int × (List (List (List Int))) × (List (List (List ByteArray))))
 run := fun a => impl_newNetSearch a
 out := fun b => ()
 res := fun b => b
noncomputable def S_43L7 (n : Nat) : LoopSpec where
 sh := [(3, .bx (.pr (.v .int) (.pr (.mv (.slice (.slice .int)) 1) (.mv (.slice .smap) 1)))), (5, .bx (.v (.pair (.slice .int) (.pair .int (.slice (.slice .int)))))), (6, .v .int), (20, .v (.slice (.pair (.slice .int) (.pair .int (.slice (.slice .int)))))), (21, .v .int), (22, .v .int), (27, .v (.slice .int)), (28, .v .int), (29, .v .int)]
 ex := [(.exit 2, [(3, .bx (.pr (.v .int) (.pr (.mv (.slice (.slice .int)) 1) (.mv (.slice .smap) 1)))), (5, .bx (.v (.pair (.slice .int) (.pair .int (.slice (.slice .int)))))), (6, .v .int), (20, .v (.slice (.pair (.slice .int) (.pair .int (.slice (.slice .int)))))), (21, .v .int), (22, .v .int)])]
 run := impl_newNetSearch_L7 n
noncomputable def S_43L3 (n : Nat) : LoopSpec where
 sh := [(3, .bx (.pr (.v .int) (.pr (.mv (.slice (.slice .int)) 1) (.mv (.slice .smap) 1)))), (20, .v (.slice (.pair (.slice .int) (.pair .int (.slice (.slice .int)))))), (21, .v .int), (22, .v .int)]
 ex := [(.exit 0, [(3, .bx (.pr (.v .int) (.pr (.mv (.slice (.slice .int)) 1) (.mv (.slice .smap) 1))))])]
 run := impl_newNetSearch_L3 n
noncomputable def C_43 : Cx where
 tt := tblTT tt
 T := tblT [(144, E_42)]
 L := tblL [(7, S_43L7 fuel), (3, S_43L3 fuel)]
 dep := fun i => match i with
  | 13 => 1
  | 16 => 1
  | _ => 0
 n := 1
 fine := true
noncomputable def B_43L7 : Code := (Try.f111.body.bind (loopBody 7)).getD .skip
noncomputable def B_43L3 : Code := (Try.f111.body.bind (loopBody 3)).getD .skip
noncomputable def D_43 : Code := Try.f111.body.getD .skip
noncomputable def N_43 (_ : outs [.v (.pair .int (.pair .int (.slice (.pair (.slice .int) (.pair .int (.slice (.slice .int)))))))]) (r : dens [.v (.ptr (.pair .int (.pair (.slice (.slice (.slice .int))) (.slice (.slice .smap)))))]) : (Bool × Int × (List (List (List Int))) × (List (List (List ByteArray)))) := r
noncomputable def E_44 : Entry where
 params := [.v (.slice .int)]
 results := [.nv .int 0]
 B := (Bool × (List Int))
 run := fun a => impl_clone_b a
 out := fun b => ()
 res := fun b => b
noncomputable def C_44 : Cx where
 tt := tblTT tt
 T := tblT []
 L := tblL []
 dep := fun i => 0
 n := 1
noncomputable def D_44 : Code := Try.f100.body.getD .skip
noncomputable def N_44 (_ : outs [.v (.slice .int)]) (r : dens [.nv .int 0]) : (Bool × (List Int)) := r
noncomputable def E_45 : Entry where
 params := [.v (.slice .int), .bx (.nv .int 0)]
 results := [.v .bool]
 B := (Bool × (List Int)) × Bool
 run := fun a => impl_firstSolution_c1 a.1 a.2
 out := fun b => ((), b.1)
 res := fun b => b.2
noncomputable def C_45 : Cx where
 tt := tblTT tt
 T := tblT [(100, E_44)]
 L := tblL []
 dep := fun i => 0
 n := 2
noncomputable def D_45 : Code := Try.f139.body.getD .skip
noncomputable def N_45 (o : outs [.v (.slice .int), .bx (.nv .int 0)]) (r : dens [.v .bool]) : (Bool × (List Int)) × Bool := (o.2, r)
noncomputable def E_46 : Entry where
 params := [.v (.slice .int), .v (.slice .int)]
 results := [.mv .int 0]
 B := (List Int)
 run := fun a => impl_compose a.1 a.2
 out := fun b => ((), ())
 res := fun b => b
noncomputable def S_46L3 (n : Nat) : LoopSpec where
 sh := [(1, .v (.slice .int)), (5, .mv .int 0), (11, .v (.slice .int)), (12, .v .int), (13, .v .int)]
 ex := [(.exit 0, [(5, .mv .int 0)])]
 run := impl_compose_L3 n
noncomputable def C_46 : Cx where
 tt := tblTT tt
 T := tblT []
 L := tblL [(3, S_46L3 fuel)]
 dep := fun i => 0
 n := 2
noncomputable def B_46L3 : Code := (Try.f154.body.bind (loopBody 3)).getD .skip
noncomputable def D_46 : Code := Try.f154.body.getD .skip
noncomputable def N_46 (_ : outs [.v (.slice .int), .v (.slice .int)]) (r : dens [.mv .int 0]) : (List Int) := r
noncomputable def E_47_of (rec : (Int × (List Int) × (Bool × (List Int)) × (Bool × Int × (List (List (List Int))) × (List (List (List ByteArray)))) × (List Int) × Unit) → Option ((List Int) × (Bool × (List Int)) × (Bool × Int × (List (List (List Int))) × (List (List (List ByteArray)))) × (List Int) × Bool)) : Entry where
 params := [.v .int, .bx (.mv .int 0), .bx (.nv .int 0), .bx (.v (.ptr (.pair .int (.pair (.slice (.slice (.slice .int))) (.slice (.slice .smap)))))), .bx (.v (.slice .int)), .jk 1]
 results := [.v .bool]
 cod := [(2, .kb 139), (5, .kn 153 1 5)]
 B := (List Int) × (Bool × (List Int)) × (Bool × Int × (List (List (List Int))) × (List (List (List ByteArray)))) × (List Int) × Bool
 run := rec
 out := fun b => ((), b.1, b.2.1, b.2.2.1, b.2.2.2.1, ())
 res := fun b => b.2.2.2.2
noncomputable def E_47 (d : Nat) : Entry := E_47_of (impl_netSearch_each_c1_impl_firstSolution_c1 d)
noncomputable def S_47L10 (rec : (Int × (List Int) × (Bool × (List Int)) × (Bool × Int × (List (List (List Int))) × (List (List (List ByteArray)))) × (List Int) × Unit) → Option ((List Int) × (Bool × (List Int)) × (Bool × Int × (List (List (List Int))) × (List (List (List ByteArray)))) × (List Int) × Bool)) (n : Nat) : LoopSpec where
 sh := [(0, .v .int), (1, .bx (.mv .int 0)), (2, .bx (.nv .int 0)), (3, .bx (.v (.ptr (.pair .int (.pair (.slice (.slice (.slice .int))) (.slice (.slice .smap))))))), (4, .bx (.v (.slice .int))), (5, .jk 1), (8, .v .int), (9, .v .bool), (50, .v (.slice (.slice .int))), (51, .v .int), (52, .v .int)]
 ex := [(.exit 2, [(0, .v .int), (1, .bx (.mv .int 0)), (2, .bx (.nv .int 0)), (3, .bx (.v (.ptr (.pair .int (.pair (.slice (.slice (.slice .int))) (.slice (.slice .smap))))))), (4, .bx (.v (.slice .int))), (5, .jk 1), (8, .v .int), (9, .v .bool)])]
 run := impl_netSearch_each_c1_impl_firstSolution_c1_L10 rec n
noncomputable def S_47L4 (rec : (Int × (List Int) × (Bool × (List Int)) × (Bool × Int × (List (List (List Int))) × (List (List (List ByteArray)))) × (List Int) × Unit) → Option ((List Int) × (Bool × (List Int)) × (Bool × Int × (List (List (List Int))) × (List (List (List ByteArray)))) × (List Int) × Bool)) (n : Nat) : LoopSpec where
 sh := [(0, .v .int), (1, .bx (.mv .int 0)), (2, .bx (.nv .int 0)), (3, .bx (.v (.ptr (.pair .int (.pair (.slice (.slice (.slice .int))) (.slice (.slice .smap))))))), (4, .bx (.v (.slice .int))), (5, .jk 1), (8, .v .int)]
 ex := [(.exit 0, [(1, .bx (.mv .int 0)), (2, .bx (.nv .int 0)), (3, .bx (.v (.ptr (.pair .int (.pair (.slice (.slice (.slice .int))) (.slice (.slice .smap))))))), (4, .bx (.v (.slice .int))), (5, .jk 1)]), (.ret, [(1, .bx (.mv .int 0)), (2, .bx (.nv .int 0)), (3, .bx (.v (.ptr (.pair .int (.pair (.slice (.slice (.slice .int))) (.slice (.slice .smap))))))), (4, .bx (.v (.slice .int))), (5, .jk 1), (7, .v .bool)])]
 run := impl_netSearch_each_c1_impl_firstSolution_c1_L4 rec n
noncomputable def C_47 (rec : (Int × (List Int) × (Bool × (List Int)) × (Bool × Int × (List (List (List Int))) × (List (List (List ByteArray)))) × (List Int) × Unit) → Option ((List Int) × (Bool × (List Int)) × (Bool × Int × (List (List (List Int))) × (List (List (List ByteArray)))) × (List Int) × Bool)) : Cx where
 tt := tblTT tt
 T := tblT [(139, E_45), (146, E_41), (154, E_46), (9175193, E_47_of rec)]
 L := tblL [(10, S_47L10 rec fuel), (4, S_47L4 rec fuel)]
 dep := fun i => 0
 n := 6
 cod := [(2, .kb 139), (5, .kn 153 1 5)]
noncomputable def B_47L10 : Code := (Try.f153.body.bind (loopBody 10)).getD .skip
noncomputable def B_47L4 : Code := (Try.f153.body.bind (loopBody 4)).getD .skip
noncomputable def D_47 : Code := Try.f153.body.getD .skip
noncomputable def N_47 (o : outs [.v .int, .bx (.mv .int 0), .bx (.nv .int 0), .bx (.v (.ptr (.pair .int (.pair (.slice (.slice (.slice .int))) (.slice (.slice .smap)))))), .bx (.v (.slice .int)), .jk 1]) (r : dens [.v .bool]) : (List Int) × (Bool × (List Int)) × (Bool × Int × (List (List (List Int))) × (List (List (List ByteArray)))) × (List Int) × Bool := (o.2.1, o.2.2.1, o.2.2.2.1, o.2.2.2.2.1, r)
noncomputable def E_48 : Entry where
 params := [.v (.ptr (.pair .int (.pair (.slice (.slice (.slice .int))) (.slice (.slice .smap))))), .v (.slice .int), .bx (.nv .int 0)]
 results := []
 cod := [(2, .cl 139)]
 B := (Bool × (List Int))
 run := fun a => impl_netSearch_each_impl_firstSolution_c1 a.1 a.2.1 a.2.2
 out := fun b => ((), (), b)
 res := fun b => ()
noncomputable def C_48 : Cx where
 tt := tblTT tt
 T := tblT [(9175193, E_47 fuel)]
 L := tblL []
 dep := fun i => 0
 n := 3
 cod := [(2, .cl 139)]
noncomputable def D_48 : Code := Try.f112.body.getD .skip
noncomputable def N_48 (o : outs [.v (.ptr (.pair .int (.pair (.slice (.slice (.slice .int))) (.slice (.slice .smap))))), .v (.slice .int), .bx (.nv .int 0)]) (_ : dens []) : (Bool × (List Int)) := o.2.2
noncomputable def E_49 : Entry where
 params := [.v (.pair .int (.pair .int (.slice (.pair (.slice .int) (.pair .int (.slice (.slice .int))))))), .v (.slice .int)]
 results := [.nv .int 0]
 B := (Bool × (List Int))
 run := fun a => impl_firstSolution a.1 a.2
 out := fun b => ((), ())
 res := fun b => b
noncomputable def C_49 : Cx where
 tt := tblTT tt
 T := tblT [(111, E_43), (9175152, E_48)]
 L := tblL []
 dep := fun i => 0
 n := 2
noncomputable def D_49 : Code := Try.f84.body.getD .skip
noncomputable def N_49 (_ : outs [.v (.pair .int (.pair .int (.slice (.pair (.slice .int) (.pair .int (.slice (.slice .int))))))), .v (.slice .int)]) (r : dens [.nv .int 0]) : (Bool × (List Int)) := r
noncomputable def E_50 : Entry where
 params := [.v (.pair .int (.pair .int (.slice (.pair (.slice .int) (.pair .int (.slice (.slice .int)))))))]
 results := [.v .bool]
 B := Bool
 run := fun a => impl_solvable a
 out := fun b => ()
 res := fun b => b
noncomputable def C_50 : Cx where
 tt := tblTT tt
 T := tblT [(84, E_49), (85, E_40)]
 L := tblL []
 dep := fun i => 0
 n := 1
noncomputable def D_50 : Code := Try.f38.body.getD .skip
noncomputable def N_50 (_ : outs [.v (.pair .int (.pair .int (.slice (.pair (.slice .int) (.pair .int (.slice (.slice .int)))))))]) (r : dens [.v .bool]) : Bool := r
noncomputable def E_51 : Entry where
 params := [.v .int]
 results := [.mv .int 0]
 B := (List Int)
 run := fun a => impl_identityOf a
 out := fun b => ()
 res := fun b => b
noncomputable def S_51L3 (n : Nat) : LoopSpec where
 sh := [(3, .mv .int 0), (8, .v .int), (9, .v .int)]
 ex := [(.exit 0, [(3, .mv .int 0)])]
 run := impl_identityOf_L3 n
noncomputable def C_51 : Cx where
 tt := tblTT tt
 T := tblT []
 L := tblL [(3, S_51L3 fuel)]
 dep := fun i => 0
 n := 1
noncomputable def B_51L3 : Code := (Try.f39.body.bind (loopBody 3)).getD .skip
noncomputable def D_51 : Code := Try.f39.body.getD .skip
noncomputable def N_51 (_ : outs [.v .int]) (r : dens [.mv .int 0]) : (List Int) := r
noncomputable def E_52 : Entry where
 params := [.v (.pair .int (.pair .int (.slice (.pair (.slice .int) (.pair .int (.slice (.slice .int))))))), .io .int 0]
 results := [.pr (.v .int) (.pr (.v .int) (.mv (.pair (.slice .int) (.pair .int (.slice (.slice .int)))) 0))]
 B := (List Int) × (Int × (Int × (List ((List Int) × Int × (List (List Int))))))
 run := fun a => impl_partOf a.1 a.2
 out := fun b => ((), b.1)
 res := fun b => b.2
noncomputable def S_52L3 (n : Nat) : LoopSpec where
 sh := [(131085, .jk 1), (1, .io .int 0), (2, .bx (.v (.pair .int (.pair .int (.slice (.pair (.slice .int) (.pair .int (.slice (.slice .int))))))))), (4, .bx (.pr (.v .int) (.pr (.v .int) (.mv (.pair (.slice .int) (.pair .int (.slice (.slice .int)))) 0)))), (5, .bx (.pr (.v .int) (.pr (.v .int) (.mv (.pair (.slice .int) (.pair .int (.slice (.slice .int)))) 0)))), (14, .v .int), (15, .v .int)]
 ex := [(.exit 0, [(1, .io .int 0), (4, .bx (.pr (.v .int) (.pr (.v .int) (.mv (.pair (.slice .int) (.pair .int (.slice (.slice .int)))) 0)))), (5, .bx (.pr (.v .int) (.pr (.v .int) (.mv (.pair (.slice .int) (.pair .int (.slice (.slice .int)))) 0))))])]
 run := impl_partOf_L3 n
noncomputable def C_52 : Cx where
 tt := tblTT tt
 T := tblT []
 L := tblL [(3, S_52L3 fuel)]
 dep := fun i => 0
 n := 2
noncomputable def B_52L3 : Code := (Try.f40.body.bind (loopBody 3)).getD .skip
noncomputable def D_52 : Code := Try.f40.body.getD .skip
noncomputable def N_52 (o : outs [.v (.pair .int (.pair .int (.slice (.pair (.slice .int) (.pair .int (.slice (.slice .int))))))), .io .int 0]) (r : dens [.pr (.v .int) (.pr (.v .int) (.mv (.pair (.slice .int) (.pair .int (.slice (.slice .int)))) 0))]) : (List Int) × (Int × (Int × (List ((List Int) × Int × (List (List Int)))))) := (o.2, r)
noncomputable def E_53 : Entry where
 params := [.v (.pair .int (.pair .int (.slice (.pair (.slice .int) (.pair .int (.slice (.slice .int)))))))]
 results := [.mv .int 0, .v .bool]
 B := (List Int) × Bool
 run := fun a => impl_ConflictCore a
 out := fun b => ()
 res := fun b => (b.1, b.2)
noncomputable def S_53L9 (n : Nat) : LoopSpec where
 sh := [(327708, .jk 1), (1, .bx (.v (.pair .int (.pair .int (.slice (.pair (.slice .int) (.pair .int (.slice (.slice .int))))))))), (4, .mv .int 0), (5, .v .int), (6, .mv .int 0), (23, .v .int), (24, .v .int), (29, .v .int), (30, .v .int)]
 ex := [(.exit 2, [(1, .bx (.v (.pair .int (.pair .int (.slice (.pair (.slice .int) (.pair .int (.slice (.slice .int))))))))), (4, .mv .int 0), (6, .mv .int 0), (23, .v .int), (24, .v .int)])]
 run := impl_ConflictCore_L9 n
noncomputable def S_53L5 (n : Nat) : LoopSpec where
 sh := [(1, .bx (.v (.pair .int (.pair .int (.slice (.pair (.slice .int) (.pair .int (.slice (.slice .int))))))))), (4, .mv .int 0), (23, .v .int), (24, .v .int)]
 ex := [(.exit 0, [(4, .mv .int 0)])]
 run := impl_ConflictCore_L5 n
noncomputable def C_53 : Cx where
 tt := tblTT tt
 T := tblT [(37, E_39), (38, E_50), (39, E_51), (40, E_52)]
 L := tblL [(9, S_53L9 fuel), (5, S_53L5 fuel)]
 dep := fun i => 0
 n := 1
noncomputable def B_53L9 : Code := (Try.f11.body.bind (loopBody 9)).getD .skip
noncomputable def B_53L5 : Code := (Try.f11.body.bind (loopBody 5)).getD .skip
noncomputable def D_53 : Code := Try.f11.body.getD .skip
noncomputable def N_53 (_ : outs [.v (.pair .int (.pair .int (.slice (.pair (.slice .int) (.pair .int (.slice (.slice .int)))))))]) (r : dens [.mv .int 0, .v .bool]) : (List Int) × Bool := (r.1, r.2)
noncomputable def E_54 : Entry where
 params := [.v (.slice .int), .v (.slice .int)]
 results := [.v .bool]
 B := Bool
 run := fun a => laws_eqIntS a.1 a.2
 out := fun b => ((), ())
 res := fun b => b
noncomputable def S_54L4 (n : Nat) : LoopSpec where
 sh := [(0, .v (.slice .int)), (1, .v (.slice .int)), (5, .v .int)]
 ex := [(.exit 0, []), (.ret, [(4, .v .bool)])]
 run := laws_eqIntS_L4 n
noncomputable def C_54 : Cx where
 tt := tblTT tt
 T := tblT []
 L := tblL [(4, S_54L4 fuel)]
 dep := fun i => 0
 n := 2
noncomputable def B_54L4 : Code := (Try.f12.body.bind (loopBody 4)).getD .skip
noncomputable def D_54 : Code := Try.f12.body.getD .skip
noncomputable def N_54 (_ : outs [.v (.slice .int), .v (.slice .int)]) (r : dens [.v .bool]) : Bool := r
noncomputable def E_55 : Entry where
 params := [.v (.slice (.slice .int)), .v (.slice (.slice .int))]
 results := [.v .bool]
 B := Bool
 run := fun a => laws_eqIntSS a.1 a.2
 out := fun b => ((), ())
 res := fun b => b
noncomputable def S_55L4 (n : Nat) : LoopSpec where
 sh := [(0, .v (.slice (.slice .int))), (1, .v (.slice (.slice .int))), (5, .v .int)]
 ex := [(.exit 0, []), (.ret, [(4, .v .bool)])]
 run := laws_eqIntSS_L4 n
noncomputable def C_55 : Cx where
 tt := tblTT tt
 T := tblT [(12, E_54)]
 L := tblL [(4, S_55L4 fuel)]
 dep := fun i => 0
 n := 2
noncomputable def B_55L4 : Code := (Try.f105.body.bind (loopBody 4)).getD .skip
noncomputable def D_55 : Code := Try.f105.body.getD .skip
noncomputable def N_55 (_ : outs [.v (.slice (.slice .int)), .v (.slice (.slice .int))]) (r : dens [.v .bool]) : Bool := r
noncomputable def E_56 : Entry where
 params := [.v (.pair .int (.slice (.slice .int))), .v (.pair .int (.slice (.slice .int)))]
 results := [.v .bool]
 B := Bool
 run := fun a => laws_eqRelation a.1 a.2
 out := fun b => ((), ())
 res := fun b => b
noncomputable def C_56 : Cx where
 tt := tblTT tt
 T := tblT [(105, E_55)]
 L := tblL []
 dep := fun i => 0
 n := 2
noncomputable def D_56 : Code := Try.f55.body.getD .skip
noncomputable def N_56 (_ : outs [.v (.pair .int (.slice (.slice .int))), .v (.pair .int (.slice (.slice .int)))]) (r : dens [.v .bool]) : Bool := r
noncomputable def E_57 : Entry where
 params := [.v (.pair (.slice .int) (.pair .int (.slice (.slice .int)))), .v (.pair (.slice .int) (.pair .int (.slice (.slice .int))))]
 results := [.v .bool]
 B := Bool
 run := fun a => laws_eqConstraint a.1 a.2
 out := fun b => ((), ())
 res := fun b => b
noncomputable def C_57 : Cx where
 tt := tblTT tt
 T := tblT [(12, E_54), (55, E_56)]
 L := tblL []
 dep := fun i => 0
 n := 2
noncomputable def D_57 : Code := Try.f86.body.getD .skip
noncomputable def N_57 (_ : outs [.v (.pair (.slice .int) (.pair .int (.slice (.slice .int)))), .v (.pair (.slice .int) (.pair .int (.slice (.slice .int))))]) (r : dens [.v .bool]) : Bool := r
noncomputable def E_58 : Entry where
 params := [.v (.slice (.pair (.slice .int) (.pair .int (.slice (.slice .int))))), .v (.slice (.pair (.slice .int) (.pair .int (.slice (.slice .int)))))]
 results := [.v .bool]
 B := Bool
 run := fun a => laws_eqConstraintS a.1 a.2
 out := fun b => ((), ())
 res := fun b => b
noncomputable def S_58L4 (n : Nat) : LoopSpec where
 sh := [(0, .v (.slice (.pair (.slice .int) (.pair .int (.slice (.slice .int)))))), (1, .v (.slice (.pair (.slice .int) (.pair .int (.slice (.slice .int)))))), (5, .v .int)]
 ex := [(.exit 0, []), (.ret, [(4, .v .bool)])]
 run := laws_eqConstraintS_L4 n
noncomputable def C_58 : Cx where
 tt := tblTT tt
 T := tblT [(86, E_57)]
 L := tblL [(4, S_58L4 fuel)]
 dep := fun i => 0
 n := 2
noncomputable def B_58L4 : Code := (Try.f41.body.bind (loopBody 4)).getD .skip
noncomputable def D_58 : Code := Try.f41.body.getD .skip
noncomputable def N_58 (_ : outs [.v (.slice (.pair (.slice .int) (.pair .int (.slice (.slice .int))))), .v (.slice (.pair (.slice .int) (.pair .int (.slice (.slice .int)))))]) (r : dens [.v .bool]) : Bool := r
noncomputable def E_59 : Entry where
 params := [.v (.pair .int (.pair .int (.slice (.pair (.slice .int) (.pair .int (.slice (.slice .int))))))), .v (.pair .int (.pair .int (.slice (.pair (.slice .int) (.pair .int (.slice (.slice .int)))))))]
 results := [.v .bool]
 B := Bool
 run := fun a => laws_eqNetwork a.1 a.2
 out := fun b => ((), ())
 res := fun b => b
noncomputable def C_59 : Cx where
 tt := tblTT tt
 T := tblT [(41, E_58)]
 L := tblL []
 dep := fun i => 0
 n := 2
noncomputable def D_59 : Code := Try.f13.body.getD .skip
noncomputable def N_59 (_ : outs [.v (.pair .int (.pair .int (.slice (.pair (.slice .int) (.pair .int (.slice (.slice .int))))))), .v (.pair .int (.pair .int (.slice (.pair (.slice .int) (.pair .int (.slice (.slice .int)))))))]) (r : dens [.v .bool]) : Bool := r
noncomputable def E_60 : Entry where
 params := [.io .int 0, .v .int]
 results := [.v .int]
 B := (List Int) × Int
 run := fun a => laws_markIntS a.1 a.2
 out := fun b => (b.1, ())
 res := fun b => b.2
noncomputable def S_60L2 (n : Nat) : LoopSpec where
 sh := [(0, .io .int 0), (1, .v .int), (5, .v .int)]
 ex := [(.exit 0, [(0, .io .int 0), (1, .v .int)])]
 run := laws_markIntS_L2 n
noncomputable def C_60 : Cx where
 tt := tblTT tt
 T := tblT []
 L := tblL [(2, S_60L2 fuel)]
 dep := fun i => 0
 n := 2
noncomputable def B_60L2 : Code := (Try.f15.body.bind (loopBody 2)).getD .skip
noncomputable def D_60 : Code := Try.f15.body.getD .skip
noncomputable def N_60 (o : outs [.io .int 0, .v .int]) (r : dens [.v .int]) : (List Int) × Int := (o.1, r)
noncomputable def E_61 : Entry where
 params := [.io (.slice .int) 1, .v .int]
 results := [.v .int]
 B := (List (List Int)) × Int
 run := fun a => laws_markIntSS a.1 a.2
 out := fun b => (b.1, ())
 res := fun b => b.2
noncomputable def S_61L2 (n : Nat) : LoopSpec where
 sh := [(0, .io (.slice .int) 1), (1, .v .int), (5, .v .int)]
 ex := [(.exit 0, [(0, .io (.slice .int) 1), (1, .v .int)])]
 run := laws_markIntSS_L2 n
noncomputable def C_61 : Cx where
 tt := tblTT tt
 T := tblT [(15, E_60)]
 L := tblL [(2, S_61L2 fuel)]
 dep := fun i => 0
 n := 2
noncomputable def B_61L2 : Code := (Try.f56.body.bind (loopBody 2)).getD .skip
noncomputable def D_61 : Code := Try.f56.body.getD .skip
noncomputable def N_61 (o : outs [.io (.slice .int) 1, .v .int]) (r : dens [.v .int]) : (List (List Int)) × Int := (o.1, r)
noncomputable def E_62 : Entry where
 params := [.io (.pair (.slice .int) (.pair .int (.slice (.slice .int)))) 2, .v .int]
 results := [.v .int]
 B := (List ((List Int) × Int × (List (List Int)))) × Int
 run := fun a => laws_markConstraintS a.1 a.2
 out := fun b => (b.1, ())
 res := fun b => b.2
noncomputable def S_62L2 (n : Nat) : LoopSpec where
 sh := [(0, .io (.pair (.slice .int) (.pair .int (.slice (.slice .int)))) 2), (1, .v .int), (5, .v .int)]
 ex := [(.exit 0, [(0, .io (.pair (.slice .int) (.pair .int (.slice (.slice .int)))) 2), (1, .v .int)])]
 run := laws_markConstraintS_L2 n
noncomputable def C_62 : Cx where
 tt := tblTT tt
 T := tblT [(15, E_60), (56, E_61)]
 L := tblL [(2, S_62L2 fuel)]
 dep := fun i => 0
 n := 2
noncomputable def B_62L2 : Code := (Try.f42.body.bind (loopBody 2)).getD .skip
noncomputable def D_62 : Code := Try.f42.body.getD .skip
noncomputable def N_62 (o : outs [.io (.pair (.slice .int) (.pair .int (.slice (.slice .int)))) 2, .v .int]) (r : dens [.v .int]) : (List ((List Int) × Int × (List (List Int)))) × Int := (o.1, r)
noncomputable def E_63 : Entry where
 params := [.pr (.v .int) (.pr (.v .int) (.io (.pair (.slice .int) (.pair .int (.slice (.slice .int)))) 2)), .v .int]
 results := [.v .int]
 B := (Unit × (Unit × (List ((List Int) × Int × (List (List Int)))))) × Int
 run := fun a => laws_markNetwork a.1 a.2
 out := fun b => (b.1, ())
 res := fun b => b.2
noncomputable def C_63 : Cx where
 tt := tblTT tt
 T := tblT [(42, E_62)]
 L := tblL []
 dep := fun i => 0
 n := 2
noncomputable def D_63 : Code := Try.f14.body.getD .skip
noncomputable def N_63 (o : outs [.pr (.v .int) (.pr (.v .int) (.io (.pair (.slice .int) (.pair .int (.slice (.slice .int)))) 2)), .v .int]) (r : dens [.v .int]) : (Unit × (Unit × (List ((List Int) × Int × (List (List Int)))))) × Int := (o.1, r)
noncomputable def E_64 : Entry where
 params := [.v (.slice .int), .v .int]
 results := [.v .int]
 B := Int
 run := fun a => laws_heldIntS a.1 a.2
 out := fun b => ((), ())
 res := fun b => b
noncomputable def S_64L2 (n : Nat) : LoopSpec where
 sh := [(0, .v (.slice .int)), (1, .v .int), (5, .v .int)]
 ex := [(.exit 0, [(1, .v .int)]), (.ret, [(4, .v .int)])]
 run := laws_heldIntS_L2 n
noncomputable def C_64 : Cx where
 tt := tblTT tt
 T := tblT []
 L := tblL [(2, S_64L2 fuel)]
 dep := fun i => 0
 n := 2
noncomputable def B_64L2 : Code := (Try.f16.body.bind (loopBody 2)).getD .skip
noncomputable def D_64 : Code := Try.f16.body.getD .skip
noncomputable def N_64 (_ : outs [.v (.slice .int), .v .int]) (r : dens [.v .int]) : Int := r
noncomputable def E_65 : Entry where
 params := [.v (.pair .int (.pair .int (.slice (.pair (.slice .int) (.pair .int (.slice (.slice .int)))))))]
 results := [.v .bool]
 B := Bool
 run := fun a => laws_FnExactConflictCore a
 out := fun b => ()
 res := fun b => b
noncomputable def C_65 : Cx where
 tt := tblTT tt
 T := tblT [(8, E_6), (9, E_33), (10, E_12), (11, E_53), (12, E_54), (13, E_59), (14, E_63), (15, E_60), (16, E_64)]
 L := tblL []
 dep := fun i => 0
 n := 1
noncomputable def D_65 : Code := Try.f3.body.getD .skip
noncomputable def N_65 (_ : outs [.v (.pair .int (.pair .int (.slice (.pair (.slice .int) (.pair .int (.slice (.slice .int)))))))]) (r : dens [.v .bool]) : Bool := r
end T
