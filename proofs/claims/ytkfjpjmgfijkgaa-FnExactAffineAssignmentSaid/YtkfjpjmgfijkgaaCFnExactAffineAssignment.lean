/- Contexts of the typed functions; no conditions. -/
import Derived.Test.YtkfjpjmgfijkgaaV5
import Derived.Test.YtkfjpjmgfijkgaaProg
import Derived.Test.YtkfjpjmgfijkgaaPFnExactAffineAssignment
import Derived.KernelRfl
set_option linter.all false
set_option linter.unusedVariables false
set_option maxRecDepth 10000
open Go Go.Va Go.Proofs
namespace T
noncomputable def tt : List (Nat × TI) := [
 (2, { ty := .int }),
 (3, { ty := .int }),
 (4, { ty := .bool }),
 (5, { ty := (.num .u8) }),
 (6, { ty := (.num .u8) }),
 (8, { ty := (.pair .int (.pair .int (.pair .bool (.num .u8)))), fields := [2, 3, 4, 6] }),
 (9, { ty := .str }),
 (22, { ty := (.slice (.pair (.slice .int) (.pair .int (.slice (.slice .int))))), elem := 109 }),
 (24, { ty := (.pair .int (.pair .int (.slice (.pair (.slice .int) (.pair .int (.slice (.slice .int))))))), fields := [3, 3, 22] }),
 (26, { ty := (.slice .int), elem := 3 }),
 (29, { ty := (.slice (.pair (.slice .int) (.pair .int (.slice (.slice .int))))), elem := 63 }),
 (31, { ty := (.pair .int (.pair .int (.slice (.pair (.slice .int) (.pair .int (.slice (.slice .int))))))), fields := [3, 3, 29] }),
 (41, { ty := (.pair .int (.slice .int)), fields := [3, 26] }),
 (44, { ty := (.slice (.pair .int (.slice (.slice .int)))), elem := 61 }),
 (59, { ty := (.slice (.slice .int)), elem := 26 }),
 (61, { ty := (.pair .int (.slice (.slice .int))), fields := [3, 59] }),
 (63, { ty := (.pair (.slice .int) (.pair .int (.slice (.slice .int)))), fields := [26, 61] }),
 (69, { ty := (.pair .int (.slice (.slice .int))), fields := [3, 59] }),
 (75, { ty := (.slice (.pair .int (.slice .int))), elem := 41 }),
 (77, { ty := (.pair .int (.slice (.pair .int (.slice .int)))), fields := [3, 75] }),
 (97, { ty := (.slice .bool), elem := 4 }),
 (102, { ty := (.pair .int (.pair .int (.slice (.slice .int)))), fields := [3, 3, 59] }),
 (109, { ty := (.pair (.slice .int) (.pair .int (.slice (.slice .int)))), fields := [26, 69] }),
 (154, { ty := (.pair .int (.pair .int (.pair (.slice (.slice .int)) (.pair .int (.slice .int))))), fields := [3, 3, 59, 3, 26] }),
 (165, { ty := .smap }),
 (188, { ty := (.pair (.slice (.slice .int)) (.pair (.slice .int) (.slice (.slice .int)))), fields := [59, 26, 59] }),
 (197, { ty := (.slice (.num .u8)), elem := 5 }),
 (198, { ty := (.num .u64) })]
theorem tabT : tabOk Try.prog tt = true := by kernel_rfl
theorem mixT : Try.prog.follows .mixedOrders = true := by kernel_rfl
noncomputable def E_1 : Entry where
 params := [.v (.slice .int), .v .int]
 results := [.v .int]
 B := Int
 run := fun a => laws_szIntS a.1 a.2
 out := fun b => ((), ())
 res := fun b => b
noncomputable def C_1 : Cx where
 tt := tblTT tt
 T := tblT []
 L := tblL []
 dep := fun i => 0
 n := 2
noncomputable def D_1 : Code := Try.f133.body.getD .skip
noncomputable def N_1 (_ : outs [.v (.slice .int), .v .int]) (r : dens [.v .int]) : Int := r
noncomputable def E_2 : Entry where
 params := [.v (.slice (.slice .int)), .v .int]
 results := [.v .int]
 B := Int
 run := fun a => laws_szIntSS a.1 a.2
 out := fun b => ((), ())
 res := fun b => b
noncomputable def S_2L5 (n : Nat) : LoopSpec where
 sh := [(0, .v (.slice (.slice .int))), (1, .v .int), (5, .v .int)]
 ex := [(.exit 0, [(1, .v .int)]), (.ret, [(4, .v .int)])]
 run := laws_szIntSS_L5 n
noncomputable def C_2 : Cx where
 tt := tblTT tt
 T := tblT [(133, E_1)]
 L := tblL [(5, S_2L5 fuel)]
 dep := fun i => 0
 n := 2
noncomputable def B_2L5 : Code := (Try.f87.body.bind (loopBody 5)).getD .skip
noncomputable def D_2 : Code := Try.f87.body.getD .skip
noncomputable def N_2 (_ : outs [.v (.slice (.slice .int)), .v .int]) (r : dens [.v .int]) : Int := r
noncomputable def E_3 : Entry where
 params := [.v (.pair .int (.slice (.slice .int))), .v .int]
 results := [.v .int]
 B := Int
 run := fun a => laws_szRelation a.1 a.2
 out := fun b => ((), ())
 res := fun b => b
noncomputable def C_3 : Cx where
 tt := tblTT tt
 T := tblT [(87, E_2)]
 L := tblL []
 dep := fun i => 0
 n := 2
noncomputable def D_3 : Code := Try.f43.body.getD .skip
noncomputable def N_3 (_ : outs [.v (.pair .int (.slice (.slice .int))), .v .int]) (r : dens [.v .int]) : Int := r
noncomputable def E_4 : Entry where
 params := [.v (.pair (.slice .int) (.pair .int (.slice (.slice .int)))), .v .int]
 results := [.v .int]
 B := Int
 run := fun a => laws_szConstraint a.1 a.2
 out := fun b => ((), ())
 res := fun b => b
noncomputable def C_4 : Cx where
 tt := tblTT tt
 T := tblT [(43, E_3), (133, E_1)]
 L := tblL []
 dep := fun i => 0
 n := 2
noncomputable def D_4 : Code := Try.f78.body.getD .skip
noncomputable def N_4 (_ : outs [.v (.pair (.slice .int) (.pair .int (.slice (.slice .int)))), .v .int]) (r : dens [.v .int]) : Int := r
noncomputable def E_5 : Entry where
 params := [.v (.slice (.pair (.slice .int) (.pair .int (.slice (.slice .int))))), .v .int]
 results := [.v .int]
 B := Int
 run := fun a => laws_szConstraintS a.1 a.2
 out := fun b => ((), ())
 res := fun b => b
noncomputable def S_5L5 (n : Nat) : LoopSpec where
 sh := [(0, .v (.slice (.pair (.slice .int) (.pair .int (.slice (.slice .int)))))), (1, .v .int), (5, .v .int)]
 ex := [(.exit 0, [(1, .v .int)]), (.ret, [(4, .v .int)])]
 run := laws_szConstraintS_L5 n
noncomputable def C_5 : Cx where
 tt := tblTT tt
 T := tblT [(78, E_4)]
 L := tblL [(5, S_5L5 fuel)]
 dep := fun i => 0
 n := 2
noncomputable def B_5L5 : Code := (Try.f32.body.bind (loopBody 5)).getD .skip
noncomputable def D_5 : Code := Try.f32.body.getD .skip
noncomputable def N_5 (_ : outs [.v (.slice (.pair (.slice .int) (.pair .int (.slice (.slice .int))))), .v .int]) (r : dens [.v .int]) : Int := r
noncomputable def E_6 : Entry where
 params := [.v (.pair .int (.pair .int (.slice (.pair (.slice .int) (.pair .int (.slice (.slice .int))))))), .v .int]
 results := [.v .int]
 B := Int
 run := fun a => laws_szNetwork a.1 a.2
 out := fun b => ((), ())
 res := fun b => b
noncomputable def C_6 : Cx where
 tt := tblTT tt
 T := tblT [(32, E_5)]
 L := tblL []
 dep := fun i => 0
 n := 2
noncomputable def D_6 : Code := Try.f8.body.getD .skip
noncomputable def N_6 (_ : outs [.v (.pair .int (.pair .int (.slice (.pair (.slice .int) (.pair .int (.slice (.slice .int))))))), .v .int]) (r : dens [.v .int]) : Int := r
noncomputable def E_7 : Entry where
 params := [.v (.slice .int)]
 results := [.mv .int 0]
 B := (List Int)
 run := fun a => laws_toIntS a
 out := fun b => ()
 res := fun b => b
noncomputable def S_7L3 (n : Nat) : LoopSpec where
 sh := [(0, .v (.slice .int)), (3, .mv .int 0), (4, .v .int)]
 ex := [(.exit 0, [(3, .mv .int 0)])]
 run := laws_toIntS_L3 n
noncomputable def C_7 : Cx where
 tt := tblTT tt
 T := tblT []
 L := tblL [(3, S_7L3 fuel)]
 dep := fun i => 0
 n := 1
noncomputable def B_7L3 : Code := (Try.f136.body.bind (loopBody 3)).getD .skip
noncomputable def D_7 : Code := Try.f136.body.getD .skip
noncomputable def N_7 (_ : outs [.v (.slice .int)]) (r : dens [.mv .int 0]) : (List Int) := r
noncomputable def E_8 : Entry where
 params := [.v (.slice (.slice .int))]
 results := [.mv (.slice .int) 1]
 B := (List (List Int))
 run := fun a => laws_toIntSS a
 out := fun b => ()
 res := fun b => b
noncomputable def S_8L3 (n : Nat) : LoopSpec where
 sh := [(0, .v (.slice (.slice .int))), (3, .mv (.slice .int) 1), (4, .v .int)]
 ex := [(.exit 0, [(3, .mv (.slice .int) 1)])]
 run := laws_toIntSS_L3 n
noncomputable def C_8 : Cx where
 tt := tblTT tt
 T := tblT [(136, E_7)]
 L := tblL [(3, S_8L3 fuel)]
 dep := fun i => match i with
  | 7 => 1
  | _ => 0
 n := 1
noncomputable def B_8L3 : Code := (Try.f95.body.bind (loopBody 3)).getD .skip
noncomputable def D_8 : Code := Try.f95.body.getD .skip
noncomputable def N_8 (_ : outs [.v (.slice (.slice .int))]) (r : dens [.mv (.slice .int) 1]) : (List (List Int)) := r
noncomputable def E_9 : Entry where
 params := [.v (.pair .int (.slice (.slice .int)))]
 results := [.pr (.v .int) (.mv (.slice .int) 1)]
 B := (Int × (List (List Int)))
 run := fun a => laws_toRelation a
 out := fun b => ()
 res := fun b => b
noncomputable def C_9 : Cx where
 tt := tblTT tt
 T := tblT [(95, E_8)]
 L := tblL []
 dep := fun i => 0
 n := 1
noncomputable def D_9 : Code := Try.f49.body.getD .skip
noncomputable def N_9 (_ : outs [.v (.pair .int (.slice (.slice .int)))]) (r : dens [.pr (.v .int) (.mv (.slice .int) 1)]) : (Int × (List (List Int))) := r
noncomputable def E_10 : Entry where
 params := [.v (.pair (.slice .int) (.pair .int (.slice (.slice .int))))]
 results := [.pr (.mv .int 0) (.pr (.v .int) (.mv (.slice .int) 1))]
 B := ((List Int) × (Int × (List (List Int))))
 run := fun a => laws_toConstraint a
 out := fun b => ()
 res := fun b => b
noncomputable def C_10 : Cx where
 tt := tblTT tt
 T := tblT [(49, E_9), (136, E_7)]
 L := tblL []
 dep := fun i => 0
 n := 1
noncomputable def D_10 : Code := Try.f81.body.getD .skip
noncomputable def N_10 (_ : outs [.v (.pair (.slice .int) (.pair .int (.slice (.slice .int))))]) (r : dens [.pr (.mv .int 0) (.pr (.v .int) (.mv (.slice .int) 1))]) : ((List Int) × (Int × (List (List Int)))) := r
noncomputable def E_11 : Entry where
 params := [.v (.slice (.pair (.slice .int) (.pair .int (.slice (.slice .int)))))]
 results := [.mv (.pair (.slice .int) (.pair .int (.slice (.slice .int)))) 2]
 B := (List ((List Int) × Int × (List (List Int))))
 run := fun a => laws_toConstraintS a
 out := fun b => ()
 res := fun b => b
noncomputable def S_11L3 (n : Nat) : LoopSpec where
 sh := [(0, .v (.slice (.pair (.slice .int) (.pair .int (.slice (.slice .int)))))), (3, .mv (.pair (.slice .int) (.pair .int (.slice (.slice .int)))) 2), (4, .v .int)]
 ex := [(.exit 0, [(3, .mv (.pair (.slice .int) (.pair .int (.slice (.slice .int)))) 2)])]
 run := laws_toConstraintS_L3 n
noncomputable def C_11 : Cx where
 tt := tblTT tt
 T := tblT [(81, E_10)]
 L := tblL [(3, S_11L3 fuel)]
 dep := fun i => match i with
  | 7 => 2
  | _ => 0
 n := 1
noncomputable def B_11L3 : Code := (Try.f36.body.bind (loopBody 3)).getD .skip
noncomputable def D_11 : Code := Try.f36.body.getD .skip
noncomputable def N_11 (_ : outs [.v (.slice (.pair (.slice .int) (.pair .int (.slice (.slice .int)))))]) (r : dens [.mv (.pair (.slice .int) (.pair .int (.slice (.slice .int)))) 2]) : (List ((List Int) × Int × (List (List Int)))) := r
noncomputable def E_12 : Entry where
 params := [.v (.pair .int (.pair .int (.slice (.pair (.slice .int) (.pair .int (.slice (.slice .int)))))))]
 results := [.pr (.v .int) (.pr (.v .int) (.mv (.pair (.slice .int) (.pair .int (.slice (.slice .int)))) 2))]
 B := (Int × (Int × (List ((List Int) × Int × (List (List Int))))))
 run := fun a => laws_toNetwork a
 out := fun b => ()
 res := fun b => b
noncomputable def C_12 : Cx where
 tt := tblTT tt
 T := tblT [(36, E_11)]
 L := tblL []
 dep := fun i => 0
 n := 1
noncomputable def D_12 : Code := Try.f10.body.getD .skip
noncomputable def N_12 (_ : outs [.v (.pair .int (.pair .int (.slice (.pair (.slice .int) (.pair .int (.slice (.slice .int)))))))]) (r : dens [.pr (.v .int) (.pr (.v .int) (.mv (.pair (.slice .int) (.pair .int (.slice (.slice .int)))) 2))]) : (Int × (Int × (List ((List Int) × Int × (List (List Int)))))) := r
noncomputable def E_13 : Entry where
 params := [.v .int, .v .int, .v .int]
 results := [.v .bool]
 B := Bool
 run := fun a => spec_l1In a.1 a.2.1 a.2.2
 out := fun b => ((), (), ())
 res := fun b => b
noncomputable def C_13 : Cx where
 tt := tblTT tt
 T := tblT []
 L := tblL []
 dep := fun i => 0
 n := 3
noncomputable def D_13 : Code := Try.f79.body.getD .skip
noncomputable def N_13 (_ : outs [.v .int, .v .int, .v .int]) (r : dens [.v .bool]) : Bool := r
noncomputable def E_14 : Entry where
 params := [.v .int, .v .int]
 results := [.v .int]
 B := Int
 run := fun a => spec_l2Pow a.1 a.2
 out := fun b => ((), ())
 res := fun b => b
noncomputable def S_14L2 (n : Nat) : LoopSpec where
 sh := [(0, .v .int), (1, .v .int), (5, .v .int)]
 ex := [(.exit 0, [(5, .v .int)])]
 run := spec_l2Pow_L2 n
noncomputable def C_14 : Cx where
 tt := tblTT tt
 T := tblT []
 L := tblL [(2, S_14L2 fuel)]
 dep := fun i => 0
 n := 2
noncomputable def B_14L2 : Code := (Try.f92.body.bind (loopBody 2)).getD .skip
noncomputable def D_14 : Code := Try.f92.body.getD .skip
noncomputable def N_14 (_ : outs [.v .int, .v .int]) (r : dens [.v .int]) : Int := r
noncomputable def E_15 : Entry where
 params := [.v .int, .v (.slice .int)]
 results := [.v .bool]
 B := Bool
 run := fun a => spec_l2Elements a.1 a.2
 out := fun b => ((), ())
 res := fun b => b
noncomputable def S_15L2 (n : Nat) : LoopSpec where
 sh := [(0, .v .int), (1, .v (.slice .int)), (5, .v .int)]
 ex := [(.exit 0, []), (.ret, [(4, .v .bool)])]
 run := spec_l2Elements_L2 n
noncomputable def C_15 : Cx where
 tt := tblTT tt
 T := tblT [(79, E_13)]
 L := tblL [(2, S_15L2 fuel)]
 dep := fun i => 0
 n := 2
noncomputable def B_15L2 : Code := (Try.f135.body.bind (loopBody 2)).getD .skip
noncomputable def D_15 : Code := Try.f135.body.getD .skip
noncomputable def N_15 (_ : outs [.v .int, .v (.slice .int)]) (r : dens [.v .bool]) : Bool := r
noncomputable def E_16 : Entry where
 params := [.v .int, .v .int, .v (.slice .int)]
 results := [.v .bool]
 B := Bool
 run := fun a => spec_l8Tuple a.1 a.2.1 a.2.2
 out := fun b => ((), (), ())
 res := fun b => b
noncomputable def C_16 : Cx where
 tt := tblTT tt
 T := tblT [(135, E_15)]
 L := tblL []
 dep := fun i => 0
 n := 3
noncomputable def D_16 : Code := Try.f172.body.getD .skip
noncomputable def N_16 (_ : outs [.v .int, .v .int, .v (.slice .int)]) (r : dens [.v .bool]) : Bool := r
noncomputable def E_17 : Entry where
 params := [.v (.slice .int), .v (.slice .int)]
 results := [.v .bool]
 B := Bool
 run := fun a => spec_l3Less a.1 a.2
 out := fun b => ((), ())
 res := fun b => b
noncomputable def S_17L2 (n : Nat) : LoopSpec where
 sh := [(0, .v (.slice .int)), (1, .v (.slice .int)), (5, .v .int)]
 ex := [(.exit 0, []), (.ret, [(4, .v .bool)])]
 run := spec_l3Less_L2 n
noncomputable def C_17 : Cx where
 tt := tblTT tt
 T := tblT []
 L := tblL [(2, S_17L2 fuel)]
 dep := fun i => 0
 n := 2
noncomputable def B_17L2 : Code := (Try.f173.body.bind (loopBody 2)).getD .skip
noncomputable def D_17 : Code := Try.f173.body.getD .skip
noncomputable def N_17 (_ : outs [.v (.slice .int), .v (.slice .int)]) (r : dens [.v .bool]) : Bool := r
noncomputable def E_18 : Entry where
 params := [.v .int, .v (.pair .int (.slice (.slice .int)))]
 results := [.v .bool]
 B := Bool
 run := fun a => spec_l13Good a.1 a.2
 out := fun b => ((), ())
 res := fun b => b
noncomputable def S_18L4 (n : Nat) : LoopSpec where
 sh := [(0, .v .int), (3, .bx (.v (.pair .int (.slice (.slice .int))))), (5, .v .int)]
 ex := [(.exit 0, []), (.ret, [(4, .v .bool)])]
 run := spec_l13Good_L4 n
noncomputable def C_18 : Cx where
 tt := tblTT tt
 T := tblT [(79, E_13), (92, E_14), (172, E_16), (173, E_17)]
 L := tblL [(4, S_18L4 fuel)]
 dep := fun i => 0
 n := 2
noncomputable def B_18L4 : Code := (Try.f134.body.bind (loopBody 4)).getD .skip
noncomputable def D_18 : Code := Try.f134.body.getD .skip
noncomputable def N_18 (_ : outs [.v .int, .v (.pair .int (.slice (.slice .int)))]) (r : dens [.v .bool]) : Bool := r
noncomputable def E_19 : Entry where
 params := [.v .int, .v .int, .v (.pair (.slice .int) (.pair .int (.slice (.slice .int))))]
 results := [.v .bool]
 B := Bool
 run := fun a => spec_l19Is a.1 a.2.1 a.2.2
 out := fun b => ((), (), ())
 res := fun b => b
noncomputable def C_19 : Cx where
 tt := tblTT tt
 T := tblT [(134, E_18), (135, E_15)]
 L := tblL []
 dep := fun i => 0
 n := 3
noncomputable def D_19 : Code := Try.f80.body.getD .skip
noncomputable def N_19 (_ : outs [.v .int, .v .int, .v (.pair (.slice .int) (.pair .int (.slice (.slice .int))))]) (r : dens [.v .bool]) : Bool := r
noncomputable def E_20 : Entry where
 params := [.v (.pair .int (.pair .int (.slice (.pair (.slice .int) (.pair .int (.slice (.slice .int)))))))]
 results := [.v .bool]
 B := Bool
 run := fun a => spec_l19Good a
 out := fun b => ()
 res := fun b => b
noncomputable def S_20L4 (n : Nat) : LoopSpec where
 sh := [(1, .bx (.v (.pair .int (.pair .int (.slice (.pair (.slice .int) (.pair .int (.slice (.slice .int))))))))), (3, .v .int)]
 ex := [(.exit 0, []), (.ret, [(2, .v .bool)])]
 run := spec_l19Good_L4 n
noncomputable def C_20 : Cx where
 tt := tblTT tt
 T := tblT [(79, E_13), (80, E_19)]
 L := tblL [(4, S_20L4 fuel)]
 dep := fun i => 0
 n := 1
noncomputable def B_20L4 : Code := (Try.f33.body.bind (loopBody 4)).getD .skip
noncomputable def D_20 : Code := Try.f33.body.getD .skip
noncomputable def N_20 (_ : outs [.v (.pair .int (.pair .int (.slice (.pair (.slice .int) (.pair .int (.slice (.slice .int)))))))]) (r : dens [.v .bool]) : Bool := r
noncomputable def E_21 : Entry where
 params := [.v (.pair .int (.pair .int (.slice (.pair (.slice .int) (.pair .int (.slice (.slice .int)))))))]
 results := [.v .bool]
 B := Bool
 run := fun a => spec_l22Good a
 out := fun b => ()
 res := fun b => b
noncomputable def C_21 : Cx where
 tt := tblTT tt
 T := tblT [(33, E_20)]
 L := tblL []
 dep := fun i => 0
 n := 1
noncomputable def D_21 : Code := Try.f69.body.getD .skip
noncomputable def N_21 (_ : outs [.v (.pair .int (.pair .int (.slice (.pair (.slice .int) (.pair .int (.slice (.slice .int)))))))]) (r : dens [.v .bool]) : Bool := r
noncomputable def E_22 : Entry where
 params := [.v (.slice .int), .v (.slice .int)]
 results := [.v .bool]
 B := Bool
 run := fun a => spec_l1Same a.1 a.2
 out := fun b => ((), ())
 res := fun b => b
noncomputable def S_22L4 (n : Nat) : LoopSpec where
 sh := [(0, .v (.slice .int)), (1, .v (.slice .int)), (5, .v .int)]
 ex := [(.exit 0, []), (.ret, [(4, .v .bool)])]
 run := spec_l1Same_L4 n
noncomputable def C_22 : Cx where
 tt := tblTT tt
 T := tblT []
 L := tblL [(4, S_22L4 fuel)]
 dep := fun i => 0
 n := 2
noncomputable def B_22L4 : Code := (Try.f192.body.bind (loopBody 4)).getD .skip
noncomputable def D_22 : Code := Try.f192.body.getD .skip
noncomputable def N_22 (_ : outs [.v (.slice .int), .v (.slice .int)]) (r : dens [.v .bool]) : Bool := r
noncomputable def E_23 : Entry where
 params := [.v (.slice (.slice .int)), .v (.slice .int)]
 results := [.v .int, .v .bool]
 B := Int × Bool
 run := fun a => spec_l8Find a.1 a.2
 out := fun b => ((), ())
 res := fun b => (b.1, b.2)
noncomputable def S_23L2 (n : Nat) : LoopSpec where
 sh := [(0, .v (.slice (.slice .int))), (1, .v (.slice .int)), (6, .v .int), (7, .v .int)]
 ex := [(.exit 0, [(0, .v (.slice (.slice .int))), (1, .v (.slice .int)), (6, .v .int)])]
 run := spec_l8Find_L2 n
noncomputable def C_23 : Cx where
 tt := tblTT tt
 T := tblT [(173, E_17), (192, E_22)]
 L := tblL [(2, S_23L2 fuel)]
 dep := fun i => 0
 n := 2
noncomputable def B_23L2 : Code := (Try.f178.body.bind (loopBody 2)).getD .skip
noncomputable def D_23 : Code := Try.f178.body.getD .skip
noncomputable def N_23 (_ : outs [.v (.slice (.slice .int)), .v (.slice .int)]) (r : dens [.v .int, .v .bool]) : Int × Bool := (r.1, r.2)
noncomputable def E_24 : Entry where
 params := [.v (.pair .int (.slice (.slice .int))), .v (.slice .int)]
 results := [.v .bool]
 B := Bool
 run := fun a => spec_l13Has a.1 a.2
 out := fun b => ((), ())
 res := fun b => b
noncomputable def C_24 : Cx where
 tt := tblTT tt
 T := tblT [(178, E_23)]
 L := tblL []
 dep := fun i => 0
 n := 2
noncomputable def D_24 : Code := Try.f156.body.getD .skip
noncomputable def N_24 (_ : outs [.v (.pair .int (.slice (.slice .int))), .v (.slice .int)]) (r : dens [.v .bool]) : Bool := r
noncomputable def E_25 : Entry where
 params := []
 results := [.mv (.pair .int (.slice .int)) 0]
 B := (List (Int × (List Int)))
 run := fun a => spec_l22Ops
 out := fun b => ()
 res := fun b => b
noncomputable def C_25 : Cx where
 tt := tblTT tt
 T := tblT []
 L := tblL []
 dep := fun i => 0
 n := 0
noncomputable def D_25 : Code := Try.f158.body.getD .skip
noncomputable def N_25 (_ : outs []) (r : dens [.mv (.pair .int (.slice .int)) 0]) : (List (Int × (List Int))) := r
noncomputable def E_26 : Entry where
 params := [.v (.slice (.slice .int)), .v (.slice .int)]
 results := [.mv (.slice .int) 0]
 B := (List (List Int))
 run := fun a => spec_l8Choose a.1 a.2
 out := fun b => ((), ())
 res := fun b => b
noncomputable def S_26L3 (n : Nat) : LoopSpec where
 sh := [(0, .v (.slice (.slice .int))), (1, .v (.slice .int)), (5, .mv (.slice .int) 0), (6, .v .int)]
 ex := [(.exit 0, [(5, .mv (.slice .int) 0)])]
 run := spec_l8Choose_L3 n
noncomputable def C_26 : Cx where
 tt := tblTT tt
 T := tblT []
 L := tblL [(3, S_26L3 fuel)]
 dep := fun i => 0
 n := 2
noncomputable def B_26L3 : Code := (Try.f194.body.bind (loopBody 3)).getD .skip
noncomputable def D_26 : Code := Try.f194.body.getD .skip
noncomputable def N_26 (_ : outs [.v (.slice (.slice .int)), .v (.slice .int)]) (r : dens [.mv (.slice .int) 0]) : (List (List Int)) := r
noncomputable def E_27 : Entry where
 params := [.v (.pair .int (.slice (.pair .int (.slice .int)))), .v .int, .v (.slice (.slice .int)), .v .int]
 results := [.mv .int 0]
 B := (List Int)
 run := fun a => spec_l8Apply a.1 a.2.1 a.2.2.1 a.2.2.2
 out := fun b => ((), (), (), ())
 res := fun b => b
noncomputable def S_27L7 (n : Nat) : LoopSpec where
 sh := [(1, .v .int), (2, .v (.slice (.slice .int))), (3, .v .int), (4, .bx (.v (.pair .int (.slice (.pair .int (.slice .int)))))), (9, .mv .int 0), (10, .v .int), (11, .v .int), (12, .v .int)]
 ex := [(.exit 2, [(1, .v .int), (2, .v (.slice (.slice .int))), (3, .v .int), (4, .bx (.v (.pair .int (.slice (.pair .int (.slice .int)))))), (9, .mv .int 0), (10, .v .int), (11, .v .int)])]
 run := spec_l8Apply_L7 n
noncomputable def S_27L3 (n : Nat) : LoopSpec where
 sh := [(1, .v .int), (2, .v (.slice (.slice .int))), (3, .v .int), (4, .bx (.v (.pair .int (.slice (.pair .int (.slice .int)))))), (9, .mv .int 0), (10, .v .int)]
 ex := [(.exit 0, [(9, .mv .int 0)])]
 run := spec_l8Apply_L3 n
noncomputable def C_27 : Cx where
 tt := tblTT tt
 T := tblT []
 L := tblL [(7, S_27L7 fuel), (3, S_27L3 fuel)]
 dep := fun i => 0
 n := 4
noncomputable def B_27L7 : Code := (Try.f196.body.bind (loopBody 7)).getD .skip
noncomputable def B_27L3 : Code := (Try.f196.body.bind (loopBody 3)).getD .skip
noncomputable def D_27 : Code := Try.f196.body.getD .skip
noncomputable def N_27 (_ : outs [.v (.pair .int (.slice (.pair .int (.slice .int)))), .v .int, .v (.slice (.slice .int)), .v .int]) (r : dens [.mv .int 0]) : (List Int) := r
noncomputable def E_28 : Entry where
 params := [.v .int, .v (.pair .int (.slice .int)), .v (.slice (.slice .int)), .v .int]
 results := [.mv .int 0]
 B := (List Int)
 run := fun a => spec_l13Result a.1 a.2.1 a.2.2.1 a.2.2.2
 out := fun b => ((), (), (), ())
 res := fun b => b
noncomputable def C_28 : Cx where
 tt := tblTT tt
 T := tblT [(196, E_27)]
 L := tblL []
 dep := fun i => 0
 n := 4
noncomputable def D_28 : Code := Try.f193.body.getD .skip
noncomputable def N_28 (_ : outs [.v .int, .v (.pair .int (.slice .int)), .v (.slice (.slice .int)), .v .int]) (r : dens [.mv .int 0]) : (List Int) := r
noncomputable def E_29 : Entry where
 params := [.v (.slice .int)]
 results := [.mv .int 0]
 B := (List Int)
 run := fun a => spec_l1Own a
 out := fun b => ()
 res := fun b => b
noncomputable def C_29 : Cx where
 tt := tblTT tt
 T := tblT []
 L := tblL []
 dep := fun i => 0
 n := 1
noncomputable def D_29 : Code := Try.f122.body.getD .skip
noncomputable def N_29 (_ : outs [.v (.slice .int)]) (r : dens [.mv .int 0]) : (List Int) := r
noncomputable def E_30 : Entry where
 params := [.v (.slice .int), .v .int]
 results := [.mv .int 0, .v .bool]
 B := (List Int) × Bool
 run := fun a => spec_l8Next a.1 a.2
 out := fun b => ((), ())
 res := fun b => (b.1, b.2)
noncomputable def S_30L3 (n : Nat) : LoopSpec where
 sh := [(1, .v .int), (6, .mv .int 0), (7, .v .int)]
 ex := [(.exit 0, [(6, .mv .int 0)]), (.ret, [(4, .mv .int 0), (5, .v .bool)])]
 run := spec_l8Next_L3 n
noncomputable def C_30 : Cx where
 tt := tblTT tt
 T := tblT [(122, E_29)]
 L := tblL [(3, S_30L3 fuel)]
 dep := fun i => 0
 n := 2
noncomputable def B_30L3 : Code := (Try.f195.body.bind (loopBody 3)).getD .skip
noncomputable def D_30 : Code := Try.f195.body.getD .skip
noncomputable def N_30 (_ : outs [.v (.slice .int), .v .int]) (r : dens [.mv .int 0, .v .bool]) : (List Int) × Bool := (r.1, r.2)
noncomputable def E_31 : Entry where
 params := [.v .int, .v (.pair .int (.slice .int)), .v (.pair .int (.slice (.slice .int)))]
 results := [.v (.slice .int), .mv .int 0, .v .bool]
 B := (List Int) × (List Int) × Bool
 run := fun a => spec_l13Break a.1 a.2.1 a.2.2
 out := fun b => ((), (), ())
 res := fun b => (b.1, b.2.1, b.2.2)
noncomputable def S_31L2 (n : Nat) : LoopSpec where
 sh := [(0, .v .int), (4, .bx (.v (.pair .int (.slice .int)))), (5, .bx (.v (.pair .int (.slice (.slice .int))))), (9, .mv .int 0), (10, .v .bool)]
 ex := [(.exit 0, []), (.ret, [(6, .v (.slice .int)), (7, .mv .int 0), (8, .v .bool)])]
 run := spec_l13Break_L2 n
noncomputable def C_31 : Cx where
 tt := tblTT tt
 T := tblT [(156, E_24), (193, E_28), (194, E_26), (195, E_30)]
 L := tblL [(2, S_31L2 fuel)]
 dep := fun i => 0
 n := 3
noncomputable def B_31L2 : Code := (Try.f179.body.bind (loopBody 2)).getD .skip
noncomputable def D_31 : Code := Try.f179.body.getD .skip
noncomputable def N_31 (_ : outs [.v .int, .v (.pair .int (.slice .int)), .v (.pair .int (.slice (.slice .int)))]) (r : dens [.v (.slice .int), .mv .int 0, .v .bool]) : (List Int) × (List Int) × Bool := (r.1, r.2.1, r.2.2)
noncomputable def E_32 : Entry where
 params := [.v .int, .v (.pair .int (.slice .int)), .v (.pair .int (.slice (.slice .int)))]
 results := [.v .bool]
 B := Bool
 run := fun a => spec_l13Keeps a.1 a.2.1 a.2.2
 out := fun b => ((), (), ())
 res := fun b => b
noncomputable def C_32 : Cx where
 tt := tblTT tt
 T := tblT [(179, E_31)]
 L := tblL []
 dep := fun i => 0
 n := 3
noncomputable def D_32 : Code := Try.f157.body.getD .skip
noncomputable def N_32 (_ : outs [.v .int, .v (.pair .int (.slice .int)), .v (.pair .int (.slice (.slice .int)))]) (r : dens [.v .bool]) : Bool := r
noncomputable def E_33 : Entry where
 params := [.v (.pair .int (.slice (.slice .int))), .v .int]
 results := [.v .bool]
 B := Bool
 run := fun a => spec_l22In a.1 a.2
 out := fun b => ((), ())
 res := fun b => b
noncomputable def S_33L4 (n : Nat) : LoopSpec where
 sh := [(1, .v .int), (2, .bx (.v (.pair .int (.slice (.slice .int))))), (5, .mv .int 0), (6, .v .int)]
 ex := [(.exit 0, [(2, .bx (.v (.pair .int (.slice (.slice .int))))), (5, .mv .int 0)])]
 run := spec_l22In_L4 n
noncomputable def C_33 : Cx where
 tt := tblTT tt
 T := tblT [(156, E_24), (157, E_32), (158, E_25)]
 L := tblL [(4, S_33L4 fuel)]
 dep := fun i => 0
 n := 2
noncomputable def B_33L4 : Code := (Try.f118.body.bind (loopBody 4)).getD .skip
noncomputable def D_33 : Code := Try.f118.body.getD .skip
noncomputable def N_33 (_ : outs [.v (.pair .int (.slice (.slice .int))), .v .int]) (r : dens [.v .bool]) : Bool := r
noncomputable def E_34 : Entry where
 params := [.v (.pair .int (.pair .int (.slice (.pair (.slice .int) (.pair .int (.slice (.slice .int))))))), .v .int]
 results := [.v .bool]
 B := Bool
 run := fun a => spec_l22Is a.1 a.2
 out := fun b => ((), ())
 res := fun b => b
noncomputable def S_34L2 (n : Nat) : LoopSpec where
 sh := [(1, .v .int), (2, .bx (.v (.pair .int (.pair .int (.slice (.pair (.slice .int) (.pair .int (.slice (.slice .int))))))))), (5, .v .int)]
 ex := [(.exit 0, []), (.ret, [(4, .v .bool)])]
 run := spec_l22Is_L2 n
noncomputable def C_34 : Cx where
 tt := tblTT tt
 T := tblT [(118, E_33)]
 L := tblL [(2, S_34L2 fuel)]
 dep := fun i => 0
 n := 2
noncomputable def B_34L2 : Code := (Try.f70.body.bind (loopBody 2)).getD .skip
noncomputable def D_34 : Code := Try.f70.body.getD .skip
noncomputable def N_34 (_ : outs [.v (.pair .int (.pair .int (.slice (.pair (.slice .int) (.pair .int (.slice (.slice .int))))))), .v .int]) (r : dens [.v .bool]) : Bool := r
noncomputable def E_35 : Entry where
 params := [.v .int]
 results := [.v .bool]
 B := Bool
 run := fun a => spec_l21Prime a
 out := fun b => ()
 res := fun b => b
noncomputable def C_35 : Cx where
 tt := tblTT tt
 T := tblT []
 L := tblL []
 dep := fun i => 0
 n := 1
noncomputable def D_35 : Code := Try.f164.body.getD .skip
noncomputable def N_35 (_ : outs [.v .int]) (r : dens [.v .bool]) : Bool := r
noncomputable def E_36 : Entry where
 params := [.v .int]
 results := [.v .bool]
 B := Bool
 run := fun a => spec_l6Size a
 out := fun b => ()
 res := fun b => b
noncomputable def C_36 : Cx where
 tt := tblTT tt
 T := tblT [(79, E_13)]
 L := tblL []
 dep := fun i => 0
 n := 1
noncomputable def D_36 : Code := Try.f187.body.getD .skip
noncomputable def N_36 (_ : outs [.v .int]) (r : dens [.v .bool]) : Bool := r
noncomputable def E_37 : Entry where
 params := [.v .int, .v .int, .v (.slice (.slice .int))]
 results := [.v .bool]
 B := Bool
 run := fun a => spec_l21Set a.1 a.2.1 a.2.2
 out := fun b => ((), (), ())
 res := fun b => b
noncomputable def S_37L4 (n : Nat) : LoopSpec where
 sh := [(0, .v .int), (1, .v .int), (2, .v (.slice (.slice .int))), (7, .v .int)]
 ex := [(.exit 0, []), (.ret, [(6, .v .bool)])]
 run := spec_l21Set_L4 n
noncomputable def C_37 : Cx where
 tt := tblTT tt
 T := tblT [(79, E_13), (92, E_14), (172, E_16), (173, E_17), (187, E_36)]
 L := tblL [(4, S_37L4 fuel)]
 dep := fun i => 0
 n := 3
noncomputable def B_37L4 : Code := (Try.f165.body.bind (loopBody 4)).getD .skip
noncomputable def D_37 : Code := Try.f165.body.getD .skip
noncomputable def N_37 (_ : outs [.v .int, .v .int, .v (.slice (.slice .int))]) (r : dens [.v .bool]) : Bool := r
noncomputable def E_38 : Entry where
 params := [.v .int, .v (.slice .int), .v (.slice .int), .v .int]
 results := [.mv .int 0]
 B := (List Int)
 run := fun a => spec_l21Less a.1 a.2.1 a.2.2.1 a.2.2.2
 out := fun b => ((), (), (), ())
 res := fun b => b
noncomputable def S_38L3 (n : Nat) : LoopSpec where
 sh := [(0, .v .int), (1, .v (.slice .int)), (2, .v (.slice .int)), (3, .v .int), (9, .mv .int 0), (10, .v .int)]
 ex := [(.exit 0, [(9, .mv .int 0)])]
 run := spec_l21Less_L3 n
noncomputable def C_38 : Cx where
 tt := tblTT tt
 T := tblT []
 L := tblL [(3, S_38L3 fuel)]
 dep := fun i => 0
 n := 4
noncomputable def B_38L3 : Code := (Try.f168.body.bind (loopBody 3)).getD .skip
noncomputable def D_38 : Code := Try.f168.body.getD .skip
noncomputable def N_38 (_ : outs [.v .int, .v (.slice .int), .v (.slice .int), .v .int]) (r : dens [.mv .int 0]) : (List Int) := r
noncomputable def E_39 : Entry where
 params := [.v .int, .v (.slice (.slice .int))]
 results := [.v .bool]
 B := Bool
 run := fun a => spec_l21Affine a.1 a.2
 out := fun b => ((), ())
 res := fun b => b
noncomputable def S_39L9 (n : Nat) : LoopSpec where
 sh := [(0, .v .int), (1, .v (.slice (.slice .int))), (5, .v .int), (6, .v .int), (7, .mv .int 0), (8, .v .int)]
 ex := [(.exit 4, [(0, .v .int), (1, .v (.slice (.slice .int))), (5, .v .int), (6, .v .int), (7, .mv .int 0)])]
 run := spec_l21Affine_L9 n
noncomputable def S_39L5 (n : Nat) : LoopSpec where
 sh := [(0, .v .int), (1, .v (.slice (.slice .int))), (5, .v .int), (6, .v .int)]
 ex := [(.exit 2, [(0, .v .int), (1, .v (.slice (.slice .int))), (5, .v .int)]), (.ret, [(4, .v .bool)])]
 run := spec_l21Affine_L5 n
noncomputable def S_39L2 (n : Nat) : LoopSpec where
 sh := [(0, .v .int), (1, .v (.slice (.slice .int))), (5, .v .int)]
 ex := [(.exit 0, []), (.ret, [(4, .v .bool)])]
 run := spec_l21Affine_L2 n
noncomputable def C_39 : Cx where
 tt := tblTT tt
 T := tblT [(168, E_38), (178, E_23)]
 L := tblL [(9, S_39L9 fuel), (5, S_39L5 fuel), (2, S_39L2 fuel)]
 dep := fun i => 0
 n := 2
noncomputable def B_39L9 : Code := (Try.f166.body.bind (loopBody 9)).getD .skip
noncomputable def B_39L5 : Code := (Try.f166.body.bind (loopBody 5)).getD .skip
noncomputable def B_39L2 : Code := (Try.f166.body.bind (loopBody 2)).getD .skip
noncomputable def D_39 : Code := Try.f166.body.getD .skip
noncomputable def N_39 (_ : outs [.v .int, .v (.slice (.slice .int))]) (r : dens [.v .bool]) : Bool := r
noncomputable def E_40 : Entry where
 params := [.v .int, .v .int]
 results := [.v .int]
 B := Int
 run := fun a => spec_l21Inverse a.1 a.2
 out := fun b => ((), ())
 res := fun b => b
noncomputable def S_40L2 (n : Nat) : LoopSpec where
 sh := [(0, .v .int), (1, .v .int), (5, .v .int)]
 ex := [(.exit 0, [(5, .v .int)])]
 run := spec_l21Inverse_L2 n
noncomputable def C_40 : Cx where
 tt := tblTT tt
 T := tblT []
 L := tblL [(2, S_40L2 fuel)]
 dep := fun i => 0
 n := 2
noncomputable def B_40L2 : Code := (Try.f189.body.bind (loopBody 2)).getD .skip
noncomputable def D_40 : Code := Try.f189.body.getD .skip
noncomputable def N_40 (_ : outs [.v .int, .v .int]) (r : dens [.v .int]) : Int := r
noncomputable def E_41 : Entry where
 params := [.v .int, .v (.slice .int), .v .int]
 results := [.mv .int 0]
 B := (List Int)
 run := fun a => spec_l21Scale a.1 a.2.1 a.2.2
 out := fun b => ((), (), ())
 res := fun b => b
noncomputable def S_41L3 (n : Nat) : LoopSpec where
 sh := [(0, .v .int), (1, .v (.slice .int)), (2, .v .int), (7, .mv .int 0), (8, .v .int)]
 ex := [(.exit 0, [(7, .mv .int 0)])]
 run := spec_l21Scale_L3 n
noncomputable def C_41 : Cx where
 tt := tblTT tt
 T := tblT []
 L := tblL [(3, S_41L3 fuel)]
 dep := fun i => 0
 n := 3
noncomputable def B_41L3 : Code := (Try.f188.body.bind (loopBody 3)).getD .skip
noncomputable def D_41 : Code := Try.f188.body.getD .skip
noncomputable def N_41 (_ : outs [.v .int, .v (.slice .int), .v .int]) (r : dens [.mv .int 0]) : (List Int) := r
noncomputable def E_42 : Entry where
 params := [.v .int, .v .int, .v (.slice (.slice .int))]
 results := [.pr (.mv (.slice .int) 0) (.pr (.mv .int 0) (.v (.slice (.slice .int))))]
 B := ((List (List Int)) × ((List Int) × (List (List Int))))
 run := fun a => spec_l21Eliminate a.1 a.2.1 a.2.2
 out := fun b => ((), (), ())
 res := fun b => b
noncomputable def S_42L3 (n : Nat) : LoopSpec where
 sh := [(0, .v .int), (1, .v .int), (2, .v (.slice (.slice .int))), (6, .bx (.pr (.mv (.slice .int) 0) (.pr (.mv .int 0) (.mv (.slice .int) 0)))), (7, .bx (.pr (.mv (.slice .int) 0) (.pr (.mv .int 0) (.mv (.slice .int) 0)))), (8, .v .int)]
 ex := [(.exit 0, [(0, .v .int), (1, .v .int), (6, .bx (.pr (.mv (.slice .int) 0) (.pr (.mv .int 0) (.mv (.slice .int) 0)))), (7, .bx (.pr (.mv (.slice .int) 0) (.pr (.mv .int 0) (.mv (.slice .int) 0))))])]
 run := spec_l21Eliminate_L3 n
noncomputable def S_42L10 (n : Nat) : LoopSpec where
 sh := [(0, .v .int), (1, .v .int), (6, .bx (.pr (.mv (.slice .int) 0) (.pr (.mv .int 0) (.v (.slice (.slice .int)))))), (7, .bx (.pr (.mv (.slice .int) 0) (.pr (.mv .int 0) (.v (.slice (.slice .int)))))), (9, .v .int), (10, .v .int)]
 ex := [(.exit 4, [(0, .v .int), (1, .v .int), (6, .bx (.pr (.mv (.slice .int) 0) (.pr (.mv .int 0) (.v (.slice (.slice .int)))))), (7, .bx (.pr (.mv (.slice .int) 0) (.pr (.mv .int 0) (.v (.slice (.slice .int)))))), (9, .v .int), (10, .v .int)])]
 run := spec_l21Eliminate_L10 n
noncomputable def S_42L16 (n : Nat) : LoopSpec where
 sh := [(0, .v .int), (1, .v .int), (6, .bx (.pr (.mv (.slice .int) 0) (.pr (.mv .int 0) (.v (.slice (.slice .int)))))), (7, .bx (.pr (.mv (.slice .int) 0) (.pr (.mv .int 0) (.v (.slice (.slice .int)))))), (9, .v .int), (11, .mv .int 0), (12, .mv (.slice .int) 0), (13, .v .int)]
 ex := [(.exit 6, [(0, .v .int), (1, .v .int), (6, .bx (.pr (.mv (.slice .int) 0) (.pr (.mv .int 0) (.v (.slice (.slice .int)))))), (7, .bx (.pr (.mv (.slice .int) 0) (.pr (.mv .int 0) (.v (.slice (.slice .int)))))), (9, .v .int), (11, .mv .int 0), (12, .mv (.slice .int) 0)])]
 run := spec_l21Eliminate_L16 n
noncomputable def S_42L20 (n : Nat) : LoopSpec where
 sh := [(0, .v .int), (1, .v .int), (6, .bx (.pr (.mv (.slice .int) 0) (.pr (.mv .int 0) (.v (.slice (.slice .int)))))), (7, .bx (.pr (.mv (.slice .int) 0) (.pr (.mv .int 0) (.v (.slice (.slice .int)))))), (9, .v .int), (11, .mv .int 0), (12, .mv (.slice .int) 0), (14, .v .int)]
 ex := [(.exit 8, [(0, .v .int), (1, .v .int), (6, .bx (.pr (.mv (.slice .int) 0) (.pr (.mv .int 0) (.v (.slice (.slice .int)))))), (7, .bx (.pr (.mv (.slice .int) 0) (.pr (.mv .int 0) (.v (.slice (.slice .int)))))), (9, .v .int), (11, .mv .int 0), (12, .mv (.slice .int) 0)])]
 run := spec_l21Eliminate_L20 n
noncomputable def S_42L7 (n : Nat) : LoopSpec where
 sh := [(0, .v .int), (1, .v .int), (6, .bx (.pr (.mv (.slice .int) 0) (.pr (.mv .int 0) (.v (.slice (.slice .int)))))), (7, .bx (.pr (.mv (.slice .int) 0) (.pr (.mv .int 0) (.v (.slice (.slice .int)))))), (9, .v .int)]
 ex := [(.exit 2, [(6, .bx (.pr (.mv (.slice .int) 0) (.pr (.mv .int 0) (.v (.slice (.slice .int)))))), (7, .bx (.pr (.mv (.slice .int) 0) (.pr (.mv .int 0) (.v (.slice (.slice .int))))))])]
 run := spec_l21Eliminate_L7 n
noncomputable def C_42 : Cx where
 tt := tblTT tt
 T := tblT [(122, E_29), (168, E_38), (188, E_41), (189, E_40)]
 L := tblL [(3, S_42L3 fuel), (10, S_42L10 fuel), (16, S_42L16 fuel), (20, S_42L20 fuel), (7, S_42L7 fuel)]
 dep := fun i => 0
 n := 3
noncomputable def B_42L3 : Code := (Try.f167.body.bind (loopBody 3)).getD .skip
noncomputable def B_42L10 : Code := (Try.f167.body.bind (loopBody 10)).getD .skip
noncomputable def B_42L16 : Code := (Try.f167.body.bind (loopBody 16)).getD .skip
noncomputable def B_42L20 : Code := (Try.f167.body.bind (loopBody 20)).getD .skip
noncomputable def B_42L7 : Code := (Try.f167.body.bind (loopBody 7)).getD .skip
noncomputable def D_42 : Code := Try.f167.body.getD .skip
noncomputable def N_42 (_ : outs [.v .int, .v .int, .v (.slice (.slice .int))]) (r : dens [.pr (.mv (.slice .int) 0) (.pr (.mv .int 0) (.v (.slice (.slice .int))))]) : ((List (List Int)) × ((List Int) × (List (List Int)))) := r
noncomputable def E_43 : Entry where
 params := [.v (.slice .int), .v .int]
 results := [.v .bool]
 B := Bool
 run := fun a => spec_l1Has a.1 a.2
 out := fun b => ((), ())
 res := fun b => b
noncomputable def S_43L2 (n : Nat) : LoopSpec where
 sh := [(0, .v (.slice .int)), (1, .v .int), (5, .v .int)]
 ex := [(.exit 0, []), (.ret, [(4, .v .bool)])]
 run := spec_l1Has_L2 n
noncomputable def C_43 : Cx where
 tt := tblTT tt
 T := tblT []
 L := tblL [(2, S_43L2 fuel)]
 dep := fun i => 0
 n := 2
noncomputable def B_43L2 : Code := (Try.f120.body.bind (loopBody 2)).getD .skip
noncomputable def D_43 : Code := Try.f120.body.getD .skip
noncomputable def N_43 (_ : outs [.v (.slice .int), .v .int]) (r : dens [.v .bool]) : Bool := r
noncomputable def E_44 : Entry where
 params := [.v (.pair (.slice (.slice .int)) (.pair (.slice .int) (.slice (.slice .int)))), .v .int]
 results := [.mv .int 0]
 B := (List Int)
 run := fun a => spec_l21Free a.1 a.2
 out := fun b => ((), ())
 res := fun b => b
noncomputable def S_44L3 (n : Nat) : LoopSpec where
 sh := [(1, .v .int), (2, .bx (.v (.pair (.slice (.slice .int)) (.pair (.slice .int) (.slice (.slice .int)))))), (5, .mv .int 0), (6, .v .int)]
 ex := [(.exit 0, [(5, .mv .int 0)])]
 run := spec_l21Free_L3 n
noncomputable def C_44 : Cx where
 tt := tblTT tt
 T := tblT [(120, E_43)]
 L := tblL [(3, S_44L3 fuel)]
 dep := fun i => 0
 n := 2
noncomputable def B_44L3 : Code := (Try.f190.body.bind (loopBody 3)).getD .skip
noncomputable def D_44 : Code := Try.f190.body.getD .skip
noncomputable def N_44 (_ : outs [.v (.pair (.slice (.slice .int)) (.pair (.slice .int) (.slice (.slice .int)))), .v .int]) (r : dens [.mv .int 0]) : (List Int) := r
noncomputable def E_45 : Entry where
 params := [.v (.pair (.slice (.slice .int)) (.pair (.slice .int) (.slice (.slice .int)))), .v .int, .v .int]
 results := [.mv (.slice .int) 0]
 B := (List (List Int))
 run := fun a => spec_l21Kernel a.1 a.2.1 a.2.2
 out := fun b => ((), (), ())
 res := fun b => b
noncomputable def S_45L8 (n : Nat) : LoopSpec where
 sh := [(1, .v .int), (2, .v .int), (3, .bx (.v (.pair (.slice (.slice .int)) (.pair (.slice .int) (.slice (.slice .int)))))), (7, .mv (.slice .int) 0), (8, .mv .int 0), (9, .v .int), (10, .mv .int 0), (11, .v .int)]
 ex := [(.exit 2, [(1, .v .int), (2, .v .int), (3, .bx (.v (.pair (.slice (.slice .int)) (.pair (.slice .int) (.slice (.slice .int)))))), (7, .mv (.slice .int) 0), (8, .mv .int 0), (9, .v .int), (10, .mv .int 0)])]
 run := spec_l21Kernel_L8 n
noncomputable def S_45L3 (n : Nat) : LoopSpec where
 sh := [(1, .v .int), (2, .v .int), (3, .bx (.v (.pair (.slice (.slice .int)) (.pair (.slice .int) (.slice (.slice .int)))))), (7, .mv (.slice .int) 0), (8, .mv .int 0), (9, .v .int)]
 ex := [(.exit 0, [(7, .mv (.slice .int) 0)])]
 run := spec_l21Kernel_L3 n
noncomputable def C_45 : Cx where
 tt := tblTT tt
 T := tblT [(190, E_44)]
 L := tblL [(8, S_45L8 fuel), (3, S_45L3 fuel)]
 dep := fun i => 0
 n := 3
noncomputable def B_45L8 : Code := (Try.f169.body.bind (loopBody 8)).getD .skip
noncomputable def B_45L3 : Code := (Try.f169.body.bind (loopBody 3)).getD .skip
noncomputable def D_45 : Code := Try.f169.body.getD .skip
noncomputable def N_45 (_ : outs [.v (.pair (.slice (.slice .int)) (.pair (.slice .int) (.slice (.slice .int)))), .v .int, .v .int]) (r : dens [.mv (.slice .int) 0]) : (List (List Int)) := r
noncomputable def E_46 : Entry where
 params := [.v .int, .v .int, .v (.slice (.slice .int))]
 results := [.pr (.v .int) (.pr (.v .int) (.mv (.slice .int) 0)), .v .bool]
 B := (Int × (Int × (List (List Int)))) × Bool
 run := fun a => spec_EquationsOf a.1 a.2.1 a.2.2
 out := fun b => ((), (), ())
 res := fun b => (b.1, b.2)
noncomputable def S_46L5 (n : Nat) : LoopSpec where
 sh := [(0, .v .int), (1, .v .int), (2, .v (.slice (.slice .int))), (6, .bx (.pr (.v .int) (.pr (.v .int) (.mv (.slice .int) 0)))), (8, .mv (.slice .int) 0), (9, .v .int)]
 ex := [(.exit 0, [(0, .v .int), (1, .v .int), (2, .v (.slice (.slice .int))), (6, .bx (.pr (.v .int) (.pr (.v .int) (.mv (.slice .int) 0)))), (8, .mv (.slice .int) 0)])]
 run := spec_EquationsOf_L5 n
noncomputable def S_46L15 (n : Nat) : LoopSpec where
 sh := [(0, .v .int), (1, .v .int), (2, .v (.slice (.slice .int))), (6, .bx (.pr (.v .int) (.pr (.v .int) (.mv (.slice .int) 0)))), (10, .mv (.slice .int) 0), (11, .mv (.slice .int) 0), (12, .v .int), (13, .v .int), (14, .v .int)]
 ex := [(.exit 4, [(0, .v .int), (1, .v .int), (2, .v (.slice (.slice .int))), (6, .bx (.pr (.v .int) (.pr (.v .int) (.mv (.slice .int) 0)))), (10, .mv (.slice .int) 0), (11, .mv (.slice .int) 0), (12, .v .int), (13, .v .int)])]
 run := spec_EquationsOf_L15 n
noncomputable def S_46L11 (n : Nat) : LoopSpec where
 sh := [(0, .v .int), (1, .v .int), (2, .v (.slice (.slice .int))), (6, .bx (.pr (.v .int) (.pr (.v .int) (.mv (.slice .int) 0)))), (10, .mv (.slice .int) 0), (11, .mv (.slice .int) 0), (12, .v .int)]
 ex := [(.exit 2, [(0, .v .int), (1, .v .int), (6, .bx (.pr (.v .int) (.pr (.v .int) (.mv (.slice .int) 0)))), (11, .mv (.slice .int) 0)])]
 run := spec_EquationsOf_L11 n
noncomputable def C_46 : Cx where
 tt := tblTT tt
 T := tblT [(122, E_29), (164, E_35), (165, E_37), (166, E_39), (167, E_42), (168, E_38), (169, E_45)]
 L := tblL [(5, S_46L5 fuel), (15, S_46L15 fuel), (11, S_46L11 fuel)]
 dep := fun i => 0
 n := 3
noncomputable def B_46L5 : Code := (Try.f125.body.bind (loopBody 5)).getD .skip
noncomputable def B_46L15 : Code := (Try.f125.body.bind (loopBody 15)).getD .skip
noncomputable def B_46L11 : Code := (Try.f125.body.bind (loopBody 11)).getD .skip
noncomputable def D_46 : Code := Try.f125.body.getD .skip
noncomputable def N_46 (_ : outs [.v .int, .v .int, .v (.slice (.slice .int))]) (r : dens [.pr (.v .int) (.pr (.v .int) (.mv (.slice .int) 0)), .v .bool]) : (Int × (Int × (List (List Int)))) × Bool := (r.1, r.2)
noncomputable def E_47 : Entry where
 params := [.v (.pair (.slice (.slice .int)) (.pair (.slice .int) (.slice (.slice .int)))), .v .int]
 results := [.v .bool]
 B := Bool
 run := fun a => spec_l21Empty a.1 a.2
 out := fun b => ((), ())
 res := fun b => b
noncomputable def S_47L2 (n : Nat) : LoopSpec where
 sh := [(1, .v .int), (2, .bx (.v (.pair (.slice (.slice .int)) (.pair (.slice .int) (.slice (.slice .int)))))), (5, .v .int)]
 ex := [(.exit 0, []), (.ret, [(4, .v .bool)])]
 run := spec_l21Empty_L2 n
noncomputable def C_47 : Cx where
 tt := tblTT tt
 T := tblT []
 L := tblL [(2, S_47L2 fuel)]
 dep := fun i => 0
 n := 2
noncomputable def B_47L2 : Code := (Try.f170.body.bind (loopBody 2)).getD .skip
noncomputable def D_47 : Code := Try.f170.body.getD .skip
noncomputable def N_47 (_ : outs [.v (.pair (.slice (.slice .int)) (.pair (.slice .int) (.slice (.slice .int)))), .v .int]) (r : dens [.v .bool]) : Bool := r
noncomputable def E_48 : Entry where
 params := [.v .int, .v .int, .v (.slice (.slice .int))]
 results := [.mv .int 0, .v .bool]
 B := (List Int) × Bool
 run := fun a => spec_l21Solve a.1 a.2.1 a.2.2
 out := fun b => ((), (), ())
 res := fun b => (b.1, b.2)
noncomputable def S_48L6 (n : Nat) : LoopSpec where
 sh := [(1, .v .int), (8, .bx (.pr (.mv (.slice .int) 0) (.pr (.mv .int 0) (.v (.slice (.slice .int)))))), (9, .mv .int 0), (10, .v .int)]
 ex := [(.exit 0, [(9, .mv .int 0)])]
 run := spec_l21Solve_L6 n
noncomputable def C_48 : Cx where
 tt := tblTT tt
 T := tblT [(167, E_42), (170, E_47)]
 L := tblL [(6, S_48L6 fuel)]
 dep := fun i => 0
 n := 3
noncomputable def B_48L6 : Code := (Try.f126.body.bind (loopBody 6)).getD .skip
noncomputable def D_48 : Code := Try.f126.body.getD .skip
noncomputable def N_48 (_ : outs [.v .int, .v .int, .v (.slice (.slice .int))]) (r : dens [.mv .int 0, .v .bool]) : (List Int) × Bool := (r.1, r.2)
noncomputable def E_49 : Entry where
 params := [.v (.pair .int (.pair .int (.slice (.pair (.slice .int) (.pair .int (.slice (.slice .int)))))))]
 results := [.mv .int 0, .v .bool]
 B := (List Int) × Bool
 run := fun a => spec_l22Affine a
 out := fun b => ()
 res := fun b => (b.1, b.2)
noncomputable def S_49L14 (n : Nat) : LoopSpec where
 sh := [(1, .bx (.v (.pair .int (.pair .int (.slice (.pair (.slice .int) (.pair .int (.slice (.slice .int))))))))), (4, .mv (.slice .int) 0), (5, .v .int), (6, .bx (.v (.pair (.slice .int) (.pair .int (.slice (.slice .int)))))), (7, .bx (.pr (.v .int) (.pr (.v .int) (.mv (.slice .int) 0)))), (9, .v .int), (10, .mv .int 0), (11, .v .int)]
 ex := [(.exit 4, [(1, .bx (.v (.pair .int (.pair .int (.slice (.pair (.slice .int) (.pair .int (.slice (.slice .int))))))))), (4, .mv (.slice .int) 0), (5, .v .int), (6, .bx (.v (.pair (.slice .int) (.pair .int (.slice (.slice .int)))))), (7, .bx (.pr (.v .int) (.pr (.v .int) (.mv (.slice .int) 0)))), (9, .v .int), (10, .mv .int 0)])]
 run := spec_l22Affine_L14 n
noncomputable def S_49L10 (n : Nat) : LoopSpec where
 sh := [(1, .bx (.v (.pair .int (.pair .int (.slice (.pair (.slice .int) (.pair .int (.slice (.slice .int))))))))), (4, .mv (.slice .int) 0), (5, .v .int), (6, .bx (.v (.pair (.slice .int) (.pair .int (.slice (.slice .int)))))), (7, .bx (.pr (.v .int) (.pr (.v .int) (.mv (.slice .int) 0)))), (9, .v .int)]
 ex := [(.exit 2, [(1, .bx (.v (.pair .int (.pair .int (.slice (.pair (.slice .int) (.pair .int (.slice (.slice .int))))))))), (4, .mv (.slice .int) 0), (5, .v .int)])]
 run := spec_l22Affine_L10 n
noncomputable def S_49L3 (n : Nat) : LoopSpec where
 sh := [(1, .bx (.v (.pair .int (.pair .int (.slice (.pair (.slice .int) (.pair .int (.slice (.slice .int))))))))), (4, .mv (.slice .int) 0), (5, .v .int)]
 ex := [(.exit 0, [(1, .bx (.v (.pair .int (.pair .int (.slice (.pair (.slice .int) (.pair .int (.slice (.slice .int))))))))), (4, .mv (.slice .int) 0)]), (.ret, [(2, .mv .int 0), (3, .v .bool)])]
 run := spec_l22Affine_L3 n
noncomputable def C_49 : Cx where
 tt := tblTT tt
 T := tblT [(125, E_46), (126, E_48)]
 L := tblL [(14, S_49L14 fuel), (10, S_49L10 fuel), (3, S_49L3 fuel)]
 dep := fun i => 0
 n := 1
noncomputable def B_49L14 : Code := (Try.f74.body.bind (loopBody 14)).getD .skip
noncomputable def B_49L10 : Code := (Try.f74.body.bind (loopBody 10)).getD .skip
noncomputable def B_49L3 : Code := (Try.f74.body.bind (loopBody 3)).getD .skip
noncomputable def D_49 : Code := Try.f74.body.getD .skip
noncomputable def N_49 (_ : outs [.v (.pair .int (.pair .int (.slice (.pair (.slice .int) (.pair .int (.slice (.slice .int)))))))]) (r : dens [.mv .int 0, .v .bool]) : (List Int) × Bool := (r.1, r.2)
noncomputable def E_50 : Entry where
 params := [.v (.pair .int (.pair .int (.slice (.pair (.slice .int) (.pair .int (.slice (.slice .int)))))))]
 results := [.mv .int 0, .v .bool, .v .bool]
 B := (List Int) × Bool × Bool
 run := fun a => spec_AffineAssignment a
 out := fun b => ()
 res := fun b => (b.1, b.2.1, b.2.2)
noncomputable def C_50 : Cx where
 tt := tblTT tt
 T := tblT [(69, E_21), (70, E_34), (74, E_49)]
 L := tblL []
 dep := fun i => 0
 n := 1
noncomputable def D_50 : Code := Try.f30.body.getD .skip
noncomputable def N_50 (_ : outs [.v (.pair .int (.pair .int (.slice (.pair (.slice .int) (.pair .int (.slice (.slice .int)))))))]) (r : dens [.mv .int 0, .v .bool, .v .bool]) : (List Int) × Bool × Bool := (r.1, r.2.1, r.2.2)
noncomputable def E_51 : Entry where
 params := [.v .int]
 results := [.v .bool]
 B := Bool
 run := fun a => impl_isTemplateSize a
 out := fun b => ()
 res := fun b => b
noncomputable def C_51 : Cx where
 tt := tblTT tt
 T := tblT []
 L := tblL []
 dep := fun i => 0
 n := 1
noncomputable def D_51 : Code := Try.f82.body.getD .skip
noncomputable def N_51 (_ : outs [.v .int]) (r : dens [.v .bool]) : Bool := r
noncomputable def E_52 : Entry where
 params := [.v (.slice .int), .v .int]
 results := [.v .bool]
 B := Bool
 run := fun a => impl_inSize a.1 a.2
 out := fun b => ((), ())
 res := fun b => b
noncomputable def S_52L2 (n : Nat) : LoopSpec where
 sh := [(1, .v .int), (7, .v (.slice .int)), (8, .v .int), (9, .v .int)]
 ex := [(.exit 0, []), (.ret, [(4, .v .bool)])]
 run := impl_inSize_L2 n
noncomputable def C_52 : Cx where
 tt := tblTT tt
 T := tblT []
 L := tblL [(2, S_52L2 fuel)]
 dep := fun i => 0
 n := 2
noncomputable def B_52L2 : Code := (Try.f138.body.bind (loopBody 2)).getD .skip
noncomputable def D_52 : Code := Try.f138.body.getD .skip
noncomputable def N_52 (_ : outs [.v (.slice .int), .v .int]) (r : dens [.v .bool]) : Bool := r
noncomputable def E_53 : Entry where
 params := [.v (.slice .int), .v (.slice .int)]
 results := [.v .int]
 B := Int
 run := fun a => impl_compareLists a.1 a.2
 out := fun b => ((), ())
 res := fun b => b
noncomputable def S_53L2 (n : Nat) : LoopSpec where
 sh := [(0, .v (.slice .int)), (1, .v (.slice .int)), (5, .v .int)]
 ex := [(.exit 0, [(0, .v (.slice .int)), (1, .v (.slice .int))]), (.ret, [(4, .v .int)])]
 run := impl_compareLists_L2 n
noncomputable def C_53 : Cx where
 tt := tblTT tt
 T := tblT []
 L := tblL [(2, S_53L2 fuel)]
 dep := fun i => 0
 n := 2
noncomputable def B_53L2 : Code := (Try.f174.body.bind (loopBody 2)).getD .skip
noncomputable def D_53 : Code := Try.f174.body.getD .skip
noncomputable def N_53 (_ : outs [.v (.slice .int), .v (.slice .int)]) (r : dens [.v .int]) : Int := r
noncomputable def E_54 : Entry where
 params := [.v .int, .v (.pair .int (.slice (.slice .int)))]
 results := [.v .bool]
 B := Bool
 run := fun a => impl_isRelation a.1 a.2
 out := fun b => ((), ())
 res := fun b => b
noncomputable def S_54L4 (n : Nat) : LoopSpec where
 sh := [(0, .v .int), (3, .bx (.v (.pair .int (.slice (.slice .int))))), (16, .v (.slice (.slice .int))), (17, .v .int), (18, .v .int)]
 ex := [(.exit 0, []), (.ret, [(4, .v .bool)])]
 run := impl_isRelation_L4 n
noncomputable def C_54 : Cx where
 tt := tblTT tt
 T := tblT [(138, E_52), (174, E_53)]
 L := tblL [(4, S_54L4 fuel)]
 dep := fun i => 0
 n := 2
noncomputable def B_54L4 : Code := (Try.f137.body.bind (loopBody 4)).getD .skip
noncomputable def D_54 : Code := Try.f137.body.getD .skip
noncomputable def N_54 (_ : outs [.v .int, .v (.pair .int (.slice (.slice .int)))]) (r : dens [.v .bool]) : Bool := r
noncomputable def E_55 : Entry where
 params := [.v .int, .v .int, .v (.pair (.slice .int) (.pair .int (.slice (.slice .int))))]
 results := [.v .bool]
 B := Bool
 run := fun a => impl_isConstraint a.1 a.2.1 a.2.2
 out := fun b => ((), (), ())
 res := fun b => b
noncomputable def C_55 : Cx where
 tt := tblTT tt
 T := tblT [(137, E_54), (138, E_52)]
 L := tblL []
 dep := fun i => 0
 n := 3
noncomputable def D_55 : Code := Try.f83.body.getD .skip
noncomputable def N_55 (_ : outs [.v .int, .v .int, .v (.pair (.slice .int) (.pair .int (.slice (.slice .int))))]) (r : dens [.v .bool]) : Bool := r
noncomputable def E_56 : Entry where
 params := [.v (.pair .int (.pair .int (.slice (.pair (.slice .int) (.pair .int (.slice (.slice .int)))))))]
 results := [.v .bool]
 B := Bool
 run := fun a => impl_IsNetwork a
 out := fun b => ()
 res := fun b => b
noncomputable def S_56L4 (n : Nat) : LoopSpec where
 sh := [(1, .bx (.v (.pair .int (.pair .int (.slice (.pair (.slice .int) (.pair .int (.slice (.slice .int))))))))), (26, .v (.slice (.pair (.slice .int) (.pair .int (.slice (.slice .int)))))), (27, .v .int), (28, .v .int)]
 ex := [(.exit 0, []), (.ret, [(2, .v .bool)])]
 run := impl_IsNetwork_L4 n
noncomputable def C_56 : Cx where
 tt := tblTT tt
 T := tblT [(82, E_51), (83, E_55)]
 L := tblL [(4, S_56L4 fuel)]
 dep := fun i => 0
 n := 1
noncomputable def B_56L4 : Code := (Try.f37.body.bind (loopBody 4)).getD .skip
noncomputable def D_56 : Code := Try.f37.body.getD .skip
noncomputable def N_56 (_ : outs [.v (.pair .int (.pair .int (.slice (.pair (.slice .int) (.pair .int (.slice (.slice .int)))))))]) (r : dens [.v .bool]) : Bool := r
noncomputable def E_57 : Entry where
 params := [.v (.pair .int (.pair .int (.slice (.pair (.slice .int) (.pair .int (.slice (.slice .int)))))))]
 results := [.v .bool]
 B := Bool
 run := fun a => impl_isBoolean a
 out := fun b => ()
 res := fun b => b
noncomputable def C_57 : Cx where
 tt := tblTT tt
 T := tblT [(37, E_56)]
 L := tblL []
 dep := fun i => 0
 n := 1
noncomputable def D_57 : Code := Try.f123.body.getD .skip
noncomputable def N_57 (_ : outs [.v (.pair .int (.pair .int (.slice (.pair (.slice .int) (.pair .int (.slice (.slice .int)))))))]) (r : dens [.v .bool]) : Bool := r
noncomputable def E_58 : Entry where
 params := [.v .int, .v .int]
 results := [.mv .int 0]
 B := (List Int)
 run := fun a => impl_constantTuple a.1 a.2
 out := fun b => ((), ())
 res := fun b => b
noncomputable def S_58L3 (n : Nat) : LoopSpec where
 sh := [(1, .v .int), (5, .mv .int 0), (10, .v .int), (11, .v .int)]
 ex := [(.exit 0, [(5, .mv .int 0)])]
 run := impl_constantTuple_L3 n
noncomputable def C_58 : Cx where
 tt := tblTT tt
 T := tblT []
 L := tblL [(3, S_58L3 fuel)]
 dep := fun i => 0
 n := 2
noncomputable def B_58L3 : Code := (Try.f161.body.bind (loopBody 3)).getD .skip
noncomputable def D_58 : Code := Try.f161.body.getD .skip
noncomputable def N_58 (_ : outs [.v .int, .v .int]) (r : dens [.mv .int 0]) : (List Int) := r
noncomputable def E_59 : Entry where
 params := [.v (.slice .int), .v (.slice .int)]
 results := [.v .bool]
 B := Bool
 run := fun a => impl_sameList a.1 a.2
 out := fun b => ((), ())
 res := fun b => b
noncomputable def S_59L4 (n : Nat) : LoopSpec where
 sh := [(1, .v (.slice .int)), (12, .v (.slice .int)), (13, .v .int), (14, .v .int)]
 ex := [(.exit 0, []), (.ret, [(4, .v .bool)])]
 run := impl_sameList_L4 n
noncomputable def C_59 : Cx where
 tt := tblTT tt
 T := tblT []
 L := tblL [(4, S_59L4 fuel)]
 dep := fun i => 0
 n := 2
noncomputable def B_59L4 : Code := (Try.f182.body.bind (loopBody 4)).getD .skip
noncomputable def D_59 : Code := Try.f182.body.getD .skip
noncomputable def N_59 (_ : outs [.v (.slice .int), .v (.slice .int)]) (r : dens [.v .bool]) : Bool := r
noncomputable def E_60 : Entry where
 params := [.v (.pair .int (.slice (.slice .int))), .v (.slice .int)]
 results := [.v .bool]
 B := Bool
 run := fun a => impl_hasRow a.1 a.2
 out := fun b => ((), ())
 res := fun b => b
noncomputable def S_60L2 (n : Nat) : LoopSpec where
 sh := [(1, .v (.slice .int)), (8, .v (.slice (.slice .int))), (9, .v .int), (10, .v .int)]
 ex := [(.exit 0, []), (.ret, [(4, .v .bool)])]
 run := impl_hasRow_L2 n
noncomputable def C_60 : Cx where
 tt := tblTT tt
 T := tblT [(182, E_59)]
 L := tblL [(2, S_60L2 fuel)]
 dep := fun i => 0
 n := 2
noncomputable def B_60L2 : Code := (Try.f160.body.bind (loopBody 2)).getD .skip
noncomputable def D_60 : Code := Try.f160.body.getD .skip
noncomputable def N_60 (_ : outs [.v (.pair .int (.slice (.slice .int))), .v (.slice .int)]) (r : dens [.v .bool]) : Bool := r
noncomputable def E_61 : Entry where
 params := [.v .int, .v .int, .v .int]
 results := [.v .int]
 B := Int
 run := fun a => impl_booleanOps_c1 a.1 a.2.1 a.2.2
 out := fun b => ((), (), ())
 res := fun b => b
noncomputable def C_61 : Cx where
 tt := tblTT tt
 T := tblT []
 L := tblL []
 dep := fun i => 0
 n := 3
noncomputable def D_61 : Code := Try.f184.body.getD .skip
noncomputable def N_61 (_ : outs [.v .int, .v .int, .v .int]) (r : dens [.v .int]) : Int := r
noncomputable def E_62 : Entry where
 params := [.v .int, .v (.fn 184)]
 results := [.pr (.v .int) (.mv .int 0)]
 B := (Int × (List Int))
 run := fun a => impl_ternary_impl_booleanOps_c1 a.1 a.2
 out := fun b => ((), ())
 res := fun b => b
noncomputable def S_62L3 (n : Nat) : LoopSpec where
 sh := [(0, .v .int), (1, .v (.fn 184)), (4, .bx (.pr (.v .int) (.mv .int 0))), (5, .bx (.pr (.v .int) (.mv .int 0))), (6, .v .int)]
 ex := [(.exit 0, [(4, .bx (.pr (.v .int) (.mv .int 0))), (5, .bx (.pr (.v .int) (.mv .int 0)))])]
 run := impl_ternary_impl_booleanOps_c1_L3 n
noncomputable def C_62 : Cx where
 tt := tblTT tt
 T := tblT [(184, E_61)]
 L := tblL [(3, S_62L3 fuel)]
 dep := fun i => 0
 n := 2
noncomputable def B_62L3 : Code := (Try.f183.body.bind (loopBody 3)).getD .skip
noncomputable def D_62 : Code := Try.f183.body.getD .skip
noncomputable def N_62 (_ : outs [.v .int, .v (.fn 184)]) (r : dens [.pr (.v .int) (.mv .int 0)]) : (Int × (List Int)) := r
noncomputable def E_63 : Entry where
 params := [.v .int, .v .int, .v .int]
 results := [.v .int]
 B := Int
 run := fun a => impl_booleanOps_c2 a.1 a.2.1 a.2.2
 out := fun b => ((), (), ())
 res := fun b => b
noncomputable def C_63 : Cx where
 tt := tblTT tt
 T := tblT []
 L := tblL []
 dep := fun i => 0
 n := 3
noncomputable def D_63 : Code := Try.f185.body.getD .skip
noncomputable def N_63 (_ : outs [.v .int, .v .int, .v .int]) (r : dens [.v .int]) : Int := r
noncomputable def E_64 : Entry where
 params := [.v .int, .v (.fn 185)]
 results := [.pr (.v .int) (.mv .int 0)]
 B := (Int × (List Int))
 run := fun a => impl_ternary_impl_booleanOps_c2 a.1 a.2
 out := fun b => ((), ())
 res := fun b => b
noncomputable def S_64L3 (n : Nat) : LoopSpec where
 sh := [(0, .v .int), (1, .v (.fn 185)), (4, .bx (.pr (.v .int) (.mv .int 0))), (5, .bx (.pr (.v .int) (.mv .int 0))), (6, .v .int)]
 ex := [(.exit 0, [(4, .bx (.pr (.v .int) (.mv .int 0))), (5, .bx (.pr (.v .int) (.mv .int 0)))])]
 run := impl_ternary_impl_booleanOps_c2_L3 n
noncomputable def C_64 : Cx where
 tt := tblTT tt
 T := tblT [(185, E_63)]
 L := tblL [(3, S_64L3 fuel)]
 dep := fun i => 0
 n := 2
noncomputable def B_64L3 : Code := (Try.f183.body.bind (loopBody 3)).getD .skip
noncomputable def D_64 : Code := Try.f183.body.getD .skip
noncomputable def N_64 (_ : outs [.v .int, .v (.fn 185)]) (r : dens [.pr (.v .int) (.mv .int 0)]) : (Int × (List Int)) := r
noncomputable def E_65 : Entry where
 params := []
 results := [.mv (.pair .int (.slice .int)) 1]
 B := (List (Int × (List Int)))
 run := fun a => impl_booleanOps
 out := fun b => ()
 res := fun b => b
noncomputable def C_65 : Cx where
 tt := tblTT tt
 T := tblT [(12124343, E_62), (12189879, E_64)]
 L := tblL []
 dep := fun i => match i with
  | 11 => 1
  | _ => 0
 n := 0
noncomputable def D_65 : Code := Try.f162.body.getD .skip
noncomputable def N_65 (_ : outs []) (r : dens [.mv (.pair .int (.slice .int)) 1]) : (List (Int × (List Int))) := r
noncomputable def E_66 : Entry where
 params := [.v (.slice .int)]
 results := [.v .str]
 B := ByteArray
 run := fun a => impl_keyOf a
 out := fun b => ()
 res := fun b => b
noncomputable def S_66L3 (n : Nat) : LoopSpec where
 sh := [(3, .mv (.num .u8) 0), (10, .v (.slice .int)), (11, .v .int), (12, .v .int)]
 ex := [(.exit 0, [(3, .mv (.num .u8) 0)])]
 run := impl_keyOf_L3 n
noncomputable def C_66 : Cx where
 tt := tblTT tt
 T := tblT []
 L := tblL [(3, S_66L3 fuel)]
 dep := fun i => 0
 n := 1
noncomputable def B_66L3 : Code := (Try.f146.body.bind (loopBody 3)).getD .skip
noncomputable def D_66 : Code := Try.f146.body.getD .skip
noncomputable def N_66 (_ : outs [.v (.slice .int)]) (r : dens [.v .str]) : ByteArray := r
noncomputable def E_67 : Entry where
 params := [.v (.pair .int (.slice (.slice .int)))]
 results := [.v .smap]
 B := (List ByteArray)
 run := fun a => impl_tupleSet a
 out := fun b => ()
 res := fun b => b
noncomputable def S_67L3 (n : Nat) : LoopSpec where
 sh := [(3, .mp), (8, .v (.slice (.slice .int))), (9, .v .int), (10, .v .int)]
 ex := [(.exit 0, [(3, .mp)])]
 run := impl_tupleSet_L3 n
noncomputable def C_67 : Cx where
 tt := tblTT tt
 T := tblT [(146, E_66)]
 L := tblL [(3, S_67L3 fuel)]
 dep := fun i => 0
 n := 1
noncomputable def B_67L3 : Code := (Try.f144.body.bind (loopBody 3)).getD .skip
noncomputable def D_67 : Code := Try.f144.body.getD .skip
noncomputable def N_67 (_ : outs [.v (.pair .int (.slice (.slice .int)))]) (r : dens [.v .smap]) : (List ByteArray) := r
noncomputable def E_68 : Entry where
 params := [.v .int, .v .int]
 results := [.v .int]
 B := Int
 run := fun a => impl_power a.1 a.2
 out := fun b => ((), ())
 res := fun b => b
noncomputable def S_68L2 (n : Nat) : LoopSpec where
 sh := [(0, .v .int), (1, .v .int), (5, .v .int)]
 ex := [(.exit 0, [(5, .v .int)])]
 run := impl_power_L2 n
noncomputable def C_68 : Cx where
 tt := tblTT tt
 T := tblT []
 L := tblL [(2, S_68L2 fuel)]
 dep := fun i => 0
 n := 2
noncomputable def B_68L2 : Code := (Try.f101.body.bind (loopBody 2)).getD .skip
noncomputable def D_68 : Code := Try.f101.body.getD .skip
noncomputable def N_68 (_ : outs [.v .int, .v .int]) (r : dens [.v .int]) : Int := r
noncomputable def E_69 : Entry where
 params := [.v .int, .v (.pair .int (.slice .int)), .v (.pair .int (.slice (.slice .int)))]
 results := [.mv .int 0, .mv .int 0, .v .bool]
 B := (List Int) × (List Int) × Bool
 run := fun a => impl_firstBreak a.1 a.2.1 a.2.2
 out := fun b => ((), (), ())
 res := fun b => (b.1, b.2.1, b.2.2)
noncomputable def S_69L10 (n : Nat) : LoopSpec where
 sh := [(0, .v .int), (4, .bx (.v (.pair .int (.slice .int)))), (5, .bx (.v (.pair .int (.slice (.slice .int))))), (9, .v .smap), (10, .v .int), (11, .mv .int 0), (12, .mv .int 0), (13, .v .int), (14, .v .int), (15, .v .int)]
 ex := [(.exit 2, [(0, .v .int), (4, .bx (.v (.pair .int (.slice .int)))), (5, .bx (.v (.pair .int (.slice (.slice .int))))), (9, .v .smap), (10, .v .int), (11, .mv .int 0), (12, .mv .int 0), (13, .v .int)])]
 run := impl_firstBreak_L10 n
noncomputable def S_69L19 (n : Nat) : LoopSpec where
 sh := [(786493, .jk 1), (0, .v .int), (4, .bx (.v (.pair .int (.slice .int)))), (5, .bx (.v (.pair .int (.slice (.slice .int))))), (9, .v .smap), (10, .v .int), (11, .mv .int 0), (12, .mv .int 0), (13, .v .int), (16, .v .int), (17, .v .int), (57, .v .int), (58, .v .int), (62, .v .int), (63, .v .int)]
 ex := [(.exit 6, [(0, .v .int), (4, .bx (.v (.pair .int (.slice .int)))), (5, .bx (.v (.pair .int (.slice (.slice .int))))), (9, .v .smap), (10, .v .int), (11, .mv .int 0), (12, .mv .int 0), (13, .v .int), (16, .v .int), (17, .v .int), (57, .v .int), (58, .v .int)])]
 run := impl_firstBreak_L19 n
noncomputable def S_69L15 (n : Nat) : LoopSpec where
 sh := [(0, .v .int), (4, .bx (.v (.pair .int (.slice .int)))), (5, .bx (.v (.pair .int (.slice (.slice .int))))), (9, .v .smap), (10, .v .int), (11, .mv .int 0), (12, .mv .int 0), (13, .v .int), (57, .v .int), (58, .v .int)]
 ex := [(.exit 4, [(0, .v .int), (4, .bx (.v (.pair .int (.slice .int)))), (5, .bx (.v (.pair .int (.slice (.slice .int))))), (9, .v .smap), (10, .v .int), (11, .mv .int 0), (12, .mv .int 0), (13, .v .int)])]
 run := impl_firstBreak_L15 n
noncomputable def S_69L6 (n : Nat) : LoopSpec where
 sh := [(0, .v .int), (4, .bx (.v (.pair .int (.slice .int)))), (5, .bx (.v (.pair .int (.slice (.slice .int))))), (9, .v .smap), (10, .v .int), (11, .mv .int 0), (12, .mv .int 0), (13, .v .int)]
 ex := [(.exit 0, []), (.ret, [(6, .mv .int 0), (7, .mv .int 0), (8, .v .bool)])]
 run := impl_firstBreak_L6 n
noncomputable def C_69 : Cx where
 tt := tblTT tt
 T := tblT [(101, E_68), (144, E_67), (146, E_66)]
 L := tblL [(10, S_69L10 fuel), (19, S_69L19 fuel), (15, S_69L15 fuel), (6, S_69L6 fuel)]
 dep := fun i => 0
 n := 3
noncomputable def B_69L10 : Code := (Try.f186.body.bind (loopBody 10)).getD .skip
noncomputable def B_69L19 : Code := (Try.f186.body.bind (loopBody 19)).getD .skip
noncomputable def B_69L15 : Code := (Try.f186.body.bind (loopBody 15)).getD .skip
noncomputable def B_69L6 : Code := (Try.f186.body.bind (loopBody 6)).getD .skip
noncomputable def D_69 : Code := Try.f186.body.getD .skip
noncomputable def N_69 (_ : outs [.v .int, .v (.pair .int (.slice .int)), .v (.pair .int (.slice (.slice .int)))]) (r : dens [.mv .int 0, .mv .int 0, .v .bool]) : (List Int) × (List Int) × Bool := (r.1, r.2.1, r.2.2)
noncomputable def E_70 : Entry where
 params := [.v .int, .v (.slice (.pair .int (.slice (.slice .int)))), .v (.pair .int (.slice .int))]
 results := [.v .bool]
 B := Bool
 run := fun a => impl_keepsAll a.1 a.2.1 a.2.2
 out := fun b => ((), (), ())
 res := fun b => b
noncomputable def S_70L2 (n : Nat) : LoopSpec where
 sh := [(0, .v .int), (5, .bx (.v (.pair .int (.slice .int)))), (12, .v (.slice (.pair .int (.slice (.slice .int))))), (13, .v .int), (14, .v .int)]
 ex := [(.exit 0, []), (.ret, [(6, .v .bool)])]
 run := impl_keepsAll_L2 n
noncomputable def C_70 : Cx where
 tt := tblTT tt
 T := tblT [(186, E_69)]
 L := tblL [(2, S_70L2 fuel)]
 dep := fun i => 0
 n := 3
noncomputable def B_70L2 : Code := (Try.f163.body.bind (loopBody 2)).getD .skip
noncomputable def D_70 : Code := Try.f163.body.getD .skip
noncomputable def N_70 (_ : outs [.v .int, .v (.slice (.pair .int (.slice (.slice .int)))), .v (.pair .int (.slice .int))]) (r : dens [.v .bool]) : Bool := r
noncomputable def E_71 : Entry where
 params := [.v (.slice (.pair (.slice .int) (.pair .int (.slice (.slice .int)))))]
 results := [.mv .bool 0]
 B := (List Bool)
 run := fun a => impl_booleanClasses a
 out := fun b => ()
 res := fun b => b
noncomputable def S_71L6 (n : Nat) : LoopSpec where
 sh := [(3, .mv .bool 0), (5, .bx (.v (.pair (.slice .int) (.pair .int (.slice (.slice .int)))))), (6, .v .int), (10, .v (.slice (.pair (.slice .int) (.pair .int (.slice (.slice .int)))))), (11, .v .int), (12, .v .int)]
 ex := [(.exit 2, [(3, .mv .bool 0), (5, .bx (.v (.pair (.slice .int) (.pair .int (.slice (.slice .int)))))), (10, .v (.slice (.pair (.slice .int) (.pair .int (.slice (.slice .int)))))), (11, .v .int), (12, .v .int)])]
 run := impl_booleanClasses_L6 n
noncomputable def S_71L10 (n : Nat) : LoopSpec where
 sh := [(3, .mv .bool 0), (5, .bx (.v (.pair (.slice .int) (.pair .int (.slice (.slice .int)))))), (10, .v (.slice (.pair (.slice .int) (.pair .int (.slice (.slice .int)))))), (11, .v .int), (12, .v .int), (37, .mv (.pair .int (.slice .int)) 1), (38, .v .int), (39, .v .int)]
 ex := [(.exit 4, [(3, .mv .bool 0), (10, .v (.slice (.pair (.slice .int) (.pair .int (.slice (.slice .int)))))), (11, .v .int), (12, .v .int)])]
 run := impl_booleanClasses_L10 n
noncomputable def S_71L3 (n : Nat) : LoopSpec where
 sh := [(3, .mv .bool 0), (10, .v (.slice (.pair (.slice .int) (.pair .int (.slice (.slice .int)))))), (11, .v .int), (12, .v .int)]
 ex := [(.exit 0, [(3, .mv .bool 0)])]
 run := impl_booleanClasses_L3 n
noncomputable def C_71 : Cx where
 tt := tblTT tt
 T := tblT [(160, E_60), (161, E_58), (162, E_65), (163, E_70)]
 L := tblL [(6, S_71L6 fuel), (10, S_71L10 fuel), (3, S_71L3 fuel)]
 dep := fun i => 0
 n := 1
noncomputable def B_71L6 : Code := (Try.f124.body.bind (loopBody 6)).getD .skip
noncomputable def B_71L10 : Code := (Try.f124.body.bind (loopBody 10)).getD .skip
noncomputable def B_71L3 : Code := (Try.f124.body.bind (loopBody 3)).getD .skip
noncomputable def D_71 : Code := Try.f124.body.getD .skip
noncomputable def N_71 (_ : outs [.v (.slice (.pair (.slice .int) (.pair .int (.slice (.slice .int)))))]) (r : dens [.mv .bool 0]) : (List Bool) := r
noncomputable def E_72 : Entry where
 params := [.v (.pair .int (.pair .int (.slice (.pair (.slice .int) (.pair .int (.slice (.slice .int))))))), .v .int]
 results := [.v .bool]
 B := Bool
 run := fun a => impl_inClass a.1 a.2
 out := fun b => ((), ())
 res := fun b => b
noncomputable def C_72 : Cx where
 tt := tblTT tt
 T := tblT [(123, E_57), (124, E_71)]
 L := tblL []
 dep := fun i => 0
 n := 2
noncomputable def D_72 : Code := Try.f72.body.getD .skip
noncomputable def N_72 (_ : outs [.v (.pair .int (.pair .int (.slice (.pair (.slice .int) (.pair .int (.slice (.slice .int))))))), .v .int]) (r : dens [.v .bool]) : Bool := r
noncomputable def E_73 : Entry where
 params := [.v (.slice .int)]
 results := [.mv .int 0]
 B := (List Int)
 run := fun a => impl_clone a
 out := fun b => ()
 res := fun b => b
noncomputable def C_73 : Cx where
 tt := tblTT tt
 T := tblT []
 L := tblL []
 dep := fun i => 0
 n := 1
noncomputable def D_73 : Code := Try.f100.body.getD .skip
noncomputable def N_73 (_ : outs [.v (.slice .int)]) (r : dens [.mv .int 0]) : (List Int) := r
noncomputable def E_74 : Entry where
 params := [.v (.slice (.slice .int))]
 results := [.mv (.slice .int) 1]
 B := (List (List Int))
 run := fun a => impl_cloneRows a
 out := fun b => ()
 res := fun b => b
noncomputable def S_74L3 (n : Nat) : LoopSpec where
 sh := [(3, .mv (.slice .int) 1), (7, .v (.slice (.slice .int))), (8, .v .int), (9, .v .int)]
 ex := [(.exit 0, [(3, .mv (.slice .int) 1)])]
 run := impl_cloneRows_L3 n
noncomputable def C_74 : Cx where
 tt := tblTT tt
 T := tblT [(100, E_73)]
 L := tblL [(3, S_74L3 fuel)]
 dep := fun i => match i with
  | 6 => 1
  | 16 => 1
  | 17 => 1
  | _ => 0
 n := 1
noncomputable def B_74L3 : Code := (Try.f129.body.bind (loopBody 3)).getD .skip
noncomputable def D_74 : Code := Try.f129.body.getD .skip
noncomputable def N_74 (_ : outs [.v (.slice (.slice .int))]) (r : dens [.mv (.slice .int) 1]) : (List (List Int)) := r
noncomputable def E_75 : Entry where
 params := [.v .int]
 results := [.mv .int 0]
 B := (List Int)
 run := fun a => impl_freeTable a
 out := fun b => ()
 res := fun b => b
noncomputable def S_75L3 (n : Nat) : LoopSpec where
 sh := [(3, .mv .int 0), (8, .v .int), (9, .v .int)]
 ex := [(.exit 0, [(3, .mv .int 0)])]
 run := impl_freeTable_L3 n
noncomputable def C_75 : Cx where
 tt := tblTT tt
 T := tblT []
 L := tblL [(3, S_75L3 fuel)]
 dep := fun i => 0
 n := 1
noncomputable def B_75L3 : Code := (Try.f85.body.bind (loopBody 3)).getD .skip
noncomputable def D_75 : Code := Try.f85.body.getD .skip
noncomputable def N_75 (_ : outs [.v .int]) (r : dens [.mv .int 0]) : (List Int) := r
noncomputable def E_76 : Entry where
 params := [.v .int, .v .int]
 results := [.v .int]
 B := Int
 run := fun a => impl_inverseOf a.1 a.2
 out := fun b => ((), ())
 res := fun b => b
noncomputable def S_76L2 (n : Nat) : LoopSpec where
 sh := [(0, .v .int), (1, .v .int), (5, .v .int)]
 ex := [(.exit 0, []), (.ret, [(4, .v .int)])]
 run := impl_inverseOf_L2 n
noncomputable def C_76 : Cx where
 tt := tblTT tt
 T := tblT []
 L := tblL [(2, S_76L2 fuel)]
 dep := fun i => 0
 n := 2
noncomputable def B_76L2 : Code := (Try.f130.body.bind (loopBody 2)).getD .skip
noncomputable def D_76 : Code := Try.f130.body.getD .skip
noncomputable def N_76 (_ : outs [.v .int, .v .int]) (r : dens [.v .int]) : Int := r
noncomputable def E_77 : Entry where
 params := [.v .int, .v .int, .v (.slice (.slice .int))]
 results := [.v (.ptr (.pair .int (.pair .int (.pair (.slice (.slice .int)) (.pair .int (.slice .int))))))]
 B := (Bool × Int × Int × (List (List Int)) × Int × (List Int))
 run := fun a => impl_eliminate a.1 a.2.1 a.2.2
 out := fun b => ((), (), ())
 res := fun b => b
noncomputable def S_77L6 (n : Nat) : LoopSpec where
 sh := [(0, .v .int), (1, .v .int), (7, .bx (.pr (.v .int) (.pr (.v .int) (.pr (.mv (.slice .int) 1) (.pr (.v .int) (.mv .int 0)))))), (8, .v .int), (9, .v .int)]
 ex := [(.exit 2, [(0, .v .int), (1, .v .int), (7, .bx (.pr (.v .int) (.pr (.v .int) (.pr (.mv (.slice .int) 1) (.pr (.v .int) (.mv .int 0)))))), (8, .v .int), (9, .v .int)])]
 run := impl_eliminate_L6 n
noncomputable def S_77L14 (n : Nat) : LoopSpec where
 sh := [(12885426186, .v .int), (0, .v .int), (1, .v .int), (7, .bx (.pr (.v .int) (.pr (.v .int) (.pr (.mv (.slice .int) 1) (.pr (.v .int) (.mv .int 0)))))), (8, .v .int), (11, .v .int), (110, .v .int), (111, .v .int)]
 ex := [(.exit 4, [(12885426186, .v .int), (0, .v .int), (1, .v .int), (7, .bx (.pr (.v .int) (.pr (.v .int) (.pr (.mv (.slice .int) 1) (.pr (.v .int) (.mv .int 0)))))), (8, .v .int)])]
 run := impl_eliminate_L14 n
noncomputable def S_77L24 (n : Nat) : LoopSpec where
 sh := [(12885426186, .v .int), (12885426190, .v .int), (12885426305, .jk 1), (0, .v .int), (1, .v .int), (7, .bx (.pr (.v .int) (.pr (.v .int) (.pr (.mv (.slice .int) 1) (.pr (.v .int) (.mv .int 0)))))), (8, .v .int), (15, .v .int), (130, .v .int), (131, .v .int), (151, .v .int), (152, .v .int)]
 ex := [(.exit 8, [(12885426186, .v .int), (12885426305, .jk 1), (0, .v .int), (1, .v .int), (7, .bx (.pr (.v .int) (.pr (.v .int) (.pr (.mv (.slice .int) 1) (.pr (.v .int) (.mv .int 0)))))), (8, .v .int), (130, .v .int), (131, .v .int)])]
 run := impl_eliminate_L24 n
noncomputable def S_77L19 (n : Nat) : LoopSpec where
 sh := [(12885426186, .v .int), (12885426305, .jk 1), (0, .v .int), (1, .v .int), (7, .bx (.pr (.v .int) (.pr (.v .int) (.pr (.mv (.slice .int) 1) (.pr (.v .int) (.mv .int 0)))))), (8, .v .int), (130, .v .int), (131, .v .int)]
 ex := [(.exit 6, [(0, .v .int), (1, .v .int), (7, .bx (.pr (.v .int) (.pr (.v .int) (.pr (.mv (.slice .int) 1) (.pr (.v .int) (.mv .int 0)))))), (8, .v .int)])]
 run := impl_eliminate_L19 n
noncomputable def S_77L3 (n : Nat) : LoopSpec where
 sh := [(0, .v .int), (1, .v .int), (7, .bx (.pr (.v .int) (.pr (.v .int) (.pr (.mv (.slice .int) 1) (.pr (.v .int) (.mv .int 0)))))), (8, .v .int)]
 ex := [(.exit 0, [(7, .bx (.pr (.v .int) (.pr (.v .int) (.pr (.mv (.slice .int) 1) (.pr (.v .int) (.mv .int 0))))))])]
 run := impl_eliminate_L3 n
noncomputable def C_77 : Cx where
 tt := tblTT tt
 T := tblT [(85, E_75), (129, E_74), (130, E_76)]
 L := tblL [(6, S_77L6 fuel), (14, S_77L14 fuel), (24, S_77L24 fuel), (19, S_77L19 fuel), (3, S_77L3 fuel)]
 dep := fun i => match i with
  | 69 => 99
  | _ => 0
 n := 3
noncomputable def B_77L6 : Code := (Try.f76.body.bind (loopBody 6)).getD .skip
noncomputable def B_77L14 : Code := (Try.f76.body.bind (loopBody 14)).getD .skip
noncomputable def B_77L24 : Code := (Try.f76.body.bind (loopBody 24)).getD .skip
noncomputable def B_77L19 : Code := (Try.f76.body.bind (loopBody 19)).getD .skip
noncomputable def B_77L3 : Code := (Try.f76.body.bind (loopBody 3)).getD .skip
noncomputable def D_77 : Code := Try.f76.body.getD .skip
noncomputable def N_77 (_ : outs [.v .int, .v .int, .v (.slice (.slice .int))]) (r : dens [.v (.ptr (.pair .int (.pair .int (.pair (.slice (.slice .int)) (.pair .int (.slice .int))))))]) : (Bool × Int × Int × (List (List Int)) × Int × (List Int)) := r
noncomputable def E_78 : Entry where
 params := [.bx (.pr (.v .int) (.pr (.v .int) (.pr (.mv (.slice .int) 1) (.pr (.v .int) (.mv .int 0)))))]
 results := [.mv .int 0]
 B := (Int × (Int × ((List (List Int)) × (Int × (List Int))))) × (List Int)
 run := fun a => impl_eliminated_freeVars a
 out := fun b => b.1
 res := fun b => b.2
noncomputable def S_78L3 (n : Nat) : LoopSpec where
 sh := [(21474902026, .jk 1), (0, .bx (.pr (.v .int) (.pr (.v .int) (.pr (.mv (.slice .int) 1) (.pr (.v .int) (.mv .int 0)))))), (3, .mv .int 0), (11, .v .int), (12, .v .int)]
 ex := [(.exit 0, [(0, .bx (.pr (.v .int) (.pr (.v .int) (.pr (.mv (.slice .int) 1) (.pr (.v .int) (.mv .int 0)))))), (3, .mv .int 0)])]
 run := impl_eliminated_freeVars_L3 n
noncomputable def C_78 : Cx where
 tt := tblTT tt
 T := tblT []
 L := tblL [(3, S_78L3 fuel)]
 dep := fun i => 0
 n := 1
noncomputable def B_78L3 : Code := (Try.f171.body.bind (loopBody 3)).getD .skip
noncomputable def D_78 : Code := Try.f171.body.getD .skip
noncomputable def N_78 (o : outs [.bx (.pr (.v .int) (.pr (.v .int) (.pr (.mv (.slice .int) 1) (.pr (.v .int) (.mv .int 0)))))]) (r : dens [.mv .int 0]) : (Int × (Int × ((List (List Int)) × (Int × (List Int))))) × (List Int) := (o, r)
noncomputable def E_79 : Entry where
 params := [.bx (.pr (.v .int) (.pr (.v .int) (.pr (.mv (.slice .int) 1) (.pr (.v .int) (.mv .int 0))))), .v (.slice .int)]
 results := [.mv .int 0]
 B := (Int × (Int × ((List (List Int)) × (Int × (List Int))))) × (List Int)
 run := fun a => impl_eliminated_solution a.1 a.2
 out := fun b => (b.1, ())
 res := fun b => b.2
noncomputable def S_79L4 (n : Nat) : LoopSpec where
 sh := [(458773, .jk 1), (0, .bx (.pr (.v .int) (.pr (.v .int) (.pr (.mv (.slice .int) 1) (.pr (.v .int) (.mv .int 0)))))), (1, .v (.slice .int)), (5, .mv .int 0), (6, .mv .int 0), (22, .v .int), (23, .v .int)]
 ex := [(.exit 0, [(0, .bx (.pr (.v .int) (.pr (.v .int) (.pr (.mv (.slice .int) 1) (.pr (.v .int) (.mv .int 0)))))), (1, .v (.slice .int)), (5, .mv .int 0), (6, .mv .int 0)])]
 run := impl_eliminated_solution_L4 n
noncomputable def S_79L14 (n : Nat) : LoopSpec where
 sh := [(21474902055, .jk 1), (458813, .jk 1), (0, .bx (.pr (.v .int) (.pr (.v .int) (.pr (.mv (.slice .int) 1) (.pr (.v .int) (.mv .int 0)))))), (1, .v (.slice .int)), (5, .mv .int 0), (6, .mv .int 0), (9, .v .int), (10, .v .int), (11, .v .int), (40, .v .int), (41, .v .int), (62, .v .int), (63, .v .int)]
 ex := [(.exit 4, [(21474902055, .jk 1), (0, .bx (.pr (.v .int) (.pr (.v .int) (.pr (.mv (.slice .int) 1) (.pr (.v .int) (.mv .int 0)))))), (1, .v (.slice .int)), (5, .mv .int 0), (6, .mv .int 0), (9, .v .int), (11, .v .int), (40, .v .int), (41, .v .int)])]
 run := impl_eliminated_solution_L14 n
noncomputable def S_79L9 (n : Nat) : LoopSpec where
 sh := [(21474902055, .jk 1), (0, .bx (.pr (.v .int) (.pr (.v .int) (.pr (.mv (.slice .int) 1) (.pr (.v .int) (.mv .int 0)))))), (1, .v (.slice .int)), (5, .mv .int 0), (6, .mv .int 0), (40, .v .int), (41, .v .int)]
 ex := [(.exit 2, [(0, .bx (.pr (.v .int) (.pr (.v .int) (.pr (.mv (.slice .int) 1) (.pr (.v .int) (.mv .int 0)))))), (5, .mv .int 0)])]
 run := impl_eliminated_solution_L9 n
noncomputable def C_79 : Cx where
 tt := tblTT tt
 T := tblT [(171, E_78)]
 L := tblL [(4, S_79L4 fuel), (14, S_79L14 fuel), (9, S_79L9 fuel)]
 dep := fun i => 0
 n := 2
noncomputable def B_79L4 : Code := (Try.f132.body.bind (loopBody 4)).getD .skip
noncomputable def B_79L14 : Code := (Try.f132.body.bind (loopBody 14)).getD .skip
noncomputable def B_79L9 : Code := (Try.f132.body.bind (loopBody 9)).getD .skip
noncomputable def D_79 : Code := Try.f132.body.getD .skip
noncomputable def N_79 (o : outs [.bx (.pr (.v .int) (.pr (.v .int) (.pr (.mv (.slice .int) 1) (.pr (.v .int) (.mv .int 0))))), .v (.slice .int)]) (r : dens [.mv .int 0]) : (Int × (Int × ((List (List Int)) × (Int × (List Int))))) × (List Int) := (o.1, r)
noncomputable def E_80 : Entry where
 params := [.bx (.pr (.v .int) (.pr (.v .int) (.pr (.mv (.slice .int) 1) (.pr (.v .int) (.mv .int 0)))))]
 results := [.mv (.slice .int) 1]
 B := (Int × (Int × ((List (List Int)) × (Int × (List Int))))) × (List (List Int))
 run := fun a => impl_eliminated_kernel a
 out := fun b => b.1
 res := fun b => b.2
noncomputable def S_80L2 (n : Nat) : LoopSpec where
 sh := [(12884967436, .jk 1), (0, .bx (.pr (.v .int) (.pr (.v .int) (.pr (.mv (.slice .int) 1) (.pr (.v .int) (.mv .int 0)))))), (13, .v .int), (14, .v .int)]
 ex := [(.exit 0, [(0, .bx (.pr (.v .int) (.pr (.v .int) (.pr (.mv (.slice .int) 1) (.pr (.v .int) (.mv .int 0))))))])]
 run := impl_eliminated_kernel_L2 n
noncomputable def S_80L9 (n : Nat) : LoopSpec where
 sh := [(0, .bx (.pr (.v .int) (.pr (.v .int) (.pr (.mv (.slice .int) 1) (.pr (.v .int) (.mv .int 0)))))), (5, .mv (.slice .int) 1), (6, .mv .int 0), (29, .v .int), (30, .v .int)]
 ex := [(.exit 2, [(0, .bx (.pr (.v .int) (.pr (.v .int) (.pr (.mv (.slice .int) 1) (.pr (.v .int) (.mv .int 0)))))), (5, .mv (.slice .int) 1)])]
 run := impl_eliminated_kernel_L9 n
noncomputable def C_80 : Cx where
 tt := tblTT tt
 T := tblT [(132, E_79), (171, E_78)]
 L := tblL [(2, S_80L2 fuel), (9, S_80L9 fuel)]
 dep := fun i => match i with
  | 25 => 1
  | 43 => 1
  | 44 => 1
  | _ => 0
 n := 1
noncomputable def B_80L2 : Code := (Try.f127.body.bind (loopBody 2)).getD .skip
noncomputable def B_80L9 : Code := (Try.f127.body.bind (loopBody 9)).getD .skip
noncomputable def D_80 : Code := Try.f127.body.getD .skip
noncomputable def N_80 (o : outs [.bx (.pr (.v .int) (.pr (.v .int) (.pr (.mv (.slice .int) 1) (.pr (.v .int) (.mv .int 0)))))]) (r : dens [.mv (.slice .int) 1]) : (Int × (Int × ((List (List Int)) × (Int × (List Int))))) × (List (List Int)) := (o, r)
noncomputable def E_81 : Entry where
 params := [.v .int, .v .int, .v (.slice (.slice .int))]
 results := [.bx (.pr (.v .int) (.pr (.v .int) (.pr (.mv (.slice .int) 1) (.pr (.v .int) (.mv .int 0)))))]
 B := (Int × (Int × ((List (List Int)) × (Int × (List Int)))))
 run := fun a => impl_eliminate_b a.1 a.2.1 a.2.2
 out := fun b => ((), (), ())
 res := fun b => b
noncomputable def S_81L6 (n : Nat) : LoopSpec where
 sh := [(0, .v .int), (1, .v .int), (7, .bx (.pr (.v .int) (.pr (.v .int) (.pr (.mv (.slice .int) 1) (.pr (.v .int) (.mv .int 0)))))), (8, .v .int), (9, .v .int)]
 ex := [(.exit 2, [(0, .v .int), (1, .v .int), (7, .bx (.pr (.v .int) (.pr (.v .int) (.pr (.mv (.slice .int) 1) (.pr (.v .int) (.mv .int 0)))))), (8, .v .int), (9, .v .int)])]
 run := impl_eliminate_b_L6 n
noncomputable def S_81L14 (n : Nat) : LoopSpec where
 sh := [(12885426186, .v .int), (0, .v .int), (1, .v .int), (7, .bx (.pr (.v .int) (.pr (.v .int) (.pr (.mv (.slice .int) 1) (.pr (.v .int) (.mv .int 0)))))), (8, .v .int), (11, .v .int), (110, .v .int), (111, .v .int)]
 ex := [(.exit 4, [(12885426186, .v .int), (0, .v .int), (1, .v .int), (7, .bx (.pr (.v .int) (.pr (.v .int) (.pr (.mv (.slice .int) 1) (.pr (.v .int) (.mv .int 0)))))), (8, .v .int)])]
 run := impl_eliminate_b_L14 n
noncomputable def S_81L24 (n : Nat) : LoopSpec where
 sh := [(12885426186, .v .int), (12885426190, .v .int), (12885426305, .jk 1), (0, .v .int), (1, .v .int), (7, .bx (.pr (.v .int) (.pr (.v .int) (.pr (.mv (.slice .int) 1) (.pr (.v .int) (.mv .int 0)))))), (8, .v .int), (15, .v .int), (130, .v .int), (131, .v .int), (151, .v .int), (152, .v .int)]
 ex := [(.exit 8, [(12885426186, .v .int), (12885426305, .jk 1), (0, .v .int), (1, .v .int), (7, .bx (.pr (.v .int) (.pr (.v .int) (.pr (.mv (.slice .int) 1) (.pr (.v .int) (.mv .int 0)))))), (8, .v .int), (130, .v .int), (131, .v .int)])]
 run := impl_eliminate_b_L24 n
noncomputable def S_81L19 (n : Nat) : LoopSpec where
 sh := [(12885426186, .v .int), (12885426305, .jk 1), (0, .v .int), (1, .v .int), (7, .bx (.pr (.v .int) (.pr (.v .int) (.pr (.mv (.slice .int) 1) (.pr (.v .int) (.mv .int 0)))))), (8, .v .int), (130, .v .int), (131, .v .int)]
 ex := [(.exit 6, [(0, .v .int), (1, .v .int), (7, .bx (.pr (.v .int) (.pr (.v .int) (.pr (.mv (.slice .int) 1) (.pr (.v .int) (.mv .int 0)))))), (8, .v .int)])]
 run := impl_eliminate_b_L19 n
noncomputable def S_81L3 (n : Nat) : LoopSpec where
 sh := [(0, .v .int), (1, .v .int), (7, .bx (.pr (.v .int) (.pr (.v .int) (.pr (.mv (.slice .int) 1) (.pr (.v .int) (.mv .int 0)))))), (8, .v .int)]
 ex := [(.exit 0, [(7, .bx (.pr (.v .int) (.pr (.v .int) (.pr (.mv (.slice .int) 1) (.pr (.v .int) (.mv .int 0))))))])]
 run := impl_eliminate_b_L3 n
noncomputable def C_81 : Cx where
 tt := tblTT tt
 T := tblT [(85, E_75), (129, E_74), (130, E_76)]
 L := tblL [(6, S_81L6 fuel), (14, S_81L14 fuel), (24, S_81L24 fuel), (19, S_81L19 fuel), (3, S_81L3 fuel)]
 dep := fun i => match i with
  | 69 => 99
  | _ => 0
 n := 3
noncomputable def B_81L6 : Code := (Try.f76.body.bind (loopBody 6)).getD .skip
noncomputable def B_81L14 : Code := (Try.f76.body.bind (loopBody 14)).getD .skip
noncomputable def B_81L24 : Code := (Try.f76.body.bind (loopBody 24)).getD .skip
noncomputable def B_81L19 : Code := (Try.f76.body.bind (loopBody 19)).getD .skip
noncomputable def B_81L3 : Code := (Try.f76.body.bind (loopBody 3)).getD .skip
noncomputable def D_81 : Code := Try.f76.body.getD .skip
noncomputable def N_81 (_ : outs [.v .int, .v .int, .v (.slice (.slice .int))]) (r : dens [.bx (.pr (.v .int) (.pr (.v .int) (.pr (.mv (.slice .int) 1) (.pr (.v .int) (.mv .int 0)))))]) : (Int × (Int × ((List (List Int)) × (Int × (List Int))))) := r
noncomputable def E_82 : Entry where
 params := [.bx (.pr (.v .int) (.pr (.v .int) (.pr (.v (.slice (.slice .int))) (.pr (.v .int) (.v (.slice .int))))))]
 results := [.pr (.v .int) (.pr (.v .int) (.mv (.slice .int) 1))]
 B := (Int × (Int × ((List (List Int)) × (Int × (List Int))))) × (Int × (Int × (List (List Int))))
 run := fun a => impl_linearOf_b a
 out := fun b => b.1
 res := fun b => b.2
noncomputable def S_82L3 (n : Nat) : LoopSpec where
 sh := [(0, .bx (.v (.pair .int (.pair .int (.pair (.slice (.slice .int)) (.pair .int (.slice .int))))))), (2, .bx (.pr (.v .int) (.pr (.v .int) (.mv (.slice .int) 1)))), (3, .bx (.pr (.v .int) (.pr (.v .int) (.mv (.slice .int) 1)))), (33, .v (.slice (.slice .int))), (34, .v .int), (35, .v .int)]
 ex := [(.exit 0, [(0, .bx (.v (.pair .int (.pair .int (.pair (.slice (.slice .int)) (.pair .int (.slice .int))))))), (2, .bx (.pr (.v .int) (.pr (.v .int) (.mv (.slice .int) 1)))), (3, .bx (.pr (.v .int) (.pr (.v .int) (.mv (.slice .int) 1))))])]
 run := impl_linearOf_b_L3 n
noncomputable def C_82 : Cx where
 tt := tblTT tt
 T := tblT [(100, E_73), (129, E_74)]
 L := tblL [(3, S_82L3 fuel)]
 dep := fun i => match i with
  | 51 => 1
  | 52 => 1
  | _ => 0
 n := 1
noncomputable def B_82L3 : Code := (Try.f128.body.bind (loopBody 3)).getD .skip
noncomputable def D_82 : Code := Try.f128.body.getD .skip
noncomputable def N_82 (o : outs [.bx (.pr (.v .int) (.pr (.v .int) (.pr (.v (.slice (.slice .int))) (.pr (.v .int) (.v (.slice .int))))))]) (r : dens [.pr (.v .int) (.pr (.v .int) (.mv (.slice .int) 1))]) : (Int × (Int × ((List (List Int)) × (Int × (List Int))))) × (Int × (Int × (List (List Int)))) := (o, r)
noncomputable def E_83 : Entry where
 params := [.v .int, .v .int, .v (.slice (.slice .int))]
 results := [.pr (.v .int) (.pr (.v .int) (.mv (.slice .int) 1))]
 B := (Int × (Int × (List (List Int))))
 run := fun a => impl_equationsOf a.1 a.2.1 a.2.2
 out := fun b => ((), (), ())
 res := fun b => b
noncomputable def S_83L8 (n : Nat) : LoopSpec where
 sh := [(0, .v .int), (1, .v .int), (6, .bx (.pr (.v .int) (.pr (.v .int) (.mv (.slice .int) 1)))), (7, .v (.slice .int)), (8, .mv (.slice .int) 1), (11, .mv .int 0), (24, .v (.slice (.slice .int))), (25, .v .int), (26, .v .int), (33, .v (.slice .int)), (34, .v .int), (35, .v .int)]
 ex := [(.exit 2, [(0, .v .int), (1, .v .int), (6, .bx (.pr (.v .int) (.pr (.v .int) (.mv (.slice .int) 1)))), (7, .v (.slice .int)), (8, .mv (.slice .int) 1), (11, .mv .int 0), (24, .v (.slice (.slice .int))), (25, .v .int), (26, .v .int)])]
 run := impl_equationsOf_L8 n
noncomputable def S_83L4 (n : Nat) : LoopSpec where
 sh := [(0, .v .int), (1, .v .int), (6, .bx (.pr (.v .int) (.pr (.v .int) (.mv (.slice .int) 1)))), (7, .v (.slice .int)), (8, .mv (.slice .int) 1), (24, .v (.slice (.slice .int))), (25, .v .int), (26, .v .int)]
 ex := [(.exit 0, [(0, .v .int), (1, .v .int), (6, .bx (.pr (.v .int) (.pr (.v .int) (.mv (.slice .int) 1)))), (7, .v (.slice .int)), (8, .mv (.slice .int) 1)])]
 run := impl_equationsOf_L4 n
noncomputable def S_83L20 (n : Nat) : LoopSpec where
 sh := [(1114182, .jk 1), (0, .v .int), (1, .v .int), (6, .bx (.pr (.v .int) (.pr (.v .int) (.mv (.slice .int) 1)))), (7, .v (.slice .int)), (14, .mv (.slice .int) 1), (16, .mv .int 0), (17, .v .int), (64, .gs (.slice .int) 1), (65, .v .int), (66, .v .int), (71, .v .int), (72, .v .int)]
 ex := [(.exit 6, [(0, .v .int), (1, .v .int), (6, .bx (.pr (.v .int) (.pr (.v .int) (.mv (.slice .int) 1)))), (7, .v (.slice .int)), (14, .mv (.slice .int) 1), (16, .mv .int 0), (17, .v .int), (64, .gs (.slice .int) 1), (65, .v .int), (66, .v .int)])]
 run := impl_equationsOf_L20 n
noncomputable def S_83L16 (n : Nat) : LoopSpec where
 sh := [(0, .v .int), (1, .v .int), (6, .bx (.pr (.v .int) (.pr (.v .int) (.mv (.slice .int) 1)))), (7, .v (.slice .int)), (14, .mv (.slice .int) 1), (64, .gs (.slice .int) 1), (65, .v .int), (66, .v .int)]
 ex := [(.exit 4, [(0, .v .int), (1, .v .int), (6, .bx (.pr (.v .int) (.pr (.v .int) (.mv (.slice .int) 1)))), (14, .mv (.slice .int) 1)])]
 run := impl_equationsOf_L16 n
noncomputable def C_83 : Cx where
 tt := tblTT tt
 T := tblT [(76, E_81), (127, E_80), (128, E_82)]
 L := tblL [(8, S_83L8 fuel), (4, S_83L4 fuel), (20, S_83L20 fuel), (16, S_83L16 fuel)]
 dep := fun i => match i with
  | 23 => 1
  | 56 => 1
  | 57 => 1
  | 59 => 1
  | 69 => 99
  | 93 => 1
  | 94 => 1
  | _ => 0
 n := 3
noncomputable def B_83L8 : Code := (Try.f75.body.bind (loopBody 8)).getD .skip
noncomputable def B_83L4 : Code := (Try.f75.body.bind (loopBody 4)).getD .skip
noncomputable def B_83L20 : Code := (Try.f75.body.bind (loopBody 20)).getD .skip
noncomputable def B_83L16 : Code := (Try.f75.body.bind (loopBody 16)).getD .skip
noncomputable def D_83 : Code := Try.f75.body.getD .skip
noncomputable def N_83 (_ : outs [.v .int, .v .int, .v (.slice (.slice .int))]) (r : dens [.pr (.v .int) (.pr (.v .int) (.mv (.slice .int) 1))]) : (Int × (Int × (List (List Int)))) := r
noncomputable def E_84 : Entry where
 params := [.v (.ptr (.pair .int (.pair .int (.pair (.slice (.slice .int)) (.pair .int (.slice .int))))))]
 results := [.v .bool]
 B := Bool
 run := fun a => impl_eliminated_fails_p a
 out := fun b => ()
 res := fun b => b
noncomputable def S_84L2 (n : Nat) : LoopSpec where
 sh := [(0, .v (.ptr (.pair .int (.pair .int (.pair (.slice (.slice .int)) (.pair .int (.slice .int))))))), (13, .v (.slice (.slice .int))), (14, .v .int), (15, .v .int)]
 ex := [(.exit 0, []), (.ret, [(2, .v .bool)])]
 run := impl_eliminated_fails_p_L2 n
noncomputable def C_84 : Cx where
 tt := tblTT tt
 T := tblT []
 L := tblL [(2, S_84L2 fuel)]
 dep := fun i => 0
 n := 1
noncomputable def B_84L2 : Code := (Try.f131.body.bind (loopBody 2)).getD .skip
noncomputable def D_84 : Code := Try.f131.body.getD .skip
noncomputable def N_84 (_ : outs [.v (.ptr (.pair .int (.pair .int (.pair (.slice (.slice .int)) (.pair .int (.slice .int))))))]) (r : dens [.v .bool]) : Bool := r
noncomputable def E_85 : Entry where
 params := [.v (.ptr (.pair .int (.pair .int (.pair (.slice (.slice .int)) (.pair .int (.slice .int))))))]
 results := [.mv .int 0]
 B := (List Int)
 run := fun a => impl_eliminated_freeVars_p a
 out := fun b => ()
 res := fun b => b
noncomputable def S_85L3 (n : Nat) : LoopSpec where
 sh := [(3, .mv .int 0), (10, .v (.slice .int)), (11, .v .int), (12, .v .int)]
 ex := [(.exit 0, [(3, .mv .int 0)])]
 run := impl_eliminated_freeVars_p_L3 n
noncomputable def C_85 : Cx where
 tt := tblTT tt
 T := tblT []
 L := tblL [(3, S_85L3 fuel)]
 dep := fun i => 0
 n := 1
noncomputable def B_85L3 : Code := (Try.f171.body.bind (loopBody 3)).getD .skip
noncomputable def D_85 : Code := Try.f171.body.getD .skip
noncomputable def N_85 (_ : outs [.v (.ptr (.pair .int (.pair .int (.pair (.slice (.slice .int)) (.pair .int (.slice .int))))))]) (r : dens [.mv .int 0]) : (List Int) := r
noncomputable def E_86 : Entry where
 params := [.v (.ptr (.pair .int (.pair .int (.pair (.slice (.slice .int)) (.pair .int (.slice .int)))))), .v (.slice .int)]
 results := [.mv .int 0]
 B := (List Int)
 run := fun a => impl_eliminated_solution_p a.1 a.2
 out := fun b => ((), ())
 res := fun b => b
noncomputable def S_86L4 (n : Nat) : LoopSpec where
 sh := [(458773, .jk 1), (0, .v (.ptr (.pair .int (.pair .int (.pair (.slice (.slice .int)) (.pair .int (.slice .int))))))), (1, .v (.slice .int)), (5, .mv .int 0), (6, .mv .int 0), (22, .v .int), (23, .v .int)]
 ex := [(.exit 0, [(0, .v (.ptr (.pair .int (.pair .int (.pair (.slice (.slice .int)) (.pair .int (.slice .int))))))), (1, .v (.slice .int)), (5, .mv .int 0), (6, .mv .int 0)])]
 run := impl_eliminated_solution_p_L4 n
noncomputable def S_86L14 (n : Nat) : LoopSpec where
 sh := [(458813, .jk 1), (0, .v (.ptr (.pair .int (.pair .int (.pair (.slice (.slice .int)) (.pair .int (.slice .int))))))), (1, .v (.slice .int)), (5, .mv .int 0), (6, .mv .int 0), (9, .v .int), (10, .v .int), (11, .v .int), (39, .v (.slice .int)), (40, .v .int), (41, .v .int), (62, .v .int), (63, .v .int)]
 ex := [(.exit 4, [(0, .v (.ptr (.pair .int (.pair .int (.pair (.slice (.slice .int)) (.pair .int (.slice .int))))))), (1, .v (.slice .int)), (5, .mv .int 0), (6, .mv .int 0), (9, .v .int), (11, .v .int), (39, .v (.slice .int)), (40, .v .int), (41, .v .int)])]
 run := impl_eliminated_solution_p_L14 n
noncomputable def S_86L9 (n : Nat) : LoopSpec where
 sh := [(0, .v (.ptr (.pair .int (.pair .int (.pair (.slice (.slice .int)) (.pair .int (.slice .int))))))), (1, .v (.slice .int)), (5, .mv .int 0), (6, .mv .int 0), (39, .v (.slice .int)), (40, .v .int), (41, .v .int)]
 ex := [(.exit 2, [(5, .mv .int 0)])]
 run := impl_eliminated_solution_p_L9 n
noncomputable def C_86 : Cx where
 tt := tblTT tt
 T := tblT [(171, E_85)]
 L := tblL [(4, S_86L4 fuel), (14, S_86L14 fuel), (9, S_86L9 fuel)]
 dep := fun i => 0
 n := 2
noncomputable def B_86L4 : Code := (Try.f132.body.bind (loopBody 4)).getD .skip
noncomputable def B_86L14 : Code := (Try.f132.body.bind (loopBody 14)).getD .skip
noncomputable def B_86L9 : Code := (Try.f132.body.bind (loopBody 9)).getD .skip
noncomputable def D_86 : Code := Try.f132.body.getD .skip
noncomputable def N_86 (_ : outs [.v (.ptr (.pair .int (.pair .int (.pair (.slice (.slice .int)) (.pair .int (.slice .int)))))), .v (.slice .int)]) (r : dens [.mv .int 0]) : (List Int) := r
noncomputable def E_87 : Entry where
 params := [.v (.ptr (.pair .int (.pair .int (.pair (.slice (.slice .int)) (.pair .int (.slice .int))))))]
 results := [.mv .int 0, .v .bool]
 B := (List Int) × Bool
 run := fun a => impl_eliminated_leastSolution_p a
 out := fun b => ()
 res := fun b => (b.1, b.2)
noncomputable def C_87 : Cx where
 tt := tblTT tt
 T := tblT [(131, E_84), (132, E_86)]
 L := tblL []
 dep := fun i => 0
 n := 1
noncomputable def D_87 : Code := Try.f77.body.getD .skip
noncomputable def N_87 (_ : outs [.v (.ptr (.pair .int (.pair .int (.pair (.slice (.slice .int)) (.pair .int (.slice .int))))))]) (r : dens [.mv .int 0, .v .bool]) : (List Int) × Bool := (r.1, r.2)
noncomputable def E_88 : Entry where
 params := [.v (.pair .int (.pair .int (.slice (.pair (.slice .int) (.pair .int (.slice (.slice .int)))))))]
 results := [.mv .int 0, .v .bool, .v .bool]
 B := (List Int) × Bool × Bool
 run := fun a => impl_AffineAssignment a
 out := fun b => ()
 res := fun b => (b.1, b.2.1, b.2.2)
noncomputable def S_88L14 (n : Nat) : LoopSpec where
 sh := [(1, .bx (.v (.pair .int (.pair .int (.slice (.pair (.slice .int) (.pair .int (.slice (.slice .int))))))))), (5, .mv (.slice .int) 1), (7, .bx (.v (.pair (.slice .int) (.pair .int (.slice (.slice .int)))))), (9, .v (.slice .int)), (10, .mv .int 0), (21, .v (.slice (.pair (.slice .int) (.pair .int (.slice (.slice .int)))))), (22, .v .int), (23, .v .int), (40, .v (.slice (.slice .int))), (41, .v .int), (42, .v .int), (51, .v (.slice .int)), (52, .v .int), (53, .v .int)]
 ex := [(.exit 4, [(1, .bx (.v (.pair .int (.pair .int (.slice (.pair (.slice .int) (.pair .int (.slice (.slice .int))))))))), (5, .mv (.slice .int) 1), (7, .bx (.v (.pair (.slice .int) (.pair .int (.slice (.slice .int)))))), (9, .v (.slice .int)), (10, .mv .int 0), (21, .v (.slice (.pair (.slice .int) (.pair .int (.slice (.slice .int)))))), (22, .v .int), (23, .v .int), (40, .v (.slice (.slice .int))), (41, .v .int), (42, .v .int)])]
 run := impl_AffineAssignment_L14 n
noncomputable def S_88L10 (n : Nat) : LoopSpec where
 sh := [(1, .bx (.v (.pair .int (.pair .int (.slice (.pair (.slice .int) (.pair .int (.slice (.slice .int))))))))), (5, .mv (.slice .int) 1), (7, .bx (.v (.pair (.slice .int) (.pair .int (.slice (.slice .int)))))), (21, .v (.slice (.pair (.slice .int) (.pair .int (.slice (.slice .int)))))), (22, .v .int), (23, .v .int), (40, .v (.slice (.slice .int))), (41, .v .int), (42, .v .int)]
 ex := [(.exit 2, [(1, .bx (.v (.pair .int (.pair .int (.slice (.pair (.slice .int) (.pair .int (.slice (.slice .int))))))))), (5, .mv (.slice .int) 1), (21, .v (.slice (.pair (.slice .int) (.pair .int (.slice (.slice .int)))))), (22, .v .int), (23, .v .int)])]
 run := impl_AffineAssignment_L10 n
noncomputable def S_88L5 (n : Nat) : LoopSpec where
 sh := [(1, .bx (.v (.pair .int (.pair .int (.slice (.pair (.slice .int) (.pair .int (.slice (.slice .int))))))))), (5, .mv (.slice .int) 1), (21, .v (.slice (.pair (.slice .int) (.pair .int (.slice (.slice .int)))))), (22, .v .int), (23, .v .int)]
 ex := [(.exit 0, [(1, .bx (.v (.pair .int (.pair .int (.slice (.pair (.slice .int) (.pair .int (.slice (.slice .int))))))))), (5, .mv (.slice .int) 1)]), (.ret, [(2, .mv .int 0), (3, .v .bool), (4, .v .bool)])]
 run := impl_AffineAssignment_L5 n
noncomputable def C_88 : Cx where
 tt := tblTT tt
 T := tblT [(72, E_72), (75, E_83), (76, E_77), (77, E_87)]
 L := tblL [(14, S_88L14 fuel), (10, S_88L10 fuel), (5, S_88L5 fuel)]
 dep := fun i => match i with
  | 19 => 1
  | 81 => 1
  | 82 => 1
  | _ => 0
 n := 1
noncomputable def B_88L14 : Code := (Try.f31.body.bind (loopBody 14)).getD .skip
noncomputable def B_88L10 : Code := (Try.f31.body.bind (loopBody 10)).getD .skip
noncomputable def B_88L5 : Code := (Try.f31.body.bind (loopBody 5)).getD .skip
noncomputable def D_88 : Code := Try.f31.body.getD .skip
noncomputable def N_88 (_ : outs [.v (.pair .int (.pair .int (.slice (.pair (.slice .int) (.pair .int (.slice (.slice .int)))))))]) (r : dens [.mv .int 0, .v .bool, .v .bool]) : (List Int) × Bool × Bool := (r.1, r.2.1, r.2.2)
noncomputable def E_89 : Entry where
 params := [.v (.slice .int), .v (.slice .int)]
 results := [.v .bool]
 B := Bool
 run := fun a => laws_eqIntS a.1 a.2
 out := fun b => ((), ())
 res := fun b => b
noncomputable def S_89L4 (n : Nat) : LoopSpec where
 sh := [(0, .v (.slice .int)), (1, .v (.slice .int)), (5, .v .int)]
 ex := [(.exit 0, []), (.ret, [(4, .v .bool)])]
 run := laws_eqIntS_L4 n
noncomputable def C_89 : Cx where
 tt := tblTT tt
 T := tblT []
 L := tblL [(4, S_89L4 fuel)]
 dep := fun i => 0
 n := 2
noncomputable def B_89L4 : Code := (Try.f12.body.bind (loopBody 4)).getD .skip
noncomputable def D_89 : Code := Try.f12.body.getD .skip
noncomputable def N_89 (_ : outs [.v (.slice .int), .v (.slice .int)]) (r : dens [.v .bool]) : Bool := r
noncomputable def E_90 : Entry where
 params := [.v (.slice (.slice .int)), .v (.slice (.slice .int))]
 results := [.v .bool]
 B := Bool
 run := fun a => laws_eqIntSS a.1 a.2
 out := fun b => ((), ())
 res := fun b => b
noncomputable def S_90L4 (n : Nat) : LoopSpec where
 sh := [(0, .v (.slice (.slice .int))), (1, .v (.slice (.slice .int))), (5, .v .int)]
 ex := [(.exit 0, []), (.ret, [(4, .v .bool)])]
 run := laws_eqIntSS_L4 n
noncomputable def C_90 : Cx where
 tt := tblTT tt
 T := tblT [(12, E_89)]
 L := tblL [(4, S_90L4 fuel)]
 dep := fun i => 0
 n := 2
noncomputable def B_90L4 : Code := (Try.f105.body.bind (loopBody 4)).getD .skip
noncomputable def D_90 : Code := Try.f105.body.getD .skip
noncomputable def N_90 (_ : outs [.v (.slice (.slice .int)), .v (.slice (.slice .int))]) (r : dens [.v .bool]) : Bool := r
noncomputable def E_91 : Entry where
 params := [.v (.pair .int (.slice (.slice .int))), .v (.pair .int (.slice (.slice .int)))]
 results := [.v .bool]
 B := Bool
 run := fun a => laws_eqRelation a.1 a.2
 out := fun b => ((), ())
 res := fun b => b
noncomputable def C_91 : Cx where
 tt := tblTT tt
 T := tblT [(105, E_90)]
 L := tblL []
 dep := fun i => 0
 n := 2
noncomputable def D_91 : Code := Try.f55.body.getD .skip
noncomputable def N_91 (_ : outs [.v (.pair .int (.slice (.slice .int))), .v (.pair .int (.slice (.slice .int)))]) (r : dens [.v .bool]) : Bool := r
noncomputable def E_92 : Entry where
 params := [.v (.pair (.slice .int) (.pair .int (.slice (.slice .int)))), .v (.pair (.slice .int) (.pair .int (.slice (.slice .int))))]
 results := [.v .bool]
 B := Bool
 run := fun a => laws_eqConstraint a.1 a.2
 out := fun b => ((), ())
 res := fun b => b
noncomputable def C_92 : Cx where
 tt := tblTT tt
 T := tblT [(12, E_89), (55, E_91)]
 L := tblL []
 dep := fun i => 0
 n := 2
noncomputable def D_92 : Code := Try.f86.body.getD .skip
noncomputable def N_92 (_ : outs [.v (.pair (.slice .int) (.pair .int (.slice (.slice .int)))), .v (.pair (.slice .int) (.pair .int (.slice (.slice .int))))]) (r : dens [.v .bool]) : Bool := r
noncomputable def E_93 : Entry where
 params := [.v (.slice (.pair (.slice .int) (.pair .int (.slice (.slice .int))))), .v (.slice (.pair (.slice .int) (.pair .int (.slice (.slice .int)))))]
 results := [.v .bool]
 B := Bool
 run := fun a => laws_eqConstraintS a.1 a.2
 out := fun b => ((), ())
 res := fun b => b
noncomputable def S_93L4 (n : Nat) : LoopSpec where
 sh := [(0, .v (.slice (.pair (.slice .int) (.pair .int (.slice (.slice .int)))))), (1, .v (.slice (.pair (.slice .int) (.pair .int (.slice (.slice .int)))))), (5, .v .int)]
 ex := [(.exit 0, []), (.ret, [(4, .v .bool)])]
 run := laws_eqConstraintS_L4 n
noncomputable def C_93 : Cx where
 tt := tblTT tt
 T := tblT [(86, E_92)]
 L := tblL [(4, S_93L4 fuel)]
 dep := fun i => 0
 n := 2
noncomputable def B_93L4 : Code := (Try.f41.body.bind (loopBody 4)).getD .skip
noncomputable def D_93 : Code := Try.f41.body.getD .skip
noncomputable def N_93 (_ : outs [.v (.slice (.pair (.slice .int) (.pair .int (.slice (.slice .int))))), .v (.slice (.pair (.slice .int) (.pair .int (.slice (.slice .int)))))]) (r : dens [.v .bool]) : Bool := r
noncomputable def E_94 : Entry where
 params := [.v (.pair .int (.pair .int (.slice (.pair (.slice .int) (.pair .int (.slice (.slice .int))))))), .v (.pair .int (.pair .int (.slice (.pair (.slice .int) (.pair .int (.slice (.slice .int)))))))]
 results := [.v .bool]
 B := Bool
 run := fun a => laws_eqNetwork a.1 a.2
 out := fun b => ((), ())
 res := fun b => b
noncomputable def C_94 : Cx where
 tt := tblTT tt
 T := tblT [(41, E_93)]
 L := tblL []
 dep := fun i => 0
 n := 2
noncomputable def D_94 : Code := Try.f13.body.getD .skip
noncomputable def N_94 (_ : outs [.v (.pair .int (.pair .int (.slice (.pair (.slice .int) (.pair .int (.slice (.slice .int))))))), .v (.pair .int (.pair .int (.slice (.pair (.slice .int) (.pair .int (.slice (.slice .int)))))))]) (r : dens [.v .bool]) : Bool := r
noncomputable def E_95 : Entry where
 params := [.io .int 0, .v .int]
 results := [.v .int]
 B := (List Int) × Int
 run := fun a => laws_markIntS a.1 a.2
 out := fun b => (b.1, ())
 res := fun b => b.2
noncomputable def S_95L2 (n : Nat) : LoopSpec where
 sh := [(0, .io .int 0), (1, .v .int), (5, .v .int)]
 ex := [(.exit 0, [(0, .io .int 0), (1, .v .int)])]
 run := laws_markIntS_L2 n
noncomputable def C_95 : Cx where
 tt := tblTT tt
 T := tblT []
 L := tblL [(2, S_95L2 fuel)]
 dep := fun i => 0
 n := 2
noncomputable def B_95L2 : Code := (Try.f15.body.bind (loopBody 2)).getD .skip
noncomputable def D_95 : Code := Try.f15.body.getD .skip
noncomputable def N_95 (o : outs [.io .int 0, .v .int]) (r : dens [.v .int]) : (List Int) × Int := (o.1, r)
noncomputable def E_96 : Entry where
 params := [.io (.slice .int) 1, .v .int]
 results := [.v .int]
 B := (List (List Int)) × Int
 run := fun a => laws_markIntSS a.1 a.2
 out := fun b => (b.1, ())
 res := fun b => b.2
noncomputable def S_96L2 (n : Nat) : LoopSpec where
 sh := [(0, .io (.slice .int) 1), (1, .v .int), (5, .v .int)]
 ex := [(.exit 0, [(0, .io (.slice .int) 1), (1, .v .int)])]
 run := laws_markIntSS_L2 n
noncomputable def C_96 : Cx where
 tt := tblTT tt
 T := tblT [(15, E_95)]
 L := tblL [(2, S_96L2 fuel)]
 dep := fun i => 0
 n := 2
noncomputable def B_96L2 : Code := (Try.f56.body.bind (loopBody 2)).getD .skip
noncomputable def D_96 : Code := Try.f56.body.getD .skip
noncomputable def N_96 (o : outs [.io (.slice .int) 1, .v .int]) (r : dens [.v .int]) : (List (List Int)) × Int := (o.1, r)
noncomputable def E_97 : Entry where
 params := [.io (.pair (.slice .int) (.pair .int (.slice (.slice .int)))) 2, .v .int]
 results := [.v .int]
 B := (List ((List Int) × Int × (List (List Int)))) × Int
 run := fun a => laws_markConstraintS a.1 a.2
 out := fun b => (b.1, ())
 res := fun b => b.2
noncomputable def S_97L2 (n : Nat) : LoopSpec where
 sh := [(0, .io (.pair (.slice .int) (.pair .int (.slice (.slice .int)))) 2), (1, .v .int), (5, .v .int)]
 ex := [(.exit 0, [(0, .io (.pair (.slice .int) (.pair .int (.slice (.slice .int)))) 2), (1, .v .int)])]
 run := laws_markConstraintS_L2 n
noncomputable def C_97 : Cx where
 tt := tblTT tt
 T := tblT [(15, E_95), (56, E_96)]
 L := tblL [(2, S_97L2 fuel)]
 dep := fun i => 0
 n := 2
noncomputable def B_97L2 : Code := (Try.f42.body.bind (loopBody 2)).getD .skip
noncomputable def D_97 : Code := Try.f42.body.getD .skip
noncomputable def N_97 (o : outs [.io (.pair (.slice .int) (.pair .int (.slice (.slice .int)))) 2, .v .int]) (r : dens [.v .int]) : (List ((List Int) × Int × (List (List Int)))) × Int := (o.1, r)
noncomputable def E_98 : Entry where
 params := [.pr (.v .int) (.pr (.v .int) (.io (.pair (.slice .int) (.pair .int (.slice (.slice .int)))) 2)), .v .int]
 results := [.v .int]
 B := (Unit × (Unit × (List ((List Int) × Int × (List (List Int)))))) × Int
 run := fun a => laws_markNetwork a.1 a.2
 out := fun b => (b.1, ())
 res := fun b => b.2
noncomputable def C_98 : Cx where
 tt := tblTT tt
 T := tblT [(42, E_97)]
 L := tblL []
 dep := fun i => 0
 n := 2
noncomputable def D_98 : Code := Try.f14.body.getD .skip
noncomputable def N_98 (o : outs [.pr (.v .int) (.pr (.v .int) (.io (.pair (.slice .int) (.pair .int (.slice (.slice .int)))) 2)), .v .int]) (r : dens [.v .int]) : (Unit × (Unit × (List ((List Int) × Int × (List (List Int)))))) × Int := (o.1, r)
noncomputable def E_99 : Entry where
 params := [.v (.slice .int), .v .int]
 results := [.v .int]
 B := Int
 run := fun a => laws_heldIntS a.1 a.2
 out := fun b => ((), ())
 res := fun b => b
noncomputable def S_99L2 (n : Nat) : LoopSpec where
 sh := [(0, .v (.slice .int)), (1, .v .int), (5, .v .int)]
 ex := [(.exit 0, [(1, .v .int)]), (.ret, [(4, .v .int)])]
 run := laws_heldIntS_L2 n
noncomputable def C_99 : Cx where
 tt := tblTT tt
 T := tblT []
 L := tblL [(2, S_99L2 fuel)]
 dep := fun i => 0
 n := 2
noncomputable def B_99L2 : Code := (Try.f16.body.bind (loopBody 2)).getD .skip
noncomputable def D_99 : Code := Try.f16.body.getD .skip
noncomputable def N_99 (_ : outs [.v (.slice .int), .v .int]) (r : dens [.v .int]) : Int := r
noncomputable def E_100 : Entry where
 params := [.v (.pair .int (.pair .int (.slice (.pair (.slice .int) (.pair .int (.slice (.slice .int)))))))]
 results := [.v .bool]
 B := Bool
 run := fun a => laws_FnExactAffineAssignment a
 out := fun b => ()
 res := fun b => b
noncomputable def C_100 : Cx where
 tt := tblTT tt
 T := tblT [(8, E_6), (10, E_12), (12, E_89), (13, E_94), (14, E_98), (15, E_95), (16, E_99), (30, E_50), (31, E_88)]
 L := tblL []
 dep := fun i => 0
 n := 1
noncomputable def D_100 : Code := Try.f7.body.getD .skip
noncomputable def N_100 (_ : outs [.v (.pair .int (.pair .int (.slice (.pair (.slice .int) (.pair .int (.slice (.slice .int)))))))]) (r : dens [.v .bool]) : Bool := r
end T
