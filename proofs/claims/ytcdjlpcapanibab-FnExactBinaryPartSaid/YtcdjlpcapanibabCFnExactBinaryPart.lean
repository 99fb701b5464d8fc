/- Contexts of the typed functions; no conditions. -/
import Derived.Test.YtcdjlpcapanibabV5
import Derived.Test.YtcdjlpcapanibabProg
import Derived.Test.YtcdjlpcapanibabPFnExactBinaryPart
import Derived.KernelRfl
set_option linter.all false
set_option linter.unusedVariables false
set_option maxRecDepth 10000
open Go Go.Va Go.Proofs
namespace T
noncomputable def tt : List (Nat × TI) := [
 (2, { ty := .int }),
 (3, { ty := .int }),
 (4, { ty := .bool }),
 (22, { ty := (.slice (.pair (.slice .int) (.pair .int (.slice (.slice .int))))), elem := 90 }),
 (24, { ty := (.pair .int (.pair .int (.slice (.pair (.slice .int) (.pair .int (.slice (.slice .int))))))), fields := [3, 3, 22] }),
 (26, { ty := (.slice (.pair (.slice .int) (.pair .int (.slice (.slice .int))))), elem := 59 }),
 (28, { ty := (.pair .int (.pair .int (.slice (.pair (.slice .int) (.pair .int (.slice (.slice .int))))))), fields := [3, 3, 26] }),
 (35, { ty := (.slice .int), elem := 3 }),
 (45, { ty := (.slice (.slice .int)), elem := 35 }),
 (47, { ty := (.pair .int (.slice (.slice .int))), fields := [3, 45] }),
 (59, { ty := (.pair (.slice .int) (.pair .int (.slice (.slice .int)))), fields := [35, 47] }),
 (88, { ty := (.pair .int (.slice (.slice .int))), fields := [3, 45] }),
 (90, { ty := (.pair (.slice .int) (.pair .int (.slice (.slice .int)))), fields := [35, 88] }),
 (111, { ty := (.op false) })]
theorem tabT : tabOk Try.prog tt = true := by kernel_rfl
theorem mixT : Try.prog.follows .mixedOrders = true := by kernel_rfl
noncomputable def E_1 : Entry where
 params := [.v (.slice .int), .v .int]
 results := [.v .int]
 B := Int
 run := fun a => laws_szIntS a.1 a.2
 out := fun b => ((), ())
 res := fun b => b
noncomputable def C_1 : Cx where
 tt := tblTT tt
 T := tblT []
 L := tblL []
 dep := fun i => 0
 n := 2
noncomputable def D_1 : Code := Try.f38.body.getD .skip
noncomputable def N_1 (_ : outs [.v (.slice .int), .v .int]) (r : dens [.v .int]) : Int := r
noncomputable def E_2 : Entry where
 params := [.v (.slice (.slice .int)), .v .int]
 results := [.v .int]
 B := Int
 run := fun a => laws_szIntSS a.1 a.2
 out := fun b => ((), ())
 res := fun b => b
noncomputable def S_2L5 (n : Nat) : LoopSpec where
 sh := [(0, .v (.slice (.slice .int))), (1, .v .int), (5, .v .int)]
 ex := [(.exit 0, [(1, .v .int)]), (.ret, [(4, .v .int)])]
 run := laws_szIntSS_L5 n
noncomputable def C_2 : Cx where
 tt := tblTT tt
 T := tblT [(38, E_1)]
 L := tblL [(5, S_2L5 fuel)]
 dep := fun i => 0
 n := 2
noncomputable def B_2L5 : Code := (Try.f100.body.bind (loopBody 5)).getD .skip
noncomputable def D_2 : Code := Try.f100.body.getD .skip
noncomputable def N_2 (_ : outs [.v (.slice (.slice .int)), .v .int]) (r : dens [.v .int]) : Int := r
noncomputable def E_3 : Entry where
 params := [.v (.pair .int (.slice (.slice .int))), .v .int]
 results := [.v .int]
 B := Int
 run := fun a => laws_szRelation a.1 a.2
 out := fun b => ((), ())
 res := fun b => b
noncomputable def C_3 : Cx where
 tt := tblTT tt
 T := tblT [(100, E_2)]
 L := tblL []
 dep := fun i => 0
 n := 2
noncomputable def D_3 : Code := Try.f87.body.getD .skip
noncomputable def N_3 (_ : outs [.v (.pair .int (.slice (.slice .int))), .v .int]) (r : dens [.v .int]) : Int := r
noncomputable def E_4 : Entry where
 params := [.v (.pair (.slice .int) (.pair .int (.slice (.slice .int)))), .v .int]
 results := [.v .int]
 B := Int
 run := fun a => laws_szConstraint a.1 a.2
 out := fun b => ((), ())
 res := fun b => b
noncomputable def C_4 : Cx where
 tt := tblTT tt
 T := tblT [(38, E_1), (87, E_3)]
 L := tblL []
 dep := fun i => 0
 n := 2
noncomputable def D_4 : Code := Try.f67.body.getD .skip
noncomputable def N_4 (_ : outs [.v (.pair (.slice .int) (.pair .int (.slice (.slice .int)))), .v .int]) (r : dens [.v .int]) : Int := r
noncomputable def E_5 : Entry where
 params := [.v (.slice (.pair (.slice .int) (.pair .int (.slice (.slice .int))))), .v .int]
 results := [.v .int]
 B := Int
 run := fun a => laws_szConstraintS a.1 a.2
 out := fun b => ((), ())
 res := fun b => b
noncomputable def S_5L5 (n : Nat) : LoopSpec where
 sh := [(0, .v (.slice (.pair (.slice .int) (.pair .int (.slice (.slice .int)))))), (1, .v .int), (5, .v .int)]
 ex := [(.exit 0, [(1, .v .int)]), (.ret, [(4, .v .int)])]
 run := laws_szConstraintS_L5 n
noncomputable def C_5 : Cx where
 tt := tblTT tt
 T := tblT [(67, E_4)]
 L := tblL [(5, S_5L5 fuel)]
 dep := fun i => 0
 n := 2
noncomputable def B_5L5 : Code := (Try.f30.body.bind (loopBody 5)).getD .skip
noncomputable def D_5 : Code := Try.f30.body.getD .skip
noncomputable def N_5 (_ : outs [.v (.slice (.pair (.slice .int) (.pair .int (.slice (.slice .int))))), .v .int]) (r : dens [.v .int]) : Int := r
noncomputable def E_6 : Entry where
 params := [.v (.pair .int (.pair .int (.slice (.pair (.slice .int) (.pair .int (.slice (.slice .int))))))), .v .int]
 results := [.v .int]
 B := Int
 run := fun a => laws_szNetwork a.1 a.2
 out := fun b => ((), ())
 res := fun b => b
noncomputable def C_6 : Cx where
 tt := tblTT tt
 T := tblT [(30, E_5)]
 L := tblL []
 dep := fun i => 0
 n := 2
noncomputable def D_6 : Code := Try.f7.body.getD .skip
noncomputable def N_6 (_ : outs [.v (.pair .int (.pair .int (.slice (.pair (.slice .int) (.pair .int (.slice (.slice .int))))))), .v .int]) (r : dens [.v .int]) : Int := r
noncomputable def E_7 : Entry where
 params := [.v (.slice .int)]
 results := [.mv .int 0]
 B := (List Int)
 run := fun a => laws_toIntS a
 out := fun b => ()
 res := fun b => b
noncomputable def S_7L3 (n : Nat) : LoopSpec where
 sh := [(0, .v (.slice .int)), (3, .mv .int 0), (4, .v .int)]
 ex := [(.exit 0, [(3, .mv .int 0)])]
 run := laws_toIntS_L3 n
noncomputable def C_7 : Cx where
 tt := tblTT tt
 T := tblT []
 L := tblL [(3, S_7L3 fuel)]
 dep := fun i => 0
 n := 1
noncomputable def B_7L3 : Code := (Try.f23.body.bind (loopBody 3)).getD .skip
noncomputable def D_7 : Code := Try.f23.body.getD .skip
noncomputable def N_7 (_ : outs [.v (.slice .int)]) (r : dens [.mv .int 0]) : (List Int) := r
noncomputable def E_8 : Entry where
 params := [.v (.slice (.slice .int))]
 results := [.mv (.slice .int) 1]
 B := (List (List Int))
 run := fun a => laws_toIntSS a
 out := fun b => ()
 res := fun b => b
noncomputable def S_8L3 (n : Nat) : LoopSpec where
 sh := [(0, .v (.slice (.slice .int))), (3, .mv (.slice .int) 1), (4, .v .int)]
 ex := [(.exit 0, [(3, .mv (.slice .int) 1)])]
 run := laws_toIntSS_L3 n
noncomputable def C_8 : Cx where
 tt := tblTT tt
 T := tblT [(23, E_7)]
 L := tblL [(3, S_8L3 fuel)]
 dep := fun i => match i with
  | 7 => 1
  | _ => 0
 n := 1
noncomputable def B_8L3 : Code := (Try.f101.body.bind (loopBody 3)).getD .skip
noncomputable def D_8 : Code := Try.f101.body.getD .skip
noncomputable def N_8 (_ : outs [.v (.slice (.slice .int))]) (r : dens [.mv (.slice .int) 1]) : (List (List Int)) := r
noncomputable def E_9 : Entry where
 params := [.v (.pair .int (.slice (.slice .int)))]
 results := [.pr (.v .int) (.mv (.slice .int) 1)]
 B := (Int × (List (List Int)))
 run := fun a => laws_toRelation a
 out := fun b => ()
 res := fun b => b
noncomputable def C_9 : Cx where
 tt := tblTT tt
 T := tblT [(101, E_8)]
 L := tblL []
 dep := fun i => 0
 n := 1
noncomputable def D_9 : Code := Try.f88.body.getD .skip
noncomputable def N_9 (_ : outs [.v (.pair .int (.slice (.slice .int)))]) (r : dens [.pr (.v .int) (.mv (.slice .int) 1)]) : (Int × (List (List Int))) := r
noncomputable def E_10 : Entry where
 params := [.v (.pair (.slice .int) (.pair .int (.slice (.slice .int))))]
 results := [.pr (.mv .int 0) (.pr (.v .int) (.mv (.slice .int) 1))]
 B := ((List Int) × (Int × (List (List Int))))
 run := fun a => laws_toConstraint a
 out := fun b => ()
 res := fun b => b
noncomputable def C_10 : Cx where
 tt := tblTT tt
 T := tblT [(23, E_7), (88, E_9)]
 L := tblL []
 dep := fun i => 0
 n := 1
noncomputable def D_10 : Code := Try.f68.body.getD .skip
noncomputable def N_10 (_ : outs [.v (.pair (.slice .int) (.pair .int (.slice (.slice .int))))]) (r : dens [.pr (.mv .int 0) (.pr (.v .int) (.mv (.slice .int) 1))]) : ((List Int) × (Int × (List (List Int)))) := r
noncomputable def E_11 : Entry where
 params := [.v (.slice (.pair (.slice .int) (.pair .int (.slice (.slice .int)))))]
 results := [.mv (.pair (.slice .int) (.pair .int (.slice (.slice .int)))) 2]
 B := (List ((List Int) × Int × (List (List Int))))
 run := fun a => laws_toConstraintS a
 out := fun b => ()
 res := fun b => b
noncomputable def S_11L3 (n : Nat) : LoopSpec where
 sh := [(0, .v (.slice (.pair (.slice .int) (.pair .int (.slice (.slice .int)))))), (3, .mv (.pair (.slice .int) (.pair .int (.slice (.slice .int)))) 2), (4, .v .int)]
 ex := [(.exit 0, [(3, .mv (.pair (.slice .int) (.pair .int (.slice (.slice .int)))) 2)])]
 run := laws_toConstraintS_L3 n
noncomputable def C_11 : Cx where
 tt := tblTT tt
 T := tblT [(68, E_10)]
 L := tblL [(3, S_11L3 fuel)]
 dep := fun i => match i with
  | 7 => 2
  | _ => 0
 n := 1
noncomputable def B_11L3 : Code := (Try.f33.body.bind (loopBody 3)).getD .skip
noncomputable def D_11 : Code := Try.f33.body.getD .skip
noncomputable def N_11 (_ : outs [.v (.slice (.pair (.slice .int) (.pair .int (.slice (.slice .int)))))]) (r : dens [.mv (.pair (.slice .int) (.pair .int (.slice (.slice .int)))) 2]) : (List ((List Int) × Int × (List (List Int)))) := r
noncomputable def E_12 : Entry where
 params := [.v (.pair .int (.pair .int (.slice (.pair (.slice .int) (.pair .int (.slice (.slice .int)))))))]
 results := [.pr (.v .int) (.pr (.v .int) (.mv (.pair (.slice .int) (.pair .int (.slice (.slice .int)))) 2))]
 B := (Int × (Int × (List ((List Int) × Int × (List (List Int))))))
 run := fun a => laws_toNetwork a
 out := fun b => ()
 res := fun b => b
noncomputable def C_12 : Cx where
 tt := tblTT tt
 T := tblT [(33, E_11)]
 L := tblL []
 dep := fun i => 0
 n := 1
noncomputable def D_12 : Code := Try.f9.body.getD .skip
noncomputable def N_12 (_ : outs [.v (.pair .int (.pair .int (.slice (.pair (.slice .int) (.pair .int (.slice (.slice .int)))))))]) (r : dens [.pr (.v .int) (.pr (.v .int) (.mv (.pair (.slice .int) (.pair .int (.slice (.slice .int)))) 2))]) : (Int × (Int × (List ((List Int) × Int × (List (List Int)))))) := r
noncomputable def E_13 : Entry where
 params := [.v .int, .v .int, .v .int]
 results := [.v .bool]
 B := Bool
 run := fun a => spec_l1In a.1 a.2.1 a.2.2
 out := fun b => ((), (), ())
 res := fun b => b
noncomputable def C_13 : Cx where
 tt := tblTT tt
 T := tblT []
 L := tblL []
 dep := fun i => 0
 n := 3
noncomputable def D_13 : Code := Try.f53.body.getD .skip
noncomputable def N_13 (_ : outs [.v .int, .v .int, .v .int]) (r : dens [.v .bool]) : Bool := r
noncomputable def E_14 : Entry where
 params := [.v .int, .v .int]
 results := [.v .int]
 B := Int
 run := fun a => spec_l2Pow a.1 a.2
 out := fun b => ((), ())
 res := fun b => b
noncomputable def S_14L2 (n : Nat) : LoopSpec where
 sh := [(0, .v .int), (1, .v .int), (5, .v .int)]
 ex := [(.exit 0, [(5, .v .int)])]
 run := spec_l2Pow_L2 n
noncomputable def C_14 : Cx where
 tt := tblTT tt
 T := tblT []
 L := tblL [(2, S_14L2 fuel)]
 dep := fun i => 0
 n := 2
noncomputable def B_14L2 : Code := (Try.f55.body.bind (loopBody 2)).getD .skip
noncomputable def D_14 : Code := Try.f55.body.getD .skip
noncomputable def N_14 (_ : outs [.v .int, .v .int]) (r : dens [.v .int]) : Int := r
noncomputable def E_15 : Entry where
 params := [.v .int, .v (.slice .int)]
 results := [.v .bool]
 B := Bool
 run := fun a => spec_l2Elements a.1 a.2
 out := fun b => ((), ())
 res := fun b => b
noncomputable def S_15L2 (n : Nat) : LoopSpec where
 sh := [(0, .v .int), (1, .v (.slice .int)), (5, .v .int)]
 ex := [(.exit 0, []), (.ret, [(4, .v .bool)])]
 run := spec_l2Elements_L2 n
noncomputable def C_15 : Cx where
 tt := tblTT tt
 T := tblT [(53, E_13)]
 L := tblL [(2, S_15L2 fuel)]
 dep := fun i => 0
 n := 2
noncomputable def B_15L2 : Code := (Try.f54.body.bind (loopBody 2)).getD .skip
noncomputable def D_15 : Code := Try.f54.body.getD .skip
noncomputable def N_15 (_ : outs [.v .int, .v (.slice .int)]) (r : dens [.v .bool]) : Bool := r
noncomputable def E_16 : Entry where
 params := [.v .int, .v .int, .v (.slice .int)]
 results := [.v .bool]
 B := Bool
 run := fun a => spec_l8Tuple a.1 a.2.1 a.2.2
 out := fun b => ((), (), ())
 res := fun b => b
noncomputable def C_16 : Cx where
 tt := tblTT tt
 T := tblT [(54, E_15)]
 L := tblL []
 dep := fun i => 0
 n := 3
noncomputable def D_16 : Code := Try.f102.body.getD .skip
noncomputable def N_16 (_ : outs [.v .int, .v .int, .v (.slice .int)]) (r : dens [.v .bool]) : Bool := r
noncomputable def E_17 : Entry where
 params := [.v (.slice .int), .v (.slice .int)]
 results := [.v .bool]
 B := Bool
 run := fun a => spec_l3Less a.1 a.2
 out := fun b => ((), ())
 res := fun b => b
noncomputable def S_17L2 (n : Nat) : LoopSpec where
 sh := [(0, .v (.slice .int)), (1, .v (.slice .int)), (5, .v .int)]
 ex := [(.exit 0, []), (.ret, [(4, .v .bool)])]
 run := spec_l3Less_L2 n
noncomputable def C_17 : Cx where
 tt := tblTT tt
 T := tblT []
 L := tblL [(2, S_17L2 fuel)]
 dep := fun i => 0
 n := 2
noncomputable def B_17L2 : Code := (Try.f103.body.bind (loopBody 2)).getD .skip
noncomputable def D_17 : Code := Try.f103.body.getD .skip
noncomputable def N_17 (_ : outs [.v (.slice .int), .v (.slice .int)]) (r : dens [.v .bool]) : Bool := r
noncomputable def E_18 : Entry where
 params := [.v .int, .v (.pair .int (.slice (.slice .int)))]
 results := [.v .bool]
 B := Bool
 run := fun a => spec_l13Good a.1 a.2
 out := fun b => ((), ())
 res := fun b => b
noncomputable def S_18L4 (n : Nat) : LoopSpec where
 sh := [(0, .v .int), (3, .bx (.v (.pair .int (.slice (.slice .int))))), (5, .v .int)]
 ex := [(.exit 0, []), (.ret, [(4, .v .bool)])]
 run := spec_l13Good_L4 n
noncomputable def C_18 : Cx where
 tt := tblTT tt
 T := tblT [(53, E_13), (55, E_14), (102, E_16), (103, E_17)]
 L := tblL [(4, S_18L4 fuel)]
 dep := fun i => 0
 n := 2
noncomputable def B_18L4 : Code := (Try.f89.body.bind (loopBody 4)).getD .skip
noncomputable def D_18 : Code := Try.f89.body.getD .skip
noncomputable def N_18 (_ : outs [.v .int, .v (.pair .int (.slice (.slice .int)))]) (r : dens [.v .bool]) : Bool := r
noncomputable def E_19 : Entry where
 params := [.v .int, .v .int, .v (.pair (.slice .int) (.pair .int (.slice (.slice .int))))]
 results := [.v .bool]
 B := Bool
 run := fun a => spec_l19Is a.1 a.2.1 a.2.2
 out := fun b => ((), (), ())
 res := fun b => b
noncomputable def C_19 : Cx where
 tt := tblTT tt
 T := tblT [(54, E_15), (89, E_18)]
 L := tblL []
 dep := fun i => 0
 n := 3
noncomputable def D_19 : Code := Try.f71.body.getD .skip
noncomputable def N_19 (_ : outs [.v .int, .v .int, .v (.pair (.slice .int) (.pair .int (.slice (.slice .int))))]) (r : dens [.v .bool]) : Bool := r
noncomputable def E_20 : Entry where
 params := [.v (.pair .int (.pair .int (.slice (.pair (.slice .int) (.pair .int (.slice (.slice .int)))))))]
 results := [.v .bool]
 B := Bool
 run := fun a => spec_l19Good a
 out := fun b => ()
 res := fun b => b
noncomputable def S_20L4 (n : Nat) : LoopSpec where
 sh := [(1, .bx (.v (.pair .int (.pair .int (.slice (.pair (.slice .int) (.pair .int (.slice (.slice .int))))))))), (3, .v .int)]
 ex := [(.exit 0, []), (.ret, [(2, .v .bool)])]
 run := spec_l19Good_L4 n
noncomputable def C_20 : Cx where
 tt := tblTT tt
 T := tblT [(53, E_13), (71, E_19)]
 L := tblL [(4, S_20L4 fuel)]
 dep := fun i => 0
 n := 1
noncomputable def B_20L4 : Code := (Try.f39.body.bind (loopBody 4)).getD .skip
noncomputable def D_20 : Code := Try.f39.body.getD .skip
noncomputable def N_20 (_ : outs [.v (.pair .int (.pair .int (.slice (.pair (.slice .int) (.pair .int (.slice (.slice .int)))))))]) (r : dens [.v .bool]) : Bool := r
noncomputable def E_21 : Entry where
 params := [.v (.slice .int)]
 results := [.mv .int 0]
 B := (List Int)
 run := fun a => spec_l1Own a
 out := fun b => ()
 res := fun b => b
noncomputable def C_21 : Cx where
 tt := tblTT tt
 T := tblT []
 L := tblL []
 dep := fun i => 0
 n := 1
noncomputable def D_21 : Code := Try.f32.body.getD .skip
noncomputable def N_21 (_ : outs [.v (.slice .int)]) (r : dens [.mv .int 0]) : (List Int) := r
noncomputable def E_22 : Entry where
 params := [.v (.slice (.pair (.slice .int) (.pair .int (.slice (.slice .int)))))]
 results := [.mv (.pair (.slice .int) (.pair .int (.slice (.slice .int)))) 0]
 B := (List ((List Int) × Int × (List (List Int))))
 run := fun a => spec_l19Copy a
 out := fun b => ()
 res := fun b => b
noncomputable def S_22L7 (n : Nat) : LoopSpec where
 sh := [(0, .v (.slice (.pair (.slice .int) (.pair .int (.slice (.slice .int)))))), (3, .mv (.pair (.slice .int) (.pair .int (.slice (.slice .int)))) 0), (4, .v .int), (5, .bx (.pr (.mv .int 0) (.pr (.v .int) (.mv (.slice .int) 0)))), (6, .v .int)]
 ex := [(.exit 2, [(0, .v (.slice (.pair (.slice .int) (.pair .int (.slice (.slice .int)))))), (3, .mv (.pair (.slice .int) (.pair .int (.slice (.slice .int)))) 0), (4, .v .int), (5, .bx (.pr (.mv .int 0) (.pr (.v .int) (.mv (.slice .int) 0))))])]
 run := spec_l19Copy_L7 n
noncomputable def S_22L3 (n : Nat) : LoopSpec where
 sh := [(0, .v (.slice (.pair (.slice .int) (.pair .int (.slice (.slice .int)))))), (3, .mv (.pair (.slice .int) (.pair .int (.slice (.slice .int)))) 0), (4, .v .int)]
 ex := [(.exit 0, [(3, .mv (.pair (.slice .int) (.pair .int (.slice (.slice .int)))) 0)])]
 run := spec_l19Copy_L3 n
noncomputable def C_22 : Cx where
 tt := tblTT tt
 T := tblT [(32, E_21)]
 L := tblL [(7, S_22L7 fuel), (3, S_22L3 fuel)]
 dep := fun i => 0
 n := 1
noncomputable def B_22L7 : Code := (Try.f41.body.bind (loopBody 7)).getD .skip
noncomputable def B_22L3 : Code := (Try.f41.body.bind (loopBody 3)).getD .skip
noncomputable def D_22 : Code := Try.f41.body.getD .skip
noncomputable def N_22 (_ : outs [.v (.slice (.pair (.slice .int) (.pair .int (.slice (.slice .int)))))]) (r : dens [.mv (.pair (.slice .int) (.pair .int (.slice (.slice .int)))) 0]) : (List ((List Int) × Int × (List (List Int)))) := r
noncomputable def E_23 : Entry where
 params := [.v (.slice .int), .v (.slice .int)]
 results := [.mv .int 0]
 B := (List Int)
 run := fun a => spec_l8At a.1 a.2
 out := fun b => ((), ())
 res := fun b => b
noncomputable def S_23L3 (n : Nat) : LoopSpec where
 sh := [(0, .v (.slice .int)), (1, .v (.slice .int)), (5, .mv .int 0), (6, .v .int)]
 ex := [(.exit 0, [(5, .mv .int 0)])]
 run := spec_l8At_L3 n
noncomputable def C_23 : Cx where
 tt := tblTT tt
 T := tblT []
 L := tblL [(3, S_23L3 fuel)]
 dep := fun i => 0
 n := 2
noncomputable def B_23L3 : Code := (Try.f78.body.bind (loopBody 3)).getD .skip
noncomputable def D_23 : Code := Try.f78.body.getD .skip
noncomputable def N_23 (_ : outs [.v (.slice .int), .v (.slice .int)]) (r : dens [.mv .int 0]) : (List Int) := r
noncomputable def E_24 : Entry where
 params := [.v (.slice .int), .v (.slice .int)]
 results := [.v .bool]
 B := Bool
 run := fun a => spec_l1Same a.1 a.2
 out := fun b => ((), ())
 res := fun b => b
noncomputable def S_24L4 (n : Nat) : LoopSpec where
 sh := [(0, .v (.slice .int)), (1, .v (.slice .int)), (5, .v .int)]
 ex := [(.exit 0, []), (.ret, [(4, .v .bool)])]
 run := spec_l1Same_L4 n
noncomputable def C_24 : Cx where
 tt := tblTT tt
 T := tblT []
 L := tblL [(4, S_24L4 fuel)]
 dep := fun i => 0
 n := 2
noncomputable def B_24L4 : Code := (Try.f72.body.bind (loopBody 4)).getD .skip
noncomputable def D_24 : Code := Try.f72.body.getD .skip
noncomputable def N_24 (_ : outs [.v (.slice .int), .v (.slice .int)]) (r : dens [.v .bool]) : Bool := r
noncomputable def E_25 : Entry where
 params := [.v (.slice (.slice .int)), .v (.slice .int)]
 results := [.v .int, .v .bool]
 B := Int × Bool
 run := fun a => spec_l8Find a.1 a.2
 out := fun b => ((), ())
 res := fun b => (b.1, b.2)
noncomputable def S_25L2 (n : Nat) : LoopSpec where
 sh := [(0, .v (.slice (.slice .int))), (1, .v (.slice .int)), (6, .v .int), (7, .v .int)]
 ex := [(.exit 0, [(0, .v (.slice (.slice .int))), (1, .v (.slice .int)), (6, .v .int)])]
 run := spec_l8Find_L2 n
noncomputable def C_25 : Cx where
 tt := tblTT tt
 T := tblT [(72, E_24), (103, E_17)]
 L := tblL [(2, S_25L2 fuel)]
 dep := fun i => 0
 n := 2
noncomputable def B_25L2 : Code := (Try.f91.body.bind (loopBody 2)).getD .skip
noncomputable def D_25 : Code := Try.f91.body.getD .skip
noncomputable def N_25 (_ : outs [.v (.slice (.slice .int)), .v (.slice .int)]) (r : dens [.v .int, .v .bool]) : Int × Bool := (r.1, r.2)
noncomputable def E_26 : Entry where
 params := [.v (.slice (.slice .int)), .v (.slice .int)]
 results := [.v (.slice (.slice .int))]
 B := (List (List Int))
 run := fun a => spec_l8Put a.1 a.2
 out := fun b => ((), ())
 res := fun b => b
noncomputable def C_26 : Cx where
 tt := tblTT tt
 T := tblT [(91, E_25)]
 L := tblL []
 dep := fun i => 0
 n := 2
noncomputable def D_26 : Code := Try.f77.body.getD .skip
noncomputable def N_26 (_ : outs [.v (.slice (.slice .int)), .v (.slice .int)]) (r : dens [.v (.slice (.slice .int))]) : (List (List Int)) := r
noncomputable def E_27 : Entry where
 params := [.v (.pair .int (.slice (.slice .int))), .v (.slice .int)]
 results := [.v (.pair .int (.slice (.slice .int)))]
 B := (Int × (List (List Int)))
 run := fun a => spec_l13Project a.1 a.2
 out := fun b => ((), ())
 res := fun b => b
noncomputable def S_27L3 (n : Nat) : LoopSpec where
 sh := [(1, .v (.slice .int)), (2, .bx (.v (.pair .int (.slice (.slice .int))))), (4, .bx (.pr (.v .int) (.mv (.slice .int) 0))), (5, .bx (.v (.pair .int (.slice (.slice .int))))), (6, .v .int)]
 ex := [(.exit 0, [(4, .bx (.pr (.v .int) (.mv (.slice .int) 0))), (5, .bx (.v (.pair .int (.slice (.slice .int)))))])]
 run := spec_l13Project_L3 n
noncomputable def C_27 : Cx where
 tt := tblTT tt
 T := tblT [(77, E_26), (78, E_23)]
 L := tblL [(3, S_27L3 fuel)]
 dep := fun i => 0
 n := 2
noncomputable def B_27L3 : Code := (Try.f49.body.bind (loopBody 3)).getD .skip
noncomputable def D_27 : Code := Try.f49.body.getD .skip
noncomputable def N_27 (_ : outs [.v (.pair .int (.slice (.slice .int))), .v (.slice .int)]) (r : dens [.v (.pair .int (.slice (.slice .int)))]) : (Int × (List (List Int))) := r
noncomputable def E_28 : Entry where
 params := [.v (.pair .int (.pair .int (.slice (.pair (.slice .int) (.pair .int (.slice (.slice .int)))))))]
 results := [.v (.pair .int (.pair .int (.slice (.pair (.slice .int) (.pair .int (.slice (.slice .int))))))), .v .bool]
 B := (Int × Int × (List ((List Int) × Int × (List (List Int))))) × Bool
 run := fun a => spec_l19Give a
 out := fun b => ()
 res := fun b => (b.1, b.2)
noncomputable def C_28 : Cx where
 tt := tblTT tt
 T := tblT [(39, E_20)]
 L := tblL []
 dep := fun i => 0
 n := 1
noncomputable def D_28 : Code := Try.f50.body.getD .skip
noncomputable def N_28 (_ : outs [.v (.pair .int (.pair .int (.slice (.pair (.slice .int) (.pair .int (.slice (.slice .int)))))))]) (r : dens [.v (.pair .int (.pair .int (.slice (.pair (.slice .int) (.pair .int (.slice (.slice .int))))))), .v .bool]) : (Int × Int × (List ((List Int) × Int × (List (List Int))))) × Bool := (r.1, r.2)
noncomputable def E_29 : Entry where
 params := [.v (.pair .int (.pair .int (.slice (.pair (.slice .int) (.pair .int (.slice (.slice .int)))))))]
 results := [.v (.pair .int (.pair .int (.slice (.pair (.slice .int) (.pair .int (.slice (.slice .int))))))), .v .bool]
 B := (Int × Int × (List ((List Int) × Int × (List (List Int))))) × Bool
 run := fun a => spec_BinaryPart a
 out := fun b => ()
 res := fun b => (b.1, b.2)
noncomputable def S_29L14 (n : Nat) : LoopSpec where
 sh := [(1, .bx (.v (.pair .int (.pair .int (.slice (.pair (.slice .int) (.pair .int (.slice (.slice .int))))))))), (2, .bx (.pr (.v .int) (.pr (.v .int) (.mv (.pair (.slice .int) (.pair .int (.slice (.slice .int)))) 0)))), (4, .bx (.pr (.v .int) (.pr (.v .int) (.mv (.pair (.slice .int) (.pair .int (.slice (.slice .int)))) 0)))), (5, .v .int), (6, .bx (.v (.pair (.slice .int) (.pair .int (.slice (.slice .int)))))), (7, .v .int), (8, .v .int)]
 ex := [(.exit 4, [(1, .bx (.v (.pair .int (.pair .int (.slice (.pair (.slice .int) (.pair .int (.slice (.slice .int))))))))), (2, .bx (.pr (.v .int) (.pr (.v .int) (.mv (.pair (.slice .int) (.pair .int (.slice (.slice .int)))) 0)))), (4, .bx (.pr (.v .int) (.pr (.v .int) (.mv (.pair (.slice .int) (.pair .int (.slice (.slice .int)))) 0)))), (5, .v .int), (6, .bx (.v (.pair (.slice .int) (.pair .int (.slice (.slice .int)))))), (7, .v .int)])]
 run := spec_BinaryPart_L14 n
noncomputable def S_29L11 (n : Nat) : LoopSpec where
 sh := [(1, .bx (.v (.pair .int (.pair .int (.slice (.pair (.slice .int) (.pair .int (.slice (.slice .int))))))))), (2, .bx (.pr (.v .int) (.pr (.v .int) (.mv (.pair (.slice .int) (.pair .int (.slice (.slice .int)))) 0)))), (4, .bx (.pr (.v .int) (.pr (.v .int) (.mv (.pair (.slice .int) (.pair .int (.slice (.slice .int)))) 0)))), (5, .v .int), (6, .bx (.v (.pair (.slice .int) (.pair .int (.slice (.slice .int)))))), (7, .v .int)]
 ex := [(.exit 2, [(1, .bx (.v (.pair .int (.pair .int (.slice (.pair (.slice .int) (.pair .int (.slice (.slice .int))))))))), (2, .bx (.pr (.v .int) (.pr (.v .int) (.mv (.pair (.slice .int) (.pair .int (.slice (.slice .int)))) 0)))), (4, .bx (.pr (.v .int) (.pr (.v .int) (.mv (.pair (.slice .int) (.pair .int (.slice (.slice .int)))) 0)))), (5, .v .int)])]
 run := spec_BinaryPart_L11 n
noncomputable def S_29L5 (n : Nat) : LoopSpec where
 sh := [(1, .bx (.v (.pair .int (.pair .int (.slice (.pair (.slice .int) (.pair .int (.slice (.slice .int))))))))), (2, .bx (.pr (.v .int) (.pr (.v .int) (.mv (.pair (.slice .int) (.pair .int (.slice (.slice .int)))) 0)))), (4, .bx (.pr (.v .int) (.pr (.v .int) (.mv (.pair (.slice .int) (.pair .int (.slice (.slice .int)))) 0)))), (5, .v .int)]
 ex := [(.exit 0, [(2, .bx (.pr (.v .int) (.pr (.v .int) (.mv (.pair (.slice .int) (.pair .int (.slice (.slice .int)))) 0)))), (4, .bx (.pr (.v .int) (.pr (.v .int) (.mv (.pair (.slice .int) (.pair .int (.slice (.slice .int)))) 0))))])]
 run := spec_BinaryPart_L5 n
noncomputable def C_29 : Cx where
 tt := tblTT tt
 T := tblT [(39, E_20), (41, E_22), (49, E_27), (50, E_28)]
 L := tblL [(14, S_29L14 fuel), (11, S_29L11 fuel), (5, S_29L5 fuel)]
 dep := fun i => 0
 n := 1
noncomputable def B_29L14 : Code := (Try.f20.body.bind (loopBody 14)).getD .skip
noncomputable def B_29L11 : Code := (Try.f20.body.bind (loopBody 11)).getD .skip
noncomputable def B_29L5 : Code := (Try.f20.body.bind (loopBody 5)).getD .skip
noncomputable def D_29 : Code := Try.f20.body.getD .skip
noncomputable def N_29 (_ : outs [.v (.pair .int (.pair .int (.slice (.pair (.slice .int) (.pair .int (.slice (.slice .int)))))))]) (r : dens [.v (.pair .int (.pair .int (.slice (.pair (.slice .int) (.pair .int (.slice (.slice .int))))))), .v .bool]) : (Int × Int × (List ((List Int) × Int × (List (List Int))))) × Bool := (r.1, r.2)
noncomputable def E_30 : Entry where
 params := [.v .int]
 results := [.v .bool]
 B := Bool
 run := fun a => impl_isTemplateSize a
 out := fun b => ()
 res := fun b => b
noncomputable def C_30 : Cx where
 tt := tblTT tt
 T := tblT []
 L := tblL []
 dep := fun i => 0
 n := 1
noncomputable def D_30 : Code := Try.f74.body.getD .skip
noncomputable def N_30 (_ : outs [.v .int]) (r : dens [.v .bool]) : Bool := r
noncomputable def E_31 : Entry where
 params := [.v (.slice .int), .v .int]
 results := [.v .bool]
 B := Bool
 run := fun a => impl_inSize a.1 a.2
 out := fun b => ((), ())
 res := fun b => b
noncomputable def S_31L2 (n : Nat) : LoopSpec where
 sh := [(1, .v .int), (7, .v (.slice .int)), (8, .v .int), (9, .v .int)]
 ex := [(.exit 0, []), (.ret, [(4, .v .bool)])]
 run := impl_inSize_L2 n
noncomputable def C_31 : Cx where
 tt := tblTT tt
 T := tblT []
 L := tblL [(2, S_31L2 fuel)]
 dep := fun i => 0
 n := 2
noncomputable def B_31L2 : Code := (Try.f59.body.bind (loopBody 2)).getD .skip
noncomputable def D_31 : Code := Try.f59.body.getD .skip
noncomputable def N_31 (_ : outs [.v (.slice .int), .v .int]) (r : dens [.v .bool]) : Bool := r
noncomputable def E_32 : Entry where
 params := [.v (.slice .int), .v (.slice .int)]
 results := [.v .int]
 B := Int
 run := fun a => impl_compareLists a.1 a.2
 out := fun b => ((), ())
 res := fun b => b
noncomputable def S_32L2 (n : Nat) : LoopSpec where
 sh := [(0, .v (.slice .int)), (1, .v (.slice .int)), (5, .v .int)]
 ex := [(.exit 0, [(0, .v (.slice .int)), (1, .v (.slice .int))]), (.ret, [(4, .v .int)])]
 run := impl_compareLists_L2 n
noncomputable def C_32 : Cx where
 tt := tblTT tt
 T := tblT []
 L := tblL [(2, S_32L2 fuel)]
 dep := fun i => 0
 n := 2
noncomputable def B_32L2 : Code := (Try.f95.body.bind (loopBody 2)).getD .skip
noncomputable def D_32 : Code := Try.f95.body.getD .skip
noncomputable def N_32 (_ : outs [.v (.slice .int), .v (.slice .int)]) (r : dens [.v .int]) : Int := r
noncomputable def E_33 : Entry where
 params := [.v .int, .v (.pair .int (.slice (.slice .int)))]
 results := [.v .bool]
 B := Bool
 run := fun a => impl_isRelation a.1 a.2
 out := fun b => ((), ())
 res := fun b => b
noncomputable def S_33L4 (n : Nat) : LoopSpec where
 sh := [(0, .v .int), (3, .bx (.v (.pair .int (.slice (.slice .int))))), (16, .v (.slice (.slice .int))), (17, .v .int), (18, .v .int)]
 ex := [(.exit 0, []), (.ret, [(4, .v .bool)])]
 run := impl_isRelation_L4 n
noncomputable def C_33 : Cx where
 tt := tblTT tt
 T := tblT [(59, E_31), (95, E_32)]
 L := tblL [(4, S_33L4 fuel)]
 dep := fun i => 0
 n := 2
noncomputable def B_33L4 : Code := (Try.f90.body.bind (loopBody 4)).getD .skip
noncomputable def D_33 : Code := Try.f90.body.getD .skip
noncomputable def N_33 (_ : outs [.v .int, .v (.pair .int (.slice (.slice .int)))]) (r : dens [.v .bool]) : Bool := r
noncomputable def E_34 : Entry where
 params := [.v .int, .v .int, .v (.pair (.slice .int) (.pair .int (.slice (.slice .int))))]
 results := [.v .bool]
 B := Bool
 run := fun a => impl_isConstraint a.1 a.2.1 a.2.2
 out := fun b => ((), (), ())
 res := fun b => b
noncomputable def C_34 : Cx where
 tt := tblTT tt
 T := tblT [(59, E_31), (90, E_33)]
 L := tblL []
 dep := fun i => 0
 n := 3
noncomputable def D_34 : Code := Try.f75.body.getD .skip
noncomputable def N_34 (_ : outs [.v .int, .v .int, .v (.pair (.slice .int) (.pair .int (.slice (.slice .int))))]) (r : dens [.v .bool]) : Bool := r
noncomputable def E_35 : Entry where
 params := [.v (.pair .int (.pair .int (.slice (.pair (.slice .int) (.pair .int (.slice (.slice .int)))))))]
 results := [.v .bool]
 B := Bool
 run := fun a => impl_IsNetwork a
 out := fun b => ()
 res := fun b => b
noncomputable def S_35L4 (n : Nat) : LoopSpec where
 sh := [(1, .bx (.v (.pair .int (.pair .int (.slice (.pair (.slice .int) (.pair .int (.slice (.slice .int))))))))), (26, .v (.slice (.pair (.slice .int) (.pair .int (.slice (.slice .int)))))), (27, .v .int), (28, .v .int)]
 ex := [(.exit 0, []), (.ret, [(2, .v .bool)])]
 run := impl_IsNetwork_L4 n
noncomputable def C_35 : Cx where
 tt := tblTT tt
 T := tblT [(74, E_30), (75, E_34)]
 L := tblL [(4, S_35L4 fuel)]
 dep := fun i => 0
 n := 1
noncomputable def B_35L4 : Code := (Try.f44.body.bind (loopBody 4)).getD .skip
noncomputable def D_35 : Code := Try.f44.body.getD .skip
noncomputable def N_35 (_ : outs [.v (.pair .int (.pair .int (.slice (.pair (.slice .int) (.pair .int (.slice (.slice .int)))))))]) (r : dens [.v .bool]) : Bool := r
noncomputable def E_36 : Entry where
 params := [.v (.slice .int)]
 results := [.mv .int 0]
 B := (List Int)
 run := fun a => impl_clone a
 out := fun b => ()
 res := fun b => b
noncomputable def C_36 : Cx where
 tt := tblTT tt
 T := tblT []
 L := tblL []
 dep := fun i => 0
 n := 1
noncomputable def D_36 : Code := Try.f46.body.getD .skip
noncomputable def N_36 (_ : outs [.v (.slice .int)]) (r : dens [.mv .int 0]) : (List Int) := r
noncomputable def E_37 : Entry where
 params := [.v (.slice (.slice .int))]
 results := [.mv (.slice .int) 1]
 B := (List (List Int))
 run := fun a => impl_cloneRows a
 out := fun b => ()
 res := fun b => b
noncomputable def S_37L3 (n : Nat) : LoopSpec where
 sh := [(3, .mv (.slice .int) 1), (7, .v (.slice (.slice .int))), (8, .v .int), (9, .v .int)]
 ex := [(.exit 0, [(3, .mv (.slice .int) 1)])]
 run := impl_cloneRows_L3 n
noncomputable def C_37 : Cx where
 tt := tblTT tt
 T := tblT [(46, E_36)]
 L := tblL [(3, S_37L3 fuel)]
 dep := fun i => match i with
  | 6 => 1
  | 16 => 1
  | 17 => 1
  | _ => 0
 n := 1
noncomputable def B_37L3 : Code := (Try.f92.body.bind (loopBody 3)).getD .skip
noncomputable def D_37 : Code := Try.f92.body.getD .skip
noncomputable def N_37 (_ : outs [.v (.slice (.slice .int))]) (r : dens [.mv (.slice .int) 1]) : (List (List Int)) := r
noncomputable def E_38 : Entry where
 params := [.v (.pair .int (.slice (.slice .int)))]
 results := [.pr (.v .int) (.mv (.slice .int) 1)]
 B := (Int × (List (List Int)))
 run := fun a => impl_cloneRelation a
 out := fun b => ()
 res := fun b => b
noncomputable def C_38 : Cx where
 tt := tblTT tt
 T := tblT [(92, E_37)]
 L := tblL []
 dep := fun i => 0
 n := 1
noncomputable def D_38 : Code := Try.f79.body.getD .skip
noncomputable def N_38 (_ : outs [.v (.pair .int (.slice (.slice .int)))]) (r : dens [.pr (.v .int) (.mv (.slice .int) 1)]) : (Int × (List (List Int))) := r
noncomputable def E_39 : Entry where
 params := [.v (.slice (.pair (.slice .int) (.pair .int (.slice (.slice .int)))))]
 results := [.mv (.pair (.slice .int) (.pair .int (.slice (.slice .int)))) 2]
 B := (List ((List Int) × Int × (List (List Int))))
 run := fun a => impl_cloneConstraints a
 out := fun b => ()
 res := fun b => b
noncomputable def S_39L3 (n : Nat) : LoopSpec where
 sh := [(3, .mv (.pair (.slice .int) (.pair .int (.slice (.slice .int)))) 2), (7, .v (.slice (.pair (.slice .int) (.pair .int (.slice (.slice .int)))))), (8, .v .int), (9, .v .int)]
 ex := [(.exit 0, [(3, .mv (.pair (.slice .int) (.pair .int (.slice (.slice .int)))) 2)])]
 run := impl_cloneConstraints_L3 n
noncomputable def C_39 : Cx where
 tt := tblTT tt
 T := tblT [(46, E_36), (79, E_38)]
 L := tblL [(3, S_39L3 fuel)]
 dep := fun i => match i with
  | 6 => 2
  | 21 => 2
  | 22 => 2
  | _ => 0
 n := 1
noncomputable def B_39L3 : Code := (Try.f51.body.bind (loopBody 3)).getD .skip
noncomputable def D_39 : Code := Try.f51.body.getD .skip
noncomputable def N_39 (_ : outs [.v (.slice (.pair (.slice .int) (.pair .int (.slice (.slice .int)))))]) (r : dens [.mv (.pair (.slice .int) (.pair .int (.slice (.slice .int)))) 2]) : (List ((List Int) × Int × (List (List Int)))) := r
noncomputable def E_40 : Entry where
 params := [.io (.slice .int) 1, .v (.fn 95)]
 results := []
 B := List (List Int)
 run := fun a => impl_sortRows_impl_compareLists a.1 a.2
 out := fun b => (b, ())
 res := fun b => ()
noncomputable def D_40 : Code := Try.f94.body.getD .skip
noncomputable def E_41 : Entry where
 params := [.v (.slice (.slice .int))]
 results := [.mv (.slice .int) 1]
 B := (List (List Int))
 run := fun a => impl_sortedTuples a
 out := fun b => ()
 res := fun b => b
noncomputable def C_41 : Cx where
 tt := tblTT tt
 T := tblT [(92, E_37), (6291550, E_40)]
 L := tblL []
 dep := fun i => 0
 n := 1
noncomputable def D_41 : Code := Try.f81.body.getD .skip
noncomputable def N_41 (_ : outs [.v (.slice (.slice .int))]) (r : dens [.mv (.slice .int) 1]) : (List (List Int)) := r
noncomputable def E_42 : Entry where
 params := [.v (.slice .int), .v (.slice .int)]
 results := [.v .bool]
 B := Bool
 run := fun a => impl_sameList a.1 a.2
 out := fun b => ((), ())
 res := fun b => b
noncomputable def S_42L4 (n : Nat) : LoopSpec where
 sh := [(1, .v (.slice .int)), (12, .v (.slice .int)), (13, .v .int), (14, .v .int)]
 ex := [(.exit 0, []), (.ret, [(4, .v .bool)])]
 run := impl_sameList_L4 n
noncomputable def C_42 : Cx where
 tt := tblTT tt
 T := tblT []
 L := tblL [(4, S_42L4 fuel)]
 dep := fun i => 0
 n := 2
noncomputable def B_42L4 : Code := (Try.f93.body.bind (loopBody 4)).getD .skip
noncomputable def D_42 : Code := Try.f93.body.getD .skip
noncomputable def N_42 (_ : outs [.v (.slice .int), .v (.slice .int)]) (r : dens [.v .bool]) : Bool := r
noncomputable def E_43 : Entry where
 params := [.mv (.slice .int) 1]
 results := [.mv (.slice .int) 1]
 B := List (List Int)
 run := fun a => impl_different a
 out := fun b => ()
 res := fun b => b
noncomputable def D_43 : Code := Try.f80.body.getD .skip
noncomputable def E_44 : Entry where
 params := [.v .int, .v (.slice (.slice .int))]
 results := [.pr (.v .int) (.mv (.slice .int) 1)]
 B := (Int × (List (List Int)))
 run := fun a => impl_makeRelation a.1 a.2
 out := fun b => ((), ())
 res := fun b => b
noncomputable def C_44 : Cx where
 tt := tblTT tt
 T := tblT [(80, E_43), (81, E_41)]
 L := tblL []
 dep := fun i => 0
 n := 2
noncomputable def D_44 : Code := Try.f52.body.getD .skip
noncomputable def N_44 (_ : outs [.v .int, .v (.slice (.slice .int))]) (r : dens [.pr (.v .int) (.mv (.slice .int) 1)]) : (Int × (List (List Int))) := r
noncomputable def E_45 : Entry where
 params := [.v (.pair .int (.pair .int (.slice (.pair (.slice .int) (.pair .int (.slice (.slice .int))))))), .mv (.pair (.slice .int) (.pair .int (.slice (.slice .int)))) 2]
 results := [.pr (.v .int) (.pr (.v .int) (.mv (.pair (.slice .int) (.pair .int (.slice (.slice .int)))) 2)), .v .bool]
 B := (Int × (Int × (List ((List Int) × Int × (List (List Int)))))) × Bool
 run := fun a => impl_withConstraints a.1 a.2
 out := fun b => ((), ())
 res := fun b => (b.1, b.2)
noncomputable def C_45 : Cx where
 tt := tblTT tt
 T := tblT []
 L := tblL []
 dep := fun i => 0
 n := 2
noncomputable def D_45 : Code := Try.f48.body.getD .skip
noncomputable def N_45 (_ : outs [.v (.pair .int (.pair .int (.slice (.pair (.slice .int) (.pair .int (.slice (.slice .int))))))), .mv (.pair (.slice .int) (.pair .int (.slice (.slice .int)))) 2]) (r : dens [.pr (.v .int) (.pr (.v .int) (.mv (.pair (.slice .int) (.pair .int (.slice (.slice .int)))) 2)), .v .bool]) : (Int × (Int × (List ((List Int) × Int × (List (List Int)))))) × Bool := (r.1, r.2)
noncomputable def E_46 : Entry where
 params := [.v (.pair .int (.pair .int (.slice (.pair (.slice .int) (.pair .int (.slice (.slice .int)))))))]
 results := [.pr (.v .int) (.pr (.v .int) (.mv (.pair (.slice .int) (.pair .int (.slice (.slice .int)))) 2)), .v .bool]
 B := (Int × (Int × (List ((List Int) × Int × (List (List Int)))))) × Bool
 run := fun a => impl_BinaryPart a
 out := fun b => ()
 res := fun b => (b.1, b.2)
noncomputable def S_46L17 (n : Nat) : LoopSpec where
 sh := [(1, .bx (.v (.pair .int (.pair .int (.slice (.pair (.slice .int) (.pair .int (.slice (.slice .int))))))))), (2, .bx (.pr (.v .int) (.pr (.v .int) (.mv (.pair (.slice .int) (.pair .int (.slice (.slice .int)))) 2)))), (4, .mv (.pair (.slice .int) (.pair .int (.slice (.slice .int)))) 2), (6, .bx (.v (.pair (.slice .int) (.pair .int (.slice (.slice .int)))))), (7, .v .int), (8, .v .int), (9, .mv (.slice .int) 1), (18, .v (.slice (.pair (.slice .int) (.pair .int (.slice (.slice .int)))))), (19, .v .int), (20, .v .int), (35, .v .int), (36, .v .int), (51, .v (.slice (.slice .int))), (52, .v .int), (53, .v .int)]
 ex := [(.exit 6, [(1, .bx (.v (.pair .int (.pair .int (.slice (.pair (.slice .int) (.pair .int (.slice (.slice .int))))))))), (2, .bx (.pr (.v .int) (.pr (.v .int) (.mv (.pair (.slice .int) (.pair .int (.slice (.slice .int)))) 2)))), (4, .mv (.pair (.slice .int) (.pair .int (.slice (.slice .int)))) 2), (6, .bx (.v (.pair (.slice .int) (.pair .int (.slice (.slice .int)))))), (7, .v .int), (8, .v .int), (9, .mv (.slice .int) 1), (18, .v (.slice (.pair (.slice .int) (.pair .int (.slice (.slice .int)))))), (19, .v .int), (20, .v .int), (35, .v .int), (36, .v .int)])]
 run := impl_BinaryPart_L17 n
noncomputable def S_46L13 (n : Nat) : LoopSpec where
 sh := [(1, .bx (.v (.pair .int (.pair .int (.slice (.pair (.slice .int) (.pair .int (.slice (.slice .int))))))))), (2, .bx (.pr (.v .int) (.pr (.v .int) (.mv (.pair (.slice .int) (.pair .int (.slice (.slice .int)))) 2)))), (4, .mv (.pair (.slice .int) (.pair .int (.slice (.slice .int)))) 2), (6, .bx (.v (.pair (.slice .int) (.pair .int (.slice (.slice .int)))))), (7, .v .int), (8, .v .int), (18, .v (.slice (.pair (.slice .int) (.pair .int (.slice (.slice .int)))))), (19, .v .int), (20, .v .int), (35, .v .int), (36, .v .int)]
 ex := [(.exit 4, [(1, .bx (.v (.pair .int (.pair .int (.slice (.pair (.slice .int) (.pair .int (.slice (.slice .int))))))))), (2, .bx (.pr (.v .int) (.pr (.v .int) (.mv (.pair (.slice .int) (.pair .int (.slice (.slice .int)))) 2)))), (4, .mv (.pair (.slice .int) (.pair .int (.slice (.slice .int)))) 2), (6, .bx (.v (.pair (.slice .int) (.pair .int (.slice (.slice .int)))))), (18, .v (.slice (.pair (.slice .int) (.pair .int (.slice (.slice .int)))))), (19, .v .int), (20, .v .int), (35, .v .int), (36, .v .int)])]
 run := impl_BinaryPart_L13 n
noncomputable def S_46L10 (n : Nat) : LoopSpec where
 sh := [(1, .bx (.v (.pair .int (.pair .int (.slice (.pair (.slice .int) (.pair .int (.slice (.slice .int))))))))), (2, .bx (.pr (.v .int) (.pr (.v .int) (.mv (.pair (.slice .int) (.pair .int (.slice (.slice .int)))) 2)))), (4, .mv (.pair (.slice .int) (.pair .int (.slice (.slice .int)))) 2), (6, .bx (.v (.pair (.slice .int) (.pair .int (.slice (.slice .int)))))), (18, .v (.slice (.pair (.slice .int) (.pair .int (.slice (.slice .int)))))), (19, .v .int), (20, .v .int), (35, .v .int), (36, .v .int)]
 ex := [(.exit 2, [(1, .bx (.v (.pair .int (.pair .int (.slice (.pair (.slice .int) (.pair .int (.slice (.slice .int))))))))), (2, .bx (.pr (.v .int) (.pr (.v .int) (.mv (.pair (.slice .int) (.pair .int (.slice (.slice .int)))) 2)))), (4, .mv (.pair (.slice .int) (.pair .int (.slice (.slice .int)))) 2), (18, .v (.slice (.pair (.slice .int) (.pair .int (.slice (.slice .int)))))), (19, .v .int), (20, .v .int)])]
 run := impl_BinaryPart_L10 n
noncomputable def S_46L5 (n : Nat) : LoopSpec where
 sh := [(1, .bx (.v (.pair .int (.pair .int (.slice (.pair (.slice .int) (.pair .int (.slice (.slice .int))))))))), (2, .bx (.pr (.v .int) (.pr (.v .int) (.mv (.pair (.slice .int) (.pair .int (.slice (.slice .int)))) 2)))), (4, .mv (.pair (.slice .int) (.pair .int (.slice (.slice .int)))) 2), (18, .v (.slice (.pair (.slice .int) (.pair .int (.slice (.slice .int)))))), (19, .v .int), (20, .v .int)]
 ex := [(.exit 0, [(1, .bx (.v (.pair .int (.pair .int (.slice (.pair (.slice .int) (.pair .int (.slice (.slice .int))))))))), (2, .bx (.pr (.v .int) (.pr (.v .int) (.mv (.pair (.slice .int) (.pair .int (.slice (.slice .int)))) 2)))), (4, .mv (.pair (.slice .int) (.pair .int (.slice (.slice .int)))) 2)])]
 run := impl_BinaryPart_L5 n
noncomputable def C_46 : Cx where
 tt := tblTT tt
 T := tblT [(44, E_35), (48, E_45), (51, E_39), (52, E_44)]
 L := tblL [(17, S_46L17 fuel), (13, S_46L13 fuel), (10, S_46L10 fuel), (5, S_46L5 fuel)]
 dep := fun i => match i with
  | 16 => 2
  | 32 => 2
  | 48 => 1
  | 67 => 1
  | 68 => 1
  | 85 => 2
  | 86 => 2
  | _ => 0
 n := 1
noncomputable def B_46L17 : Code := (Try.f21.body.bind (loopBody 17)).getD .skip
noncomputable def B_46L13 : Code := (Try.f21.body.bind (loopBody 13)).getD .skip
noncomputable def B_46L10 : Code := (Try.f21.body.bind (loopBody 10)).getD .skip
noncomputable def B_46L5 : Code := (Try.f21.body.bind (loopBody 5)).getD .skip
noncomputable def D_46 : Code := Try.f21.body.getD .skip
noncomputable def N_46 (_ : outs [.v (.pair .int (.pair .int (.slice (.pair (.slice .int) (.pair .int (.slice (.slice .int)))))))]) (r : dens [.pr (.v .int) (.pr (.v .int) (.mv (.pair (.slice .int) (.pair .int (.slice (.slice .int)))) 2)), .v .bool]) : (Int × (Int × (List ((List Int) × Int × (List (List Int)))))) × Bool := (r.1, r.2)
noncomputable def E_47 : Entry where
 params := [.v (.slice .int), .v (.slice .int)]
 results := [.v .bool]
 B := Bool
 run := fun a => laws_eqIntS a.1 a.2
 out := fun b => ((), ())
 res := fun b => b
noncomputable def S_47L4 (n : Nat) : LoopSpec where
 sh := [(0, .v (.slice .int)), (1, .v (.slice .int)), (5, .v .int)]
 ex := [(.exit 0, []), (.ret, [(4, .v .bool)])]
 run := laws_eqIntS_L4 n
noncomputable def C_47 : Cx where
 tt := tblTT tt
 T := tblT []
 L := tblL [(4, S_47L4 fuel)]
 dep := fun i => 0
 n := 2
noncomputable def B_47L4 : Code := (Try.f26.body.bind (loopBody 4)).getD .skip
noncomputable def D_47 : Code := Try.f26.body.getD .skip
noncomputable def N_47 (_ : outs [.v (.slice .int), .v (.slice .int)]) (r : dens [.v .bool]) : Bool := r
noncomputable def E_48 : Entry where
 params := [.v (.slice (.slice .int)), .v (.slice (.slice .int))]
 results := [.v .bool]
 B := Bool
 run := fun a => laws_eqIntSS a.1 a.2
 out := fun b => ((), ())
 res := fun b => b
noncomputable def S_48L4 (n : Nat) : LoopSpec where
 sh := [(0, .v (.slice (.slice .int))), (1, .v (.slice (.slice .int))), (5, .v .int)]
 ex := [(.exit 0, []), (.ret, [(4, .v .bool)])]
 run := laws_eqIntSS_L4 n
noncomputable def C_48 : Cx where
 tt := tblTT tt
 T := tblT [(26, E_47)]
 L := tblL [(4, S_48L4 fuel)]
 dep := fun i => 0
 n := 2
noncomputable def B_48L4 : Code := (Try.f64.body.bind (loopBody 4)).getD .skip
noncomputable def D_48 : Code := Try.f64.body.getD .skip
noncomputable def N_48 (_ : outs [.v (.slice (.slice .int)), .v (.slice (.slice .int))]) (r : dens [.v .bool]) : Bool := r
noncomputable def E_49 : Entry where
 params := [.v (.pair .int (.slice (.slice .int))), .v (.pair .int (.slice (.slice .int)))]
 results := [.v .bool]
 B := Bool
 run := fun a => laws_eqRelation a.1 a.2
 out := fun b => ((), ())
 res := fun b => b
noncomputable def C_49 : Cx where
 tt := tblTT tt
 T := tblT [(64, E_48)]
 L := tblL []
 dep := fun i => 0
 n := 2
noncomputable def D_49 : Code := Try.f25.body.getD .skip
noncomputable def N_49 (_ : outs [.v (.pair .int (.slice (.slice .int))), .v (.pair .int (.slice (.slice .int)))]) (r : dens [.v .bool]) : Bool := r
noncomputable def E_50 : Entry where
 params := [.v (.pair (.slice .int) (.pair .int (.slice (.slice .int)))), .v (.pair (.slice .int) (.pair .int (.slice (.slice .int))))]
 results := [.v .bool]
 B := Bool
 run := fun a => laws_eqConstraint a.1 a.2
 out := fun b => ((), ())
 res := fun b => b
noncomputable def C_50 : Cx where
 tt := tblTT tt
 T := tblT [(25, E_49), (26, E_47)]
 L := tblL []
 dep := fun i => 0
 n := 2
noncomputable def D_50 : Code := Try.f69.body.getD .skip
noncomputable def N_50 (_ : outs [.v (.pair (.slice .int) (.pair .int (.slice (.slice .int)))), .v (.pair (.slice .int) (.pair .int (.slice (.slice .int))))]) (r : dens [.v .bool]) : Bool := r
noncomputable def E_51 : Entry where
 params := [.v (.slice (.pair (.slice .int) (.pair .int (.slice (.slice .int))))), .v (.slice (.pair (.slice .int) (.pair .int (.slice (.slice .int)))))]
 results := [.v .bool]
 B := Bool
 run := fun a => laws_eqConstraintS a.1 a.2
 out := fun b => ((), ())
 res := fun b => b
noncomputable def S_51L4 (n : Nat) : LoopSpec where
 sh := [(0, .v (.slice (.pair (.slice .int) (.pair .int (.slice (.slice .int)))))), (1, .v (.slice (.pair (.slice .int) (.pair .int (.slice (.slice .int)))))), (5, .v .int)]
 ex := [(.exit 0, []), (.ret, [(4, .v .bool)])]
 run := laws_eqConstraintS_L4 n
noncomputable def C_51 : Cx where
 tt := tblTT tt
 T := tblT [(69, E_50)]
 L := tblL [(4, S_51L4 fuel)]
 dep := fun i => 0
 n := 2
noncomputable def B_51L4 : Code := (Try.f35.body.bind (loopBody 4)).getD .skip
noncomputable def D_51 : Code := Try.f35.body.getD .skip
noncomputable def N_51 (_ : outs [.v (.slice (.pair (.slice .int) (.pair .int (.slice (.slice .int))))), .v (.slice (.pair (.slice .int) (.pair .int (.slice (.slice .int)))))]) (r : dens [.v .bool]) : Bool := r
noncomputable def E_52 : Entry where
 params := [.v (.pair .int (.pair .int (.slice (.pair (.slice .int) (.pair .int (.slice (.slice .int))))))), .v (.pair .int (.pair .int (.slice (.pair (.slice .int) (.pair .int (.slice (.slice .int)))))))]
 results := [.v .bool]
 B := Bool
 run := fun a => laws_eqNetwork a.1 a.2
 out := fun b => ((), ())
 res := fun b => b
noncomputable def C_52 : Cx where
 tt := tblTT tt
 T := tblT [(35, E_51)]
 L := tblL []
 dep := fun i => 0
 n := 2
noncomputable def D_52 : Code := Try.f11.body.getD .skip
noncomputable def N_52 (_ : outs [.v (.pair .int (.pair .int (.slice (.pair (.slice .int) (.pair .int (.slice (.slice .int))))))), .v (.pair .int (.pair .int (.slice (.pair (.slice .int) (.pair .int (.slice (.slice .int)))))))]) (r : dens [.v .bool]) : Bool := r
noncomputable def E_53 : Entry where
 params := [.io .int 0, .v .int]
 results := [.v .int]
 B := (List Int) × Int
 run := fun a => laws_markIntS a.1 a.2
 out := fun b => (b.1, ())
 res := fun b => b.2
noncomputable def S_53L2 (n : Nat) : LoopSpec where
 sh := [(0, .io .int 0), (1, .v .int), (5, .v .int)]
 ex := [(.exit 0, [(0, .io .int 0), (1, .v .int)])]
 run := laws_markIntS_L2 n
noncomputable def C_53 : Cx where
 tt := tblTT tt
 T := tblT []
 L := tblL [(2, S_53L2 fuel)]
 dep := fun i => 0
 n := 2
noncomputable def B_53L2 : Code := (Try.f27.body.bind (loopBody 2)).getD .skip
noncomputable def D_53 : Code := Try.f27.body.getD .skip
noncomputable def N_53 (o : outs [.io .int 0, .v .int]) (r : dens [.v .int]) : (List Int) × Int := (o.1, r)
noncomputable def E_54 : Entry where
 params := [.io (.slice .int) 1, .v .int]
 results := [.v .int]
 B := (List (List Int)) × Int
 run := fun a => laws_markIntSS a.1 a.2
 out := fun b => (b.1, ())
 res := fun b => b.2
noncomputable def S_54L2 (n : Nat) : LoopSpec where
 sh := [(0, .io (.slice .int) 1), (1, .v .int), (5, .v .int)]
 ex := [(.exit 0, [(0, .io (.slice .int) 1), (1, .v .int)])]
 run := laws_markIntSS_L2 n
noncomputable def C_54 : Cx where
 tt := tblTT tt
 T := tblT [(27, E_53)]
 L := tblL [(2, S_54L2 fuel)]
 dep := fun i => 0
 n := 2
noncomputable def B_54L2 : Code := (Try.f65.body.bind (loopBody 2)).getD .skip
noncomputable def D_54 : Code := Try.f65.body.getD .skip
noncomputable def N_54 (o : outs [.io (.slice .int) 1, .v .int]) (r : dens [.v .int]) : (List (List Int)) × Int := (o.1, r)
noncomputable def E_55 : Entry where
 params := [.io (.pair (.slice .int) (.pair .int (.slice (.slice .int)))) 2, .v .int]
 results := [.v .int]
 B := (List ((List Int) × Int × (List (List Int)))) × Int
 run := fun a => laws_markConstraintS a.1 a.2
 out := fun b => (b.1, ())
 res := fun b => b.2
noncomputable def S_55L2 (n : Nat) : LoopSpec where
 sh := [(0, .io (.pair (.slice .int) (.pair .int (.slice (.slice .int)))) 2), (1, .v .int), (5, .v .int)]
 ex := [(.exit 0, [(0, .io (.pair (.slice .int) (.pair .int (.slice (.slice .int)))) 2), (1, .v .int)])]
 run := laws_markConstraintS_L2 n
noncomputable def C_55 : Cx where
 tt := tblTT tt
 T := tblT [(27, E_53), (65, E_54)]
 L := tblL [(2, S_55L2 fuel)]
 dep := fun i => 0
 n := 2
noncomputable def B_55L2 : Code := (Try.f36.body.bind (loopBody 2)).getD .skip
noncomputable def D_55 : Code := Try.f36.body.getD .skip
noncomputable def N_55 (o : outs [.io (.pair (.slice .int) (.pair .int (.slice (.slice .int)))) 2, .v .int]) (r : dens [.v .int]) : (List ((List Int) × Int × (List (List Int)))) × Int := (o.1, r)
noncomputable def E_56 : Entry where
 params := [.pr (.v .int) (.pr (.v .int) (.io (.pair (.slice .int) (.pair .int (.slice (.slice .int)))) 2)), .v .int]
 results := [.v .int]
 B := (Unit × (Unit × (List ((List Int) × Int × (List (List Int)))))) × Int
 run := fun a => laws_markNetwork a.1 a.2
 out := fun b => (b.1, ())
 res := fun b => b.2
noncomputable def C_56 : Cx where
 tt := tblTT tt
 T := tblT [(36, E_55)]
 L := tblL []
 dep := fun i => 0
 n := 2
noncomputable def D_56 : Code := Try.f12.body.getD .skip
noncomputable def N_56 (o : outs [.pr (.v .int) (.pr (.v .int) (.io (.pair (.slice .int) (.pair .int (.slice (.slice .int)))) 2)), .v .int]) (r : dens [.v .int]) : (Unit × (Unit × (List ((List Int) × Int × (List (List Int)))))) × Int := (o.1, r)
noncomputable def E_57 : Entry where
 params := [.v (.slice .int), .v .int]
 results := [.v .int]
 B := Int
 run := fun a => laws_heldIntS a.1 a.2
 out := fun b => ((), ())
 res := fun b => b
noncomputable def S_57L2 (n : Nat) : LoopSpec where
 sh := [(0, .v (.slice .int)), (1, .v .int), (5, .v .int)]
 ex := [(.exit 0, [(1, .v .int)]), (.ret, [(4, .v .int)])]
 run := laws_heldIntS_L2 n
noncomputable def C_57 : Cx where
 tt := tblTT tt
 T := tblT []
 L := tblL [(2, S_57L2 fuel)]
 dep := fun i => 0
 n := 2
noncomputable def B_57L2 : Code := (Try.f70.body.bind (loopBody 2)).getD .skip
noncomputable def D_57 : Code := Try.f70.body.getD .skip
noncomputable def N_57 (_ : outs [.v (.slice .int), .v .int]) (r : dens [.v .int]) : Int := r
noncomputable def E_58 : Entry where
 params := [.v (.slice (.slice .int)), .v .int]
 results := [.v .int]
 B := Int
 run := fun a => laws_heldIntSS a.1 a.2
 out := fun b => ((), ())
 res := fun b => b
noncomputable def S_58L2 (n : Nat) : LoopSpec where
 sh := [(0, .v (.slice (.slice .int))), (1, .v .int), (5, .v .int)]
 ex := [(.exit 0, [(1, .v .int)]), (.ret, [(4, .v .int)])]
 run := laws_heldIntSS_L2 n
noncomputable def C_58 : Cx where
 tt := tblTT tt
 T := tblT [(70, E_57)]
 L := tblL [(2, S_58L2 fuel)]
 dep := fun i => 0
 n := 2
noncomputable def B_58L2 : Code := (Try.f66.body.bind (loopBody 2)).getD .skip
noncomputable def D_58 : Code := Try.f66.body.getD .skip
noncomputable def N_58 (_ : outs [.v (.slice (.slice .int)), .v .int]) (r : dens [.v .int]) : Int := r
noncomputable def E_59 : Entry where
 params := [.v (.slice (.pair (.slice .int) (.pair .int (.slice (.slice .int))))), .v .int]
 results := [.v .int]
 B := Int
 run := fun a => laws_heldConstraintS a.1 a.2
 out := fun b => ((), ())
 res := fun b => b
noncomputable def S_59L2 (n : Nat) : LoopSpec where
 sh := [(0, .v (.slice (.pair (.slice .int) (.pair .int (.slice (.slice .int)))))), (1, .v .int), (5, .v .int)]
 ex := [(.exit 0, [(1, .v .int)]), (.ret, [(4, .v .int)])]
 run := laws_heldConstraintS_L2 n
noncomputable def C_59 : Cx where
 tt := tblTT tt
 T := tblT [(66, E_58), (70, E_57)]
 L := tblL [(2, S_59L2 fuel)]
 dep := fun i => 0
 n := 2
noncomputable def B_59L2 : Code := (Try.f37.body.bind (loopBody 2)).getD .skip
noncomputable def D_59 : Code := Try.f37.body.getD .skip
noncomputable def N_59 (_ : outs [.v (.slice (.pair (.slice .int) (.pair .int (.slice (.slice .int))))), .v .int]) (r : dens [.v .int]) : Int := r
noncomputable def E_60 : Entry where
 params := [.v (.pair .int (.pair .int (.slice (.pair (.slice .int) (.pair .int (.slice (.slice .int))))))), .v .int]
 results := [.v .int]
 B := Int
 run := fun a => laws_heldNetwork a.1 a.2
 out := fun b => ((), ())
 res := fun b => b
noncomputable def C_60 : Cx where
 tt := tblTT tt
 T := tblT [(37, E_59)]
 L := tblL []
 dep := fun i => 0
 n := 2
noncomputable def D_60 : Code := Try.f13.body.getD .skip
noncomputable def N_60 (_ : outs [.v (.pair .int (.pair .int (.slice (.pair (.slice .int) (.pair .int (.slice (.slice .int))))))), .v .int]) (r : dens [.v .int]) : Int := r
noncomputable def E_61 : Entry where
 params := [.v (.pair .int (.pair .int (.slice (.pair (.slice .int) (.pair .int (.slice (.slice .int)))))))]
 results := [.v .bool]
 B := Bool
 run := fun a => laws_FnExactBinaryPart a
 out := fun b => ()
 res := fun b => b
noncomputable def C_61 : Cx where
 tt := tblTT tt
 T := tblT [(7, E_6), (9, E_12), (11, E_52), (12, E_56), (13, E_60), (20, E_29), (21, E_46)]
 L := tblL []
 dep := fun i => 0
 n := 1
noncomputable def D_61 : Code := Try.f5.body.getD .skip
noncomputable def N_61 (_ : outs [.v (.pair .int (.pair .int (.slice (.pair (.slice .int) (.pair .int (.slice (.slice .int)))))))]) (r : dens [.v .bool]) : Bool := r
end T
