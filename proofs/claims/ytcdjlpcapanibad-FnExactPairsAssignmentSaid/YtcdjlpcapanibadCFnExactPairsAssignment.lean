/- Contexts of the typed functions; no conditions. -/
import Derived.Test.YtcdjlpcapanibadV5
import Derived.Test.YtcdjlpcapanibadProg
import Derived.Test.YtcdjlpcapanibadPFnExactPairsAssignment
import Derived.KernelRfl
set_option linter.all false
set_option linter.unusedVariables false
set_option maxRecDepth 10000
open Go Go.Va Go.Proofs
namespace T
noncomputable def tt : List (Nat × TI) := [
 (2, { ty := .int }),
 (3, { ty := .int }),
 (4, { ty := .bool }),
 (5, { ty := (.num .u8) }),
 (6, { ty := (.num .u8) }),
 (8, { ty := (.pair .int (.pair .int (.pair .bool (.num .u8)))), fields := [2, 3, 4, 6] }),
 (9, { ty := .str }),
 (22, { ty := (.slice (.num .u8)), elem := 5 }),
 (24, { ty := (.slice (.pair .int (.slice (.slice .int)))), elem := 50 }),
 (27, { ty := (.slice (.pair .int (.slice .int))), elem := 35 }),
 (33, { ty := (.slice .int), elem := 3 }),
 (35, { ty := (.pair .int (.slice .int)), fields := [3, 33] }),
 (48, { ty := (.slice (.slice .int)), elem := 33 }),
 (50, { ty := (.pair .int (.slice (.slice .int))), fields := [3, 48] }),
 (57, { ty := (.slice (.pair (.slice .int) (.pair .int (.slice (.slice .int))))), elem := 155 }),
 (59, { ty := (.pair .int (.pair .int (.slice (.pair (.slice .int) (.pair .int (.slice (.slice .int))))))), fields := [3, 3, 57] }),
 (63, { ty := (.slice (.pair (.slice .int) (.pair .int (.slice (.slice .int))))), elem := 158 }),
 (65, { ty := (.pair .int (.pair .int (.slice (.pair (.slice .int) (.pair .int (.slice (.slice .int))))))), fields := [3, 3, 63] }),
 (91, { ty := (.op false) }),
 (94, { ty := (.op false) }),
 (120, { ty := (.slice (.slice .bool)), elem := 123 }),
 (123, { ty := (.slice .bool), elem := 4 }),
 (138, { ty := .smap }),
 (153, { ty := (.pair .int (.slice (.slice .int))), fields := [3, 48] }),
 (155, { ty := (.pair (.slice .int) (.pair .int (.slice (.slice .int)))), fields := [33, 153] }),
 (158, { ty := (.pair (.slice .int) (.pair .int (.slice (.slice .int)))), fields := [33, 50] }),
 (166, { ty := (.op true) }),
 (185, { ty := (.num .u64) }),
 (193, { ty := (.slice (.slice (.slice .int))), elem := 48 }),
 (194, { ty := (.slice (.slice .smap)), elem := 197 }),
 (196, { ty := (.pair .int (.pair (.slice (.slice (.slice .int))) (.slice (.slice .smap)))), fields := [3, 193, 194] }),
 (197, { ty := (.slice .smap), elem := 138 }),
 (205, { ty := (.pair .int (.slice (.pair .int (.slice .int)))), fields := [3, 27] })]
theorem tabT : tabOk Try.prog tt = true := by kernel_rfl
theorem mixT : Try.prog.follows .mixedOrders = true := by kernel_rfl
noncomputable def E_1 : Entry where
 params := [.v (.slice .int), .v .int]
 results := [.v .int]
 B := Int
 run := fun a => laws_szIntS a.1 a.2
 out := fun b => ((), ())
 res := fun b => b
noncomputable def C_1 : Cx where
 tt := tblTT tt
 T := tblT []
 L := tblL []
 dep := fun i => 0
 n := 2
noncomputable def D_1 : Code := Try.f174.body.getD .skip
noncomputable def N_1 (_ : outs [.v (.slice .int), .v .int]) (r : dens [.v .int]) : Int := r
noncomputable def E_2 : Entry where
 params := [.v (.slice (.slice .int)), .v .int]
 results := [.v .int]
 B := Int
 run := fun a => laws_szIntSS a.1 a.2
 out := fun b => ((), ())
 res := fun b => b
noncomputable def S_2L5 (n : Nat) : LoopSpec where
 sh := [(0, .v (.slice (.slice .int))), (1, .v .int), (5, .v .int)]
 ex := [(.exit 0, [(1, .v .int)]), (.ret, [(4, .v .int)])]
 run := laws_szIntSS_L5 n
noncomputable def C_2 : Cx where
 tt := tblTT tt
 T := tblT [(174, E_1)]
 L := tblL [(5, S_2L5 fuel)]
 dep := fun i => 0
 n := 2
noncomputable def B_2L5 : Code := (Try.f192.body.bind (loopBody 5)).getD .skip
noncomputable def D_2 : Code := Try.f192.body.getD .skip
noncomputable def N_2 (_ : outs [.v (.slice (.slice .int)), .v .int]) (r : dens [.v .int]) : Int := r
noncomputable def E_3 : Entry where
 params := [.v (.pair .int (.slice (.slice .int))), .v .int]
 results := [.v .int]
 B := Int
 run := fun a => laws_szRelation a.1 a.2
 out := fun b => ((), ())
 res := fun b => b
noncomputable def C_3 : Cx where
 tt := tblTT tt
 T := tblT [(192, E_2)]
 L := tblL []
 dep := fun i => 0
 n := 2
noncomputable def D_3 : Code := Try.f175.body.getD .skip
noncomputable def N_3 (_ : outs [.v (.pair .int (.slice (.slice .int))), .v .int]) (r : dens [.v .int]) : Int := r
noncomputable def E_4 : Entry where
 params := [.v (.pair (.slice .int) (.pair .int (.slice (.slice .int)))), .v .int]
 results := [.v .int]
 B := Int
 run := fun a => laws_szConstraint a.1 a.2
 out := fun b => ((), ())
 res := fun b => b
noncomputable def C_4 : Cx where
 tt := tblTT tt
 T := tblT [(174, E_1), (175, E_3)]
 L := tblL []
 dep := fun i => 0
 n := 2
noncomputable def D_4 : Code := Try.f135.body.getD .skip
noncomputable def N_4 (_ : outs [.v (.pair (.slice .int) (.pair .int (.slice (.slice .int)))), .v .int]) (r : dens [.v .int]) : Int := r
noncomputable def E_5 : Entry where
 params := [.v (.slice (.pair (.slice .int) (.pair .int (.slice (.slice .int))))), .v .int]
 results := [.v .int]
 B := Int
 run := fun a => laws_szConstraintS a.1 a.2
 out := fun b => ((), ())
 res := fun b => b
noncomputable def S_5L5 (n : Nat) : LoopSpec where
 sh := [(0, .v (.slice (.pair (.slice .int) (.pair .int (.slice (.slice .int)))))), (1, .v .int), (5, .v .int)]
 ex := [(.exit 0, [(1, .v .int)]), (.ret, [(4, .v .int)])]
 run := laws_szConstraintS_L5 n
noncomputable def C_5 : Cx where
 tt := tblTT tt
 T := tblT [(135, E_4)]
 L := tblL [(5, S_5L5 fuel)]
 dep := fun i => 0
 n := 2
noncomputable def B_5L5 : Code := (Try.f87.body.bind (loopBody 5)).getD .skip
noncomputable def D_5 : Code := Try.f87.body.getD .skip
noncomputable def N_5 (_ : outs [.v (.slice (.pair (.slice .int) (.pair .int (.slice (.slice .int))))), .v .int]) (r : dens [.v .int]) : Int := r
noncomputable def E_6 : Entry where
 params := [.v (.pair .int (.pair .int (.slice (.pair (.slice .int) (.pair .int (.slice (.slice .int))))))), .v .int]
 results := [.v .int]
 B := Int
 run := fun a => laws_szNetwork a.1 a.2
 out := fun b => ((), ())
 res := fun b => b
noncomputable def C_6 : Cx where
 tt := tblTT tt
 T := tblT [(87, E_5)]
 L := tblL []
 dep := fun i => 0
 n := 2
noncomputable def D_6 : Code := Try.f33.body.getD .skip
noncomputable def N_6 (_ : outs [.v (.pair .int (.pair .int (.slice (.pair (.slice .int) (.pair .int (.slice (.slice .int))))))), .v .int]) (r : dens [.v .int]) : Int := r
noncomputable def E_7 : Entry where
 params := [.v (.slice .int)]
 results := [.mv .int 0]
 B := (List Int)
 run := fun a => laws_toIntS a
 out := fun b => ()
 res := fun b => b
noncomputable def S_7L3 (n : Nat) : LoopSpec where
 sh := [(0, .v (.slice .int)), (3, .mv .int 0), (4, .v .int)]
 ex := [(.exit 0, [(3, .mv .int 0)])]
 run := laws_toIntS_L3 n
noncomputable def C_7 : Cx where
 tt := tblTT tt
 T := tblT []
 L := tblL [(3, S_7L3 fuel)]
 dep := fun i => 0
 n := 1
noncomputable def B_7L3 : Code := (Try.f179.body.bind (loopBody 3)).getD .skip
noncomputable def D_7 : Code := Try.f179.body.getD .skip
noncomputable def N_7 (_ : outs [.v (.slice .int)]) (r : dens [.mv .int 0]) : (List Int) := r
noncomputable def E_8 : Entry where
 params := [.v (.slice (.slice .int))]
 results := [.mv (.slice .int) 1]
 B := (List (List Int))
 run := fun a => laws_toIntSS a
 out := fun b => ()
 res := fun b => b
noncomputable def S_8L3 (n : Nat) : LoopSpec where
 sh := [(0, .v (.slice (.slice .int))), (3, .mv (.slice .int) 1), (4, .v .int)]
 ex := [(.exit 0, [(3, .mv (.slice .int) 1)])]
 run := laws_toIntSS_L3 n
noncomputable def C_8 : Cx where
 tt := tblTT tt
 T := tblT [(179, E_7)]
 L := tblL [(3, S_8L3 fuel)]
 dep := fun i => match i with
  | 7 => 1
  | _ => 0
 n := 1
noncomputable def B_8L3 : Code := (Try.f193.body.bind (loopBody 3)).getD .skip
noncomputable def D_8 : Code := Try.f193.body.getD .skip
noncomputable def N_8 (_ : outs [.v (.slice (.slice .int))]) (r : dens [.mv (.slice .int) 1]) : (List (List Int)) := r
noncomputable def E_9 : Entry where
 params := [.v (.pair .int (.slice (.slice .int)))]
 results := [.pr (.v .int) (.mv (.slice .int) 1)]
 B := (Int × (List (List Int)))
 run := fun a => laws_toRelation a
 out := fun b => ()
 res := fun b => b
noncomputable def C_9 : Cx where
 tt := tblTT tt
 T := tblT [(193, E_8)]
 L := tblL []
 dep := fun i => 0
 n := 1
noncomputable def D_9 : Code := Try.f180.body.getD .skip
noncomputable def N_9 (_ : outs [.v (.pair .int (.slice (.slice .int)))]) (r : dens [.pr (.v .int) (.mv (.slice .int) 1)]) : (Int × (List (List Int))) := r
noncomputable def E_10 : Entry where
 params := [.v (.pair (.slice .int) (.pair .int (.slice (.slice .int))))]
 results := [.pr (.mv .int 0) (.pr (.v .int) (.mv (.slice .int) 1))]
 B := ((List Int) × (Int × (List (List Int))))
 run := fun a => laws_toConstraint a
 out := fun b => ()
 res := fun b => b
noncomputable def C_10 : Cx where
 tt := tblTT tt
 T := tblT [(179, E_7), (180, E_9)]
 L := tblL []
 dep := fun i => 0
 n := 1
noncomputable def D_10 : Code := Try.f143.body.getD .skip
noncomputable def N_10 (_ : outs [.v (.pair (.slice .int) (.pair .int (.slice (.slice .int))))]) (r : dens [.pr (.mv .int 0) (.pr (.v .int) (.mv (.slice .int) 1))]) : ((List Int) × (Int × (List (List Int)))) := r
noncomputable def E_11 : Entry where
 params := [.v (.slice (.pair (.slice .int) (.pair .int (.slice (.slice .int)))))]
 results := [.mv (.pair (.slice .int) (.pair .int (.slice (.slice .int)))) 2]
 B := (List ((List Int) × Int × (List (List Int))))
 run := fun a => laws_toConstraintS a
 out := fun b => ()
 res := fun b => b
noncomputable def S_11L3 (n : Nat) : LoopSpec where
 sh := [(0, .v (.slice (.pair (.slice .int) (.pair .int (.slice (.slice .int)))))), (3, .mv (.pair (.slice .int) (.pair .int (.slice (.slice .int)))) 2), (4, .v .int)]
 ex := [(.exit 0, [(3, .mv (.pair (.slice .int) (.pair .int (.slice (.slice .int)))) 2)])]
 run := laws_toConstraintS_L3 n
noncomputable def C_11 : Cx where
 tt := tblTT tt
 T := tblT [(143, E_10)]
 L := tblL [(3, S_11L3 fuel)]
 dep := fun i => match i with
  | 7 => 2
  | _ => 0
 n := 1
noncomputable def B_11L3 : Code := (Try.f94.body.bind (loopBody 3)).getD .skip
noncomputable def D_11 : Code := Try.f94.body.getD .skip
noncomputable def N_11 (_ : outs [.v (.slice (.pair (.slice .int) (.pair .int (.slice (.slice .int)))))]) (r : dens [.mv (.pair (.slice .int) (.pair .int (.slice (.slice .int)))) 2]) : (List ((List Int) × Int × (List (List Int)))) := r
noncomputable def E_12 : Entry where
 params := [.v (.pair .int (.pair .int (.slice (.pair (.slice .int) (.pair .int (.slice (.slice .int)))))))]
 results := [.pr (.v .int) (.pr (.v .int) (.mv (.pair (.slice .int) (.pair .int (.slice (.slice .int)))) 2))]
 B := (Int × (Int × (List ((List Int) × Int × (List (List Int))))))
 run := fun a => laws_toNetwork a
 out := fun b => ()
 res := fun b => b
noncomputable def C_12 : Cx where
 tt := tblTT tt
 T := tblT [(94, E_11)]
 L := tblL []
 dep := fun i => 0
 n := 1
noncomputable def D_12 : Code := Try.f35.body.getD .skip
noncomputable def N_12 (_ : outs [.v (.pair .int (.pair .int (.slice (.pair (.slice .int) (.pair .int (.slice (.slice .int)))))))]) (r : dens [.pr (.v .int) (.pr (.v .int) (.mv (.pair (.slice .int) (.pair .int (.slice (.slice .int)))) 2))]) : (Int × (Int × (List ((List Int) × Int × (List (List Int)))))) := r
noncomputable def E_13 : Entry where
 params := [.v .int, .v .int, .v .int]
 results := [.v .bool]
 B := Bool
 run := fun a => spec_l1In a.1 a.2.1 a.2.2
 out := fun b => ((), (), ())
 res := fun b => b
noncomputable def C_13 : Cx where
 tt := tblTT tt
 T := tblT []
 L := tblL []
 dep := fun i => 0
 n := 3
noncomputable def D_13 : Code := Try.f128.body.getD .skip
noncomputable def N_13 (_ : outs [.v .int, .v .int, .v .int]) (r : dens [.v .bool]) : Bool := r
noncomputable def E_14 : Entry where
 params := [.v .int, .v .int]
 results := [.v .int]
 B := Int
 run := fun a => spec_l2Pow a.1 a.2
 out := fun b => ((), ())
 res := fun b => b
noncomputable def S_14L2 (n : Nat) : LoopSpec where
 sh := [(0, .v .int), (1, .v .int), (5, .v .int)]
 ex := [(.exit 0, [(5, .v .int)])]
 run := spec_l2Pow_L2 n
noncomputable def C_14 : Cx where
 tt := tblTT tt
 T := tblT []
 L := tblL [(2, S_14L2 fuel)]
 dep := fun i => 0
 n := 2
noncomputable def B_14L2 : Code := (Try.f54.body.bind (loopBody 2)).getD .skip
noncomputable def D_14 : Code := Try.f54.body.getD .skip
noncomputable def N_14 (_ : outs [.v .int, .v .int]) (r : dens [.v .int]) : Int := r
noncomputable def E_15 : Entry where
 params := [.v .int, .v (.slice .int)]
 results := [.v .bool]
 B := Bool
 run := fun a => spec_l2Elements a.1 a.2
 out := fun b => ((), ())
 res := fun b => b
noncomputable def S_15L2 (n : Nat) : LoopSpec where
 sh := [(0, .v .int), (1, .v (.slice .int)), (5, .v .int)]
 ex := [(.exit 0, []), (.ret, [(4, .v .bool)])]
 run := spec_l2Elements_L2 n
noncomputable def C_15 : Cx where
 tt := tblTT tt
 T := tblT [(128, E_13)]
 L := tblL [(2, S_15L2 fuel)]
 dep := fun i => 0
 n := 2
noncomputable def B_15L2 : Code := (Try.f176.body.bind (loopBody 2)).getD .skip
noncomputable def D_15 : Code := Try.f176.body.getD .skip
noncomputable def N_15 (_ : outs [.v .int, .v (.slice .int)]) (r : dens [.v .bool]) : Bool := r
noncomputable def E_16 : Entry where
 params := [.v .int, .v .int, .v (.slice .int)]
 results := [.v .bool]
 B := Bool
 run := fun a => spec_l8Tuple a.1 a.2.1 a.2.2
 out := fun b => ((), (), ())
 res := fun b => b
noncomputable def C_16 : Cx where
 tt := tblTT tt
 T := tblT [(176, E_15)]
 L := tblL []
 dep := fun i => 0
 n := 3
noncomputable def D_16 : Code := Try.f168.body.getD .skip
noncomputable def N_16 (_ : outs [.v .int, .v .int, .v (.slice .int)]) (r : dens [.v .bool]) : Bool := r
noncomputable def E_17 : Entry where
 params := [.v (.slice .int), .v (.slice .int)]
 results := [.v .bool]
 B := Bool
 run := fun a => spec_l3Less a.1 a.2
 out := fun b => ((), ())
 res := fun b => b
noncomputable def S_17L2 (n : Nat) : LoopSpec where
 sh := [(0, .v (.slice .int)), (1, .v (.slice .int)), (5, .v .int)]
 ex := [(.exit 0, []), (.ret, [(4, .v .bool)])]
 run := spec_l3Less_L2 n
noncomputable def C_17 : Cx where
 tt := tblTT tt
 T := tblT []
 L := tblL [(2, S_17L2 fuel)]
 dep := fun i => 0
 n := 2
noncomputable def B_17L2 : Code := (Try.f169.body.bind (loopBody 2)).getD .skip
noncomputable def D_17 : Code := Try.f169.body.getD .skip
noncomputable def N_17 (_ : outs [.v (.slice .int), .v (.slice .int)]) (r : dens [.v .bool]) : Bool := r
noncomputable def E_18 : Entry where
 params := [.v .int, .v (.pair .int (.slice (.slice .int)))]
 results := [.v .bool]
 B := Bool
 run := fun a => spec_l13Good a.1 a.2
 out := fun b => ((), ())
 res := fun b => b
noncomputable def S_18L4 (n : Nat) : LoopSpec where
 sh := [(0, .v .int), (3, .bx (.v (.pair .int (.slice (.slice .int))))), (5, .v .int)]
 ex := [(.exit 0, []), (.ret, [(4, .v .bool)])]
 run := spec_l13Good_L4 n
noncomputable def C_18 : Cx where
 tt := tblTT tt
 T := tblT [(54, E_14), (128, E_13), (168, E_16), (169, E_17)]
 L := tblL [(4, S_18L4 fuel)]
 dep := fun i => 0
 n := 2
noncomputable def B_18L4 : Code := (Try.f129.body.bind (loopBody 4)).getD .skip
noncomputable def D_18 : Code := Try.f129.body.getD .skip
noncomputable def N_18 (_ : outs [.v .int, .v (.pair .int (.slice (.slice .int)))]) (r : dens [.v .bool]) : Bool := r
noncomputable def E_19 : Entry where
 params := [.v .int, .v .int, .v (.pair (.slice .int) (.pair .int (.slice (.slice .int))))]
 results := [.v .bool]
 B := Bool
 run := fun a => spec_l19Is a.1 a.2.1 a.2.2
 out := fun b => ((), (), ())
 res := fun b => b
noncomputable def C_19 : Cx where
 tt := tblTT tt
 T := tblT [(129, E_18), (176, E_15)]
 L := tblL []
 dep := fun i => 0
 n := 3
noncomputable def D_19 : Code := Try.f136.body.getD .skip
noncomputable def N_19 (_ : outs [.v .int, .v .int, .v (.pair (.slice .int) (.pair .int (.slice (.slice .int))))]) (r : dens [.v .bool]) : Bool := r
noncomputable def E_20 : Entry where
 params := [.v (.pair .int (.pair .int (.slice (.pair (.slice .int) (.pair .int (.slice (.slice .int)))))))]
 results := [.v .bool]
 B := Bool
 run := fun a => spec_l19Good a
 out := fun b => ()
 res := fun b => b
noncomputable def S_20L4 (n : Nat) : LoopSpec where
 sh := [(1, .bx (.v (.pair .int (.pair .int (.slice (.pair (.slice .int) (.pair .int (.slice (.slice .int))))))))), (3, .v .int)]
 ex := [(.exit 0, []), (.ret, [(2, .v .bool)])]
 run := spec_l19Good_L4 n
noncomputable def C_20 : Cx where
 tt := tblTT tt
 T := tblT [(128, E_13), (136, E_19)]
 L := tblL [(4, S_20L4 fuel)]
 dep := fun i => 0
 n := 1
noncomputable def B_20L4 : Code := (Try.f88.body.bind (loopBody 4)).getD .skip
noncomputable def D_20 : Code := Try.f88.body.getD .skip
noncomputable def N_20 (_ : outs [.v (.pair .int (.pair .int (.slice (.pair (.slice .int) (.pair .int (.slice (.slice .int)))))))]) (r : dens [.v .bool]) : Bool := r
noncomputable def E_21 : Entry where
 params := [.v (.pair .int (.pair .int (.slice (.pair (.slice .int) (.pair .int (.slice (.slice .int)))))))]
 results := [.v .bool]
 B := Bool
 run := fun a => spec_l22Good a
 out := fun b => ()
 res := fun b => b
noncomputable def C_21 : Cx where
 tt := tblTT tt
 T := tblT [(88, E_20)]
 L := tblL []
 dep := fun i => 0
 n := 1
noncomputable def D_21 : Code := Try.f103.body.getD .skip
noncomputable def N_21 (_ : outs [.v (.pair .int (.pair .int (.slice (.pair (.slice .int) (.pair .int (.slice (.slice .int)))))))]) (r : dens [.v .bool]) : Bool := r
noncomputable def E_22 : Entry where
 params := [.v (.slice .int), .v (.slice .int)]
 results := [.v .bool]
 B := Bool
 run := fun a => spec_l1Same a.1 a.2
 out := fun b => ((), ())
 res := fun b => b
noncomputable def S_22L4 (n : Nat) : LoopSpec where
 sh := [(0, .v (.slice .int)), (1, .v (.slice .int)), (5, .v .int)]
 ex := [(.exit 0, []), (.ret, [(4, .v .bool)])]
 run := spec_l1Same_L4 n
noncomputable def C_22 : Cx where
 tt := tblTT tt
 T := tblT []
 L := tblL [(4, S_22L4 fuel)]
 dep := fun i => 0
 n := 2
noncomputable def B_22L4 : Code := (Try.f173.body.bind (loopBody 4)).getD .skip
noncomputable def D_22 : Code := Try.f173.body.getD .skip
noncomputable def N_22 (_ : outs [.v (.slice .int), .v (.slice .int)]) (r : dens [.v .bool]) : Bool := r
noncomputable def E_23 : Entry where
 params := [.v (.slice (.slice .int)), .v (.slice .int)]
 results := [.v .int, .v .bool]
 B := Int × Bool
 run := fun a => spec_l8Find a.1 a.2
 out := fun b => ((), ())
 res := fun b => (b.1, b.2)
noncomputable def S_23L2 (n : Nat) : LoopSpec where
 sh := [(0, .v (.slice (.slice .int))), (1, .v (.slice .int)), (6, .v .int), (7, .v .int)]
 ex := [(.exit 0, [(0, .v (.slice (.slice .int))), (1, .v (.slice .int)), (6, .v .int)])]
 run := spec_l8Find_L2 n
noncomputable def C_23 : Cx where
 tt := tblTT tt
 T := tblT [(169, E_17), (173, E_22)]
 L := tblL [(2, S_23L2 fuel)]
 dep := fun i => 0
 n := 2
noncomputable def B_23L2 : Code := (Try.f134.body.bind (loopBody 2)).getD .skip
noncomputable def D_23 : Code := Try.f134.body.getD .skip
noncomputable def N_23 (_ : outs [.v (.slice (.slice .int)), .v (.slice .int)]) (r : dens [.v .int, .v .bool]) : Int × Bool := (r.1, r.2)
noncomputable def E_24 : Entry where
 params := [.v (.pair .int (.slice (.slice .int))), .v (.slice .int)]
 results := [.v .bool]
 B := Bool
 run := fun a => spec_l13Has a.1 a.2
 out := fun b => ((), ())
 res := fun b => b
noncomputable def C_24 : Cx where
 tt := tblTT tt
 T := tblT [(134, E_23)]
 L := tblL []
 dep := fun i => 0
 n := 2
noncomputable def D_24 : Code := Try.f84.body.getD .skip
noncomputable def N_24 (_ : outs [.v (.pair .int (.slice (.slice .int))), .v (.slice .int)]) (r : dens [.v .bool]) : Bool := r
noncomputable def E_25 : Entry where
 params := []
 results := [.mv (.pair .int (.slice .int)) 0]
 B := (List (Int × (List Int)))
 run := fun a => spec_l22Ops
 out := fun b => ()
 res := fun b => b
noncomputable def C_25 : Cx where
 tt := tblTT tt
 T := tblT []
 L := tblL []
 dep := fun i => 0
 n := 0
noncomputable def D_25 : Code := Try.f184.body.getD .skip
noncomputable def N_25 (_ : outs []) (r : dens [.mv (.pair .int (.slice .int)) 0]) : (List (Int × (List Int))) := r
noncomputable def E_26 : Entry where
 params := [.v (.slice (.slice .int)), .v (.slice .int)]
 results := [.mv (.slice .int) 0]
 B := (List (List Int))
 run := fun a => spec_l8Choose a.1 a.2
 out := fun b => ((), ())
 res := fun b => b
noncomputable def S_26L3 (n : Nat) : LoopSpec where
 sh := [(0, .v (.slice (.slice .int))), (1, .v (.slice .int)), (5, .mv (.slice .int) 0), (6, .v .int)]
 ex := [(.exit 0, [(5, .mv (.slice .int) 0)])]
 run := spec_l8Choose_L3 n
noncomputable def C_26 : Cx where
 tt := tblTT tt
 T := tblT []
 L := tblL [(3, S_26L3 fuel)]
 dep := fun i => 0
 n := 2
noncomputable def B_26L3 : Code := (Try.f171.body.bind (loopBody 3)).getD .skip
noncomputable def D_26 : Code := Try.f171.body.getD .skip
noncomputable def N_26 (_ : outs [.v (.slice (.slice .int)), .v (.slice .int)]) (r : dens [.mv (.slice .int) 0]) : (List (List Int)) := r
noncomputable def E_27 : Entry where
 params := [.v (.pair .int (.slice (.pair .int (.slice .int)))), .v .int, .v (.slice (.slice .int)), .v .int]
 results := [.mv .int 0]
 B := (List Int)
 run := fun a => spec_l8Apply a.1 a.2.1 a.2.2.1 a.2.2.2
 out := fun b => ((), (), (), ())
 res := fun b => b
noncomputable def S_27L7 (n : Nat) : LoopSpec where
 sh := [(1, .v .int), (2, .v (.slice (.slice .int))), (3, .v .int), (4, .bx (.v (.pair .int (.slice (.pair .int (.slice .int)))))), (9, .mv .int 0), (10, .v .int), (11, .v .int), (12, .v .int)]
 ex := [(.exit 2, [(1, .v .int), (2, .v (.slice (.slice .int))), (3, .v .int), (4, .bx (.v (.pair .int (.slice (.pair .int (.slice .int)))))), (9, .mv .int 0), (10, .v .int), (11, .v .int)])]
 run := spec_l8Apply_L7 n
noncomputable def S_27L3 (n : Nat) : LoopSpec where
 sh := [(1, .v .int), (2, .v (.slice (.slice .int))), (3, .v .int), (4, .bx (.v (.pair .int (.slice (.pair .int (.slice .int)))))), (9, .mv .int 0), (10, .v .int)]
 ex := [(.exit 0, [(9, .mv .int 0)])]
 run := spec_l8Apply_L3 n
noncomputable def C_27 : Cx where
 tt := tblTT tt
 T := tblT []
 L := tblL [(7, S_27L7 fuel), (3, S_27L3 fuel)]
 dep := fun i => 0
 n := 4
noncomputable def B_27L7 : Code := (Try.f191.body.bind (loopBody 7)).getD .skip
noncomputable def B_27L3 : Code := (Try.f191.body.bind (loopBody 3)).getD .skip
noncomputable def D_27 : Code := Try.f191.body.getD .skip
noncomputable def N_27 (_ : outs [.v (.pair .int (.slice (.pair .int (.slice .int)))), .v .int, .v (.slice (.slice .int)), .v .int]) (r : dens [.mv .int 0]) : (List Int) := r
noncomputable def E_28 : Entry where
 params := [.v .int, .v (.pair .int (.slice .int)), .v (.slice (.slice .int)), .v .int]
 results := [.mv .int 0]
 B := (List Int)
 run := fun a => spec_l13Result a.1 a.2.1 a.2.2.1 a.2.2.2
 out := fun b => ((), (), (), ())
 res := fun b => b
noncomputable def C_28 : Cx where
 tt := tblTT tt
 T := tblT [(191, E_27)]
 L := tblL []
 dep := fun i => 0
 n := 4
noncomputable def D_28 : Code := Try.f170.body.getD .skip
noncomputable def N_28 (_ : outs [.v .int, .v (.pair .int (.slice .int)), .v (.slice (.slice .int)), .v .int]) (r : dens [.mv .int 0]) : (List Int) := r
noncomputable def E_29 : Entry where
 params := [.v (.slice .int)]
 results := [.mv .int 0]
 B := (List Int)
 run := fun a => spec_l1Own a
 out := fun b => ()
 res := fun b => b
noncomputable def C_29 : Cx where
 tt := tblTT tt
 T := tblT []
 L := tblL []
 dep := fun i => 0
 n := 1
noncomputable def D_29 : Code := Try.f66.body.getD .skip
noncomputable def N_29 (_ : outs [.v (.slice .int)]) (r : dens [.mv .int 0]) : (List Int) := r
noncomputable def E_30 : Entry where
 params := [.v (.slice .int), .v .int]
 results := [.mv .int 0, .v .bool]
 B := (List Int) × Bool
 run := fun a => spec_l8Next a.1 a.2
 out := fun b => ((), ())
 res := fun b => (b.1, b.2)
noncomputable def S_30L3 (n : Nat) : LoopSpec where
 sh := [(1, .v .int), (6, .mv .int 0), (7, .v .int)]
 ex := [(.exit 0, [(6, .mv .int 0)]), (.ret, [(4, .mv .int 0), (5, .v .bool)])]
 run := spec_l8Next_L3 n
noncomputable def C_30 : Cx where
 tt := tblTT tt
 T := tblT [(66, E_29)]
 L := tblL [(3, S_30L3 fuel)]
 dep := fun i => 0
 n := 2
noncomputable def B_30L3 : Code := (Try.f172.body.bind (loopBody 3)).getD .skip
noncomputable def D_30 : Code := Try.f172.body.getD .skip
noncomputable def N_30 (_ : outs [.v (.slice .int), .v .int]) (r : dens [.mv .int 0, .v .bool]) : (List Int) × Bool := (r.1, r.2)
noncomputable def E_31 : Entry where
 params := [.v .int, .v (.pair .int (.slice .int)), .v (.pair .int (.slice (.slice .int)))]
 results := [.v (.slice .int), .mv .int 0, .v .bool]
 B := (List Int) × (List Int) × Bool
 run := fun a => spec_l13Break a.1 a.2.1 a.2.2
 out := fun b => ((), (), ())
 res := fun b => (b.1, b.2.1, b.2.2)
noncomputable def S_31L2 (n : Nat) : LoopSpec where
 sh := [(0, .v .int), (4, .bx (.v (.pair .int (.slice .int)))), (5, .bx (.v (.pair .int (.slice (.slice .int))))), (9, .mv .int 0), (10, .v .bool)]
 ex := [(.exit 0, []), (.ret, [(6, .v (.slice .int)), (7, .mv .int 0), (8, .v .bool)])]
 run := spec_l13Break_L2 n
noncomputable def C_31 : Cx where
 tt := tblTT tt
 T := tblT [(84, E_24), (170, E_28), (171, E_26), (172, E_30)]
 L := tblL [(2, S_31L2 fuel)]
 dep := fun i => 0
 n := 3
noncomputable def B_31L2 : Code := (Try.f130.body.bind (loopBody 2)).getD .skip
noncomputable def D_31 : Code := Try.f130.body.getD .skip
noncomputable def N_31 (_ : outs [.v .int, .v (.pair .int (.slice .int)), .v (.pair .int (.slice (.slice .int)))]) (r : dens [.v (.slice .int), .mv .int 0, .v .bool]) : (List Int) × (List Int) × Bool := (r.1, r.2.1, r.2.2)
noncomputable def E_32 : Entry where
 params := [.v .int, .v (.pair .int (.slice .int)), .v (.pair .int (.slice (.slice .int)))]
 results := [.v .bool]
 B := Bool
 run := fun a => spec_l13Keeps a.1 a.2.1 a.2.2
 out := fun b => ((), (), ())
 res := fun b => b
noncomputable def C_32 : Cx where
 tt := tblTT tt
 T := tblT [(130, E_31)]
 L := tblL []
 dep := fun i => 0
 n := 3
noncomputable def D_32 : Code := Try.f73.body.getD .skip
noncomputable def N_32 (_ : outs [.v .int, .v (.pair .int (.slice .int)), .v (.pair .int (.slice (.slice .int)))]) (r : dens [.v .bool]) : Bool := r
noncomputable def E_33 : Entry where
 params := [.v (.pair .int (.slice (.slice .int))), .v .int]
 results := [.v .bool]
 B := Bool
 run := fun a => spec_l22In a.1 a.2
 out := fun b => ((), ())
 res := fun b => b
noncomputable def S_33L4 (n : Nat) : LoopSpec where
 sh := [(1, .v .int), (2, .bx (.v (.pair .int (.slice (.slice .int))))), (5, .mv .int 0), (6, .v .int)]
 ex := [(.exit 0, [(2, .bx (.v (.pair .int (.slice (.slice .int))))), (5, .mv .int 0)])]
 run := spec_l22In_L4 n
noncomputable def C_33 : Cx where
 tt := tblTT tt
 T := tblT [(73, E_32), (84, E_24), (184, E_25)]
 L := tblL [(4, S_33L4 fuel)]
 dep := fun i => 0
 n := 2
noncomputable def B_33L4 : Code := (Try.f152.body.bind (loopBody 4)).getD .skip
noncomputable def D_33 : Code := Try.f152.body.getD .skip
noncomputable def N_33 (_ : outs [.v (.pair .int (.slice (.slice .int))), .v .int]) (r : dens [.v .bool]) : Bool := r
noncomputable def E_34 : Entry where
 params := [.v (.pair .int (.pair .int (.slice (.pair (.slice .int) (.pair .int (.slice (.slice .int))))))), .v .int]
 results := [.v .bool]
 B := Bool
 run := fun a => spec_l22Is a.1 a.2
 out := fun b => ((), ())
 res := fun b => b
noncomputable def S_34L2 (n : Nat) : LoopSpec where
 sh := [(1, .v .int), (2, .bx (.v (.pair .int (.pair .int (.slice (.pair (.slice .int) (.pair .int (.slice (.slice .int))))))))), (5, .v .int)]
 ex := [(.exit 0, []), (.ret, [(4, .v .bool)])]
 run := spec_l22Is_L2 n
noncomputable def C_34 : Cx where
 tt := tblTT tt
 T := tblT [(152, E_33)]
 L := tblL [(2, S_34L2 fuel)]
 dep := fun i => 0
 n := 2
noncomputable def B_34L2 : Code := (Try.f104.body.bind (loopBody 2)).getD .skip
noncomputable def D_34 : Code := Try.f104.body.getD .skip
noncomputable def N_34 (_ : outs [.v (.pair .int (.pair .int (.slice (.pair (.slice .int) (.pair .int (.slice (.slice .int))))))), .v .int]) (r : dens [.v .bool]) : Bool := r
noncomputable def E_35 : Entry where
 params := [.v (.slice .int), .v (.slice .int)]
 results := [.mv .int 0]
 B := (List Int)
 run := fun a => spec_l8At a.1 a.2
 out := fun b => ((), ())
 res := fun b => b
noncomputable def S_35L3 (n : Nat) : LoopSpec where
 sh := [(0, .v (.slice .int)), (1, .v (.slice .int)), (5, .mv .int 0), (6, .v .int)]
 ex := [(.exit 0, [(5, .mv .int 0)])]
 run := spec_l8At_L3 n
noncomputable def C_35 : Cx where
 tt := tblTT tt
 T := tblT []
 L := tblL [(3, S_35L3 fuel)]
 dep := fun i => 0
 n := 2
noncomputable def B_35L3 : Code := (Try.f196.body.bind (loopBody 3)).getD .skip
noncomputable def D_35 : Code := Try.f196.body.getD .skip
noncomputable def N_35 (_ : outs [.v (.slice .int), .v (.slice .int)]) (r : dens [.mv .int 0]) : (List Int) := r
noncomputable def E_36 : Entry where
 params := [.v (.slice (.slice .int)), .v (.slice .int)]
 results := [.v (.slice (.slice .int))]
 B := (List (List Int))
 run := fun a => spec_l8Put a.1 a.2
 out := fun b => ((), ())
 res := fun b => b
noncomputable def C_36 : Cx where
 tt := tblTT tt
 T := tblT [(134, E_23)]
 L := tblL []
 dep := fun i => 0
 n := 2
noncomputable def D_36 : Code := Try.f161.body.getD .skip
noncomputable def N_36 (_ : outs [.v (.slice (.slice .int)), .v (.slice .int)]) (r : dens [.v (.slice (.slice .int))]) : (List (List Int)) := r
noncomputable def E_37 : Entry where
 params := [.v (.pair .int (.slice (.slice .int))), .v (.slice .int)]
 results := [.v (.pair .int (.slice (.slice .int)))]
 B := (Int × (List (List Int)))
 run := fun a => spec_l13Project a.1 a.2
 out := fun b => ((), ())
 res := fun b => b
noncomputable def S_37L3 (n : Nat) : LoopSpec where
 sh := [(1, .v (.slice .int)), (2, .bx (.v (.pair .int (.slice (.slice .int))))), (4, .bx (.pr (.v .int) (.mv (.slice .int) 0))), (5, .bx (.v (.pair .int (.slice (.slice .int))))), (6, .v .int)]
 ex := [(.exit 0, [(4, .bx (.pr (.v .int) (.mv (.slice .int) 0))), (5, .bx (.v (.pair .int (.slice (.slice .int)))))])]
 run := spec_l13Project_L3 n
noncomputable def C_37 : Cx where
 tt := tblTT tt
 T := tblT [(161, E_36), (196, E_35)]
 L := tblL [(3, S_37L3 fuel)]
 dep := fun i => 0
 n := 2
noncomputable def B_37L3 : Code := (Try.f185.body.bind (loopBody 3)).getD .skip
noncomputable def D_37 : Code := Try.f185.body.getD .skip
noncomputable def N_37 (_ : outs [.v (.pair .int (.slice (.slice .int))), .v (.slice .int)]) (r : dens [.v (.pair .int (.slice (.slice .int)))]) : (Int × (List (List Int))) := r
noncomputable def E_38 : Entry where
 params := [.v (.pair .int (.pair .int (.slice (.pair (.slice .int) (.pair .int (.slice (.slice .int)))))))]
 results := [.mv (.slice .bool) 1]
 B := (List (List Bool))
 run := fun a => spec_l22Follows a
 out := fun b => ()
 res := fun b => b
noncomputable def S_38L3 (n : Nat) : LoopSpec where
 sh := [(1, .bx (.v (.pair .int (.pair .int (.slice (.pair (.slice .int) (.pair .int (.slice (.slice .int))))))))), (3, .mv (.slice .bool) 1), (4, .v .int)]
 ex := [(.exit 0, [(1, .bx (.v (.pair .int (.pair .int (.slice (.pair (.slice .int) (.pair .int (.slice (.slice .int))))))))), (3, .mv (.slice .bool) 1)])]
 run := spec_l22Follows_L3 n
noncomputable def S_38L18 (n : Nat) : LoopSpec where
 sh := [(1, .bx (.v (.pair .int (.pair .int (.slice (.pair (.slice .int) (.pair .int (.slice (.slice .int))))))))), (3, .mv (.slice .bool) 1), (5, .v .int), (6, .bx (.v (.pair (.slice .int) (.pair .int (.slice (.slice .int)))))), (7, .v .int), (8, .v .int), (9, .bx (.v (.pair .int (.slice (.slice .int))))), (10, .v .int)]
 ex := [(.exit 8, [(1, .bx (.v (.pair .int (.pair .int (.slice (.pair (.slice .int) (.pair .int (.slice (.slice .int))))))))), (3, .mv (.slice .bool) 1), (5, .v .int), (6, .bx (.v (.pair (.slice .int) (.pair .int (.slice (.slice .int)))))), (7, .v .int), (8, .v .int)])]
 run := spec_l22Follows_L18 n
noncomputable def S_38L14 (n : Nat) : LoopSpec where
 sh := [(1, .bx (.v (.pair .int (.pair .int (.slice (.pair (.slice .int) (.pair .int (.slice (.slice .int))))))))), (3, .mv (.slice .bool) 1), (5, .v .int), (6, .bx (.v (.pair (.slice .int) (.pair .int (.slice (.slice .int)))))), (7, .v .int), (8, .v .int)]
 ex := [(.exit 6, [(1, .bx (.v (.pair .int (.pair .int (.slice (.pair (.slice .int) (.pair .int (.slice (.slice .int))))))))), (3, .mv (.slice .bool) 1), (5, .v .int), (6, .bx (.v (.pair (.slice .int) (.pair .int (.slice (.slice .int)))))), (7, .v .int)])]
 run := spec_l22Follows_L14 n
noncomputable def S_38L11 (n : Nat) : LoopSpec where
 sh := [(1, .bx (.v (.pair .int (.pair .int (.slice (.pair (.slice .int) (.pair .int (.slice (.slice .int))))))))), (3, .mv (.slice .bool) 1), (5, .v .int), (6, .bx (.v (.pair (.slice .int) (.pair .int (.slice (.slice .int)))))), (7, .v .int)]
 ex := [(.exit 4, [(1, .bx (.v (.pair .int (.pair .int (.slice (.pair (.slice .int) (.pair .int (.slice (.slice .int))))))))), (3, .mv (.slice .bool) 1), (5, .v .int)])]
 run := spec_l22Follows_L11 n
noncomputable def S_38L7 (n : Nat) : LoopSpec where
 sh := [(1, .bx (.v (.pair .int (.pair .int (.slice (.pair (.slice .int) (.pair .int (.slice (.slice .int))))))))), (3, .mv (.slice .bool) 1), (5, .v .int)]
 ex := [(.exit 2, [(3, .mv (.slice .bool) 1)])]
 run := spec_l22Follows_L7 n
noncomputable def C_38 : Cx where
 tt := tblTT tt
 T := tblT [(84, E_24), (185, E_37)]
 L := tblL [(3, S_38L3 fuel), (18, S_38L18 fuel), (14, S_38L14 fuel), (11, S_38L11 fuel), (7, S_38L7 fuel)]
 dep := fun i => match i with
  | 11 => 1
  | 24 => 1
  | 25 => 1
  | _ => 0
 n := 1
noncomputable def B_38L3 : Code := (Try.f153.body.bind (loopBody 3)).getD .skip
noncomputable def B_38L18 : Code := (Try.f153.body.bind (loopBody 18)).getD .skip
noncomputable def B_38L14 : Code := (Try.f153.body.bind (loopBody 14)).getD .skip
noncomputable def B_38L11 : Code := (Try.f153.body.bind (loopBody 11)).getD .skip
noncomputable def B_38L7 : Code := (Try.f153.body.bind (loopBody 7)).getD .skip
noncomputable def D_38 : Code := Try.f153.body.getD .skip
noncomputable def N_38 (_ : outs [.v (.pair .int (.pair .int (.slice (.pair (.slice .int) (.pair .int (.slice (.slice .int)))))))]) (r : dens [.mv (.slice .bool) 1]) : (List (List Bool)) := r
noncomputable def E_39 : Entry where
 params := [.v (.slice .int), .v .int]
 results := [.v .bool]
 B := Bool
 run := fun a => spec_l1Has a.1 a.2
 out := fun b => ((), ())
 res := fun b => b
noncomputable def S_39L2 (n : Nat) : LoopSpec where
 sh := [(0, .v (.slice .int)), (1, .v .int), (5, .v .int)]
 ex := [(.exit 0, []), (.ret, [(4, .v .bool)])]
 run := spec_l1Has_L2 n
noncomputable def C_39 : Cx where
 tt := tblTT tt
 T := tblT []
 L := tblL [(2, S_39L2 fuel)]
 dep := fun i => 0
 n := 2
noncomputable def B_39L2 : Code := (Try.f154.body.bind (loopBody 2)).getD .skip
noncomputable def D_39 : Code := Try.f154.body.getD .skip
noncomputable def N_39 (_ : outs [.v (.slice .int), .v .int]) (r : dens [.v .bool]) : Bool := r
noncomputable def E_40 : Entry where
 params := [.v (.slice (.slice .bool)), .v (.slice .int)]
 results := [.mv .int 0, .v .bool]
 B := (List Int) × Bool
 run := fun a => spec_l22Closed a.1 a.2
 out := fun b => ((), ())
 res := fun b => (b.1, b.2)
noncomputable def S_40L6 (n : Nat) : LoopSpec where
 sh := [(0, .v (.slice (.slice .bool))), (6, .mv .int 0), (7, .v .int), (8, .v .int)]
 ex := [(.exit 2, [(0, .v (.slice (.slice .bool))), (6, .mv .int 0), (7, .v .int)])]
 run := spec_l22Closed_L6 n
noncomputable def S_40L3 (n : Nat) : LoopSpec where
 sh := [(0, .v (.slice (.slice .bool))), (6, .mv .int 0), (7, .v .int)]
 ex := [(.exit 0, [(6, .mv .int 0)])]
 run := spec_l22Closed_L3 n
noncomputable def S_40L11 (n : Nat) : LoopSpec where
 sh := [(6, .mv .int 0), (9, .v .int)]
 ex := [(.exit 4, [(6, .mv .int 0)]), (.ret, [(4, .mv .int 0), (5, .v .bool)])]
 run := spec_l22Closed_L11 n
noncomputable def C_40 : Cx where
 tt := tblTT tt
 T := tblT [(66, E_29), (154, E_39)]
 L := tblL [(6, S_40L6 fuel), (3, S_40L3 fuel), (11, S_40L11 fuel)]
 dep := fun i => 0
 n := 2
noncomputable def B_40L6 : Code := (Try.f155.body.bind (loopBody 6)).getD .skip
noncomputable def B_40L3 : Code := (Try.f155.body.bind (loopBody 3)).getD .skip
noncomputable def B_40L11 : Code := (Try.f155.body.bind (loopBody 11)).getD .skip
noncomputable def D_40 : Code := Try.f155.body.getD .skip
noncomputable def N_40 (_ : outs [.v (.slice (.slice .bool)), .v (.slice .int)]) (r : dens [.mv .int 0, .v .bool]) : (List Int) × Bool := (r.1, r.2)
noncomputable def E_41 : Entry where
 params := [.v (.pair .int (.pair .int (.slice (.pair (.slice .int) (.pair .int (.slice (.slice .int)))))))]
 results := [.mv .int 0, .v .bool]
 B := (List Int) × Bool
 run := fun a => spec_l22Pairs a
 out := fun b => ()
 res := fun b => (b.1, b.2)
noncomputable def S_41L2 (n : Nat) : LoopSpec where
 sh := [(1, .bx (.v (.pair .int (.pair .int (.slice (.pair (.slice .int) (.pair .int (.slice (.slice .int))))))))), (4, .v .int)]
 ex := [(.exit 0, [(1, .bx (.v (.pair .int (.pair .int (.slice (.pair (.slice .int) (.pair .int (.slice (.slice .int)))))))))]), (.ret, [(2, .mv .int 0), (3, .v .bool)])]
 run := spec_l22Pairs_L2 n
noncomputable def S_41L8 (n : Nat) : LoopSpec where
 sh := [(1, .bx (.v (.pair .int (.pair .int (.slice (.pair (.slice .int) (.pair .int (.slice (.slice .int))))))))), (5, .mv (.slice .bool) 1), (6, .mv .int 0), (7, .v .int)]
 ex := [(.exit 2, [(1, .bx (.v (.pair .int (.pair .int (.slice (.pair (.slice .int) (.pair .int (.slice (.slice .int))))))))), (6, .mv .int 0)]), (.ret, [(2, .mv .int 0), (3, .v .bool)])]
 run := spec_l22Pairs_L8 n
noncomputable def S_41L19 (n : Nat) : LoopSpec where
 sh := [(1, .bx (.v (.pair .int (.pair .int (.slice (.pair (.slice .int) (.pair .int (.slice (.slice .int))))))))), (6, .mv .int 0), (10, .mv .int 0), (11, .v .int)]
 ex := [(.exit 4, [(10, .mv .int 0)])]
 run := spec_l22Pairs_L19 n
noncomputable def C_41 : Cx where
 tt := tblTT tt
 T := tblT [(66, E_29), (153, E_38), (154, E_39), (155, E_40)]
 L := tblL [(2, S_41L2 fuel), (8, S_41L8 fuel), (19, S_41L19 fuel)]
 dep := fun i => 0
 n := 1
noncomputable def B_41L2 : Code := (Try.f105.body.bind (loopBody 2)).getD .skip
noncomputable def B_41L8 : Code := (Try.f105.body.bind (loopBody 8)).getD .skip
noncomputable def B_41L19 : Code := (Try.f105.body.bind (loopBody 19)).getD .skip
noncomputable def D_41 : Code := Try.f105.body.getD .skip
noncomputable def N_41 (_ : outs [.v (.pair .int (.pair .int (.slice (.pair (.slice .int) (.pair .int (.slice (.slice .int)))))))]) (r : dens [.mv .int 0, .v .bool]) : (List Int) × Bool := (r.1, r.2)
noncomputable def E_42 : Entry where
 params := [.v (.pair .int (.pair .int (.slice (.pair (.slice .int) (.pair .int (.slice (.slice .int)))))))]
 results := [.mv .int 0, .v .bool, .v .bool]
 B := (List Int) × Bool × Bool
 run := fun a => spec_PairsAssignment a
 out := fun b => ()
 res := fun b => (b.1, b.2.1, b.2.2)
noncomputable def C_42 : Cx where
 tt := tblTT tt
 T := tblT [(103, E_21), (104, E_34), (105, E_41)]
 L := tblL []
 dep := fun i => 0
 n := 1
noncomputable def D_42 : Code := Try.f38.body.getD .skip
noncomputable def N_42 (_ : outs [.v (.pair .int (.pair .int (.slice (.pair (.slice .int) (.pair .int (.slice (.slice .int)))))))]) (r : dens [.mv .int 0, .v .bool, .v .bool]) : (List Int) × Bool × Bool := (r.1, r.2.1, r.2.2)
noncomputable def E_43 : Entry where
 params := [.v .int]
 results := [.v .bool]
 B := Bool
 run := fun a => impl_isTemplateSize a
 out := fun b => ()
 res := fun b => b
noncomputable def C_43 : Cx where
 tt := tblTT tt
 T := tblT []
 L := tblL []
 dep := fun i => 0
 n := 1
noncomputable def D_43 : Code := Try.f112.body.getD .skip
noncomputable def N_43 (_ : outs [.v .int]) (r : dens [.v .bool]) : Bool := r
noncomputable def E_44 : Entry where
 params := [.v (.slice .int), .v .int]
 results := [.v .bool]
 B := Bool
 run := fun a => impl_inSize a.1 a.2
 out := fun b => ((), ())
 res := fun b => b
noncomputable def S_44L2 (n : Nat) : LoopSpec where
 sh := [(1, .v .int), (7, .v (.slice .int)), (8, .v .int), (9, .v .int)]
 ex := [(.exit 0, []), (.ret, [(4, .v .bool)])]
 run := impl_inSize_L2 n
noncomputable def C_44 : Cx where
 tt := tblTT tt
 T := tblT []
 L := tblL [(2, S_44L2 fuel)]
 dep := fun i => 0
 n := 2
noncomputable def B_44L2 : Code := (Try.f77.body.bind (loopBody 2)).getD .skip
noncomputable def D_44 : Code := Try.f77.body.getD .skip
noncomputable def N_44 (_ : outs [.v (.slice .int), .v .int]) (r : dens [.v .bool]) : Bool := r
noncomputable def E_45 : Entry where
 params := [.v (.slice .int), .v (.slice .int)]
 results := [.v .int]
 B := Int
 run := fun a => impl_compareLists a.1 a.2
 out := fun b => ((), ())
 res := fun b => b
noncomputable def S_45L2 (n : Nat) : LoopSpec where
 sh := [(0, .v (.slice .int)), (1, .v (.slice .int)), (5, .v .int)]
 ex := [(.exit 0, [(0, .v (.slice .int)), (1, .v (.slice .int))]), (.ret, [(4, .v .int)])]
 run := impl_compareLists_L2 n
noncomputable def C_45 : Cx where
 tt := tblTT tt
 T := tblT []
 L := tblL [(2, S_45L2 fuel)]
 dep := fun i => 0
 n := 2
noncomputable def B_45L2 : Code := (Try.f190.body.bind (loopBody 2)).getD .skip
noncomputable def D_45 : Code := Try.f190.body.getD .skip
noncomputable def N_45 (_ : outs [.v (.slice .int), .v (.slice .int)]) (r : dens [.v .int]) : Int := r
noncomputable def E_46 : Entry where
 params := [.v .int, .v (.pair .int (.slice (.slice .int)))]
 results := [.v .bool]
 B := Bool
 run := fun a => impl_isRelation a.1 a.2
 out := fun b => ((), ())
 res := fun b => b
noncomputable def S_46L4 (n : Nat) : LoopSpec where
 sh := [(0, .v .int), (3, .bx (.v (.pair .int (.slice (.slice .int))))), (16, .v (.slice (.slice .int))), (17, .v .int), (18, .v .int)]
 ex := [(.exit 0, []), (.ret, [(4, .v .bool)])]
 run := impl_isRelation_L4 n
noncomputable def C_46 : Cx where
 tt := tblTT tt
 T := tblT [(77, E_44), (190, E_45)]
 L := tblL [(4, S_46L4 fuel)]
 dep := fun i => 0
 n := 2
noncomputable def B_46L4 : Code := (Try.f165.body.bind (loopBody 4)).getD .skip
noncomputable def D_46 : Code := Try.f165.body.getD .skip
noncomputable def N_46 (_ : outs [.v .int, .v (.pair .int (.slice (.slice .int)))]) (r : dens [.v .bool]) : Bool := r
noncomputable def E_47 : Entry where
 params := [.v .int, .v .int, .v (.pair (.slice .int) (.pair .int (.slice (.slice .int))))]
 results := [.v .bool]
 B := Bool
 run := fun a => impl_isConstraint a.1 a.2.1 a.2.2
 out := fun b => ((), (), ())
 res := fun b => b
noncomputable def C_47 : Cx where
 tt := tblTT tt
 T := tblT [(77, E_44), (165, E_46)]
 L := tblL []
 dep := fun i => 0
 n := 3
noncomputable def D_47 : Code := Try.f144.body.getD .skip
noncomputable def N_47 (_ : outs [.v .int, .v .int, .v (.pair (.slice .int) (.pair .int (.slice (.slice .int))))]) (r : dens [.v .bool]) : Bool := r
noncomputable def E_48 : Entry where
 params := [.v (.pair .int (.pair .int (.slice (.pair (.slice .int) (.pair .int (.slice (.slice .int)))))))]
 results := [.v .bool]
 B := Bool
 run := fun a => impl_IsNetwork a
 out := fun b => ()
 res := fun b => b
noncomputable def S_48L4 (n : Nat) : LoopSpec where
 sh := [(1, .bx (.v (.pair .int (.pair .int (.slice (.pair (.slice .int) (.pair .int (.slice (.slice .int))))))))), (26, .v (.slice (.pair (.slice .int) (.pair .int (.slice (.slice .int)))))), (27, .v .int), (28, .v .int)]
 ex := [(.exit 0, []), (.ret, [(2, .v .bool)])]
 run := impl_IsNetwork_L4 n
noncomputable def C_48 : Cx where
 tt := tblTT tt
 T := tblT [(112, E_43), (144, E_47)]
 L := tblL [(4, S_48L4 fuel)]
 dep := fun i => 0
 n := 1
noncomputable def B_48L4 : Code := (Try.f95.body.bind (loopBody 4)).getD .skip
noncomputable def D_48 : Code := Try.f95.body.getD .skip
noncomputable def N_48 (_ : outs [.v (.pair .int (.pair .int (.slice (.pair (.slice .int) (.pair .int (.slice (.slice .int)))))))]) (r : dens [.v .bool]) : Bool := r
noncomputable def E_49 : Entry where
 params := [.v (.pair .int (.pair .int (.slice (.pair (.slice .int) (.pair .int (.slice (.slice .int)))))))]
 results := [.v .bool]
 B := Bool
 run := fun a => impl_isBoolean a
 out := fun b => ()
 res := fun b => b
noncomputable def C_49 : Cx where
 tt := tblTT tt
 T := tblT [(95, E_48)]
 L := tblL []
 dep := fun i => 0
 n := 1
noncomputable def D_49 : Code := Try.f156.body.getD .skip
noncomputable def N_49 (_ : outs [.v (.pair .int (.pair .int (.slice (.pair (.slice .int) (.pair .int (.slice (.slice .int)))))))]) (r : dens [.v .bool]) : Bool := r
noncomputable def E_50 : Entry where
 params := [.v .int, .v .int]
 results := [.mv .int 0]
 B := (List Int)
 run := fun a => impl_constantTuple a.1 a.2
 out := fun b => ((), ())
 res := fun b => b
noncomputable def S_50L3 (n : Nat) : LoopSpec where
 sh := [(1, .v .int), (5, .mv .int 0), (10, .v .int), (11, .v .int)]
 ex := [(.exit 0, [(5, .mv .int 0)])]
 run := impl_constantTuple_L3 n
noncomputable def C_50 : Cx where
 tt := tblTT tt
 T := tblT []
 L := tblL [(3, S_50L3 fuel)]
 dep := fun i => 0
 n := 2
noncomputable def B_50L3 : Code := (Try.f187.body.bind (loopBody 3)).getD .skip
noncomputable def D_50 : Code := Try.f187.body.getD .skip
noncomputable def N_50 (_ : outs [.v .int, .v .int]) (r : dens [.mv .int 0]) : (List Int) := r
noncomputable def E_51 : Entry where
 params := [.v (.slice .int), .v (.slice .int)]
 results := [.v .bool]
 B := Bool
 run := fun a => impl_sameList a.1 a.2
 out := fun b => ((), ())
 res := fun b => b
noncomputable def S_51L4 (n : Nat) : LoopSpec where
 sh := [(1, .v (.slice .int)), (12, .v (.slice .int)), (13, .v .int), (14, .v .int)]
 ex := [(.exit 0, []), (.ret, [(4, .v .bool)])]
 run := impl_sameList_L4 n
noncomputable def C_51 : Cx where
 tt := tblTT tt
 T := tblT []
 L := tblL [(4, S_51L4 fuel)]
 dep := fun i => 0
 n := 2
noncomputable def B_51L4 : Code := (Try.f197.body.bind (loopBody 4)).getD .skip
noncomputable def D_51 : Code := Try.f197.body.getD .skip
noncomputable def N_51 (_ : outs [.v (.slice .int), .v (.slice .int)]) (r : dens [.v .bool]) : Bool := r
noncomputable def E_52 : Entry where
 params := [.v (.pair .int (.slice (.slice .int))), .v (.slice .int)]
 results := [.v .bool]
 B := Bool
 run := fun a => impl_hasRow a.1 a.2
 out := fun b => ((), ())
 res := fun b => b
noncomputable def S_52L2 (n : Nat) : LoopSpec where
 sh := [(1, .v (.slice .int)), (8, .v (.slice (.slice .int))), (9, .v .int), (10, .v .int)]
 ex := [(.exit 0, []), (.ret, [(4, .v .bool)])]
 run := impl_hasRow_L2 n
noncomputable def C_52 : Cx where
 tt := tblTT tt
 T := tblT [(197, E_51)]
 L := tblL [(2, S_52L2 fuel)]
 dep := fun i => 0
 n := 2
noncomputable def B_52L2 : Code := (Try.f186.body.bind (loopBody 2)).getD .skip
noncomputable def D_52 : Code := Try.f186.body.getD .skip
noncomputable def N_52 (_ : outs [.v (.pair .int (.slice (.slice .int))), .v (.slice .int)]) (r : dens [.v .bool]) : Bool := r
noncomputable def E_53 : Entry where
 params := [.v .int, .v .int, .v .int]
 results := [.v .int]
 B := Int
 run := fun a => impl_booleanOps_c1 a.1 a.2.1 a.2.2
 out := fun b => ((), (), ())
 res := fun b => b
noncomputable def C_53 : Cx where
 tt := tblTT tt
 T := tblT []
 L := tblL []
 dep := fun i => 0
 n := 3
noncomputable def D_53 : Code := Try.f199.body.getD .skip
noncomputable def N_53 (_ : outs [.v .int, .v .int, .v .int]) (r : dens [.v .int]) : Int := r
noncomputable def E_54 : Entry where
 params := [.v .int, .v (.fn 199)]
 results := [.pr (.v .int) (.mv .int 0)]
 B := (Int × (List Int))
 run := fun a => impl_ternary_impl_booleanOps_c1 a.1 a.2
 out := fun b => ((), ())
 res := fun b => b
noncomputable def S_54L3 (n : Nat) : LoopSpec where
 sh := [(0, .v .int), (1, .v (.fn 199)), (4, .bx (.pr (.v .int) (.mv .int 0))), (5, .bx (.pr (.v .int) (.mv .int 0))), (6, .v .int)]
 ex := [(.exit 0, [(4, .bx (.pr (.v .int) (.mv .int 0))), (5, .bx (.pr (.v .int) (.mv .int 0)))])]
 run := impl_ternary_impl_booleanOps_c1_L3 n
noncomputable def C_54 : Cx where
 tt := tblTT tt
 T := tblT [(199, E_53)]
 L := tblL [(3, S_54L3 fuel)]
 dep := fun i => 0
 n := 2
noncomputable def B_54L3 : Code := (Try.f198.body.bind (loopBody 3)).getD .skip
noncomputable def D_54 : Code := Try.f198.body.getD .skip
noncomputable def N_54 (_ : outs [.v .int, .v (.fn 199)]) (r : dens [.pr (.v .int) (.mv .int 0)]) : (Int × (List Int)) := r
noncomputable def E_55 : Entry where
 params := [.v .int, .v .int, .v .int]
 results := [.v .int]
 B := Int
 run := fun a => impl_booleanOps_c2 a.1 a.2.1 a.2.2
 out := fun b => ((), (), ())
 res := fun b => b
noncomputable def C_55 : Cx where
 tt := tblTT tt
 T := tblT []
 L := tblL []
 dep := fun i => 0
 n := 3
noncomputable def D_55 : Code := Try.f200.body.getD .skip
noncomputable def N_55 (_ : outs [.v .int, .v .int, .v .int]) (r : dens [.v .int]) : Int := r
noncomputable def E_56 : Entry where
 params := [.v .int, .v (.fn 200)]
 results := [.pr (.v .int) (.mv .int 0)]
 B := (Int × (List Int))
 run := fun a => impl_ternary_impl_booleanOps_c2 a.1 a.2
 out := fun b => ((), ())
 res := fun b => b
noncomputable def S_56L3 (n : Nat) : LoopSpec where
 sh := [(0, .v .int), (1, .v (.fn 200)), (4, .bx (.pr (.v .int) (.mv .int 0))), (5, .bx (.pr (.v .int) (.mv .int 0))), (6, .v .int)]
 ex := [(.exit 0, [(4, .bx (.pr (.v .int) (.mv .int 0))), (5, .bx (.pr (.v .int) (.mv .int 0)))])]
 run := impl_ternary_impl_booleanOps_c2_L3 n
noncomputable def C_56 : Cx where
 tt := tblTT tt
 T := tblT [(200, E_55)]
 L := tblL [(3, S_56L3 fuel)]
 dep := fun i => 0
 n := 2
noncomputable def B_56L3 : Code := (Try.f198.body.bind (loopBody 3)).getD .skip
noncomputable def D_56 : Code := Try.f198.body.getD .skip
noncomputable def N_56 (_ : outs [.v .int, .v (.fn 200)]) (r : dens [.pr (.v .int) (.mv .int 0)]) : (Int × (List Int)) := r
noncomputable def E_57 : Entry where
 params := []
 results := [.mv (.pair .int (.slice .int)) 1]
 B := (List (Int × (List Int)))
 run := fun a => impl_booleanOps
 out := fun b => ()
 res := fun b => b
noncomputable def C_57 : Cx where
 tt := tblTT tt
 T := tblT [(13107398, E_54), (13172934, E_56)]
 L := tblL []
 dep := fun i => match i with
  | 11 => 1
  | _ => 0
 n := 0
noncomputable def D_57 : Code := Try.f188.body.getD .skip
noncomputable def N_57 (_ : outs []) (r : dens [.mv (.pair .int (.slice .int)) 1]) : (List (Int × (List Int))) := r
noncomputable def E_58 : Entry where
 params := [.v (.slice .int)]
 results := [.v .str]
 B := ByteArray
 run := fun a => impl_keyOf a
 out := fun b => ()
 res := fun b => b
noncomputable def S_58L3 (n : Nat) : LoopSpec where
 sh := [(3, .mv (.num .u8) 0), (10, .v (.slice .int)), (11, .v .int), (12, .v .int)]
 ex := [(.exit 0, [(3, .mv (.num .u8) 0)])]
 run := impl_keyOf_L3 n
noncomputable def C_58 : Cx where
 tt := tblTT tt
 T := tblT []
 L := tblL [(3, S_58L3 fuel)]
 dep := fun i => 0
 n := 1
noncomputable def B_58L3 : Code := (Try.f119.body.bind (loopBody 3)).getD .skip
noncomputable def D_58 : Code := Try.f119.body.getD .skip
noncomputable def N_58 (_ : outs [.v (.slice .int)]) (r : dens [.v .str]) : ByteArray := r
noncomputable def E_59 : Entry where
 params := [.v (.pair .int (.slice (.slice .int)))]
 results := [.v .smap]
 B := (List ByteArray)
 run := fun a => impl_tupleSet a
 out := fun b => ()
 res := fun b => b
noncomputable def S_59L3 (n : Nat) : LoopSpec where
 sh := [(3, .mp), (8, .v (.slice (.slice .int))), (9, .v .int), (10, .v .int)]
 ex := [(.exit 0, [(3, .mp)])]
 run := impl_tupleSet_L3 n
noncomputable def C_59 : Cx where
 tt := tblTT tt
 T := tblT [(119, E_58)]
 L := tblL [(3, S_59L3 fuel)]
 dep := fun i => 0
 n := 1
noncomputable def B_59L3 : Code := (Try.f117.body.bind (loopBody 3)).getD .skip
noncomputable def D_59 : Code := Try.f117.body.getD .skip
noncomputable def N_59 (_ : outs [.v (.pair .int (.slice (.slice .int)))]) (r : dens [.v .smap]) : (List ByteArray) := r
noncomputable def E_60 : Entry where
 params := [.v .int, .v .int]
 results := [.v .int]
 B := Int
 run := fun a => impl_power a.1 a.2
 out := fun b => ((), ())
 res := fun b => b
noncomputable def S_60L2 (n : Nat) : LoopSpec where
 sh := [(0, .v .int), (1, .v .int), (5, .v .int)]
 ex := [(.exit 0, [(5, .v .int)])]
 run := impl_power_L2 n
noncomputable def C_60 : Cx where
 tt := tblTT tt
 T := tblT []
 L := tblL [(2, S_60L2 fuel)]
 dep := fun i => 0
 n := 2
noncomputable def B_60L2 : Code := (Try.f50.body.bind (loopBody 2)).getD .skip
noncomputable def D_60 : Code := Try.f50.body.getD .skip
noncomputable def N_60 (_ : outs [.v .int, .v .int]) (r : dens [.v .int]) : Int := r
noncomputable def E_61 : Entry where
 params := [.v .int, .v (.pair .int (.slice .int)), .v (.pair .int (.slice (.slice .int)))]
 results := [.mv .int 0, .mv .int 0, .v .bool]
 B := (List Int) × (List Int) × Bool
 run := fun a => impl_firstBreak a.1 a.2.1 a.2.2
 out := fun b => ((), (), ())
 res := fun b => (b.1, b.2.1, b.2.2)
noncomputable def S_61L10 (n : Nat) : LoopSpec where
 sh := [(0, .v .int), (4, .bx (.v (.pair .int (.slice .int)))), (5, .bx (.v (.pair .int (.slice (.slice .int))))), (9, .v .smap), (10, .v .int), (11, .mv .int 0), (12, .mv .int 0), (13, .v .int), (14, .v .int), (15, .v .int)]
 ex := [(.exit 2, [(0, .v .int), (4, .bx (.v (.pair .int (.slice .int)))), (5, .bx (.v (.pair .int (.slice (.slice .int))))), (9, .v .smap), (10, .v .int), (11, .mv .int 0), (12, .mv .int 0), (13, .v .int)])]
 run := impl_firstBreak_L10 n
noncomputable def S_61L19 (n : Nat) : LoopSpec where
 sh := [(786493, .jk 1), (0, .v .int), (4, .bx (.v (.pair .int (.slice .int)))), (5, .bx (.v (.pair .int (.slice (.slice .int))))), (9, .v .smap), (10, .v .int), (11, .mv .int 0), (12, .mv .int 0), (13, .v .int), (16, .v .int), (17, .v .int), (57, .v .int), (58, .v .int), (62, .v .int), (63, .v .int)]
 ex := [(.exit 6, [(0, .v .int), (4, .bx (.v (.pair .int (.slice .int)))), (5, .bx (.v (.pair .int (.slice (.slice .int))))), (9, .v .smap), (10, .v .int), (11, .mv .int 0), (12, .mv .int 0), (13, .v .int), (16, .v .int), (17, .v .int), (57, .v .int), (58, .v .int)])]
 run := impl_firstBreak_L19 n
noncomputable def S_61L15 (n : Nat) : LoopSpec where
 sh := [(0, .v .int), (4, .bx (.v (.pair .int (.slice .int)))), (5, .bx (.v (.pair .int (.slice (.slice .int))))), (9, .v .smap), (10, .v .int), (11, .mv .int 0), (12, .mv .int 0), (13, .v .int), (57, .v .int), (58, .v .int)]
 ex := [(.exit 4, [(0, .v .int), (4, .bx (.v (.pair .int (.slice .int)))), (5, .bx (.v (.pair .int (.slice (.slice .int))))), (9, .v .smap), (10, .v .int), (11, .mv .int 0), (12, .mv .int 0), (13, .v .int)])]
 run := impl_firstBreak_L15 n
noncomputable def S_61L6 (n : Nat) : LoopSpec where
 sh := [(0, .v .int), (4, .bx (.v (.pair .int (.slice .int)))), (5, .bx (.v (.pair .int (.slice (.slice .int))))), (9, .v .smap), (10, .v .int), (11, .mv .int 0), (12, .mv .int 0), (13, .v .int)]
 ex := [(.exit 0, []), (.ret, [(6, .mv .int 0), (7, .mv .int 0), (8, .v .bool)])]
 run := impl_firstBreak_L6 n
noncomputable def C_61 : Cx where
 tt := tblTT tt
 T := tblT [(50, E_60), (117, E_59), (119, E_58)]
 L := tblL [(10, S_61L10 fuel), (19, S_61L19 fuel), (15, S_61L15 fuel), (6, S_61L6 fuel)]
 dep := fun i => 0
 n := 3
noncomputable def B_61L10 : Code := (Try.f122.body.bind (loopBody 10)).getD .skip
noncomputable def B_61L19 : Code := (Try.f122.body.bind (loopBody 19)).getD .skip
noncomputable def B_61L15 : Code := (Try.f122.body.bind (loopBody 15)).getD .skip
noncomputable def B_61L6 : Code := (Try.f122.body.bind (loopBody 6)).getD .skip
noncomputable def D_61 : Code := Try.f122.body.getD .skip
noncomputable def N_61 (_ : outs [.v .int, .v (.pair .int (.slice .int)), .v (.pair .int (.slice (.slice .int)))]) (r : dens [.mv .int 0, .mv .int 0, .v .bool]) : (List Int) × (List Int) × Bool := (r.1, r.2.1, r.2.2)
noncomputable def E_62 : Entry where
 params := [.v .int, .v (.slice (.pair .int (.slice (.slice .int)))), .v (.pair .int (.slice .int))]
 results := [.v .bool]
 B := Bool
 run := fun a => impl_keepsAll a.1 a.2.1 a.2.2
 out := fun b => ((), (), ())
 res := fun b => b
noncomputable def S_62L2 (n : Nat) : LoopSpec where
 sh := [(0, .v .int), (5, .bx (.v (.pair .int (.slice .int)))), (12, .v (.slice (.pair .int (.slice (.slice .int))))), (13, .v .int), (14, .v .int)]
 ex := [(.exit 0, []), (.ret, [(6, .v .bool)])]
 run := impl_keepsAll_L2 n
noncomputable def C_62 : Cx where
 tt := tblTT tt
 T := tblT [(122, E_61)]
 L := tblL [(2, S_62L2 fuel)]
 dep := fun i => 0
 n := 3
noncomputable def B_62L2 : Code := (Try.f60.body.bind (loopBody 2)).getD .skip
noncomputable def D_62 : Code := Try.f60.body.getD .skip
noncomputable def N_62 (_ : outs [.v .int, .v (.slice (.pair .int (.slice (.slice .int)))), .v (.pair .int (.slice .int))]) (r : dens [.v .bool]) : Bool := r
noncomputable def E_63 : Entry where
 params := [.v (.slice (.pair (.slice .int) (.pair .int (.slice (.slice .int)))))]
 results := [.mv .bool 0]
 B := (List Bool)
 run := fun a => impl_booleanClasses a
 out := fun b => ()
 res := fun b => b
noncomputable def S_63L6 (n : Nat) : LoopSpec where
 sh := [(3, .mv .bool 0), (5, .bx (.v (.pair (.slice .int) (.pair .int (.slice (.slice .int)))))), (6, .v .int), (10, .v (.slice (.pair (.slice .int) (.pair .int (.slice (.slice .int)))))), (11, .v .int), (12, .v .int)]
 ex := [(.exit 2, [(3, .mv .bool 0), (5, .bx (.v (.pair (.slice .int) (.pair .int (.slice (.slice .int)))))), (10, .v (.slice (.pair (.slice .int) (.pair .int (.slice (.slice .int)))))), (11, .v .int), (12, .v .int)])]
 run := impl_booleanClasses_L6 n
noncomputable def S_63L10 (n : Nat) : LoopSpec where
 sh := [(3, .mv .bool 0), (5, .bx (.v (.pair (.slice .int) (.pair .int (.slice (.slice .int)))))), (10, .v (.slice (.pair (.slice .int) (.pair .int (.slice (.slice .int)))))), (11, .v .int), (12, .v .int), (37, .mv (.pair .int (.slice .int)) 1), (38, .v .int), (39, .v .int)]
 ex := [(.exit 4, [(3, .mv .bool 0), (10, .v (.slice (.pair (.slice .int) (.pair .int (.slice (.slice .int)))))), (11, .v .int), (12, .v .int)])]
 run := impl_booleanClasses_L10 n
noncomputable def S_63L3 (n : Nat) : LoopSpec where
 sh := [(3, .mv .bool 0), (10, .v (.slice (.pair (.slice .int) (.pair .int (.slice (.slice .int)))))), (11, .v .int), (12, .v .int)]
 ex := [(.exit 0, [(3, .mv .bool 0)])]
 run := impl_booleanClasses_L3 n
noncomputable def C_63 : Cx where
 tt := tblTT tt
 T := tblT [(60, E_62), (186, E_52), (187, E_50), (188, E_57)]
 L := tblL [(6, S_63L6 fuel), (10, S_63L10 fuel), (3, S_63L3 fuel)]
 dep := fun i => 0
 n := 1
noncomputable def B_63L6 : Code := (Try.f157.body.bind (loopBody 6)).getD .skip
noncomputable def B_63L10 : Code := (Try.f157.body.bind (loopBody 10)).getD .skip
noncomputable def B_63L3 : Code := (Try.f157.body.bind (loopBody 3)).getD .skip
noncomputable def D_63 : Code := Try.f157.body.getD .skip
noncomputable def N_63 (_ : outs [.v (.slice (.pair (.slice .int) (.pair .int (.slice (.slice .int)))))]) (r : dens [.mv .bool 0]) : (List Bool) := r
noncomputable def E_64 : Entry where
 params := [.v (.pair .int (.pair .int (.slice (.pair (.slice .int) (.pair .int (.slice (.slice .int))))))), .v .int]
 results := [.v .bool]
 B := Bool
 run := fun a => impl_inClass a.1 a.2
 out := fun b => ((), ())
 res := fun b => b
noncomputable def C_64 : Cx where
 tt := tblTT tt
 T := tblT [(156, E_49), (157, E_63)]
 L := tblL []
 dep := fun i => 0
 n := 2
noncomputable def D_64 : Code := Try.f106.body.getD .skip
noncomputable def N_64 (_ : outs [.v (.pair .int (.pair .int (.slice (.pair (.slice .int) (.pair .int (.slice (.slice .int))))))), .v .int]) (r : dens [.v .bool]) : Bool := r
noncomputable def E_65 : Entry where
 params := [.v .int]
 results := [.mv .int 0]
 B := (List Int)
 run := fun a => impl_freeTable a
 out := fun b => ()
 res := fun b => b
noncomputable def S_65L3 (n : Nat) : LoopSpec where
 sh := [(3, .mv .int 0), (8, .v .int), (9, .v .int)]
 ex := [(.exit 0, [(3, .mv .int 0)])]
 run := impl_freeTable_L3 n
noncomputable def C_65 : Cx where
 tt := tblTT tt
 T := tblT []
 L := tblL [(3, S_65L3 fuel)]
 dep := fun i => 0
 n := 1
noncomputable def B_65L3 : Code := (Try.f49.body.bind (loopBody 3)).getD .skip
noncomputable def D_65 : Code := Try.f49.body.getD .skip
noncomputable def N_65 (_ : outs [.v .int]) (r : dens [.mv .int 0]) : (List Int) := r
noncomputable def E_66 : Entry where
 params := [.v (.pair .int (.pair .int (.slice (.pair (.slice .int) (.pair .int (.slice (.slice .int)))))))]
 results := [.v (.ptr (.pair .int (.pair (.slice (.slice (.slice .int))) (.slice (.slice .smap)))))]
 B := (Bool × Int × (List (List (List Int))) × (List (List (List ByteArray))))
 run := fun a => impl_newNetSearch a
 out := fun b => ()
 res := fun b => b
noncomputable def S_66L7 (n : Nat) : LoopSpec where
 sh := [(3, .bx (.pr (.v .int) (.pr (.mv (.slice (.slice .int)) 1) (.mv (.slice .smap) 1)))), (5, .bx (.v (.pair (.slice .int) (.pair .int (.slice (.slice .int)))))), (6, .v .int), (20, .v (.slice (.pair (.slice .int) (.pair .int (.slice (.slice .int)))))), (21, .v .int), (22, .v .int), (27, .v (.slice .int)), (28, .v .int), (29, .v .int)]
 ex := [(.exit 2, [(3, .bx (.pr (.v .int) (.pr (.mv (.slice (.slice .int)) 1) (.mv (.slice .smap) 1)))), (5, .bx (.v (.pair (.slice .int) (.pair .int (.slice (.slice .int)))))), (6, .v .int), (20, .v (.slice (.pair (.slice .int) (.pair .int (.slice (.slice .int)))))), (21, .v .int), (22, .v .int)])]
 run := impl_newNetSearch_L7 n
noncomputable def S_66L3 (n : Nat) : LoopSpec where
 sh := [(3, .bx (.pr (.v .int) (.pr (.mv (.slice (.slice .int)) 1) (.mv (.slice .smap) 1)))), (20, .v (.slice (.pair (.slice .int) (.pair .int (.slice (.slice .int)))))), (21, .v .int), (22, .v .int)]
 ex := [(.exit 0, [(3, .bx (.pr (.v .int) (.pr (.mv (.slice (.slice .int)) 1) (.mv (.slice .smap) 1))))])]
 run := impl_newNetSearch_L3 n
noncomputable def C_66 : Cx where
 tt := tblTT tt
 T := tblT [(117, E_59)]
 L := tblL [(7, S_66L7 fuel), (3, S_66L3 fuel)]
 dep := fun i => match i with
  | 13 => 1
  | 16 => 1
  | _ => 0
 n := 1
 fine := true
noncomputable def B_66L7 : Code := (Try.f145.body.bind (loopBody 7)).getD .skip
noncomputable def B_66L3 : Code := (Try.f145.body.bind (loopBody 3)).getD .skip
noncomputable def D_66 : Code := Try.f145.body.getD .skip
noncomputable def N_66 (_ : outs [.v (.pair .int (.pair .int (.slice (.pair (.slice .int) (.pair .int (.slice (.slice .int)))))))]) (r : dens [.v (.ptr (.pair .int (.pair (.slice (.slice (.slice .int))) (.slice (.slice .smap)))))]) : (Bool × Int × (List (List (List Int))) × (List (List (List ByteArray)))) := r
noncomputable def E_67 : Entry where
 params := [.v (.slice .int)]
 results := [.nv .int 0]
 B := (Bool × (List Int))
 run := fun a => impl_clone_b a
 out := fun b => ()
 res := fun b => b
noncomputable def C_67 : Cx where
 tt := tblTT tt
 T := tblT []
 L := tblL []
 dep := fun i => 0
 n := 1
noncomputable def D_67 : Code := Try.f83.body.getD .skip
noncomputable def N_67 (_ : outs [.v (.slice .int)]) (r : dens [.nv .int 0]) : (Bool × (List Int)) := r
noncomputable def E_68 : Entry where
 params := [.v (.slice .int), .bx (.nv .int 0)]
 results := [.v .bool]
 B := (Bool × (List Int)) × Bool
 run := fun a => impl_firstSolution_c1 a.1 a.2
 out := fun b => ((), b.1)
 res := fun b => b.2
noncomputable def C_68 : Cx where
 tt := tblTT tt
 T := tblT [(83, E_67)]
 L := tblL []
 dep := fun i => 0
 n := 2
noncomputable def D_68 : Code := Try.f189.body.getD .skip
noncomputable def N_68 (o : outs [.v (.slice .int), .bx (.nv .int 0)]) (r : dens [.v .bool]) : (Bool × (List Int)) × Bool := (o.2, r)
noncomputable def E_69 : Entry where
 params := [.v (.slice .int), .v (.slice .int)]
 results := [.mv .int 0]
 B := (List Int)
 run := fun a => impl_compose a.1 a.2
 out := fun b => ((), ())
 res := fun b => b
noncomputable def S_69L3 (n : Nat) : LoopSpec where
 sh := [(1, .v (.slice .int)), (5, .mv .int 0), (11, .v (.slice .int)), (12, .v .int), (13, .v .int)]
 ex := [(.exit 0, [(5, .mv .int 0)])]
 run := impl_compose_L3 n
noncomputable def C_69 : Cx where
 tt := tblTT tt
 T := tblT []
 L := tblL [(3, S_69L3 fuel)]
 dep := fun i => 0
 n := 2
noncomputable def B_69L3 : Code := (Try.f76.body.bind (loopBody 3)).getD .skip
noncomputable def D_69 : Code := Try.f76.body.getD .skip
noncomputable def N_69 (_ : outs [.v (.slice .int), .v (.slice .int)]) (r : dens [.mv .int 0]) : (List Int) := r
noncomputable def E_70_of (rec : (Int × (List Int) × (Bool × (List Int)) × (Bool × Int × (List (List (List Int))) × (List (List (List ByteArray)))) × (List Int) × Unit) → Option ((List Int) × (Bool × (List Int)) × (Bool × Int × (List (List (List Int))) × (List (List (List ByteArray)))) × (List Int) × Bool)) : Entry where
 params := [.v .int, .bx (.mv .int 0), .bx (.nv .int 0), .bx (.v (.ptr (.pair .int (.pair (.slice (.slice (.slice .int))) (.slice (.slice .smap)))))), .bx (.v (.slice .int)), .jk 1]
 results := [.v .bool]
 cod := [(2, .kb 189), (5, .kn 181 1 5)]
 B := (List Int) × (Bool × (List Int)) × (Bool × Int × (List (List (List Int))) × (List (List (List ByteArray)))) × (List Int) × Bool
 run := rec
 out := fun b => ((), b.1, b.2.1, b.2.2.1, b.2.2.2.1, ())
 res := fun b => b.2.2.2.2
noncomputable def E_70 (d : Nat) : Entry := E_70_of (impl_netSearch_each_c1_impl_firstSolution_c1 d)
noncomputable def S_70L10 (rec : (Int × (List Int) × (Bool × (List Int)) × (Bool × Int × (List (List (List Int))) × (List (List (List ByteArray)))) × (List Int) × Unit) → Option ((List Int) × (Bool × (List Int)) × (Bool × Int × (List (List (List Int))) × (List (List (List ByteArray)))) × (List Int) × Bool)) (n : Nat) : LoopSpec where
 sh := [(0, .v .int), (1, .bx (.mv .int 0)), (2, .bx (.nv .int 0)), (3, .bx (.v (.ptr (.pair .int (.pair (.slice (.slice (.slice .int))) (.slice (.slice .smap))))))), (4, .bx (.v (.slice .int))), (5, .jk 1), (8, .v .int), (9, .v .bool), (50, .v (.slice (.slice .int))), (51, .v .int), (52, .v .int)]
 ex := [(.exit 2, [(0, .v .int), (1, .bx (.mv .int 0)), (2, .bx (.nv .int 0)), (3, .bx (.v (.ptr (.pair .int (.pair (.slice (.slice (.slice .int))) (.slice (.slice .smap))))))), (4, .bx (.v (.slice .int))), (5, .jk 1), (8, .v .int), (9, .v .bool)])]
 run := impl_netSearch_each_c1_impl_firstSolution_c1_L10 rec n
noncomputable def S_70L4 (rec : (Int × (List Int) × (Bool × (List Int)) × (Bool × Int × (List (List (List Int))) × (List (List (List ByteArray)))) × (List Int) × Unit) → Option ((List Int) × (Bool × (List Int)) × (Bool × Int × (List (List (List Int))) × (List (List (List ByteArray)))) × (List Int) × Bool)) (n : Nat) : LoopSpec where
 sh := [(0, .v .int), (1, .bx (.mv .int 0)), (2, .bx (.nv .int 0)), (3, .bx (.v (.ptr (.pair .int (.pair (.slice (.slice (.slice .int))) (.slice (.slice .smap))))))), (4, .bx (.v (.slice .int))), (5, .jk 1), (8, .v .int)]
 ex := [(.exit 0, [(1, .bx (.mv .int 0)), (2, .bx (.nv .int 0)), (3, .bx (.v (.ptr (.pair .int (.pair (.slice (.slice (.slice .int))) (.slice (.slice .smap))))))), (4, .bx (.v (.slice .int))), (5, .jk 1)]), (.ret, [(1, .bx (.mv .int 0)), (2, .bx (.nv .int 0)), (3, .bx (.v (.ptr (.pair .int (.pair (.slice (.slice (.slice .int))) (.slice (.slice .smap))))))), (4, .bx (.v (.slice .int))), (5, .jk 1), (7, .v .bool)])]
 run := impl_netSearch_each_c1_impl_firstSolution_c1_L4 rec n
noncomputable def C_70 (rec : (Int × (List Int) × (Bool × (List Int)) × (Bool × Int × (List (List (List Int))) × (List (List (List ByteArray)))) × (List Int) × Unit) → Option ((List Int) × (Bool × (List Int)) × (Bool × Int × (List (List (List Int))) × (List (List (List ByteArray)))) × (List Int) × Bool)) : Cx where
 tt := tblTT tt
 T := tblT [(76, E_69), (119, E_58), (189, E_68), (12452021, E_70_of rec)]
 L := tblL [(10, S_70L10 rec fuel), (4, S_70L4 rec fuel)]
 dep := fun i => 0
 n := 6
 cod := [(2, .kb 189), (5, .kn 181 1 5)]
noncomputable def B_70L10 : Code := (Try.f181.body.bind (loopBody 10)).getD .skip
noncomputable def B_70L4 : Code := (Try.f181.body.bind (loopBody 4)).getD .skip
noncomputable def D_70 : Code := Try.f181.body.getD .skip
noncomputable def N_70 (o : outs [.v .int, .bx (.mv .int 0), .bx (.nv .int 0), .bx (.v (.ptr (.pair .int (.pair (.slice (.slice (.slice .int))) (.slice (.slice .smap)))))), .bx (.v (.slice .int)), .jk 1]) (r : dens [.v .bool]) : (List Int) × (Bool × (List Int)) × (Bool × Int × (List (List (List Int))) × (List (List (List ByteArray)))) × (List Int) × Bool := (o.2.1, o.2.2.1, o.2.2.2.1, o.2.2.2.2.1, r)
noncomputable def E_71 : Entry where
 params := [.v (.ptr (.pair .int (.pair (.slice (.slice (.slice .int))) (.slice (.slice .smap))))), .v (.slice .int), .bx (.nv .int 0)]
 results := []
 cod := [(2, .cl 189)]
 B := (Bool × (List Int))
 run := fun a => impl_netSearch_each_impl_firstSolution_c1 a.1 a.2.1 a.2.2
 out := fun b => ((), (), b)
 res := fun b => ()
noncomputable def C_71 : Cx where
 tt := tblTT tt
 T := tblT [(12452021, E_70 fuel)]
 L := tblL []
 dep := fun i => 0
 n := 3
 cod := [(2, .cl 189)]
noncomputable def D_71 : Code := Try.f146.body.getD .skip
noncomputable def N_71 (o : outs [.v (.ptr (.pair .int (.pair (.slice (.slice (.slice .int))) (.slice (.slice .smap))))), .v (.slice .int), .bx (.nv .int 0)]) (_ : dens []) : (Bool × (List Int)) := o.2.2
noncomputable def E_72 : Entry where
 params := [.v (.pair .int (.pair .int (.slice (.pair (.slice .int) (.pair .int (.slice (.slice .int))))))), .v (.slice .int)]
 results := [.nv .int 0]
 B := (Bool × (List Int))
 run := fun a => impl_firstSolution a.1 a.2
 out := fun b => ((), ())
 res := fun b => b
noncomputable def C_72 : Cx where
 tt := tblTT tt
 T := tblT [(145, E_66), (12451986, E_71)]
 L := tblL []
 dep := fun i => 0
 n := 2
noncomputable def D_72 : Code := Try.f158.body.getD .skip
noncomputable def N_72 (_ : outs [.v (.pair .int (.pair .int (.slice (.pair (.slice .int) (.pair .int (.slice (.slice .int))))))), .v (.slice .int)]) (r : dens [.nv .int 0]) : (Bool × (List Int)) := r
noncomputable def E_73 : Entry where
 params := [.v (.pair .int (.pair .int (.slice (.pair (.slice .int) (.pair .int (.slice (.slice .int)))))))]
 results := [.mv .int 0, .v .bool]
 B := (List Int) × Bool
 run := fun a => impl_anySolution a
 out := fun b => ()
 res := fun b => (b.1, b.2)
noncomputable def C_73 : Cx where
 tt := tblTT tt
 T := tblT [(49, E_65), (158, E_72)]
 L := tblL []
 dep := fun i => 0
 n := 1
noncomputable def D_73 : Code := Try.f107.body.getD .skip
noncomputable def N_73 (_ : outs [.v (.pair .int (.pair .int (.slice (.pair (.slice .int) (.pair .int (.slice (.slice .int)))))))]) (r : dens [.mv .int 0, .v .bool]) : (List Int) × Bool := (r.1, r.2)
noncomputable def E_74 : Entry where
 params := [.v (.pair .int (.pair .int (.slice (.pair (.slice .int) (.pair .int (.slice (.slice .int)))))))]
 results := [.mv .int 0, .v .bool, .v .bool]
 B := (List Int) × Bool × Bool
 run := fun a => impl_PairsAssignment a
 out := fun b => ()
 res := fun b => (b.1, b.2.1, b.2.2)
noncomputable def C_74 : Cx where
 tt := tblTT tt
 T := tblT [(106, E_64), (107, E_73)]
 L := tblL []
 dep := fun i => 0
 n := 1
noncomputable def D_74 : Code := Try.f39.body.getD .skip
noncomputable def N_74 (_ : outs [.v (.pair .int (.pair .int (.slice (.pair (.slice .int) (.pair .int (.slice (.slice .int)))))))]) (r : dens [.mv .int 0, .v .bool, .v .bool]) : (List Int) × Bool × Bool := (r.1, r.2.1, r.2.2)
noncomputable def E_75 : Entry where
 params := [.v (.slice .int), .v (.slice .int)]
 results := [.v .bool]
 B := Bool
 run := fun a => laws_eqIntS a.1 a.2
 out := fun b => ((), ())
 res := fun b => b
noncomputable def S_75L4 (n : Nat) : LoopSpec where
 sh := [(0, .v (.slice .int)), (1, .v (.slice .int)), (5, .v .int)]
 ex := [(.exit 0, []), (.ret, [(4, .v .bool)])]
 run := laws_eqIntS_L4 n
noncomputable def C_75 : Cx where
 tt := tblTT tt
 T := tblT []
 L := tblL [(4, S_75L4 fuel)]
 dep := fun i => 0
 n := 2
noncomputable def B_75L4 : Code := (Try.f40.body.bind (loopBody 4)).getD .skip
noncomputable def D_75 : Code := Try.f40.body.getD .skip
noncomputable def N_75 (_ : outs [.v (.slice .int), .v (.slice .int)]) (r : dens [.v .bool]) : Bool := r
noncomputable def E_76 : Entry where
 params := [.v (.slice (.slice .int)), .v (.slice (.slice .int))]
 results := [.v .bool]
 B := Bool
 run := fun a => laws_eqIntSS a.1 a.2
 out := fun b => ((), ())
 res := fun b => b
noncomputable def S_76L4 (n : Nat) : LoopSpec where
 sh := [(0, .v (.slice (.slice .int))), (1, .v (.slice (.slice .int))), (5, .v .int)]
 ex := [(.exit 0, []), (.ret, [(4, .v .bool)])]
 run := laws_eqIntSS_L4 n
noncomputable def C_76 : Cx where
 tt := tblTT tt
 T := tblT [(40, E_75)]
 L := tblL [(4, S_76L4 fuel)]
 dep := fun i => 0
 n := 2
noncomputable def B_76L4 : Code := (Try.f195.body.bind (loopBody 4)).getD .skip
noncomputable def D_76 : Code := Try.f195.body.getD .skip
noncomputable def N_76 (_ : outs [.v (.slice (.slice .int)), .v (.slice (.slice .int))]) (r : dens [.v .bool]) : Bool := r
noncomputable def E_77 : Entry where
 params := [.v (.pair .int (.slice (.slice .int))), .v (.pair .int (.slice (.slice .int)))]
 results := [.v .bool]
 B := Bool
 run := fun a => laws_eqRelation a.1 a.2
 out := fun b => ((), ())
 res := fun b => b
noncomputable def C_77 : Cx where
 tt := tblTT tt
 T := tblT [(195, E_76)]
 L := tblL []
 dep := fun i => 0
 n := 2
noncomputable def D_77 : Code := Try.f183.body.getD .skip
noncomputable def N_77 (_ : outs [.v (.pair .int (.slice (.slice .int))), .v (.pair .int (.slice (.slice .int)))]) (r : dens [.v .bool]) : Bool := r
noncomputable def E_78 : Entry where
 params := [.v (.pair (.slice .int) (.pair .int (.slice (.slice .int)))), .v (.pair (.slice .int) (.pair .int (.slice (.slice .int))))]
 results := [.v .bool]
 B := Bool
 run := fun a => laws_eqConstraint a.1 a.2
 out := fun b => ((), ())
 res := fun b => b
noncomputable def C_78 : Cx where
 tt := tblTT tt
 T := tblT [(40, E_75), (183, E_77)]
 L := tblL []
 dep := fun i => 0
 n := 2
noncomputable def D_78 : Code := Try.f151.body.getD .skip
noncomputable def N_78 (_ : outs [.v (.pair (.slice .int) (.pair .int (.slice (.slice .int)))), .v (.pair (.slice .int) (.pair .int (.slice (.slice .int))))]) (r : dens [.v .bool]) : Bool := r
noncomputable def E_79 : Entry where
 params := [.v (.slice (.pair (.slice .int) (.pair .int (.slice (.slice .int))))), .v (.slice (.pair (.slice .int) (.pair .int (.slice (.slice .int)))))]
 results := [.v .bool]
 B := Bool
 run := fun a => laws_eqConstraintS a.1 a.2
 out := fun b => ((), ())
 res := fun b => b
noncomputable def S_79L4 (n : Nat) : LoopSpec where
 sh := [(0, .v (.slice (.pair (.slice .int) (.pair .int (.slice (.slice .int)))))), (1, .v (.slice (.pair (.slice .int) (.pair .int (.slice (.slice .int)))))), (5, .v .int)]
 ex := [(.exit 0, []), (.ret, [(4, .v .bool)])]
 run := laws_eqConstraintS_L4 n
noncomputable def C_79 : Cx where
 tt := tblTT tt
 T := tblT [(151, E_78)]
 L := tblL [(4, S_79L4 fuel)]
 dep := fun i => 0
 n := 2
noncomputable def B_79L4 : Code := (Try.f102.body.bind (loopBody 4)).getD .skip
noncomputable def D_79 : Code := Try.f102.body.getD .skip
noncomputable def N_79 (_ : outs [.v (.slice (.pair (.slice .int) (.pair .int (.slice (.slice .int))))), .v (.slice (.pair (.slice .int) (.pair .int (.slice (.slice .int)))))]) (r : dens [.v .bool]) : Bool := r
noncomputable def E_80 : Entry where
 params := [.v (.pair .int (.pair .int (.slice (.pair (.slice .int) (.pair .int (.slice (.slice .int))))))), .v (.pair .int (.pair .int (.slice (.pair (.slice .int) (.pair .int (.slice (.slice .int)))))))]
 results := [.v .bool]
 B := Bool
 run := fun a => laws_eqNetwork a.1 a.2
 out := fun b => ((), ())
 res := fun b => b
noncomputable def C_80 : Cx where
 tt := tblTT tt
 T := tblT [(102, E_79)]
 L := tblL []
 dep := fun i => 0
 n := 2
noncomputable def D_80 : Code := Try.f37.body.getD .skip
noncomputable def N_80 (_ : outs [.v (.pair .int (.pair .int (.slice (.pair (.slice .int) (.pair .int (.slice (.slice .int))))))), .v (.pair .int (.pair .int (.slice (.pair (.slice .int) (.pair .int (.slice (.slice .int)))))))]) (r : dens [.v .bool]) : Bool := r
noncomputable def E_81 : Entry where
 params := [.io .int 0, .v .int]
 results := [.v .int]
 B := (List Int) × Int
 run := fun a => laws_markIntS a.1 a.2
 out := fun b => (b.1, ())
 res := fun b => b.2
noncomputable def S_81L2 (n : Nat) : LoopSpec where
 sh := [(0, .io .int 0), (1, .v .int), (5, .v .int)]
 ex := [(.exit 0, [(0, .io .int 0), (1, .v .int)])]
 run := laws_markIntS_L2 n
noncomputable def C_81 : Cx where
 tt := tblTT tt
 T := tblT []
 L := tblL [(2, S_81L2 fuel)]
 dep := fun i => 0
 n := 2
noncomputable def B_81L2 : Code := (Try.f42.body.bind (loopBody 2)).getD .skip
noncomputable def D_81 : Code := Try.f42.body.getD .skip
noncomputable def N_81 (o : outs [.io .int 0, .v .int]) (r : dens [.v .int]) : (List Int) × Int := (o.1, r)
noncomputable def E_82 : Entry where
 params := [.io (.slice .int) 1, .v .int]
 results := [.v .int]
 B := (List (List Int)) × Int
 run := fun a => laws_markIntSS a.1 a.2
 out := fun b => (b.1, ())
 res := fun b => b.2
noncomputable def S_82L2 (n : Nat) : LoopSpec where
 sh := [(0, .io (.slice .int) 1), (1, .v .int), (5, .v .int)]
 ex := [(.exit 0, [(0, .io (.slice .int) 1), (1, .v .int)])]
 run := laws_markIntSS_L2 n
noncomputable def C_82 : Cx where
 tt := tblTT tt
 T := tblT [(42, E_81)]
 L := tblL [(2, S_82L2 fuel)]
 dep := fun i => 0
 n := 2
noncomputable def B_82L2 : Code := (Try.f159.body.bind (loopBody 2)).getD .skip
noncomputable def D_82 : Code := Try.f159.body.getD .skip
noncomputable def N_82 (o : outs [.io (.slice .int) 1, .v .int]) (r : dens [.v .int]) : (List (List Int)) × Int := (o.1, r)
noncomputable def E_83 : Entry where
 params := [.io (.pair (.slice .int) (.pair .int (.slice (.slice .int)))) 2, .v .int]
 results := [.v .int]
 B := (List ((List Int) × Int × (List (List Int)))) × Int
 run := fun a => laws_markConstraintS a.1 a.2
 out := fun b => (b.1, ())
 res := fun b => b.2
noncomputable def S_83L2 (n : Nat) : LoopSpec where
 sh := [(0, .io (.pair (.slice .int) (.pair .int (.slice (.slice .int)))) 2), (1, .v .int), (5, .v .int)]
 ex := [(.exit 0, [(0, .io (.pair (.slice .int) (.pair .int (.slice (.slice .int)))) 2), (1, .v .int)])]
 run := laws_markConstraintS_L2 n
noncomputable def C_83 : Cx where
 tt := tblTT tt
 T := tblT [(42, E_81), (159, E_82)]
 L := tblL [(2, S_83L2 fuel)]
 dep := fun i => 0
 n := 2
noncomputable def B_83L2 : Code := (Try.f108.body.bind (loopBody 2)).getD .skip
noncomputable def D_83 : Code := Try.f108.body.getD .skip
noncomputable def N_83 (o : outs [.io (.pair (.slice .int) (.pair .int (.slice (.slice .int)))) 2, .v .int]) (r : dens [.v .int]) : (List ((List Int) × Int × (List (List Int)))) × Int := (o.1, r)
noncomputable def E_84 : Entry where
 params := [.pr (.v .int) (.pr (.v .int) (.io (.pair (.slice .int) (.pair .int (.slice (.slice .int)))) 2)), .v .int]
 results := [.v .int]
 B := (Unit × (Unit × (List ((List Int) × Int × (List (List Int)))))) × Int
 run := fun a => laws_markNetwork a.1 a.2
 out := fun b => (b.1, ())
 res := fun b => b.2
noncomputable def C_84 : Cx where
 tt := tblTT tt
 T := tblT [(108, E_83)]
 L := tblL []
 dep := fun i => 0
 n := 2
noncomputable def D_84 : Code := Try.f41.body.getD .skip
noncomputable def N_84 (o : outs [.pr (.v .int) (.pr (.v .int) (.io (.pair (.slice .int) (.pair .int (.slice (.slice .int)))) 2)), .v .int]) (r : dens [.v .int]) : (Unit × (Unit × (List ((List Int) × Int × (List (List Int)))))) × Int := (o.1, r)
noncomputable def E_85 : Entry where
 params := [.v (.slice .int), .v .int]
 results := [.v .int]
 B := Int
 run := fun a => laws_heldIntS a.1 a.2
 out := fun b => ((), ())
 res := fun b => b
noncomputable def S_85L2 (n : Nat) : LoopSpec where
 sh := [(0, .v (.slice .int)), (1, .v .int), (5, .v .int)]
 ex := [(.exit 0, [(1, .v .int)]), (.ret, [(4, .v .int)])]
 run := laws_heldIntS_L2 n
noncomputable def C_85 : Cx where
 tt := tblTT tt
 T := tblT []
 L := tblL [(2, S_85L2 fuel)]
 dep := fun i => 0
 n := 2
noncomputable def B_85L2 : Code := (Try.f43.body.bind (loopBody 2)).getD .skip
noncomputable def D_85 : Code := Try.f43.body.getD .skip
noncomputable def N_85 (_ : outs [.v (.slice .int), .v .int]) (r : dens [.v .int]) : Int := r
noncomputable def E_86 : Entry where
 params := [.v (.pair .int (.pair .int (.slice (.pair (.slice .int) (.pair .int (.slice (.slice .int)))))))]
 results := [.v .bool]
 B := Bool
 run := fun a => laws_FnExactPairsAssignment a
 out := fun b => ()
 res := fun b => b
noncomputable def C_86 : Cx where
 tt := tblTT tt
 T := tblT [(33, E_6), (35, E_12), (37, E_80), (38, E_42), (39, E_74), (40, E_75), (41, E_84), (42, E_81), (43, E_85)]
 L := tblL []
 dep := fun i => 0
 n := 1
noncomputable def D_86 : Code := Try.f6.body.getD .skip
noncomputable def N_86 (_ : outs [.v (.pair .int (.pair .int (.slice (.pair (.slice .int) (.pair .int (.slice (.slice .int)))))))]) (r : dens [.v .bool]) : Bool := r
end T
