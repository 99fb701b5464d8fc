/- Contexts of the typed functions; no conditions. -/
import Derived.Test.YtcdjlpcapanibadV5
import Derived.Test.YtcdjlpcapanibadProg
import Derived.Test.YtcdjlpcapanibadPFnExactRemovedCounts
import Derived.KernelRfl
set_option linter.all false
set_option linter.unusedVariables false
set_option maxRecDepth 10000
open Go Go.Va Go.Proofs
namespace T
noncomputable def tt : List (Nat × TI) := [
 (2, { ty := .int }),
 (3, { ty := .int }),
 (4, { ty := .bool }),
 (5, { ty := (.num .u8) }),
 (9, { ty := .str }),
 (22, { ty := (.slice (.num .u8)), elem := 5 }),
 (33, { ty := (.slice .int), elem := 3 }),
 (48, { ty := (.slice (.slice .int)), elem := 33 }),
 (50, { ty := (.pair .int (.slice (.slice .int))), fields := [3, 48] }),
 (57, { ty := (.slice (.pair (.slice .int) (.pair .int (.slice (.slice .int))))), elem := 155 }),
 (59, { ty := (.pair .int (.pair .int (.slice (.pair (.slice .int) (.pair .int (.slice (.slice .int))))))), fields := [3, 3, 57] }),
 (63, { ty := (.slice (.pair (.slice .int) (.pair .int (.slice (.slice .int))))), elem := 158 }),
 (65, { ty := (.pair .int (.pair .int (.slice (.pair (.slice .int) (.pair .int (.slice (.slice .int))))))), fields := [3, 3, 63] }),
 (91, { ty := (.op false) }),
 (94, { ty := (.op false) }),
 (111, { ty := (.slice (.pair .int (.pair .int .int))), elem := 160 }),
 (116, { ty := (.pair (.slice (.slice .int)) (.pair .int (.pair .int .bool))), fields := [48, 3, 3, 4] }),
 (121, { ty := (.slice (.slice .bool)), elem := 123 }),
 (123, { ty := (.slice .bool), elem := 4 }),
 (138, { ty := .smap }),
 (153, { ty := (.pair .int (.slice (.slice .int))), fields := [3, 48] }),
 (155, { ty := (.pair (.slice .int) (.pair .int (.slice (.slice .int)))), fields := [33, 153] }),
 (158, { ty := (.pair (.slice .int) (.pair .int (.slice (.slice .int)))), fields := [33, 50] }),
 (160, { ty := (.pair .int (.pair .int .int)), fields := [3, 3, 3], arr := true }),
 (162, { ty := (.slice (.slice (.pair (.slice .int) (.pair .int (.slice (.slice .int)))))), elem := 63 }),
 (166, { ty := (.op true) }),
 (185, { ty := (.num .u64) }),
 (193, { ty := (.slice (.slice (.slice .int))), elem := 48 }),
 (194, { ty := (.slice (.slice .smap)), elem := 197 }),
 (196, { ty := (.pair .int (.pair (.slice (.slice (.slice .int))) (.slice (.slice .smap)))), fields := [3, 193, 194] }),
 (197, { ty := (.slice .smap), elem := 138 })]
theorem tabT : tabOk Try.prog tt = true := by kernel_rfl
theorem mixT : Try.prog.follows .mixedOrders = true := by kernel_rfl
noncomputable def E_1 : Entry where
 params := [.v (.slice .int), .v .int]
 results := [.v .int]
 B := Int
 run := fun a => laws_szIntS a.1 a.2
 out := fun b => ((), ())
 res := fun b => b
noncomputable def C_1 : Cx where
 tt := tblTT tt
 T := tblT []
 L := tblL []
 dep := fun i => 0
 n := 2
noncomputable def D_1 : Code := Try.f174.body.getD .skip
noncomputable def N_1 (_ : outs [.v (.slice .int), .v .int]) (r : dens [.v .int]) : Int := r
noncomputable def E_2 : Entry where
 params := [.v (.slice (.slice .int)), .v .int]
 results := [.v .int]
 B := Int
 run := fun a => laws_szIntSS a.1 a.2
 out := fun b => ((), ())
 res := fun b => b
noncomputable def S_2L5 (n : Nat) : LoopSpec where
 sh := [(0, .v (.slice (.slice .int))), (1, .v .int), (5, .v .int)]
 ex := [(.exit 0, [(1, .v .int)]), (.ret, [(4, .v .int)])]
 run := laws_szIntSS_L5 n
noncomputable def C_2 : Cx where
 tt := tblTT tt
 T := tblT [(174, E_1)]
 L := tblL [(5, S_2L5 fuel)]
 dep := fun i => 0
 n := 2
noncomputable def B_2L5 : Code := (Try.f192.body.bind (loopBody 5)).getD .skip
noncomputable def D_2 : Code := Try.f192.body.getD .skip
noncomputable def N_2 (_ : outs [.v (.slice (.slice .int)), .v .int]) (r : dens [.v .int]) : Int := r
noncomputable def E_3 : Entry where
 params := [.v (.pair .int (.slice (.slice .int))), .v .int]
 results := [.v .int]
 B := Int
 run := fun a => laws_szRelation a.1 a.2
 out := fun b => ((), ())
 res := fun b => b
noncomputable def C_3 : Cx where
 tt := tblTT tt
 T := tblT [(192, E_2)]
 L := tblL []
 dep := fun i => 0
 n := 2
noncomputable def D_3 : Code := Try.f175.body.getD .skip
noncomputable def N_3 (_ : outs [.v (.pair .int (.slice (.slice .int))), .v .int]) (r : dens [.v .int]) : Int := r
noncomputable def E_4 : Entry where
 params := [.v (.pair (.slice .int) (.pair .int (.slice (.slice .int)))), .v .int]
 results := [.v .int]
 B := Int
 run := fun a => laws_szConstraint a.1 a.2
 out := fun b => ((), ())
 res := fun b => b
noncomputable def C_4 : Cx where
 tt := tblTT tt
 T := tblT [(174, E_1), (175, E_3)]
 L := tblL []
 dep := fun i => 0
 n := 2
noncomputable def D_4 : Code := Try.f135.body.getD .skip
noncomputable def N_4 (_ : outs [.v (.pair (.slice .int) (.pair .int (.slice (.slice .int)))), .v .int]) (r : dens [.v .int]) : Int := r
noncomputable def E_5 : Entry where
 params := [.v (.slice (.pair (.slice .int) (.pair .int (.slice (.slice .int))))), .v .int]
 results := [.v .int]
 B := Int
 run := fun a => laws_szConstraintS a.1 a.2
 out := fun b => ((), ())
 res := fun b => b
noncomputable def S_5L5 (n : Nat) : LoopSpec where
 sh := [(0, .v (.slice (.pair (.slice .int) (.pair .int (.slice (.slice .int)))))), (1, .v .int), (5, .v .int)]
 ex := [(.exit 0, [(1, .v .int)]), (.ret, [(4, .v .int)])]
 run := laws_szConstraintS_L5 n
noncomputable def C_5 : Cx where
 tt := tblTT tt
 T := tblT [(135, E_4)]
 L := tblL [(5, S_5L5 fuel)]
 dep := fun i => 0
 n := 2
noncomputable def B_5L5 : Code := (Try.f87.body.bind (loopBody 5)).getD .skip
noncomputable def D_5 : Code := Try.f87.body.getD .skip
noncomputable def N_5 (_ : outs [.v (.slice (.pair (.slice .int) (.pair .int (.slice (.slice .int))))), .v .int]) (r : dens [.v .int]) : Int := r
noncomputable def E_6 : Entry where
 params := [.v (.pair .int (.pair .int (.slice (.pair (.slice .int) (.pair .int (.slice (.slice .int))))))), .v .int]
 results := [.v .int]
 B := Int
 run := fun a => laws_szNetwork a.1 a.2
 out := fun b => ((), ())
 res := fun b => b
noncomputable def C_6 : Cx where
 tt := tblTT tt
 T := tblT [(87, E_5)]
 L := tblL []
 dep := fun i => 0
 n := 2
noncomputable def D_6 : Code := Try.f33.body.getD .skip
noncomputable def N_6 (_ : outs [.v (.pair .int (.pair .int (.slice (.pair (.slice .int) (.pair .int (.slice (.slice .int))))))), .v .int]) (r : dens [.v .int]) : Int := r
noncomputable def E_7 : Entry where
 params := [.v (.slice .int)]
 results := [.mv .int 0]
 B := (List Int)
 run := fun a => laws_toIntS a
 out := fun b => ()
 res := fun b => b
noncomputable def S_7L3 (n : Nat) : LoopSpec where
 sh := [(0, .v (.slice .int)), (3, .mv .int 0), (4, .v .int)]
 ex := [(.exit 0, [(3, .mv .int 0)])]
 run := laws_toIntS_L3 n
noncomputable def C_7 : Cx where
 tt := tblTT tt
 T := tblT []
 L := tblL [(3, S_7L3 fuel)]
 dep := fun i => 0
 n := 1
noncomputable def B_7L3 : Code := (Try.f179.body.bind (loopBody 3)).getD .skip
noncomputable def D_7 : Code := Try.f179.body.getD .skip
noncomputable def N_7 (_ : outs [.v (.slice .int)]) (r : dens [.mv .int 0]) : (List Int) := r
noncomputable def E_8 : Entry where
 params := [.v (.slice (.slice .int))]
 results := [.mv (.slice .int) 1]
 B := (List (List Int))
 run := fun a => laws_toIntSS a
 out := fun b => ()
 res := fun b => b
noncomputable def S_8L3 (n : Nat) : LoopSpec where
 sh := [(0, .v (.slice (.slice .int))), (3, .mv (.slice .int) 1), (4, .v .int)]
 ex := [(.exit 0, [(3, .mv (.slice .int) 1)])]
 run := laws_toIntSS_L3 n
noncomputable def C_8 : Cx where
 tt := tblTT tt
 T := tblT [(179, E_7)]
 L := tblL [(3, S_8L3 fuel)]
 dep := fun i => match i with
  | 7 => 1
  | _ => 0
 n := 1
noncomputable def B_8L3 : Code := (Try.f193.body.bind (loopBody 3)).getD .skip
noncomputable def D_8 : Code := Try.f193.body.getD .skip
noncomputable def N_8 (_ : outs [.v (.slice (.slice .int))]) (r : dens [.mv (.slice .int) 1]) : (List (List Int)) := r
noncomputable def E_9 : Entry where
 params := [.v (.pair .int (.slice (.slice .int)))]
 results := [.pr (.v .int) (.mv (.slice .int) 1)]
 B := (Int × (List (List Int)))
 run := fun a => laws_toRelation a
 out := fun b => ()
 res := fun b => b
noncomputable def C_9 : Cx where
 tt := tblTT tt
 T := tblT [(193, E_8)]
 L := tblL []
 dep := fun i => 0
 n := 1
noncomputable def D_9 : Code := Try.f180.body.getD .skip
noncomputable def N_9 (_ : outs [.v (.pair .int (.slice (.slice .int)))]) (r : dens [.pr (.v .int) (.mv (.slice .int) 1)]) : (Int × (List (List Int))) := r
noncomputable def E_10 : Entry where
 params := [.v (.pair (.slice .int) (.pair .int (.slice (.slice .int))))]
 results := [.pr (.mv .int 0) (.pr (.v .int) (.mv (.slice .int) 1))]
 B := ((List Int) × (Int × (List (List Int))))
 run := fun a => laws_toConstraint a
 out := fun b => ()
 res := fun b => b
noncomputable def C_10 : Cx where
 tt := tblTT tt
 T := tblT [(179, E_7), (180, E_9)]
 L := tblL []
 dep := fun i => 0
 n := 1
noncomputable def D_10 : Code := Try.f143.body.getD .skip
noncomputable def N_10 (_ : outs [.v (.pair (.slice .int) (.pair .int (.slice (.slice .int))))]) (r : dens [.pr (.mv .int 0) (.pr (.v .int) (.mv (.slice .int) 1))]) : ((List Int) × (Int × (List (List Int)))) := r
noncomputable def E_11 : Entry where
 params := [.v (.slice (.pair (.slice .int) (.pair .int (.slice (.slice .int)))))]
 results := [.mv (.pair (.slice .int) (.pair .int (.slice (.slice .int)))) 2]
 B := (List ((List Int) × Int × (List (List Int))))
 run := fun a => laws_toConstraintS a
 out := fun b => ()
 res := fun b => b
noncomputable def S_11L3 (n : Nat) : LoopSpec where
 sh := [(0, .v (.slice (.pair (.slice .int) (.pair .int (.slice (.slice .int)))))), (3, .mv (.pair (.slice .int) (.pair .int (.slice (.slice .int)))) 2), (4, .v .int)]
 ex := [(.exit 0, [(3, .mv (.pair (.slice .int) (.pair .int (.slice (.slice .int)))) 2)])]
 run := laws_toConstraintS_L3 n
noncomputable def C_11 : Cx where
 tt := tblTT tt
 T := tblT [(143, E_10)]
 L := tblL [(3, S_11L3 fuel)]
 dep := fun i => match i with
  | 7 => 2
  | _ => 0
 n := 1
noncomputable def B_11L3 : Code := (Try.f94.body.bind (loopBody 3)).getD .skip
noncomputable def D_11 : Code := Try.f94.body.getD .skip
noncomputable def N_11 (_ : outs [.v (.slice (.pair (.slice .int) (.pair .int (.slice (.slice .int)))))]) (r : dens [.mv (.pair (.slice .int) (.pair .int (.slice (.slice .int)))) 2]) : (List ((List Int) × Int × (List (List Int)))) := r
noncomputable def E_12 : Entry where
 params := [.v (.pair .int (.pair .int (.slice (.pair (.slice .int) (.pair .int (.slice (.slice .int)))))))]
 results := [.pr (.v .int) (.pr (.v .int) (.mv (.pair (.slice .int) (.pair .int (.slice (.slice .int)))) 2))]
 B := (Int × (Int × (List ((List Int) × Int × (List (List Int))))))
 run := fun a => laws_toNetwork a
 out := fun b => ()
 res := fun b => b
noncomputable def C_12 : Cx where
 tt := tblTT tt
 T := tblT [(94, E_11)]
 L := tblL []
 dep := fun i => 0
 n := 1
noncomputable def D_12 : Code := Try.f35.body.getD .skip
noncomputable def N_12 (_ : outs [.v (.pair .int (.pair .int (.slice (.pair (.slice .int) (.pair .int (.slice (.slice .int)))))))]) (r : dens [.pr (.v .int) (.pr (.v .int) (.mv (.pair (.slice .int) (.pair .int (.slice (.slice .int)))) 2))]) : (Int × (Int × (List ((List Int) × Int × (List (List Int)))))) := r
noncomputable def E_13 : Entry where
 params := [.v .int, .v .int, .v .int]
 results := [.v .bool]
 B := Bool
 run := fun a => spec_l1In a.1 a.2.1 a.2.2
 out := fun b => ((), (), ())
 res := fun b => b
noncomputable def C_13 : Cx where
 tt := tblTT tt
 T := tblT []
 L := tblL []
 dep := fun i => 0
 n := 3
noncomputable def D_13 : Code := Try.f128.body.getD .skip
noncomputable def N_13 (_ : outs [.v .int, .v .int, .v .int]) (r : dens [.v .bool]) : Bool := r
noncomputable def E_14 : Entry where
 params := [.v .int, .v .int]
 results := [.v .int]
 B := Int
 run := fun a => spec_l2Pow a.1 a.2
 out := fun b => ((), ())
 res := fun b => b
noncomputable def S_14L2 (n : Nat) : LoopSpec where
 sh := [(0, .v .int), (1, .v .int), (5, .v .int)]
 ex := [(.exit 0, [(5, .v .int)])]
 run := spec_l2Pow_L2 n
noncomputable def C_14 : Cx where
 tt := tblTT tt
 T := tblT []
 L := tblL [(2, S_14L2 fuel)]
 dep := fun i => 0
 n := 2
noncomputable def B_14L2 : Code := (Try.f54.body.bind (loopBody 2)).getD .skip
noncomputable def D_14 : Code := Try.f54.body.getD .skip
noncomputable def N_14 (_ : outs [.v .int, .v .int]) (r : dens [.v .int]) : Int := r
noncomputable def E_15 : Entry where
 params := [.v .int, .v (.slice .int)]
 results := [.v .bool]
 B := Bool
 run := fun a => spec_l2Elements a.1 a.2
 out := fun b => ((), ())
 res := fun b => b
noncomputable def S_15L2 (n : Nat) : LoopSpec where
 sh := [(0, .v .int), (1, .v (.slice .int)), (5, .v .int)]
 ex := [(.exit 0, []), (.ret, [(4, .v .bool)])]
 run := spec_l2Elements_L2 n
noncomputable def C_15 : Cx where
 tt := tblTT tt
 T := tblT [(128, E_13)]
 L := tblL [(2, S_15L2 fuel)]
 dep := fun i => 0
 n := 2
noncomputable def B_15L2 : Code := (Try.f176.body.bind (loopBody 2)).getD .skip
noncomputable def D_15 : Code := Try.f176.body.getD .skip
noncomputable def N_15 (_ : outs [.v .int, .v (.slice .int)]) (r : dens [.v .bool]) : Bool := r
noncomputable def E_16 : Entry where
 params := [.v .int, .v .int, .v (.slice .int)]
 results := [.v .bool]
 B := Bool
 run := fun a => spec_l8Tuple a.1 a.2.1 a.2.2
 out := fun b => ((), (), ())
 res := fun b => b
noncomputable def C_16 : Cx where
 tt := tblTT tt
 T := tblT [(176, E_15)]
 L := tblL []
 dep := fun i => 0
 n := 3
noncomputable def D_16 : Code := Try.f168.body.getD .skip
noncomputable def N_16 (_ : outs [.v .int, .v .int, .v (.slice .int)]) (r : dens [.v .bool]) : Bool := r
noncomputable def E_17 : Entry where
 params := [.v (.slice .int), .v (.slice .int)]
 results := [.v .bool]
 B := Bool
 run := fun a => spec_l3Less a.1 a.2
 out := fun b => ((), ())
 res := fun b => b
noncomputable def S_17L2 (n : Nat) : LoopSpec where
 sh := [(0, .v (.slice .int)), (1, .v (.slice .int)), (5, .v .int)]
 ex := [(.exit 0, []), (.ret, [(4, .v .bool)])]
 run := spec_l3Less_L2 n
noncomputable def C_17 : Cx where
 tt := tblTT tt
 T := tblT []
 L := tblL [(2, S_17L2 fuel)]
 dep := fun i => 0
 n := 2
noncomputable def B_17L2 : Code := (Try.f169.body.bind (loopBody 2)).getD .skip
noncomputable def D_17 : Code := Try.f169.body.getD .skip
noncomputable def N_17 (_ : outs [.v (.slice .int), .v (.slice .int)]) (r : dens [.v .bool]) : Bool := r
noncomputable def E_18 : Entry where
 params := [.v .int, .v (.pair .int (.slice (.slice .int)))]
 results := [.v .bool]
 B := Bool
 run := fun a => spec_l13Good a.1 a.2
 out := fun b => ((), ())
 res := fun b => b
noncomputable def S_18L4 (n : Nat) : LoopSpec where
 sh := [(0, .v .int), (3, .bx (.v (.pair .int (.slice (.slice .int))))), (5, .v .int)]
 ex := [(.exit 0, []), (.ret, [(4, .v .bool)])]
 run := spec_l13Good_L4 n
noncomputable def C_18 : Cx where
 tt := tblTT tt
 T := tblT [(54, E_14), (128, E_13), (168, E_16), (169, E_17)]
 L := tblL [(4, S_18L4 fuel)]
 dep := fun i => 0
 n := 2
noncomputable def B_18L4 : Code := (Try.f129.body.bind (loopBody 4)).getD .skip
noncomputable def D_18 : Code := Try.f129.body.getD .skip
noncomputable def N_18 (_ : outs [.v .int, .v (.pair .int (.slice (.slice .int)))]) (r : dens [.v .bool]) : Bool := r
noncomputable def E_19 : Entry where
 params := [.v .int, .v .int, .v (.pair (.slice .int) (.pair .int (.slice (.slice .int))))]
 results := [.v .bool]
 B := Bool
 run := fun a => spec_l19Is a.1 a.2.1 a.2.2
 out := fun b => ((), (), ())
 res := fun b => b
noncomputable def C_19 : Cx where
 tt := tblTT tt
 T := tblT [(129, E_18), (176, E_15)]
 L := tblL []
 dep := fun i => 0
 n := 3
noncomputable def D_19 : Code := Try.f136.body.getD .skip
noncomputable def N_19 (_ : outs [.v .int, .v .int, .v (.pair (.slice .int) (.pair .int (.slice (.slice .int))))]) (r : dens [.v .bool]) : Bool := r
noncomputable def E_20 : Entry where
 params := [.v (.pair .int (.pair .int (.slice (.pair (.slice .int) (.pair .int (.slice (.slice .int)))))))]
 results := [.v .bool]
 B := Bool
 run := fun a => spec_l19Good a
 out := fun b => ()
 res := fun b => b
noncomputable def S_20L4 (n : Nat) : LoopSpec where
 sh := [(1, .bx (.v (.pair .int (.pair .int (.slice (.pair (.slice .int) (.pair .int (.slice (.slice .int))))))))), (3, .v .int)]
 ex := [(.exit 0, []), (.ret, [(2, .v .bool)])]
 run := spec_l19Good_L4 n
noncomputable def C_20 : Cx where
 tt := tblTT tt
 T := tblT [(128, E_13), (136, E_19)]
 L := tblL [(4, S_20L4 fuel)]
 dep := fun i => 0
 n := 1
noncomputable def B_20L4 : Code := (Try.f88.body.bind (loopBody 4)).getD .skip
noncomputable def D_20 : Code := Try.f88.body.getD .skip
noncomputable def N_20 (_ : outs [.v (.pair .int (.pair .int (.slice (.pair (.slice .int) (.pair .int (.slice (.slice .int)))))))]) (r : dens [.v .bool]) : Bool := r
noncomputable def E_21 : Entry where
 params := [.v .int]
 results := [.mv .int 0]
 B := (List Int)
 run := fun a => spec_l6Identity a
 out := fun b => ()
 res := fun b => b
noncomputable def S_21L3 (n : Nat) : LoopSpec where
 sh := [(0, .v .int), (3, .mv .int 0), (4, .v .int)]
 ex := [(.exit 0, [(3, .mv .int 0)])]
 run := spec_l6Identity_L3 n
noncomputable def C_21 : Cx where
 tt := tblTT tt
 T := tblT []
 L := tblL [(3, S_21L3 fuel)]
 dep := fun i => 0
 n := 1
noncomputable def B_21L3 : Code := (Try.f139.body.bind (loopBody 3)).getD .skip
noncomputable def D_21 : Code := Try.f139.body.getD .skip
noncomputable def N_21 (_ : outs [.v .int]) (r : dens [.mv .int 0]) : (List Int) := r
noncomputable def E_22 : Entry where
 params := [.v (.pair .int (.pair .int (.slice (.pair (.slice .int) (.pair .int (.slice (.slice .int)))))))]
 results := [.mv (.slice .int) 0]
 B := (List (List Int))
 run := fun a => spec_l20Full a
 out := fun b => ()
 res := fun b => b
noncomputable def S_22L3 (n : Nat) : LoopSpec where
 sh := [(1, .bx (.v (.pair .int (.pair .int (.slice (.pair (.slice .int) (.pair .int (.slice (.slice .int))))))))), (3, .mv (.slice .int) 0), (4, .v .int)]
 ex := [(.exit 0, [(3, .mv (.slice .int) 0)])]
 run := spec_l20Full_L3 n
noncomputable def C_22 : Cx where
 tt := tblTT tt
 T := tblT [(139, E_21)]
 L := tblL [(3, S_22L3 fuel)]
 dep := fun i => 0
 n := 1
noncomputable def B_22L3 : Code := (Try.f90.body.bind (loopBody 3)).getD .skip
noncomputable def D_22 : Code := Try.f90.body.getD .skip
noncomputable def N_22 (_ : outs [.v (.pair .int (.pair .int (.slice (.pair (.slice .int) (.pair .int (.slice (.slice .int)))))))]) (r : dens [.mv (.slice .int) 0]) : (List (List Int)) := r
noncomputable def E_23 : Entry where
 params := [.v (.slice .int), .v .int]
 results := [.v .bool]
 B := Bool
 run := fun a => spec_l1Has a.1 a.2
 out := fun b => ((), ())
 res := fun b => b
noncomputable def S_23L2 (n : Nat) : LoopSpec where
 sh := [(0, .v (.slice .int)), (1, .v .int), (5, .v .int)]
 ex := [(.exit 0, []), (.ret, [(4, .v .bool)])]
 run := spec_l1Has_L2 n
noncomputable def C_23 : Cx where
 tt := tblTT tt
 T := tblT []
 L := tblL [(2, S_23L2 fuel)]
 dep := fun i => 0
 n := 2
noncomputable def B_23L2 : Code := (Try.f154.body.bind (loopBody 2)).getD .skip
noncomputable def D_23 : Code := Try.f154.body.getD .skip
noncomputable def N_23 (_ : outs [.v (.slice .int), .v .int]) (r : dens [.v .bool]) : Bool := r
noncomputable def E_24 : Entry where
 params := [.v (.pair (.slice .int) (.pair .int (.slice (.slice .int)))), .v (.slice .int), .v (.slice (.slice .int))]
 results := [.v .bool]
 B := Bool
 run := fun a => spec_l20Fits a.1 a.2.1 a.2.2
 out := fun b => ((), (), ())
 res := fun b => b
noncomputable def S_24L7 (n : Nat) : LoopSpec where
 sh := [(1, .v (.slice .int)), (2, .v (.slice (.slice .int))), (3, .bx (.v (.pair (.slice .int) (.pair .int (.slice (.slice .int)))))), (7, .v .int), (8, .v .int)]
 ex := [(.exit 2, [(1, .v (.slice .int)), (2, .v (.slice (.slice .int))), (3, .bx (.v (.pair (.slice .int) (.pair .int (.slice (.slice .int)))))), (7, .v .int)]), (.ret, [(6, .v .bool)])]
 run := spec_l20Fits_L7 n
noncomputable def S_24L2 (n : Nat) : LoopSpec where
 sh := [(1, .v (.slice .int)), (2, .v (.slice (.slice .int))), (3, .bx (.v (.pair (.slice .int) (.pair .int (.slice (.slice .int)))))), (7, .v .int)]
 ex := [(.exit 0, []), (.ret, [(6, .v .bool)])]
 run := spec_l20Fits_L2 n
noncomputable def C_24 : Cx where
 tt := tblTT tt
 T := tblT [(154, E_23)]
 L := tblL [(7, S_24L7 fuel), (2, S_24L2 fuel)]
 dep := fun i => 0
 n := 3
noncomputable def B_24L7 : Code := (Try.f177.body.bind (loopBody 7)).getD .skip
noncomputable def B_24L2 : Code := (Try.f177.body.bind (loopBody 2)).getD .skip
noncomputable def D_24 : Code := Try.f177.body.getD .skip
noncomputable def N_24 (_ : outs [.v (.pair (.slice .int) (.pair .int (.slice (.slice .int)))), .v (.slice .int), .v (.slice (.slice .int))]) (r : dens [.v .bool]) : Bool := r
noncomputable def E_25 : Entry where
 params := [.v (.pair (.slice .int) (.pair .int (.slice (.slice .int)))), .v .int, .v .int, .v (.slice (.slice .int))]
 results := [.v .bool]
 B := Bool
 run := fun a => spec_l20Support a.1 a.2.1 a.2.2.1 a.2.2.2
 out := fun b => ((), (), (), ())
 res := fun b => b
noncomputable def S_25L2 (n : Nat) : LoopSpec where
 sh := [(1, .v .int), (2, .v .int), (3, .v (.slice (.slice .int))), (4, .bx (.v (.pair (.slice .int) (.pair .int (.slice (.slice .int)))))), (9, .v .int)]
 ex := [(.exit 0, []), (.ret, [(8, .v .bool)])]
 run := spec_l20Support_L2 n
noncomputable def C_25 : Cx where
 tt := tblTT tt
 T := tblT [(177, E_24)]
 L := tblL [(2, S_25L2 fuel)]
 dep := fun i => 0
 n := 4
noncomputable def B_25L2 : Code := (Try.f137.body.bind (loopBody 2)).getD .skip
noncomputable def D_25 : Code := Try.f137.body.getD .skip
noncomputable def N_25 (_ : outs [.v (.pair (.slice .int) (.pair .int (.slice (.slice .int)))), .v .int, .v .int, .v (.slice (.slice .int))]) (r : dens [.v .bool]) : Bool := r
noncomputable def E_26 : Entry where
 params := [.v (.slice .int), .v .int]
 results := [.mv .int 0]
 B := (List Int)
 run := fun a => spec_l20Without a.1 a.2
 out := fun b => ((), ())
 res := fun b => b
noncomputable def S_26L3 (n : Nat) : LoopSpec where
 sh := [(0, .v (.slice .int)), (1, .v .int), (5, .mv .int 0), (6, .v .int)]
 ex := [(.exit 0, [(5, .mv .int 0)])]
 run := spec_l20Without_L3 n
noncomputable def C_26 : Cx where
 tt := tblTT tt
 T := tblT []
 L := tblL [(3, S_26L3 fuel)]
 dep := fun i => 0
 n := 2
noncomputable def B_26L3 : Code := (Try.f138.body.bind (loopBody 3)).getD .skip
noncomputable def D_26 : Code := Try.f138.body.getD .skip
noncomputable def N_26 (_ : outs [.v (.slice .int), .v .int]) (r : dens [.mv .int 0]) : (List Int) := r
noncomputable def E_27 : Entry where
 params := [.v (.pair .int (.pair .int (.slice (.pair (.slice .int) (.pair .int (.slice (.slice .int))))))), .v (.slice (.slice .int))]
 results := [.mv (.slice .int) 0, .mv (.pair .int (.pair .int .int)) 0]
 B := (List (List Int)) × (List (Int × Int × Int))
 run := fun a => spec_l20Arc a.1 a.2
 out := fun b => ((), ())
 res := fun b => (b.1, b.2)
noncomputable def S_27L15 (n : Nat) : LoopSpec where
 sh := [(2, .bx (.v (.pair .int (.pair .int (.slice (.pair (.slice .int) (.pair .int (.slice (.slice .int))))))))), (6, .mv (.pair .int (.pair .int .int)) 0), (7, .mv (.slice .int) 0), (8, .v .int), (9, .v .int), (10, .bx (.v (.pair (.slice .int) (.pair .int (.slice (.slice .int)))))), (11, .v .int), (12, .v (.slice .int)), (13, .v .int)]
 ex := [(.exit 6, [(2, .bx (.v (.pair .int (.pair .int (.slice (.pair (.slice .int) (.pair .int (.slice (.slice .int))))))))), (6, .mv (.pair .int (.pair .int .int)) 0), (7, .mv (.slice .int) 0), (8, .v .int), (9, .v .int), (10, .bx (.v (.pair (.slice .int) (.pair .int (.slice (.slice .int)))))), (11, .v .int)])]
 run := spec_l20Arc_L15 n
noncomputable def S_27L11 (n : Nat) : LoopSpec where
 sh := [(2, .bx (.v (.pair .int (.pair .int (.slice (.pair (.slice .int) (.pair .int (.slice (.slice .int))))))))), (6, .mv (.pair .int (.pair .int .int)) 0), (7, .mv (.slice .int) 0), (8, .v .int), (9, .v .int), (10, .bx (.v (.pair (.slice .int) (.pair .int (.slice (.slice .int)))))), (11, .v .int)]
 ex := [(.exit 4, [(2, .bx (.v (.pair .int (.pair .int (.slice (.pair (.slice .int) (.pair .int (.slice (.slice .int))))))))), (6, .mv (.pair .int (.pair .int .int)) 0), (7, .mv (.slice .int) 0), (8, .v .int), (9, .v .int)])]
 run := spec_l20Arc_L11 n
noncomputable def S_27L7 (n : Nat) : LoopSpec where
 sh := [(2, .bx (.v (.pair .int (.pair .int (.slice (.pair (.slice .int) (.pair .int (.slice (.slice .int))))))))), (6, .mv (.pair .int (.pair .int .int)) 0), (7, .mv (.slice .int) 0), (8, .v .int), (9, .v .int)]
 ex := [(.exit 2, [(2, .bx (.v (.pair .int (.pair .int (.slice (.pair (.slice .int) (.pair .int (.slice (.slice .int))))))))), (6, .mv (.pair .int (.pair .int .int)) 0), (7, .mv (.slice .int) 0), (8, .v .int)])]
 run := spec_l20Arc_L7 n
noncomputable def S_27L4 (n : Nat) : LoopSpec where
 sh := [(2, .bx (.v (.pair .int (.pair .int (.slice (.pair (.slice .int) (.pair .int (.slice (.slice .int))))))))), (6, .mv (.pair .int (.pair .int .int)) 0), (7, .mv (.slice .int) 0), (8, .v .int)]
 ex := [(.exit 0, [(6, .mv (.pair .int (.pair .int .int)) 0), (7, .mv (.slice .int) 0)]), (.ret, [(4, .mv (.slice .int) 0), (5, .mv (.pair .int (.pair .int .int)) 0)])]
 run := spec_l20Arc_L4 n
noncomputable def C_27 : Cx where
 tt := tblTT tt
 T := tblT [(137, E_25), (138, E_26)]
 L := tblL [(15, S_27L15 fuel), (11, S_27L11 fuel), (7, S_27L7 fuel), (4, S_27L4 fuel)]
 dep := fun i => 0
 n := 2
noncomputable def B_27L15 : Code := (Try.f89.body.bind (loopBody 15)).getD .skip
noncomputable def B_27L11 : Code := (Try.f89.body.bind (loopBody 11)).getD .skip
noncomputable def B_27L7 : Code := (Try.f89.body.bind (loopBody 7)).getD .skip
noncomputable def B_27L4 : Code := (Try.f89.body.bind (loopBody 4)).getD .skip
noncomputable def D_27 : Code := Try.f89.body.getD .skip
noncomputable def N_27 (_ : outs [.v (.pair .int (.pair .int (.slice (.pair (.slice .int) (.pair .int (.slice (.slice .int))))))), .v (.slice (.slice .int))]) (r : dens [.mv (.slice .int) 0, .mv (.pair .int (.pair .int .int)) 0]) : (List (List Int)) × (List (Int × Int × Int)) := (r.1, r.2)
noncomputable def E_28 : Entry where
 params := [.v .int]
 results := [.mv .int 0]
 B := (List Int)
 run := fun a => spec_l14Free a
 out := fun b => ()
 res := fun b => b
noncomputable def S_28L3 (n : Nat) : LoopSpec where
 sh := [(0, .v .int), (3, .mv .int 0), (4, .v .int)]
 ex := [(.exit 0, [(3, .mv .int 0)])]
 run := spec_l14Free_L3 n
noncomputable def C_28 : Cx where
 tt := tblTT tt
 T := tblT []
 L := tblL [(3, S_28L3 fuel)]
 dep := fun i => 0
 n := 1
noncomputable def B_28L3 : Code := (Try.f53.body.bind (loopBody 3)).getD .skip
noncomputable def D_28 : Code := Try.f53.body.getD .skip
noncomputable def N_28 (_ : outs [.v .int]) (r : dens [.mv .int 0]) : (List Int) := r
noncomputable def E_29 : Entry where
 params := [.v .int, .v .int]
 results := [.v .int]
 B := Int
 run := fun a => spec_l1Most a.1 a.2
 out := fun b => ((), ())
 res := fun b => b
noncomputable def C_29 : Cx where
 tt := tblTT tt
 T := tblT []
 L := tblL []
 dep := fun i => 0
 n := 2
noncomputable def D_29 : Code := Try.f126.body.getD .skip
noncomputable def N_29 (_ : outs [.v .int, .v .int]) (r : dens [.v .int]) : Int := r
noncomputable def E_30 : Entry where
 params := [.v .int, .v (.slice (.pair (.slice .int) (.pair .int (.slice (.slice .int)))))]
 results := [.mv (.slice (.pair (.slice .int) (.pair .int (.slice (.slice .int))))) 1]
 B := (List (List ((List Int) × Int × (List (List Int)))))
 run := fun a => spec_l19Most a.1 a.2
 out := fun b => ((), ())
 res := fun b => b
noncomputable def S_30L7 (n : Nat) : LoopSpec where
 sh := [(1, .v (.slice (.pair (.slice .int) (.pair .int (.slice (.slice .int)))))), (5, .mv (.slice (.pair (.slice .int) (.pair .int (.slice (.slice .int))))) 1), (6, .v .int), (7, .v .int), (8, .v .int)]
 ex := [(.exit 2, [(1, .v (.slice (.pair (.slice .int) (.pair .int (.slice (.slice .int)))))), (5, .mv (.slice (.pair (.slice .int) (.pair .int (.slice (.slice .int))))) 1), (6, .v .int), (7, .v .int)])]
 run := spec_l19Most_L7 n
noncomputable def S_30L3 (n : Nat) : LoopSpec where
 sh := [(1, .v (.slice (.pair (.slice .int) (.pair .int (.slice (.slice .int)))))), (5, .mv (.slice (.pair (.slice .int) (.pair .int (.slice (.slice .int))))) 1), (6, .v .int)]
 ex := [(.exit 0, [(5, .mv (.slice (.pair (.slice .int) (.pair .int (.slice (.slice .int))))) 1)])]
 run := spec_l19Most_L3 n
noncomputable def C_30 : Cx where
 tt := tblTT tt
 T := tblT [(126, E_29)]
 L := tblL [(7, S_30L7 fuel), (3, S_30L3 fuel)]
 dep := fun i => match i with
  | 10 => 1
  | _ => 0
 n := 2
 fine := true
noncomputable def B_30L7 : Code := (Try.f141.body.bind (loopBody 7)).getD .skip
noncomputable def B_30L3 : Code := (Try.f141.body.bind (loopBody 3)).getD .skip
noncomputable def D_30 : Code := Try.f141.body.getD .skip
noncomputable def N_30 (_ : outs [.v .int, .v (.slice (.pair (.slice .int) (.pair .int (.slice (.slice .int)))))]) (r : dens [.mv (.slice (.pair (.slice .int) (.pair .int (.slice (.slice .int))))) 1]) : (List (List ((List Int) × Int × (List (List Int))))) := r
noncomputable def E_31 : Entry where
 params := [.v (.slice .int)]
 results := [.mv .int 0]
 B := (List Int)
 run := fun a => spec_l1Own a
 out := fun b => ()
 res := fun b => b
noncomputable def C_31 : Cx where
 tt := tblTT tt
 T := tblT []
 L := tblL []
 dep := fun i => 0
 n := 1
noncomputable def D_31 : Code := Try.f66.body.getD .skip
noncomputable def N_31 (_ : outs [.v (.slice .int)]) (r : dens [.mv .int 0]) : (List Int) := r
noncomputable def E_32 : Entry where
 params := [.v (.slice .int), .v (.slice .int)]
 results := [.v .bool]
 B := Bool
 run := fun a => spec_l1Same a.1 a.2
 out := fun b => ((), ())
 res := fun b => b
noncomputable def S_32L4 (n : Nat) : LoopSpec where
 sh := [(0, .v (.slice .int)), (1, .v (.slice .int)), (5, .v .int)]
 ex := [(.exit 0, []), (.ret, [(4, .v .bool)])]
 run := spec_l1Same_L4 n
noncomputable def C_32 : Cx where
 tt := tblTT tt
 T := tblT []
 L := tblL [(4, S_32L4 fuel)]
 dep := fun i => 0
 n := 2
noncomputable def B_32L4 : Code := (Try.f173.body.bind (loopBody 4)).getD .skip
noncomputable def D_32 : Code := Try.f173.body.getD .skip
noncomputable def N_32 (_ : outs [.v (.slice .int), .v (.slice .int)]) (r : dens [.v .bool]) : Bool := r
noncomputable def E_33 : Entry where
 params := [.v (.slice (.slice .int)), .v (.slice .int)]
 results := [.v .int, .v .bool]
 B := Int × Bool
 run := fun a => spec_l8Find a.1 a.2
 out := fun b => ((), ())
 res := fun b => (b.1, b.2)
noncomputable def S_33L2 (n : Nat) : LoopSpec where
 sh := [(0, .v (.slice (.slice .int))), (1, .v (.slice .int)), (6, .v .int), (7, .v .int)]
 ex := [(.exit 0, [(0, .v (.slice (.slice .int))), (1, .v (.slice .int)), (6, .v .int)])]
 run := spec_l8Find_L2 n
noncomputable def C_33 : Cx where
 tt := tblTT tt
 T := tblT [(169, E_17), (173, E_32)]
 L := tblL [(2, S_33L2 fuel)]
 dep := fun i => 0
 n := 2
noncomputable def B_33L2 : Code := (Try.f134.body.bind (loopBody 2)).getD .skip
noncomputable def D_33 : Code := Try.f134.body.getD .skip
noncomputable def N_33 (_ : outs [.v (.slice (.slice .int)), .v (.slice .int)]) (r : dens [.v .int, .v .bool]) : Int × Bool := (r.1, r.2)
noncomputable def E_34 : Entry where
 params := [.v (.pair .int (.slice (.slice .int))), .v (.slice .int)]
 results := [.v .bool]
 B := Bool
 run := fun a => spec_l13Has a.1 a.2
 out := fun b => ((), ())
 res := fun b => b
noncomputable def C_34 : Cx where
 tt := tblTT tt
 T := tblT [(134, E_33)]
 L := tblL []
 dep := fun i => 0
 n := 2
noncomputable def D_34 : Code := Try.f84.body.getD .skip
noncomputable def N_34 (_ : outs [.v (.pair .int (.slice (.slice .int))), .v (.slice .int)]) (r : dens [.v .bool]) : Bool := r
noncomputable def E_35 : Entry where
 params := [.v (.pair (.slice .int) (.pair .int (.slice (.slice .int)))), .v (.slice .int)]
 results := [.v .bool]
 B := Bool
 run := fun a => spec_l19Satisfies a.1 a.2
 out := fun b => ((), ())
 res := fun b => b
noncomputable def S_35L3 (n : Nat) : LoopSpec where
 sh := [(1, .v (.slice .int)), (2, .bx (.v (.pair (.slice .int) (.pair .int (.slice (.slice .int)))))), (5, .mv .int 0), (6, .v .int)]
 ex := [(.exit 0, [(2, .bx (.v (.pair (.slice .int) (.pair .int (.slice (.slice .int)))))), (5, .mv .int 0)])]
 run := spec_l19Satisfies_L3 n
noncomputable def C_35 : Cx where
 tt := tblTT tt
 T := tblT [(84, E_34)]
 L := tblL [(3, S_35L3 fuel)]
 dep := fun i => 0
 n := 2
noncomputable def B_35L3 : Code := (Try.f178.body.bind (loopBody 3)).getD .skip
noncomputable def D_35 : Code := Try.f178.body.getD .skip
noncomputable def N_35 (_ : outs [.v (.pair (.slice .int) (.pair .int (.slice (.slice .int)))), .v (.slice .int)]) (r : dens [.v .bool]) : Bool := r
noncomputable def E_36_of (rec : (Int × (List (List ((List Int) × Int × (List (List Int))))) × (List Int) × (List Int) × ((List (List Int)) × (Int × Int × Bool))) → Option (((List (List Int)) × (Int × Int × Bool)))) : Entry where
 params := [.v .int, .v (.slice (.slice (.pair (.slice .int) (.pair .int (.slice (.slice .int)))))), .v (.slice .int), .v (.slice .int), .pr (.mv (.slice .int) 1) (.v (.pair .int (.pair .int .bool)))]
 results := [.pr (.mv (.slice .int) 1) (.v (.pair .int (.pair .int .bool)))]
 B := ((List (List Int)) × (Int × Int × Bool))
 run := rec
 out := fun b => ((), (), (), (), ((), ()))
 res := fun b => b
noncomputable def E_36 (d : Nat) : Entry := E_36_of (spec_l19Go d)
noncomputable def S_36L14 (rec : (Int × (List (List ((List Int) × Int × (List (List Int))))) × (List Int) × (List Int) × ((List (List Int)) × (Int × Int × Bool))) → Option (((List (List Int)) × (Int × Int × Bool)))) (n : Nat) : LoopSpec where
 sh := [(0, .v .int), (1, .v (.slice (.slice (.pair (.slice .int) (.pair .int (.slice (.slice .int))))))), (2, .v (.slice .int)), (3, .v (.slice .int)), (9, .bx (.pr (.mv (.slice .int) 1) (.v (.pair .int (.pair .int .bool))))), (10, .bx (.pr (.mv (.slice .int) 1) (.v (.pair .int (.pair .int .bool))))), (11, .v .int), (12, .v .int), (13, .mv .int 0), (14, .v .bool), (15, .v .int)]
 ex := [(.exit 2, [(0, .v .int), (1, .v (.slice (.slice (.pair (.slice .int) (.pair .int (.slice (.slice .int))))))), (2, .v (.slice .int)), (3, .v (.slice .int)), (9, .bx (.pr (.mv (.slice .int) 1) (.v (.pair .int (.pair .int .bool))))), (10, .bx (.pr (.mv (.slice .int) 1) (.v (.pair .int (.pair .int .bool))))), (11, .v .int), (12, .v .int), (13, .mv .int 0), (14, .v .bool)])]
 run := spec_l19Go_L14 rec n
noncomputable def S_36L8 (rec : (Int × (List (List ((List Int) × Int × (List (List Int))))) × (List Int) × (List Int) × ((List (List Int)) × (Int × Int × Bool))) → Option (((List (List Int)) × (Int × Int × Bool)))) (n : Nat) : LoopSpec where
 sh := [(0, .v .int), (1, .v (.slice (.slice (.pair (.slice .int) (.pair .int (.slice (.slice .int))))))), (2, .v (.slice .int)), (3, .v (.slice .int)), (9, .bx (.pr (.mv (.slice .int) 1) (.v (.pair .int (.pair .int .bool))))), (10, .bx (.pr (.mv (.slice .int) 1) (.v (.pair .int (.pair .int .bool))))), (11, .v .int), (12, .v .int)]
 ex := [(.exit 0, [(9, .bx (.pr (.mv (.slice .int) 1) (.v (.pair .int (.pair .int .bool))))), (10, .bx (.pr (.mv (.slice .int) 1) (.v (.pair .int (.pair .int .bool)))))])]
 run := spec_l19Go_L8 rec n
noncomputable def C_36 (rec : (Int × (List (List ((List Int) × Int × (List (List Int))))) × (List Int) × (List Int) × ((List (List Int)) × (Int × Int × Bool))) → Option (((List (List Int)) × (Int × Int × Bool)))) : Cx where
 tt := tblTT tt
 T := tblT [(66, E_31), (140, E_36_of rec), (178, E_35)]
 L := tblL [(14, S_36L14 rec fuel), (8, S_36L8 rec fuel)]
 dep := fun i => match i with
  | 36 => 1
  | 37 => 1
  | _ => 0
 n := 5
noncomputable def B_36L14 : Code := (Try.f140.body.bind (loopBody 14)).getD .skip
noncomputable def B_36L8 : Code := (Try.f140.body.bind (loopBody 8)).getD .skip
noncomputable def D_36 : Code := Try.f140.body.getD .skip
noncomputable def N_36 (_ : outs [.v .int, .v (.slice (.slice (.pair (.slice .int) (.pair .int (.slice (.slice .int)))))), .v (.slice .int), .v (.slice .int), .pr (.mv (.slice .int) 1) (.v (.pair .int (.pair .int .bool)))]) (r : dens [.pr (.mv (.slice .int) 1) (.v (.pair .int (.pair .int .bool)))]) : ((List (List Int)) × (Int × Int × Bool)) := r
noncomputable def E_37 : Entry where
 params := [.v (.pair .int (.pair .int (.slice (.pair (.slice .int) (.pair .int (.slice (.slice .int))))))), .v (.slice (.pair (.slice .int) (.pair .int (.slice (.slice .int))))), .v (.slice .int), .v .int, .v .bool]
 results := [.pr (.mv (.slice .int) 1) (.v (.pair .int (.pair .int .bool)))]
 B := ((List (List Int)) × (Int × Int × Bool))
 run := fun a => spec_l19Find a.1 a.2.1 a.2.2.1 a.2.2.2.1 a.2.2.2.2
 out := fun b => ((), (), (), (), ())
 res := fun b => b
noncomputable def C_37 : Cx where
 tt := tblTT tt
 T := tblT [(140, E_36 fuel), (141, E_30)]
 L := tblL []
 dep := fun i => 0
 n := 5
noncomputable def D_37 : Code := Try.f91.body.getD .skip
noncomputable def N_37 (_ : outs [.v (.pair .int (.pair .int (.slice (.pair (.slice .int) (.pair .int (.slice (.slice .int))))))), .v (.slice (.pair (.slice .int) (.pair .int (.slice (.slice .int))))), .v (.slice .int), .v .int, .v .bool]) (r : dens [.pr (.mv (.slice .int) 1) (.v (.pair .int (.pair .int .bool)))]) : ((List (List Int)) × (Int × Int × Bool)) := r
noncomputable def E_38 : Entry where
 params := [.v (.slice (.slice .int))]
 results := [.v .int]
 B := Int
 run := fun a => spec_l20Kept a
 out := fun b => ()
 res := fun b => b
noncomputable def S_38L3 (n : Nat) : LoopSpec where
 sh := [(0, .v (.slice (.slice .int))), (3, .v .int), (4, .v .int)]
 ex := [(.exit 0, [(3, .v .int)])]
 run := spec_l20Kept_L3 n
noncomputable def C_38 : Cx where
 tt := tblTT tt
 T := tblT []
 L := tblL [(3, S_38L3 fuel)]
 dep := fun i => 0
 n := 1
noncomputable def B_38L3 : Code := (Try.f92.body.bind (loopBody 3)).getD .skip
noncomputable def D_38 : Code := Try.f92.body.getD .skip
noncomputable def N_38 (_ : outs [.v (.slice (.slice .int))]) (r : dens [.v .int]) : Int := r
noncomputable def E_39 : Entry where
 params := [.v (.slice (.slice .int))]
 results := [.v .bool]
 B := Bool
 run := fun a => spec_l20Empty a
 out := fun b => ()
 res := fun b => b
noncomputable def S_39L2 (n : Nat) : LoopSpec where
 sh := [(0, .v (.slice (.slice .int))), (3, .v .int)]
 ex := [(.exit 0, []), (.ret, [(2, .v .bool)])]
 run := spec_l20Empty_L2 n
noncomputable def C_39 : Cx where
 tt := tblTT tt
 T := tblT []
 L := tblL [(2, S_39L2 fuel)]
 dep := fun i => 0
 n := 1
noncomputable def B_39L2 : Code := (Try.f142.body.bind (loopBody 2)).getD .skip
noncomputable def D_39 : Code := Try.f142.body.getD .skip
noncomputable def N_39 (_ : outs [.v (.slice (.slice .int))]) (r : dens [.v .bool]) : Bool := r
noncomputable def E_40 : Entry where
 params := [.v (.pair .int (.pair .int (.slice (.pair (.slice .int) (.pair .int (.slice (.slice .int)))))))]
 results := [.mv (.slice .int) 0]
 B := (List (List Int))
 run := fun a => spec_l20Single a
 out := fun b => ()
 res := fun b => b
noncomputable def S_40L10 (n : Nat) : LoopSpec where
 sh := [(1, .bx (.v (.pair .int (.pair .int (.slice (.pair (.slice .int) (.pair .int (.slice (.slice .int))))))))), (3, .mv (.slice .int) 0), (4, .v .bool), (5, .v .int), (6, .v (.slice .int)), (7, .v .int)]
 ex := [(.exit 4, [(1, .bx (.v (.pair .int (.pair .int (.slice (.pair (.slice .int) (.pair .int (.slice (.slice .int))))))))), (3, .mv (.slice .int) 0), (4, .v .bool), (5, .v .int)])]
 run := spec_l20Single_L10 n
noncomputable def S_40L6 (n : Nat) : LoopSpec where
 sh := [(1, .bx (.v (.pair .int (.pair .int (.slice (.pair (.slice .int) (.pair .int (.slice (.slice .int))))))))), (3, .mv (.slice .int) 0), (4, .v .bool), (5, .v .int)]
 ex := [(.exit 2, [(1, .bx (.v (.pair .int (.pair .int (.slice (.pair (.slice .int) (.pair .int (.slice (.slice .int))))))))), (3, .mv (.slice .int) 0), (4, .v .bool)])]
 run := spec_l20Single_L6 n
noncomputable def S_40L3 (n : Nat) : LoopSpec where
 sh := [(1, .bx (.v (.pair .int (.pair .int (.slice (.pair (.slice .int) (.pair .int (.slice (.slice .int))))))))), (3, .mv (.slice .int) 0), (4, .v .bool)]
 ex := [(.exit 0, [(3, .mv (.slice .int) 0)])]
 run := spec_l20Single_L3 n
noncomputable def C_40 : Cx where
 tt := tblTT tt
 T := tblT [(89, E_27), (90, E_22), (138, E_26), (142, E_39)]
 L := tblL [(10, S_40L10 fuel), (6, S_40L6 fuel), (3, S_40L3 fuel)]
 dep := fun i => 0
 n := 1
noncomputable def B_40L10 : Code := (Try.f93.body.bind (loopBody 10)).getD .skip
noncomputable def B_40L6 : Code := (Try.f93.body.bind (loopBody 6)).getD .skip
noncomputable def B_40L3 : Code := (Try.f93.body.bind (loopBody 3)).getD .skip
noncomputable def D_40 : Code := Try.f93.body.getD .skip
noncomputable def N_40 (_ : outs [.v (.pair .int (.pair .int (.slice (.pair (.slice .int) (.pair .int (.slice (.slice .int)))))))]) (r : dens [.mv (.slice .int) 0]) : (List (List Int)) := r
noncomputable def E_41 : Entry where
 params := [.v (.pair .int (.pair .int (.slice (.pair (.slice .int) (.pair .int (.slice (.slice .int)))))))]
 results := [.v .int, .v .int, .v .int, .v .bool]
 B := Int × Int × Int × Bool
 run := fun a => spec_RemovedCounts a
 out := fun b => ()
 res := fun b => (b.1, b.2.1, b.2.2.1, b.2.2.2)
noncomputable def S_41L10 (n : Nat) : LoopSpec where
 sh := [(1, .bx (.v (.pair .int (.pair .int (.slice (.pair (.slice .int) (.pair .int (.slice (.slice .int))))))))), (6, .v .int), (7, .mv (.slice .int) 0), (9, .v .int), (10, .v .int), (11, .v .int)]
 ex := [(.exit 2, [(1, .bx (.v (.pair .int (.pair .int (.slice (.pair (.slice .int) (.pair .int (.slice (.slice .int))))))))), (6, .v .int), (7, .mv (.slice .int) 0), (9, .v .int), (10, .v .int)])]
 run := spec_RemovedCounts_L10 n
noncomputable def S_41L7 (n : Nat) : LoopSpec where
 sh := [(1, .bx (.v (.pair .int (.pair .int (.slice (.pair (.slice .int) (.pair .int (.slice (.slice .int))))))))), (6, .v .int), (7, .mv (.slice .int) 0), (9, .v .int), (10, .v .int)]
 ex := [(.exit 0, [(1, .bx (.v (.pair .int (.pair .int (.slice (.pair (.slice .int) (.pair .int (.slice (.slice .int))))))))), (6, .v .int), (7, .mv (.slice .int) 0), (9, .v .int)])]
 run := spec_RemovedCounts_L7 n
noncomputable def C_41 : Cx where
 tt := tblTT tt
 T := tblT [(53, E_28), (88, E_20), (89, E_27), (90, E_22), (91, E_37), (92, E_38), (93, E_40)]
 L := tblL [(10, S_41L10 fuel), (7, S_41L7 fuel)]
 dep := fun i => 0
 n := 1
noncomputable def B_41L10 : Code := (Try.f34.body.bind (loopBody 10)).getD .skip
noncomputable def B_41L7 : Code := (Try.f34.body.bind (loopBody 7)).getD .skip
noncomputable def D_41 : Code := Try.f34.body.getD .skip
noncomputable def N_41 (_ : outs [.v (.pair .int (.pair .int (.slice (.pair (.slice .int) (.pair .int (.slice (.slice .int)))))))]) (r : dens [.v .int, .v .int, .v .int, .v .bool]) : Int × Int × Int × Bool := (r.1, r.2.1, r.2.2.1, r.2.2.2)
noncomputable def E_42 : Entry where
 params := [.v .int]
 results := [.v .bool]
 B := Bool
 run := fun a => impl_isTemplateSize a
 out := fun b => ()
 res := fun b => b
noncomputable def C_42 : Cx where
 tt := tblTT tt
 T := tblT []
 L := tblL []
 dep := fun i => 0
 n := 1
noncomputable def D_42 : Code := Try.f112.body.getD .skip
noncomputable def N_42 (_ : outs [.v .int]) (r : dens [.v .bool]) : Bool := r
noncomputable def E_43 : Entry where
 params := [.v (.slice .int), .v .int]
 results := [.v .bool]
 B := Bool
 run := fun a => impl_inSize a.1 a.2
 out := fun b => ((), ())
 res := fun b => b
noncomputable def S_43L2 (n : Nat) : LoopSpec where
 sh := [(1, .v .int), (7, .v (.slice .int)), (8, .v .int), (9, .v .int)]
 ex := [(.exit 0, []), (.ret, [(4, .v .bool)])]
 run := impl_inSize_L2 n
noncomputable def C_43 : Cx where
 tt := tblTT tt
 T := tblT []
 L := tblL [(2, S_43L2 fuel)]
 dep := fun i => 0
 n := 2
noncomputable def B_43L2 : Code := (Try.f77.body.bind (loopBody 2)).getD .skip
noncomputable def D_43 : Code := Try.f77.body.getD .skip
noncomputable def N_43 (_ : outs [.v (.slice .int), .v .int]) (r : dens [.v .bool]) : Bool := r
noncomputable def E_44 : Entry where
 params := [.v (.slice .int), .v (.slice .int)]
 results := [.v .int]
 B := Int
 run := fun a => impl_compareLists a.1 a.2
 out := fun b => ((), ())
 res := fun b => b
noncomputable def S_44L2 (n : Nat) : LoopSpec where
 sh := [(0, .v (.slice .int)), (1, .v (.slice .int)), (5, .v .int)]
 ex := [(.exit 0, [(0, .v (.slice .int)), (1, .v (.slice .int))]), (.ret, [(4, .v .int)])]
 run := impl_compareLists_L2 n
noncomputable def C_44 : Cx where
 tt := tblTT tt
 T := tblT []
 L := tblL [(2, S_44L2 fuel)]
 dep := fun i => 0
 n := 2
noncomputable def B_44L2 : Code := (Try.f190.body.bind (loopBody 2)).getD .skip
noncomputable def D_44 : Code := Try.f190.body.getD .skip
noncomputable def N_44 (_ : outs [.v (.slice .int), .v (.slice .int)]) (r : dens [.v .int]) : Int := r
noncomputable def E_45 : Entry where
 params := [.v .int, .v (.pair .int (.slice (.slice .int)))]
 results := [.v .bool]
 B := Bool
 run := fun a => impl_isRelation a.1 a.2
 out := fun b => ((), ())
 res := fun b => b
noncomputable def S_45L4 (n : Nat) : LoopSpec where
 sh := [(0, .v .int), (3, .bx (.v (.pair .int (.slice (.slice .int))))), (16, .v (.slice (.slice .int))), (17, .v .int), (18, .v .int)]
 ex := [(.exit 0, []), (.ret, [(4, .v .bool)])]
 run := impl_isRelation_L4 n
noncomputable def C_45 : Cx where
 tt := tblTT tt
 T := tblT [(77, E_43), (190, E_44)]
 L := tblL [(4, S_45L4 fuel)]
 dep := fun i => 0
 n := 2
noncomputable def B_45L4 : Code := (Try.f165.body.bind (loopBody 4)).getD .skip
noncomputable def D_45 : Code := Try.f165.body.getD .skip
noncomputable def N_45 (_ : outs [.v .int, .v (.pair .int (.slice (.slice .int)))]) (r : dens [.v .bool]) : Bool := r
noncomputable def E_46 : Entry where
 params := [.v .int, .v .int, .v (.pair (.slice .int) (.pair .int (.slice (.slice .int))))]
 results := [.v .bool]
 B := Bool
 run := fun a => impl_isConstraint a.1 a.2.1 a.2.2
 out := fun b => ((), (), ())
 res := fun b => b
noncomputable def C_46 : Cx where
 tt := tblTT tt
 T := tblT [(77, E_43), (165, E_45)]
 L := tblL []
 dep := fun i => 0
 n := 3
noncomputable def D_46 : Code := Try.f144.body.getD .skip
noncomputable def N_46 (_ : outs [.v .int, .v .int, .v (.pair (.slice .int) (.pair .int (.slice (.slice .int))))]) (r : dens [.v .bool]) : Bool := r
noncomputable def E_47 : Entry where
 params := [.v (.pair .int (.pair .int (.slice (.pair (.slice .int) (.pair .int (.slice (.slice .int)))))))]
 results := [.v .bool]
 B := Bool
 run := fun a => impl_IsNetwork a
 out := fun b => ()
 res := fun b => b
noncomputable def S_47L4 (n : Nat) : LoopSpec where
 sh := [(1, .bx (.v (.pair .int (.pair .int (.slice (.pair (.slice .int) (.pair .int (.slice (.slice .int))))))))), (26, .v (.slice (.pair (.slice .int) (.pair .int (.slice (.slice .int)))))), (27, .v .int), (28, .v .int)]
 ex := [(.exit 0, []), (.ret, [(2, .v .bool)])]
 run := impl_IsNetwork_L4 n
noncomputable def C_47 : Cx where
 tt := tblTT tt
 T := tblT [(112, E_42), (144, E_46)]
 L := tblL [(4, S_47L4 fuel)]
 dep := fun i => 0
 n := 1
noncomputable def B_47L4 : Code := (Try.f95.body.bind (loopBody 4)).getD .skip
noncomputable def D_47 : Code := Try.f95.body.getD .skip
noncomputable def N_47 (_ : outs [.v (.pair .int (.pair .int (.slice (.pair (.slice .int) (.pair .int (.slice (.slice .int)))))))]) (r : dens [.v .bool]) : Bool := r
noncomputable def E_48 : Entry where
 params := [.v (.pair .int (.pair .int (.slice (.pair (.slice .int) (.pair .int (.slice (.slice .int)))))))]
 results := [.mv (.slice .bool) 1]
 B := (List (List Bool))
 run := fun a => impl_wholeDomains a
 out := fun b => ()
 res := fun b => b
noncomputable def S_48L7 (n : Nat) : LoopSpec where
 sh := [(1, .bx (.v (.pair .int (.pair .int (.slice (.pair (.slice .int) (.pair .int (.slice (.slice .int))))))))), (3, .mv (.slice .bool) 1), (4, .v .int), (10, .v .int), (11, .v .int), (24, .v .int), (25, .v .int)]
 ex := [(.exit 2, [(1, .bx (.v (.pair .int (.pair .int (.slice (.pair (.slice .int) (.pair .int (.slice (.slice .int))))))))), (3, .mv (.slice .bool) 1), (10, .v .int), (11, .v .int)])]
 run := impl_wholeDomains_L7 n
noncomputable def S_48L3 (n : Nat) : LoopSpec where
 sh := [(1, .bx (.v (.pair .int (.pair .int (.slice (.pair (.slice .int) (.pair .int (.slice (.slice .int))))))))), (3, .mv (.slice .bool) 1), (10, .v .int), (11, .v .int)]
 ex := [(.exit 0, [(3, .mv (.slice .bool) 1)])]
 run := impl_wholeDomains_L3 n
noncomputable def C_48 : Cx where
 tt := tblTT tt
 T := tblT []
 L := tblL [(7, S_48L7 fuel), (3, S_48L3 fuel)]
 dep := fun i => match i with
  | 8 => 1
  | _ => 0
 n := 1
noncomputable def B_48L7 : Code := (Try.f96.body.bind (loopBody 7)).getD .skip
noncomputable def B_48L3 : Code := (Try.f96.body.bind (loopBody 3)).getD .skip
noncomputable def D_48 : Code := Try.f96.body.getD .skip
noncomputable def N_48 (_ : outs [.v (.pair .int (.pair .int (.slice (.pair (.slice .int) (.pair .int (.slice (.slice .int)))))))]) (r : dens [.mv (.slice .bool) 1]) : (List (List Bool)) := r
noncomputable def E_49 : Entry where
 params := [.v (.slice .int)]
 results := [.v .str]
 B := ByteArray
 run := fun a => impl_keyOf a
 out := fun b => ()
 res := fun b => b
noncomputable def S_49L3 (n : Nat) : LoopSpec where
 sh := [(3, .mv (.num .u8) 0), (10, .v (.slice .int)), (11, .v .int), (12, .v .int)]
 ex := [(.exit 0, [(3, .mv (.num .u8) 0)])]
 run := impl_keyOf_L3 n
noncomputable def C_49 : Cx where
 tt := tblTT tt
 T := tblT []
 L := tblL [(3, S_49L3 fuel)]
 dep := fun i => 0
 n := 1
noncomputable def B_49L3 : Code := (Try.f119.body.bind (loopBody 3)).getD .skip
noncomputable def D_49 : Code := Try.f119.body.getD .skip
noncomputable def N_49 (_ : outs [.v (.slice .int)]) (r : dens [.v .str]) : ByteArray := r
noncomputable def E_50 : Entry where
 params := [.v (.pair .int (.slice (.slice .int)))]
 results := [.v .smap]
 B := (List ByteArray)
 run := fun a => impl_tupleSet a
 out := fun b => ()
 res := fun b => b
noncomputable def S_50L3 (n : Nat) : LoopSpec where
 sh := [(3, .mp), (8, .v (.slice (.slice .int))), (9, .v .int), (10, .v .int)]
 ex := [(.exit 0, [(3, .mp)])]
 run := impl_tupleSet_L3 n
noncomputable def C_50 : Cx where
 tt := tblTT tt
 T := tblT [(119, E_49)]
 L := tblL [(3, S_50L3 fuel)]
 dep := fun i => 0
 n := 1
noncomputable def B_50L3 : Code := (Try.f117.body.bind (loopBody 3)).getD .skip
noncomputable def D_50 : Code := Try.f117.body.getD .skip
noncomputable def N_50 (_ : outs [.v (.pair .int (.slice (.slice .int)))]) (r : dens [.v .smap]) : (List ByteArray) := r
noncomputable def E_51 : Entry where
 params := [.v (.pair .int (.pair .int (.slice (.pair (.slice .int) (.pair .int (.slice (.slice .int)))))))]
 results := [.v (.ptr (.pair .int (.pair (.slice (.slice (.slice .int))) (.slice (.slice .smap)))))]
 B := (Bool × Int × (List (List (List Int))) × (List (List (List ByteArray))))
 run := fun a => impl_newNetSearch a
 out := fun b => ()
 res := fun b => b
noncomputable def S_51L7 (n : Nat) : LoopSpec where
 sh := [(3, .bx (.pr (.v .int) (.pr (.mv (.slice (.slice .int)) 1) (.mv (.slice .smap) 1)))), (5, .bx (.v (.pair (.slice .int) (.pair .int (.slice (.slice .int)))))), (6, .v .int), (20, .v (.slice (.pair (.slice .int) (.pair .int (.slice (.slice .int)))))), (21, .v .int), (22, .v .int), (27, .v (.slice .int)), (28, .v .int), (29, .v .int)]
 ex := [(.exit 2, [(3, .bx (.pr (.v .int) (.pr (.mv (.slice (.slice .int)) 1) (.mv (.slice .smap) 1)))), (5, .bx (.v (.pair (.slice .int) (.pair .int (.slice (.slice .int)))))), (6, .v .int), (20, .v (.slice (.pair (.slice .int) (.pair .int (.slice (.slice .int)))))), (21, .v .int), (22, .v .int)])]
 run := impl_newNetSearch_L7 n
noncomputable def S_51L3 (n : Nat) : LoopSpec where
 sh := [(3, .bx (.pr (.v .int) (.pr (.mv (.slice (.slice .int)) 1) (.mv (.slice .smap) 1)))), (20, .v (.slice (.pair (.slice .int) (.pair .int (.slice (.slice .int)))))), (21, .v .int), (22, .v .int)]
 ex := [(.exit 0, [(3, .bx (.pr (.v .int) (.pr (.mv (.slice (.slice .int)) 1) (.mv (.slice .smap) 1))))])]
 run := impl_newNetSearch_L3 n
noncomputable def C_51 : Cx where
 tt := tblTT tt
 T := tblT [(117, E_50)]
 L := tblL [(7, S_51L7 fuel), (3, S_51L3 fuel)]
 dep := fun i => match i with
  | 13 => 1
  | 16 => 1
  | _ => 0
 n := 1
 fine := true
noncomputable def B_51L7 : Code := (Try.f145.body.bind (loopBody 7)).getD .skip
noncomputable def B_51L3 : Code := (Try.f145.body.bind (loopBody 3)).getD .skip
noncomputable def D_51 : Code := Try.f145.body.getD .skip
noncomputable def N_51 (_ : outs [.v (.pair .int (.pair .int (.slice (.pair (.slice .int) (.pair .int (.slice (.slice .int)))))))]) (r : dens [.v (.ptr (.pair .int (.pair (.slice (.slice (.slice .int))) (.slice (.slice .smap)))))]) : (Bool × Int × (List (List (List Int))) × (List (List (List ByteArray)))) := r
noncomputable def E_52 : Entry where
 params := [.v .int]
 results := [.mv .int 0]
 B := (List Int)
 run := fun a => impl_freeTable a
 out := fun b => ()
 res := fun b => b
noncomputable def S_52L3 (n : Nat) : LoopSpec where
 sh := [(3, .mv .int 0), (8, .v .int), (9, .v .int)]
 ex := [(.exit 0, [(3, .mv .int 0)])]
 run := impl_freeTable_L3 n
noncomputable def C_52 : Cx where
 tt := tblTT tt
 T := tblT []
 L := tblL [(3, S_52L3 fuel)]
 dep := fun i => 0
 n := 1
noncomputable def B_52L3 : Code := (Try.f49.body.bind (loopBody 3)).getD .skip
noncomputable def D_52 : Code := Try.f49.body.getD .skip
noncomputable def N_52 (_ : outs [.v .int]) (r : dens [.mv .int 0]) : (List Int) := r
noncomputable def E_53 : Entry where
 params := [.v (.slice .int), .v (.slice .int)]
 results := [.v .bool]
 B := Bool
 run := fun a => impl_agrees a.1 a.2
 out := fun b => ((), ())
 res := fun b => b
noncomputable def S_53L5 (n : Nat) : LoopSpec where
 sh := [(0, .v (.slice .int)), (1, .v (.slice .int)), (5, .v .int), (6, .v .int), (9, .v (.slice .int)), (10, .v .int), (11, .v .int), (18, .v (.slice .int)), (19, .v .int), (20, .v .int)]
 ex := [(.exit 2, [(0, .v (.slice .int)), (1, .v (.slice .int)), (9, .v (.slice .int)), (10, .v .int), (11, .v .int)]), (.ret, [(4, .v .bool)])]
 run := impl_agrees_L5 n
noncomputable def S_53L2 (n : Nat) : LoopSpec where
 sh := [(0, .v (.slice .int)), (1, .v (.slice .int)), (9, .v (.slice .int)), (10, .v .int), (11, .v .int)]
 ex := [(.exit 0, []), (.ret, [(4, .v .bool)])]
 run := impl_agrees_L2 n
noncomputable def C_53 : Cx where
 tt := tblTT tt
 T := tblT []
 L := tblL [(5, S_53L5 fuel), (2, S_53L2 fuel)]
 dep := fun i => 0
 n := 2
noncomputable def B_53L5 : Code := (Try.f194.body.bind (loopBody 5)).getD .skip
noncomputable def B_53L2 : Code := (Try.f194.body.bind (loopBody 2)).getD .skip
noncomputable def D_53 : Code := Try.f194.body.getD .skip
noncomputable def N_53 (_ : outs [.v (.slice .int), .v (.slice .int)]) (r : dens [.v .bool]) : Bool := r
noncomputable def E_54 : Entry where
 params := [.v (.slice (.slice .bool)), .v (.pair (.slice .int) (.pair .int (.slice (.slice .int)))), .v .int, .v .int]
 results := [.v .bool]
 B := Bool
 run := fun a => impl_domains_supports a.1 a.2.1 a.2.2.1 a.2.2.2
 out := fun b => ((), (), (), ())
 res := fun b => b
noncomputable def S_54L7 (n : Nat) : LoopSpec where
 sh := [(0, .v (.slice (.slice .bool))), (2, .v .int), (3, .v .int), (5, .bx (.v (.pair (.slice .int) (.pair .int (.slice (.slice .int)))))), (11, .v .bool), (16, .v (.slice (.slice .int))), (17, .v .int), (18, .v .int), (35, .v (.slice .int)), (36, .v .int), (37, .v .int)]
 ex := [(.exit 2, [(0, .v (.slice (.slice .bool))), (2, .v .int), (3, .v .int), (5, .bx (.v (.pair (.slice .int) (.pair .int (.slice (.slice .int)))))), (11, .v .bool), (16, .v (.slice (.slice .int))), (17, .v .int), (18, .v .int)])]
 run := impl_domains_supports_L7 n
noncomputable def S_54L2 (n : Nat) : LoopSpec where
 sh := [(0, .v (.slice (.slice .bool))), (2, .v .int), (3, .v .int), (5, .bx (.v (.pair (.slice .int) (.pair .int (.slice (.slice .int)))))), (16, .v (.slice (.slice .int))), (17, .v .int), (18, .v .int)]
 ex := [(.exit 0, []), (.ret, [(8, .v .bool)])]
 run := impl_domains_supports_L2 n
noncomputable def C_54 : Cx where
 tt := tblTT tt
 T := tblT [(194, E_53)]
 L := tblL [(7, S_54L7 fuel), (2, S_54L2 fuel)]
 dep := fun i => 0
 n := 4
noncomputable def B_54L7 : Code := (Try.f182.body.bind (loopBody 7)).getD .skip
noncomputable def B_54L2 : Code := (Try.f182.body.bind (loopBody 2)).getD .skip
noncomputable def D_54 : Code := Try.f182.body.getD .skip
noncomputable def N_54 (_ : outs [.v (.slice (.slice .bool)), .v (.pair (.slice .int) (.pair .int (.slice (.slice .int)))), .v .int, .v .int]) (r : dens [.v .bool]) : Bool := r
noncomputable def E_55 : Entry where
 params := [.io (.slice .bool) 1, .v (.pair .int (.pair .int (.slice (.pair (.slice .int) (.pair .int (.slice (.slice .int)))))))]
 results := [.mv (.pair .int (.pair .int .int)) 0]
 B := (List (List Bool)) × (List (Int × Int × Int))
 run := fun a => impl_domains_reduce a.1 a.2
 out := fun b => (b.1, ())
 res := fun b => b.2
noncomputable def S_55L12 (n : Nat) : LoopSpec where
 sh := [(0, .io (.slice .bool) 1), (3, .bx (.v (.pair .int (.pair .int (.slice (.pair (.slice .int) (.pair .int (.slice (.slice .int))))))))), (5, .mv (.pair .int (.pair .int .int)) 0), (6, .v .bool), (7, .v .int), (8, .bx (.v (.pair (.slice .int) (.pair .int (.slice (.slice .int)))))), (9, .v .int), (10, .v .int), (15, .v (.slice (.pair (.slice .int) (.pair .int (.slice (.slice .int)))))), (16, .v .int), (17, .v .int), (23, .v (.slice .int)), (24, .v .int), (25, .v .int), (34, .v .int), (35, .v .int)]
 ex := [(.exit 6, [(0, .io (.slice .bool) 1), (3, .bx (.v (.pair .int (.pair .int (.slice (.pair (.slice .int) (.pair .int (.slice (.slice .int))))))))), (5, .mv (.pair .int (.pair .int .int)) 0), (6, .v .bool), (7, .v .int), (8, .bx (.v (.pair (.slice .int) (.pair .int (.slice (.slice .int)))))), (15, .v (.slice (.pair (.slice .int) (.pair .int (.slice (.slice .int)))))), (16, .v .int), (17, .v .int), (23, .v (.slice .int)), (24, .v .int), (25, .v .int)])]
 run := impl_domains_reduce_L12 n
noncomputable def S_55L9 (n : Nat) : LoopSpec where
 sh := [(0, .io (.slice .bool) 1), (3, .bx (.v (.pair .int (.pair .int (.slice (.pair (.slice .int) (.pair .int (.slice (.slice .int))))))))), (5, .mv (.pair .int (.pair .int .int)) 0), (6, .v .bool), (7, .v .int), (8, .bx (.v (.pair (.slice .int) (.pair .int (.slice (.slice .int)))))), (15, .v (.slice (.pair (.slice .int) (.pair .int (.slice (.slice .int)))))), (16, .v .int), (17, .v .int), (23, .v (.slice .int)), (24, .v .int), (25, .v .int)]
 ex := [(.exit 4, [(0, .io (.slice .bool) 1), (3, .bx (.v (.pair .int (.pair .int (.slice (.pair (.slice .int) (.pair .int (.slice (.slice .int))))))))), (5, .mv (.pair .int (.pair .int .int)) 0), (6, .v .bool), (15, .v (.slice (.pair (.slice .int) (.pair .int (.slice (.slice .int)))))), (16, .v .int), (17, .v .int)])]
 run := impl_domains_reduce_L9 n
noncomputable def S_55L6 (n : Nat) : LoopSpec where
 sh := [(0, .io (.slice .bool) 1), (3, .bx (.v (.pair .int (.pair .int (.slice (.pair (.slice .int) (.pair .int (.slice (.slice .int))))))))), (5, .mv (.pair .int (.pair .int .int)) 0), (6, .v .bool), (15, .v (.slice (.pair (.slice .int) (.pair .int (.slice (.slice .int)))))), (16, .v .int), (17, .v .int)]
 ex := [(.exit 2, [(0, .io (.slice .bool) 1), (3, .bx (.v (.pair .int (.pair .int (.slice (.pair (.slice .int) (.pair .int (.slice (.slice .int))))))))), (5, .mv (.pair .int (.pair .int .int)) 0), (6, .v .bool)])]
 run := impl_domains_reduce_L6 n
noncomputable def S_55L3 (n : Nat) : LoopSpec where
 sh := [(0, .io (.slice .bool) 1), (3, .bx (.v (.pair .int (.pair .int (.slice (.pair (.slice .int) (.pair .int (.slice (.slice .int))))))))), (5, .mv (.pair .int (.pair .int .int)) 0), (6, .v .bool)]
 ex := [(.exit 0, [(0, .io (.slice .bool) 1), (5, .mv (.pair .int (.pair .int .int)) 0)])]
 run := impl_domains_reduce_L3 n
noncomputable def C_55 : Cx where
 tt := tblTT tt
 T := tblT [(182, E_54)]
 L := tblL [(12, S_55L12 fuel), (9, S_55L9 fuel), (6, S_55L6 fuel), (3, S_55L3 fuel)]
 dep := fun i => 0
 n := 2
noncomputable def B_55L12 : Code := (Try.f147.body.bind (loopBody 12)).getD .skip
noncomputable def B_55L9 : Code := (Try.f147.body.bind (loopBody 9)).getD .skip
noncomputable def B_55L6 : Code := (Try.f147.body.bind (loopBody 6)).getD .skip
noncomputable def B_55L3 : Code := (Try.f147.body.bind (loopBody 3)).getD .skip
noncomputable def D_55 : Code := Try.f147.body.getD .skip
noncomputable def N_55 (o : outs [.io (.slice .bool) 1, .v (.pair .int (.pair .int (.slice (.pair (.slice .int) (.pair .int (.slice (.slice .int)))))))]) (r : dens [.mv (.pair .int (.pair .int .int)) 0]) : (List (List Bool)) × (List (Int × Int × Int)) := (o.1, r)
noncomputable def E_56 : Entry where
 params := [.v (.pair .int (.pair .int (.slice (.pair (.slice .int) (.pair .int (.slice (.slice .int)))))))]
 results := [.mv (.slice .bool) 1]
 B := (List (List Bool))
 run := fun a => impl_arcDomains a
 out := fun b => ()
 res := fun b => b
noncomputable def C_56 : Cx where
 tt := tblTT tt
 T := tblT [(96, E_48), (147, E_55)]
 L := tblL []
 dep := fun i => 0
 n := 1
noncomputable def D_56 : Code := Try.f99.body.getD .skip
noncomputable def N_56 (_ : outs [.v (.pair .int (.pair .int (.slice (.pair (.slice .int) (.pair .int (.slice (.slice .int)))))))]) (r : dens [.mv (.slice .bool) 1]) : (List (List Bool)) := r
noncomputable def E_57 : Entry where
 params := [.v (.slice .bool)]
 results := [.mv .int 0]
 B := (List Int)
 run := fun a => impl_marked a
 out := fun b => ()
 res := fun b => b
noncomputable def S_57L3 (n : Nat) : LoopSpec where
 sh := [(3, .mv .int 0), (7, .v (.slice .bool)), (8, .v .int), (9, .v .int)]
 ex := [(.exit 0, [(3, .mv .int 0)])]
 run := impl_marked_L3 n
noncomputable def C_57 : Cx where
 tt := tblTT tt
 T := tblT []
 L := tblL [(3, S_57L3 fuel)]
 dep := fun i => 0
 n := 1
noncomputable def B_57L3 : Code := (Try.f131.body.bind (loopBody 3)).getD .skip
noncomputable def D_57 : Code := Try.f131.body.getD .skip
noncomputable def N_57 (_ : outs [.v (.slice .bool)]) (r : dens [.mv .int 0]) : (List Int) := r
noncomputable def E_58 : Entry where
 params := [.v (.slice (.slice .bool))]
 results := [.v .int]
 B := Int
 run := fun a => impl_domains_missing a
 out := fun b => ()
 res := fun b => b
noncomputable def S_58L3 (n : Nat) : LoopSpec where
 sh := [(3, .v .int), (6, .v (.slice (.slice .bool))), (7, .v .int), (8, .v .int)]
 ex := [(.exit 0, [(3, .v .int)])]
 run := impl_domains_missing_L3 n
noncomputable def C_58 : Cx where
 tt := tblTT tt
 T := tblT [(131, E_57)]
 L := tblL [(3, S_58L3 fuel)]
 dep := fun i => 0
 n := 1
noncomputable def B_58L3 : Code := (Try.f100.body.bind (loopBody 3)).getD .skip
noncomputable def D_58 : Code := Try.f100.body.getD .skip
noncomputable def N_58 (_ : outs [.v (.slice (.slice .bool))]) (r : dens [.v .int]) : Int := r
noncomputable def E_59 : Entry where
 params := [.v (.slice (.slice .bool))]
 results := [.mv (.slice .bool) 1]
 B := (List (List Bool))
 run := fun a => impl_domains_copyOf a
 out := fun b => ()
 res := fun b => b
noncomputable def S_59L3 (n : Nat) : LoopSpec where
 sh := [(0, .v (.slice (.slice .bool))), (3, .mv (.slice .bool) 1), (9, .v .int), (10, .v .int)]
 ex := [(.exit 0, [(3, .mv (.slice .bool) 1)])]
 run := impl_domains_copyOf_L3 n
noncomputable def C_59 : Cx where
 tt := tblTT tt
 T := tblT []
 L := tblL [(3, S_59L3 fuel)]
 dep := fun i => match i with
  | 7 => 1
  | _ => 0
 n := 1
noncomputable def B_59L3 : Code := (Try.f148.body.bind (loopBody 3)).getD .skip
noncomputable def D_59 : Code := Try.f148.body.getD .skip
noncomputable def N_59 (_ : outs [.v (.slice (.slice .bool))]) (r : dens [.mv (.slice .bool) 1]) : (List (List Bool)) := r
noncomputable def E_60 : Entry where
 params := [.io (.slice .bool) 1, .v .int, .v .int]
 results := []
 B := (List (List Bool))
 run := fun a => impl_domains_fix a.1 a.2.1 a.2.2
 out := fun b => (b, (), ())
 res := fun b => ()
noncomputable def S_60L1 (n : Nat) : LoopSpec where
 sh := [(0, .io (.slice .bool) 1), (1, .v .int), (2, .v .int), (11, .v .int), (12, .v .int)]
 ex := [(.exit 0, [(0, .io (.slice .bool) 1)])]
 run := impl_domains_fix_L1 n
noncomputable def C_60 : Cx where
 tt := tblTT tt
 T := tblT []
 L := tblL [(1, S_60L1 fuel)]
 dep := fun i => 0
 n := 3
noncomputable def B_60L1 : Code := (Try.f149.body.bind (loopBody 1)).getD .skip
noncomputable def D_60 : Code := Try.f149.body.getD .skip
noncomputable def N_60 (o : outs [.io (.slice .bool) 1, .v .int, .v .int]) (_ : dens []) : (List (List Bool)) := o.1
noncomputable def E_61 : Entry where
 params := [.v (.slice (.slice .bool))]
 results := [.v .bool]
 B := Bool
 run := fun a => impl_domains_hasEmpty a
 out := fun b => ()
 res := fun b => b
noncomputable def S_61L2 (n : Nat) : LoopSpec where
 sh := [(5, .v (.slice (.slice .bool))), (6, .v .int), (7, .v .int)]
 ex := [(.exit 0, []), (.ret, [(2, .v .bool)])]
 run := impl_domains_hasEmpty_L2 n
noncomputable def C_61 : Cx where
 tt := tblTT tt
 T := tblT [(131, E_57)]
 L := tblL [(2, S_61L2 fuel)]
 dep := fun i => 0
 n := 1
noncomputable def B_61L2 : Code := (Try.f150.body.bind (loopBody 2)).getD .skip
noncomputable def D_61 : Code := Try.f150.body.getD .skip
noncomputable def N_61 (_ : outs [.v (.slice (.slice .bool))]) (r : dens [.v .bool]) : Bool := r
noncomputable def E_62 : Entry where
 params := [.v (.pair .int (.pair .int (.slice (.pair (.slice .int) (.pair .int (.slice (.slice .int)))))))]
 results := [.mv (.slice .bool) 1]
 B := (List (List Bool))
 run := fun a => impl_singleDomains a
 out := fun b => ()
 res := fun b => b
noncomputable def S_62L9 (n : Nat) : LoopSpec where
 sh := [(1, .bx (.v (.pair .int (.pair .int (.slice (.pair (.slice .int) (.pair .int (.slice (.slice .int))))))))), (3, .mv (.slice .bool) 1), (4, .v .bool), (5, .v .int), (12, .v .int), (13, .v .int), (20, .v .int), (21, .v .int)]
 ex := [(.exit 4, [(1, .bx (.v (.pair .int (.pair .int (.slice (.pair (.slice .int) (.pair .int (.slice (.slice .int))))))))), (3, .mv (.slice .bool) 1), (4, .v .bool), (12, .v .int), (13, .v .int)])]
 run := impl_singleDomains_L9 n
noncomputable def S_62L6 (n : Nat) : LoopSpec where
 sh := [(1, .bx (.v (.pair .int (.pair .int (.slice (.pair (.slice .int) (.pair .int (.slice (.slice .int))))))))), (3, .mv (.slice .bool) 1), (4, .v .bool), (12, .v .int), (13, .v .int)]
 ex := [(.exit 2, [(1, .bx (.v (.pair .int (.pair .int (.slice (.pair (.slice .int) (.pair .int (.slice (.slice .int))))))))), (3, .mv (.slice .bool) 1), (4, .v .bool)])]
 run := impl_singleDomains_L6 n
noncomputable def S_62L3 (n : Nat) : LoopSpec where
 sh := [(1, .bx (.v (.pair .int (.pair .int (.slice (.pair (.slice .int) (.pair .int (.slice (.slice .int))))))))), (3, .mv (.slice .bool) 1), (4, .v .bool)]
 ex := [(.exit 0, [(3, .mv (.slice .bool) 1)])]
 run := impl_singleDomains_L3 n
noncomputable def C_62 : Cx where
 tt := tblTT tt
 T := tblT [(96, E_48), (147, E_55), (148, E_59), (149, E_60), (150, E_61)]
 L := tblL [(9, S_62L9 fuel), (6, S_62L6 fuel), (3, S_62L3 fuel)]
 dep := fun i => 0
 n := 1
noncomputable def B_62L9 : Code := (Try.f101.body.bind (loopBody 9)).getD .skip
noncomputable def B_62L6 : Code := (Try.f101.body.bind (loopBody 6)).getD .skip
noncomputable def B_62L3 : Code := (Try.f101.body.bind (loopBody 3)).getD .skip
noncomputable def D_62 : Code := Try.f101.body.getD .skip
noncomputable def N_62 (_ : outs [.v (.pair .int (.pair .int (.slice (.pair (.slice .int) (.pair .int (.slice (.slice .int)))))))]) (r : dens [.mv (.slice .bool) 1]) : (List (List Bool)) := r
noncomputable def E_63 : Entry where
 params := [.v (.slice .int), .bx (.mv (.slice .bool) 1)]
 results := [.v .bool]
 B := (List (List Bool)) × Bool
 run := fun a => impl_RemovedCounts_c1 a.1 a.2
 out := fun b => ((), b.1)
 res := fun b => b.2
noncomputable def S_63L2 (n : Nat) : LoopSpec where
 sh := [(1, .bx (.mv (.slice .bool) 1)), (6, .v (.slice .int)), (7, .v .int), (8, .v .int)]
 ex := [(.exit 0, [(1, .bx (.mv (.slice .bool) 1))])]
 run := impl_RemovedCounts_c1_L2 n
noncomputable def C_63 : Cx where
 tt := tblTT tt
 T := tblT []
 L := tblL [(2, S_63L2 fuel)]
 dep := fun i => 0
 n := 2
noncomputable def B_63L2 : Code := (Try.f98.body.bind (loopBody 2)).getD .skip
noncomputable def D_63 : Code := Try.f98.body.getD .skip
noncomputable def N_63 (o : outs [.v (.slice .int), .bx (.mv (.slice .bool) 1)]) (r : dens [.v .bool]) : (List (List Bool)) × Bool := (o.2, r)
noncomputable def E_64 : Entry where
 params := [.v (.slice .int), .v (.slice .int)]
 results := [.mv .int 0]
 B := (List Int)
 run := fun a => impl_compose a.1 a.2
 out := fun b => ((), ())
 res := fun b => b
noncomputable def S_64L3 (n : Nat) : LoopSpec where
 sh := [(1, .v (.slice .int)), (5, .mv .int 0), (11, .v (.slice .int)), (12, .v .int), (13, .v .int)]
 ex := [(.exit 0, [(5, .mv .int 0)])]
 run := impl_compose_L3 n
noncomputable def C_64 : Cx where
 tt := tblTT tt
 T := tblT []
 L := tblL [(3, S_64L3 fuel)]
 dep := fun i => 0
 n := 2
noncomputable def B_64L3 : Code := (Try.f76.body.bind (loopBody 3)).getD .skip
noncomputable def D_64 : Code := Try.f76.body.getD .skip
noncomputable def N_64 (_ : outs [.v (.slice .int), .v (.slice .int)]) (r : dens [.mv .int 0]) : (List Int) := r
noncomputable def E_65_of (rec : (Int × (List Int) × (List (List Bool)) × (Bool × Int × (List (List (List Int))) × (List (List (List ByteArray)))) × (List Int) × Unit) → Option ((List Int) × (List (List Bool)) × (Bool × Int × (List (List (List Int))) × (List (List (List ByteArray)))) × (List Int) × Bool)) : Entry where
 params := [.v .int, .bx (.mv .int 0), .bx (.mv (.slice .bool) 1), .bx (.v (.ptr (.pair .int (.pair (.slice (.slice (.slice .int))) (.slice (.slice .smap)))))), .bx (.v (.slice .int)), .jk 1]
 results := [.v .bool]
 cod := [(2, .kb 98), (5, .kn 181 1 5)]
 B := (List Int) × (List (List Bool)) × (Bool × Int × (List (List (List Int))) × (List (List (List ByteArray)))) × (List Int) × Bool
 run := rec
 out := fun b => ((), b.1, b.2.1, b.2.2.1, b.2.2.2.1, ())
 res := fun b => b.2.2.2.2
noncomputable def E_65 (d : Nat) : Entry := E_65_of (impl_netSearch_each_c1_impl_RemovedCounts_c1 d)
noncomputable def S_65L10 (rec : (Int × (List Int) × (List (List Bool)) × (Bool × Int × (List (List (List Int))) × (List (List (List ByteArray)))) × (List Int) × Unit) → Option ((List Int) × (List (List Bool)) × (Bool × Int × (List (List (List Int))) × (List (List (List ByteArray)))) × (List Int) × Bool)) (n : Nat) : LoopSpec where
 sh := [(0, .v .int), (1, .bx (.mv .int 0)), (2, .bx (.mv (.slice .bool) 1)), (3, .bx (.v (.ptr (.pair .int (.pair (.slice (.slice (.slice .int))) (.slice (.slice .smap))))))), (4, .bx (.v (.slice .int))), (5, .jk 1), (8, .v .int), (9, .v .bool), (50, .v (.slice (.slice .int))), (51, .v .int), (52, .v .int)]
 ex := [(.exit 2, [(0, .v .int), (1, .bx (.mv .int 0)), (2, .bx (.mv (.slice .bool) 1)), (3, .bx (.v (.ptr (.pair .int (.pair (.slice (.slice (.slice .int))) (.slice (.slice .smap))))))), (4, .bx (.v (.slice .int))), (5, .jk 1), (8, .v .int), (9, .v .bool)])]
 run := impl_netSearch_each_c1_impl_RemovedCounts_c1_L10 rec n
noncomputable def S_65L4 (rec : (Int × (List Int) × (List (List Bool)) × (Bool × Int × (List (List (List Int))) × (List (List (List ByteArray)))) × (List Int) × Unit) → Option ((List Int) × (List (List Bool)) × (Bool × Int × (List (List (List Int))) × (List (List (List ByteArray)))) × (List Int) × Bool)) (n : Nat) : LoopSpec where
 sh := [(0, .v .int), (1, .bx (.mv .int 0)), (2, .bx (.mv (.slice .bool) 1)), (3, .bx (.v (.ptr (.pair .int (.pair (.slice (.slice (.slice .int))) (.slice (.slice .smap))))))), (4, .bx (.v (.slice .int))), (5, .jk 1), (8, .v .int)]
 ex := [(.exit 0, [(1, .bx (.mv .int 0)), (2, .bx (.mv (.slice .bool) 1)), (3, .bx (.v (.ptr (.pair .int (.pair (.slice (.slice (.slice .int))) (.slice (.slice .smap))))))), (4, .bx (.v (.slice .int))), (5, .jk 1)]), (.ret, [(1, .bx (.mv .int 0)), (2, .bx (.mv (.slice .bool) 1)), (3, .bx (.v (.ptr (.pair .int (.pair (.slice (.slice (.slice .int))) (.slice (.slice .smap))))))), (4, .bx (.v (.slice .int))), (5, .jk 1), (7, .v .bool)])]
 run := impl_netSearch_each_c1_impl_RemovedCounts_c1_L4 rec n
noncomputable def C_65 (rec : (Int × (List Int) × (List (List Bool)) × (Bool × Int × (List (List (List Int))) × (List (List (List ByteArray)))) × (List Int) × Unit) → Option ((List Int) × (List (List Bool)) × (Bool × Int × (List (List (List Int))) × (List (List (List ByteArray)))) × (List Int) × Bool)) : Cx where
 tt := tblTT tt
 T := tblT [(76, E_64), (98, E_63), (119, E_49), (6488245, E_65_of rec)]
 L := tblL [(10, S_65L10 rec fuel), (4, S_65L4 rec fuel)]
 dep := fun i => 0
 n := 6
 cod := [(2, .kb 98), (5, .kn 181 1 5)]
noncomputable def B_65L10 : Code := (Try.f181.body.bind (loopBody 10)).getD .skip
noncomputable def B_65L4 : Code := (Try.f181.body.bind (loopBody 4)).getD .skip
noncomputable def D_65 : Code := Try.f181.body.getD .skip
noncomputable def N_65 (o : outs [.v .int, .bx (.mv .int 0), .bx (.mv (.slice .bool) 1), .bx (.v (.ptr (.pair .int (.pair (.slice (.slice (.slice .int))) (.slice (.slice .smap)))))), .bx (.v (.slice .int)), .jk 1]) (r : dens [.v .bool]) : (List Int) × (List (List Bool)) × (Bool × Int × (List (List (List Int))) × (List (List (List ByteArray)))) × (List Int) × Bool := (o.2.1, o.2.2.1, o.2.2.2.1, o.2.2.2.2.1, r)
noncomputable def E_66 : Entry where
 params := [.v (.ptr (.pair .int (.pair (.slice (.slice (.slice .int))) (.slice (.slice .smap))))), .v (.slice .int), .bx (.mv (.slice .bool) 1)]
 results := []
 cod := [(2, .cl 98)]
 B := (List (List Bool))
 run := fun a => impl_netSearch_each_impl_RemovedCounts_c1 a.1 a.2.1 a.2.2
 out := fun b => ((), (), b)
 res := fun b => ()
noncomputable def C_66 : Cx where
 tt := tblTT tt
 T := tblT [(6488245, E_65 fuel)]
 L := tblL []
 dep := fun i => 0
 n := 3
 cod := [(2, .cl 98)]
noncomputable def D_66 : Code := Try.f146.body.getD .skip
noncomputable def N_66 (o : outs [.v (.ptr (.pair .int (.pair (.slice (.slice (.slice .int))) (.slice (.slice .smap))))), .v (.slice .int), .bx (.mv (.slice .bool) 1)]) (_ : dens []) : (List (List Bool)) := o.2.2
noncomputable def E_67 : Entry where
 params := [.v (.pair .int (.pair .int (.slice (.pair (.slice .int) (.pair .int (.slice (.slice .int))))))), .bx (.mv (.slice .bool) 1)]
 results := []
 cod := [(1, .cl 98)]
 B := (List (List Bool))
 run := fun a => impl_eachSolution_impl_RemovedCounts_c1 a.1 a.2
 out := fun b => ((), b)
 res := fun b => ()
noncomputable def C_67 : Cx where
 tt := tblTT tt
 T := tblT [(49, E_52), (145, E_51), (6488210, E_66)]
 L := tblL []
 dep := fun i => 0
 n := 2
 cod := [(1, .cl 98)]
noncomputable def D_67 : Code := Try.f97.body.getD .skip
noncomputable def N_67 (o : outs [.v (.pair .int (.pair .int (.slice (.pair (.slice .int) (.pair .int (.slice (.slice .int))))))), .bx (.mv (.slice .bool) 1)]) (_ : dens []) : (List (List Bool)) := o.2
noncomputable def E_68 : Entry where
 params := [.v (.pair .int (.pair .int (.slice (.pair (.slice .int) (.pair .int (.slice (.slice .int)))))))]
 results := [.v .int, .v .int, .v .int, .v .bool]
 B := Int × Int × Int × Bool
 run := fun a => impl_RemovedCounts a
 out := fun b => ()
 res := fun b => (b.1, b.2.1, b.2.2.1, b.2.2.2)
noncomputable def S_68L5 (n : Nat) : LoopSpec where
 sh := [(1, .bx (.v (.pair .int (.pair .int (.slice (.pair (.slice .int) (.pair .int (.slice (.slice .int))))))))), (6, .bx (.mv (.slice .bool) 1)), (14, .v .int), (15, .v .int)]
 ex := [(.exit 0, [(1, .bx (.v (.pair .int (.pair .int (.slice (.pair (.slice .int) (.pair .int (.slice (.slice .int))))))))), (6, .bx (.mv (.slice .bool) 1))])]
 run := impl_RemovedCounts_L5 n
noncomputable def C_68 : Cx where
 tt := tblTT tt
 T := tblT [(95, E_47), (96, E_48), (99, E_56), (100, E_58), (101, E_62), (6488161, E_67)]
 L := tblL [(5, S_68L5 fuel)]
 dep := fun i => 0
 n := 1
noncomputable def B_68L5 : Code := (Try.f36.body.bind (loopBody 5)).getD .skip
noncomputable def D_68 : Code := Try.f36.body.getD .skip
noncomputable def N_68 (_ : outs [.v (.pair .int (.pair .int (.slice (.pair (.slice .int) (.pair .int (.slice (.slice .int)))))))]) (r : dens [.v .int, .v .int, .v .int, .v .bool]) : Int × Int × Int × Bool := (r.1, r.2.1, r.2.2.1, r.2.2.2)
noncomputable def E_69 : Entry where
 params := [.v (.slice .int), .v (.slice .int)]
 results := [.v .bool]
 B := Bool
 run := fun a => laws_eqIntS a.1 a.2
 out := fun b => ((), ())
 res := fun b => b
noncomputable def S_69L4 (n : Nat) : LoopSpec where
 sh := [(0, .v (.slice .int)), (1, .v (.slice .int)), (5, .v .int)]
 ex := [(.exit 0, []), (.ret, [(4, .v .bool)])]
 run := laws_eqIntS_L4 n
noncomputable def C_69 : Cx where
 tt := tblTT tt
 T := tblT []
 L := tblL [(4, S_69L4 fuel)]
 dep := fun i => 0
 n := 2
noncomputable def B_69L4 : Code := (Try.f40.body.bind (loopBody 4)).getD .skip
noncomputable def D_69 : Code := Try.f40.body.getD .skip
noncomputable def N_69 (_ : outs [.v (.slice .int), .v (.slice .int)]) (r : dens [.v .bool]) : Bool := r
noncomputable def E_70 : Entry where
 params := [.v (.slice (.slice .int)), .v (.slice (.slice .int))]
 results := [.v .bool]
 B := Bool
 run := fun a => laws_eqIntSS a.1 a.2
 out := fun b => ((), ())
 res := fun b => b
noncomputable def S_70L4 (n : Nat) : LoopSpec where
 sh := [(0, .v (.slice (.slice .int))), (1, .v (.slice (.slice .int))), (5, .v .int)]
 ex := [(.exit 0, []), (.ret, [(4, .v .bool)])]
 run := laws_eqIntSS_L4 n
noncomputable def C_70 : Cx where
 tt := tblTT tt
 T := tblT [(40, E_69)]
 L := tblL [(4, S_70L4 fuel)]
 dep := fun i => 0
 n := 2
noncomputable def B_70L4 : Code := (Try.f195.body.bind (loopBody 4)).getD .skip
noncomputable def D_70 : Code := Try.f195.body.getD .skip
noncomputable def N_70 (_ : outs [.v (.slice (.slice .int)), .v (.slice (.slice .int))]) (r : dens [.v .bool]) : Bool := r
noncomputable def E_71 : Entry where
 params := [.v (.pair .int (.slice (.slice .int))), .v (.pair .int (.slice (.slice .int)))]
 results := [.v .bool]
 B := Bool
 run := fun a => laws_eqRelation a.1 a.2
 out := fun b => ((), ())
 res := fun b => b
noncomputable def C_71 : Cx where
 tt := tblTT tt
 T := tblT [(195, E_70)]
 L := tblL []
 dep := fun i => 0
 n := 2
noncomputable def D_71 : Code := Try.f183.body.getD .skip
noncomputable def N_71 (_ : outs [.v (.pair .int (.slice (.slice .int))), .v (.pair .int (.slice (.slice .int)))]) (r : dens [.v .bool]) : Bool := r
noncomputable def E_72 : Entry where
 params := [.v (.pair (.slice .int) (.pair .int (.slice (.slice .int)))), .v (.pair (.slice .int) (.pair .int (.slice (.slice .int))))]
 results := [.v .bool]
 B := Bool
 run := fun a => laws_eqConstraint a.1 a.2
 out := fun b => ((), ())
 res := fun b => b
noncomputable def C_72 : Cx where
 tt := tblTT tt
 T := tblT [(40, E_69), (183, E_71)]
 L := tblL []
 dep := fun i => 0
 n := 2
noncomputable def D_72 : Code := Try.f151.body.getD .skip
noncomputable def N_72 (_ : outs [.v (.pair (.slice .int) (.pair .int (.slice (.slice .int)))), .v (.pair (.slice .int) (.pair .int (.slice (.slice .int))))]) (r : dens [.v .bool]) : Bool := r
noncomputable def E_73 : Entry where
 params := [.v (.slice (.pair (.slice .int) (.pair .int (.slice (.slice .int))))), .v (.slice (.pair (.slice .int) (.pair .int (.slice (.slice .int)))))]
 results := [.v .bool]
 B := Bool
 run := fun a => laws_eqConstraintS a.1 a.2
 out := fun b => ((), ())
 res := fun b => b
noncomputable def S_73L4 (n : Nat) : LoopSpec where
 sh := [(0, .v (.slice (.pair (.slice .int) (.pair .int (.slice (.slice .int)))))), (1, .v (.slice (.pair (.slice .int) (.pair .int (.slice (.slice .int)))))), (5, .v .int)]
 ex := [(.exit 0, []), (.ret, [(4, .v .bool)])]
 run := laws_eqConstraintS_L4 n
noncomputable def C_73 : Cx where
 tt := tblTT tt
 T := tblT [(151, E_72)]
 L := tblL [(4, S_73L4 fuel)]
 dep := fun i => 0
 n := 2
noncomputable def B_73L4 : Code := (Try.f102.body.bind (loopBody 4)).getD .skip
noncomputable def D_73 : Code := Try.f102.body.getD .skip
noncomputable def N_73 (_ : outs [.v (.slice (.pair (.slice .int) (.pair .int (.slice (.slice .int))))), .v (.slice (.pair (.slice .int) (.pair .int (.slice (.slice .int)))))]) (r : dens [.v .bool]) : Bool := r
noncomputable def E_74 : Entry where
 params := [.v (.pair .int (.pair .int (.slice (.pair (.slice .int) (.pair .int (.slice (.slice .int))))))), .v (.pair .int (.pair .int (.slice (.pair (.slice .int) (.pair .int (.slice (.slice .int)))))))]
 results := [.v .bool]
 B := Bool
 run := fun a => laws_eqNetwork a.1 a.2
 out := fun b => ((), ())
 res := fun b => b
noncomputable def C_74 : Cx where
 tt := tblTT tt
 T := tblT [(102, E_73)]
 L := tblL []
 dep := fun i => 0
 n := 2
noncomputable def D_74 : Code := Try.f37.body.getD .skip
noncomputable def N_74 (_ : outs [.v (.pair .int (.pair .int (.slice (.pair (.slice .int) (.pair .int (.slice (.slice .int))))))), .v (.pair .int (.pair .int (.slice (.pair (.slice .int) (.pair .int (.slice (.slice .int)))))))]) (r : dens [.v .bool]) : Bool := r
noncomputable def E_75 : Entry where
 params := [.v (.pair .int (.pair .int (.slice (.pair (.slice .int) (.pair .int (.slice (.slice .int)))))))]
 results := [.v .bool]
 B := Bool
 run := fun a => laws_FnExactRemovedCounts a
 out := fun b => ()
 res := fun b => b
noncomputable def C_75 : Cx where
 tt := tblTT tt
 T := tblT [(33, E_6), (34, E_41), (35, E_12), (36, E_68), (37, E_74)]
 L := tblL []
 dep := fun i => 0
 n := 1
noncomputable def D_75 : Code := Try.f5.body.getD .skip
noncomputable def N_75 (_ : outs [.v (.pair .int (.pair .int (.slice (.pair (.slice .int) (.pair .int (.slice (.slice .int)))))))]) (r : dens [.v .bool]) : Bool := r
end T
