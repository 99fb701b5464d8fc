/- Contexts of the typed functions; no conditions. -/
import Derived.Test.YtdjeihpjpaaoeaaV5
import Derived.Test.YtdjeihpjpaaoeaaProg
import Derived.Test.YtdjeihpjpaaoeaaPFnConflicts
import Derived.KernelRfl
set_option linter.all false
set_option linter.unusedVariables false
set_option maxRecDepth 10000
open Go Go.Va Go.Proofs
namespace T
noncomputable def tt : List (Nat × TI) := [
 (2, { ty := .int }),
 (3, { ty := .int }),
 (4, { ty := .bool }),
 (5, { ty := (.num .u8) }),
 (6, { ty := (.num .u8) }),
 (7, { ty := (.pair .int (.pair .int (.pair .bool (.num .u8)))), fields := [2, 3, 4, 6] }),
 (8, { ty := (.pair .int (.pair .int (.pair .bool (.num .u8)))), fields := [2, 3, 4, 6] }),
 (9, { ty := .str }),
 (25, { ty := (.slice .int), elem := 3 }),
 (27, { ty := (.slice (.slice .int)), elem := 25 }),
 (29, { ty := (.pair .int (.slice (.slice .int))), fields := [3, 27] }),
 (32, { ty := (.slice (.pair (.slice .int) (.pair .int (.slice (.slice .int))))), elem := 56 }),
 (34, { ty := (.pair .int (.pair .int (.slice (.pair (.slice .int) (.pair .int (.slice (.slice .int))))))), fields := [3, 3, 32] }),
 (44, { ty := (.slice (.num .u8)), elem := 5 }),
 (56, { ty := (.pair (.slice .int) (.pair .int (.slice (.slice .int)))), fields := [25, 29] }),
 (79, { ty := (.pair (.slice (.slice .int)) (.pair .int (.pair .int .bool))), fields := [27, 3, 3, 4] }),
 (82, { ty := .smap }),
 (86, { ty := (.op false) }),
 (94, { ty := (.num .u64) }),
 (96, { ty := (.pair (.slice (.num .u8)) (.pair .int (.num .u64))), fields := [44, 3, 94] }),
 (98, { ty := (.op false) }),
 (125, { ty := (.slice (.slice (.pair (.slice .int) (.pair .int (.slice (.slice .int)))))), elem := 32 }),
 (128, { ty := (.op true) }),
 (131, { ty := (.num .u64) }),
 (133, { ty := (.slice (.pair .int (.slice (.slice .int)))), elem := 29 }),
 (149, { ty := (.slice (.slice (.slice .int))), elem := 27 }),
 (150, { ty := (.slice (.slice .smap)), elem := 153 }),
 (152, { ty := (.pair .int (.pair (.slice (.slice (.slice .int))) (.slice (.slice .smap)))), fields := [3, 149, 150] }),
 (153, { ty := (.slice .smap), elem := 82 })]
theorem tabT : tabOk Try.prog tt = true := by kernel_rfl
theorem mixT : Try.prog.follows .mixedOrders = true := by kernel_rfl
noncomputable def E_1 : Entry where
 params := [.v (.slice (.num .u8))]
 results := [.v .bool]
 B := Bool
 run := fun a => laws_rBig a
 out := fun b => ()
 res := fun b => b
noncomputable def C_1 : Cx where
 tt := tblTT tt
 T := tblT []
 L := tblL []
 dep := fun i => 0
 n := 1
noncomputable def D_1 : Code := Try.f18.body.getD .skip
noncomputable def N_1 (_ : outs [.v (.slice (.num .u8))]) (r : dens [.v .bool]) : Bool := r
noncomputable def E_2 : Entry where
 params := [.bx (.v (.pair (.slice (.num .u8)) (.pair .int (.num .u64))))]
 results := [.v .int]
 B := ((List Int) × Int × Int) × Int
 run := fun a => spec_l1Cur_next a
 out := fun b => b.1
 res := fun b => b.2
noncomputable def C_2 : Cx where
 tt := tblTT tt
 T := tblT []
 L := tblL []
 dep := fun i => 0
 n := 1
noncomputable def D_2 : Code := Try.f151.body.getD .skip
noncomputable def N_2 (o : outs [.bx (.v (.pair (.slice (.num .u8)) (.pair .int (.num .u64))))]) (r : dens [.v .int]) : ((List Int) × Int × Int) × Int := (o, r)
noncomputable def E_3 : Entry where
 params := [.bx (.v (.pair (.slice (.num .u8)) (.pair .int (.num .u64)))), .v .int]
 results := [.v .int]
 B := ((List Int) × Int × Int) × Int
 run := fun a => spec_l1Cur_pick a.1 a.2
 out := fun b => (b.1, ())
 res := fun b => b.2
noncomputable def C_3 : Cx where
 tt := tblTT tt
 T := tblT [(151, E_2)]
 L := tblL []
 dep := fun i => 0
 n := 2
noncomputable def D_3 : Code := Try.f120.body.getD .skip
noncomputable def N_3 (o : outs [.bx (.v (.pair (.slice (.num .u8)) (.pair .int (.num .u64)))), .v .int]) (r : dens [.v .int]) : ((List Int) × Int × Int) × Int := (o.1, r)
noncomputable def E_4 : Entry where
 params := [.bx (.v (.pair (.slice (.num .u8)) (.pair .int (.num .u64)))), .v .int]
 results := [.v .bool]
 B := ((List Int) × Int × Int) × Bool
 run := fun a => spec_l1Cur_one a.1 a.2
 out := fun b => (b.1, ())
 res := fun b => b.2
noncomputable def C_4 : Cx where
 tt := tblTT tt
 T := tblT [(120, E_3)]
 L := tblL []
 dep := fun i => 0
 n := 2
noncomputable def D_4 : Code := Try.f77.body.getD .skip
noncomputable def N_4 (o : outs [.bx (.v (.pair (.slice (.num .u8)) (.pair .int (.num .u64)))), .v .int]) (r : dens [.v .bool]) : ((List Int) × Int × Int) × Bool := (o.1, r)
noncomputable def E_5 : Entry where
 params := [.v .int]
 results := [.v .int, .mv (.pair .int (.slice (.slice .int))) 0]
 B := Int × (List (Int × (List (List Int))))
 run := fun a => spec_l14Known a
 out := fun b => ()
 res := fun b => (b.1, b.2)
noncomputable def C_5 : Cx where
 tt := tblTT tt
 T := tblT []
 L := tblL []
 dep := fun i => 0
 n := 1
noncomputable def D_5 : Code := Try.f145.body.getD .skip
noncomputable def N_5 (_ : outs [.v .int]) (r : dens [.v .int, .mv (.pair .int (.slice (.slice .int))) 0]) : Int × (List (Int × (List (List Int)))) := (r.1, r.2)
noncomputable def E_6 : Entry where
 params := [.v (.slice .int)]
 results := [.mv .int 0]
 B := (List Int)
 run := fun a => spec_l1Own a
 out := fun b => ()
 res := fun b => b
noncomputable def C_6 : Cx where
 tt := tblTT tt
 T := tblT []
 L := tblL []
 dep := fun i => 0
 n := 1
noncomputable def D_6 : Code := Try.f129.body.getD .skip
noncomputable def N_6 (_ : outs [.v (.slice .int)]) (r : dens [.mv .int 0]) : (List Int) := r
noncomputable def E_7 : Entry where
 params := [.bx (.v (.pair (.slice (.num .u8)) (.pair .int (.num .u64)))), .v (.slice .int)]
 results := [.v .int]
 B := ((List Int) × Int × Int) × Int
 run := fun a => spec_l1Cur_among a.1 a.2
 out := fun b => (b.1, ())
 res := fun b => b.2
noncomputable def C_7 : Cx where
 tt := tblTT tt
 T := tblT [(120, E_3)]
 L := tblL []
 dep := fun i => 0
 n := 2
noncomputable def D_7 : Code := Try.f78.body.getD .skip
noncomputable def N_7 (o : outs [.bx (.v (.pair (.slice (.num .u8)) (.pair .int (.num .u64)))), .v (.slice .int)]) (r : dens [.v .int]) : ((List Int) × Int × Int) × Int := (o.1, r)
noncomputable def E_8 : Entry where
 params := [.v .int, .v .int, .v .int]
 results := [.v .bool]
 B := Bool
 run := fun a => spec_l1In a.1 a.2.1 a.2.2
 out := fun b => ((), (), ())
 res := fun b => b
noncomputable def C_8 : Cx where
 tt := tblTT tt
 T := tblT []
 L := tblL []
 dep := fun i => 0
 n := 3
noncomputable def D_8 : Code := Try.f50.body.getD .skip
noncomputable def N_8 (_ : outs [.v .int, .v .int, .v .int]) (r : dens [.v .bool]) : Bool := r
noncomputable def E_9 : Entry where
 params := [.v .int]
 results := [.v .bool]
 B := Bool
 run := fun a => spec_l6Size a
 out := fun b => ()
 res := fun b => b
noncomputable def C_9 : Cx where
 tt := tblTT tt
 T := tblT [(50, E_8)]
 L := tblL []
 dep := fun i => 0
 n := 1
noncomputable def D_9 : Code := Try.f146.body.getD .skip
noncomputable def N_9 (_ : outs [.v .int]) (r : dens [.v .bool]) : Bool := r
noncomputable def E_10 : Entry where
 params := [.v (.slice .int), .v (.slice .int)]
 results := [.v .bool]
 B := Bool
 run := fun a => spec_l3Less a.1 a.2
 out := fun b => ((), ())
 res := fun b => b
noncomputable def S_10L2 (n : Nat) : LoopSpec where
 sh := [(0, .v (.slice .int)), (1, .v (.slice .int)), (5, .v .int)]
 ex := [(.exit 0, []), (.ret, [(4, .v .bool)])]
 run := spec_l3Less_L2 n
noncomputable def C_10 : Cx where
 tt := tblTT tt
 T := tblT []
 L := tblL [(2, S_10L2 fuel)]
 dep := fun i => 0
 n := 2
noncomputable def B_10L2 : Code := (Try.f156.body.bind (loopBody 2)).getD .skip
noncomputable def D_10 : Code := Try.f156.body.getD .skip
noncomputable def N_10 (_ : outs [.v (.slice .int), .v (.slice .int)]) (r : dens [.v .bool]) : Bool := r
noncomputable def E_11 : Entry where
 params := [.v (.slice .int), .v (.slice .int)]
 results := [.v .bool]
 B := Bool
 run := fun a => spec_l1Same a.1 a.2
 out := fun b => ((), ())
 res := fun b => b
noncomputable def S_11L4 (n : Nat) : LoopSpec where
 sh := [(0, .v (.slice .int)), (1, .v (.slice .int)), (5, .v .int)]
 ex := [(.exit 0, []), (.ret, [(4, .v .bool)])]
 run := spec_l1Same_L4 n
noncomputable def C_11 : Cx where
 tt := tblTT tt
 T := tblT []
 L := tblL [(4, S_11L4 fuel)]
 dep := fun i => 0
 n := 2
noncomputable def B_11L4 : Code := (Try.f166.body.bind (loopBody 4)).getD .skip
noncomputable def D_11 : Code := Try.f166.body.getD .skip
noncomputable def N_11 (_ : outs [.v (.slice .int), .v (.slice .int)]) (r : dens [.v .bool]) : Bool := r
noncomputable def E_12 : Entry where
 params := [.v (.slice (.slice .int)), .v (.slice .int)]
 results := [.v .int, .v .bool]
 B := Int × Bool
 run := fun a => spec_l8Find a.1 a.2
 out := fun b => ((), ())
 res := fun b => (b.1, b.2)
noncomputable def S_12L2 (n : Nat) : LoopSpec where
 sh := [(0, .v (.slice (.slice .int))), (1, .v (.slice .int)), (6, .v .int), (7, .v .int)]
 ex := [(.exit 0, [(0, .v (.slice (.slice .int))), (1, .v (.slice .int)), (6, .v .int)])]
 run := spec_l8Find_L2 n
noncomputable def C_12 : Cx where
 tt := tblTT tt
 T := tblT [(156, E_10), (166, E_11)]
 L := tblL [(2, S_12L2 fuel)]
 dep := fun i => 0
 n := 2
noncomputable def B_12L2 : Code := (Try.f160.body.bind (loopBody 2)).getD .skip
noncomputable def D_12 : Code := Try.f160.body.getD .skip
noncomputable def N_12 (_ : outs [.v (.slice (.slice .int)), .v (.slice .int)]) (r : dens [.v .int, .v .bool]) : Int × Bool := (r.1, r.2)
noncomputable def E_13 : Entry where
 params := [.v (.slice (.slice .int)), .v (.slice .int)]
 results := [.v (.slice (.slice .int))]
 B := (List (List Int))
 run := fun a => spec_l8Put a.1 a.2
 out := fun b => ((), ())
 res := fun b => b
noncomputable def C_13 : Cx where
 tt := tblTT tt
 T := tblT [(160, E_12)]
 L := tblL []
 dep := fun i => 0
 n := 2
noncomputable def D_13 : Code := Try.f147.body.getD .skip
noncomputable def N_13 (_ : outs [.v (.slice (.slice .int)), .v (.slice .int)]) (r : dens [.v (.slice (.slice .int))]) : (List (List Int)) := r
noncomputable def E_14 : Entry where
 params := [.bx (.v (.pair (.slice (.num .u8)) (.pair .int (.num .u64)))), .v .int]
 results := [.mv .int 0]
 B := ((List Int) × Int × Int) × (List Int)
 run := fun a => spec_l1Cur_partition13 a.1 a.2
 out := fun b => (b.1, ())
 res := fun b => b.2
noncomputable def S_14L3 (n : Nat) : LoopSpec where
 sh := [(0, .bx (.v (.pair (.slice (.num .u8)) (.pair .int (.num .u64))))), (1, .v .int), (5, .mv .int 0), (6, .v .int)]
 ex := [(.exit 0, [(0, .bx (.v (.pair (.slice (.num .u8)) (.pair .int (.num .u64))))), (5, .mv .int 0)])]
 run := spec_l1Cur_partition13_L3 n
noncomputable def C_14 : Cx where
 tt := tblTT tt
 T := tblT [(120, E_3)]
 L := tblL [(3, S_14L3 fuel)]
 dep := fun i => 0
 n := 2
noncomputable def B_14L3 : Code := (Try.f149.body.bind (loopBody 3)).getD .skip
noncomputable def D_14 : Code := Try.f149.body.getD .skip
noncomputable def N_14 (o : outs [.bx (.v (.pair (.slice (.num .u8)) (.pair .int (.num .u64)))), .v .int]) (r : dens [.mv .int 0]) : ((List Int) × Int × Int) × (List Int) := (o.1, r)
noncomputable def E_15 : Entry where
 params := [.v (.slice .int)]
 results := [.pr (.v .int) (.mv (.slice .int) 0)]
 B := (Int × (List (List Int)))
 run := fun a => spec_l13OfPartition a
 out := fun b => ()
 res := fun b => b
noncomputable def S_15L6 (n : Nat) : LoopSpec where
 sh := [(0, .v (.slice .int)), (2, .bx (.pr (.v .int) (.mv (.slice .int) 0))), (3, .bx (.pr (.v .int) (.mv (.slice .int) 0))), (4, .v .int), (5, .v .int)]
 ex := [(.exit 2, [(0, .v (.slice .int)), (2, .bx (.pr (.v .int) (.mv (.slice .int) 0))), (3, .bx (.pr (.v .int) (.mv (.slice .int) 0))), (4, .v .int)])]
 run := spec_l13OfPartition_L6 n
noncomputable def S_15L3 (n : Nat) : LoopSpec where
 sh := [(0, .v (.slice .int)), (2, .bx (.pr (.v .int) (.mv (.slice .int) 0))), (3, .bx (.pr (.v .int) (.mv (.slice .int) 0))), (4, .v .int)]
 ex := [(.exit 0, [(2, .bx (.pr (.v .int) (.mv (.slice .int) 0))), (3, .bx (.pr (.v .int) (.mv (.slice .int) 0)))])]
 run := spec_l13OfPartition_L3 n
noncomputable def C_15 : Cx where
 tt := tblTT tt
 T := tblT []
 L := tblL [(6, S_15L6 fuel), (3, S_15L3 fuel)]
 dep := fun i => 0
 n := 1
noncomputable def B_15L6 : Code := (Try.f148.body.bind (loopBody 6)).getD .skip
noncomputable def B_15L3 : Code := (Try.f148.body.bind (loopBody 3)).getD .skip
noncomputable def D_15 : Code := Try.f148.body.getD .skip
noncomputable def N_15 (_ : outs [.v (.slice .int)]) (r : dens [.pr (.v .int) (.mv (.slice .int) 0)]) : (Int × (List (List Int))) := r
noncomputable def E_16 : Entry where
 params := [.v .int, .v .int]
 results := [.v .int]
 B := Int
 run := fun a => spec_l2Pow a.1 a.2
 out := fun b => ((), ())
 res := fun b => b
noncomputable def S_16L2 (n : Nat) : LoopSpec where
 sh := [(0, .v .int), (1, .v .int), (5, .v .int)]
 ex := [(.exit 0, [(5, .v .int)])]
 run := spec_l2Pow_L2 n
noncomputable def C_16 : Cx where
 tt := tblTT tt
 T := tblT []
 L := tblL [(2, S_16L2 fuel)]
 dep := fun i => 0
 n := 2
noncomputable def B_16L2 : Code := (Try.f52.body.bind (loopBody 2)).getD .skip
noncomputable def D_16 : Code := Try.f52.body.getD .skip
noncomputable def N_16 (_ : outs [.v .int, .v .int]) (r : dens [.v .int]) : Int := r
noncomputable def E_17 : Entry where
 params := [.v .int, .v .int, .v .int]
 results := [.mv .int 0]
 B := (List Int)
 run := fun a => spec_l2Args a.1 a.2.1 a.2.2
 out := fun b => ((), (), ())
 res := fun b => b
noncomputable def S_17L3 (n : Nat) : LoopSpec where
 sh := [(0, .v .int), (2, .v .int), (7, .mv .int 0), (8, .v .int)]
 ex := [(.exit 0, [(7, .mv .int 0)])]
 run := spec_l2Args_L3 n
noncomputable def C_17 : Cx where
 tt := tblTT tt
 T := tblT []
 L := tblL [(3, S_17L3 fuel)]
 dep := fun i => 0
 n := 3
noncomputable def B_17L3 : Code := (Try.f53.body.bind (loopBody 3)).getD .skip
noncomputable def D_17 : Code := Try.f53.body.getD .skip
noncomputable def N_17 (_ : outs [.v .int, .v .int, .v .int]) (r : dens [.mv .int 0]) : (List Int) := r
noncomputable def E_18 : Entry where
 params := [.v .int, .v .int]
 results := [.pr (.v .int) (.mv (.slice .int) 0)]
 B := (Int × (List (List Int)))
 run := fun a => spec_l13Full a.1 a.2
 out := fun b => ((), ())
 res := fun b => b
noncomputable def S_18L3 (n : Nat) : LoopSpec where
 sh := [(0, .v .int), (1, .v .int), (4, .bx (.pr (.v .int) (.mv (.slice .int) 0))), (5, .bx (.pr (.v .int) (.mv (.slice .int) 0))), (6, .v .int)]
 ex := [(.exit 0, [(4, .bx (.pr (.v .int) (.mv (.slice .int) 0))), (5, .bx (.pr (.v .int) (.mv (.slice .int) 0)))])]
 run := spec_l13Full_L3 n
noncomputable def C_18 : Cx where
 tt := tblTT tt
 T := tblT [(52, E_16), (53, E_17)]
 L := tblL [(3, S_18L3 fuel)]
 dep := fun i => 0
 n := 2
noncomputable def B_18L3 : Code := (Try.f150.body.bind (loopBody 3)).getD .skip
noncomputable def D_18 : Code := Try.f150.body.getD .skip
noncomputable def N_18 (_ : outs [.v .int, .v .int]) (r : dens [.pr (.v .int) (.mv (.slice .int) 0)]) : (Int × (List (List Int))) := r
noncomputable def E_19 : Entry where
 params := [.mv (.slice .int) 0, .v (.slice .int)]
 results := [.mv (.slice .int) 0]
 B := (List (List Int))
 run := fun a => spec_l8Put_b a.1 a.2
 out := fun b => ((), ())
 res := fun b => b
noncomputable def C_19 : Cx where
 tt := tblTT tt
 T := tblT [(160, E_12)]
 L := tblL []
 dep := fun i => 0
 n := 2
 pre := fun i => match i with
  | 4 => [0]
  | _ => []
noncomputable def D_19 : Code := Try.f147.body.getD .skip
noncomputable def N_19 (_ : outs [.mv (.slice .int) 0, .v (.slice .int)]) (r : dens [.mv (.slice .int) 0]) : (List (List Int)) := r
noncomputable def E_20 : Entry where
 params := [.bx (.v (.pair (.slice (.num .u8)) (.pair .int (.num .u64)))), .v .int, .v .int]
 results := [.v (.pair .int (.slice (.slice .int)))]
 B := ((List Int) × Int × Int) × (Int × (List (List Int)))
 run := fun a => spec_l1Cur_relation a.1 a.2.1 a.2.2
 out := fun b => (b.1, (), ())
 res := fun b => b.2
noncomputable def S_20L9 (n : Nat) : LoopSpec where
 sh := [(0, .bx (.v (.pair (.slice (.num .u8)) (.pair .int (.num .u64))))), (1, .v .int), (2, .v .int), (6, .bx (.pr (.v .int) (.mv (.slice .int) 0))), (7, .bx (.pr (.v .int) (.mv (.slice .int) 0))), (8, .v .int), (9, .mv .int 0), (10, .v .int)]
 ex := [(.exit 2, [(0, .bx (.v (.pair (.slice (.num .u8)) (.pair .int (.num .u64))))), (1, .v .int), (2, .v .int), (6, .bx (.pr (.v .int) (.mv (.slice .int) 0))), (7, .bx (.pr (.v .int) (.mv (.slice .int) 0))), (8, .v .int), (9, .mv .int 0)])]
 run := spec_l1Cur_relation_L9 n
noncomputable def S_20L5 (n : Nat) : LoopSpec where
 sh := [(0, .bx (.v (.pair (.slice (.num .u8)) (.pair .int (.num .u64))))), (1, .v .int), (2, .v .int), (6, .bx (.pr (.v .int) (.mv (.slice .int) 0))), (7, .bx (.pr (.v .int) (.mv (.slice .int) 0))), (8, .v .int)]
 ex := [(.exit 0, [(0, .bx (.v (.pair (.slice (.num .u8)) (.pair .int (.num .u64))))), (1, .v .int), (2, .v .int), (6, .bx (.pr (.v .int) (.mv (.slice .int) 0))), (7, .bx (.pr (.v .int) (.mv (.slice .int) 0)))])]
 run := spec_l1Cur_relation_L5 n
noncomputable def C_20 : Cx where
 tt := tblTT tt
 T := tblT [(50, E_8), (77, E_4), (78, E_7), (120, E_3), (146, E_9), (147, E_19), (148, E_15), (149, E_14), (150, E_18)]
 L := tblL [(9, S_20L9 fuel), (5, S_20L5 fuel)]
 dep := fun i => 0
 n := 3
noncomputable def B_20L9 : Code := (Try.f118.body.bind (loopBody 9)).getD .skip
noncomputable def B_20L5 : Code := (Try.f118.body.bind (loopBody 5)).getD .skip
noncomputable def D_20 : Code := Try.f118.body.getD .skip
noncomputable def N_20 (o : outs [.bx (.v (.pair (.slice (.num .u8)) (.pair .int (.num .u64)))), .v .int, .v .int]) (r : dens [.v (.pair .int (.slice (.slice .int)))]) : ((List Int) × Int × Int) × (Int × (List (List Int))) := (o.1, r)
noncomputable def E_21 : Entry where
 params := [.bx (.v (.pair (.slice (.num .u8)) (.pair .int (.num .u64))))]
 results := [.v .int, .mv (.pair .int (.slice (.slice .int))) 0]
 B := ((List Int) × Int × Int) × Int × (List (Int × (List (List Int))))
 run := fun a => spec_l1Cur_template a
 out := fun b => b.1
 res := fun b => (b.2.1, b.2.2)
noncomputable def S_21L9 (n : Nat) : LoopSpec where
 sh := [(0, .bx (.v (.pair (.slice (.num .u8)) (.pair .int (.num .u64))))), (4, .v .int), (5, .mv (.pair .int (.slice (.slice .int))) 0), (6, .mv (.pair .int (.slice (.slice .int))) 0), (7, .v .int), (8, .bx (.pr (.v .int) (.mv (.slice .int) 0))), (9, .v .int)]
 ex := [(.exit 2, [(0, .bx (.v (.pair (.slice (.num .u8)) (.pair .int (.num .u64))))), (4, .v .int), (5, .mv (.pair .int (.slice (.slice .int))) 0), (6, .mv (.pair .int (.slice (.slice .int))) 0), (7, .v .int), (8, .bx (.pr (.v .int) (.mv (.slice .int) 0)))])]
 run := spec_l1Cur_template_L9 n
noncomputable def S_21L5 (n : Nat) : LoopSpec where
 sh := [(0, .bx (.v (.pair (.slice (.num .u8)) (.pair .int (.num .u64))))), (4, .v .int), (5, .mv (.pair .int (.slice (.slice .int))) 0), (6, .mv (.pair .int (.slice (.slice .int))) 0), (7, .v .int)]
 ex := [(.exit 0, [(0, .bx (.v (.pair (.slice (.num .u8)) (.pair .int (.num .u64))))), (4, .v .int), (6, .mv (.pair .int (.slice (.slice .int))) 0)])]
 run := spec_l1Cur_template_L5 n
noncomputable def S_21L17 (n : Nat) : LoopSpec where
 sh := [(0, .bx (.v (.pair (.slice (.num .u8)) (.pair .int (.num .u64))))), (10, .v .int), (11, .mv (.pair .int (.slice (.slice .int))) 0), (12, .v .int)]
 ex := [(.exit 4, [(0, .bx (.v (.pair (.slice (.num .u8)) (.pair .int (.num .u64))))), (10, .v .int), (11, .mv (.pair .int (.slice (.slice .int))) 0)])]
 run := spec_l1Cur_template_L17 n
noncomputable def C_21 : Cx where
 tt := tblTT tt
 T := tblT [(77, E_4), (78, E_7), (118, E_20), (120, E_3), (129, E_6), (145, E_5)]
 L := tblL [(9, S_21L9 fuel), (5, S_21L5 fuel), (17, S_21L17 fuel)]
 dep := fun i => 0
 n := 1
noncomputable def B_21L9 : Code := (Try.f117.body.bind (loopBody 9)).getD .skip
noncomputable def B_21L5 : Code := (Try.f117.body.bind (loopBody 5)).getD .skip
noncomputable def B_21L17 : Code := (Try.f117.body.bind (loopBody 17)).getD .skip
noncomputable def D_21 : Code := Try.f117.body.getD .skip
noncomputable def N_21 (o : outs [.bx (.v (.pair (.slice (.num .u8)) (.pair .int (.num .u64))))]) (r : dens [.v .int, .mv (.pair .int (.slice (.slice .int))) 0]) : ((List Int) × Int × Int) × Int × (List (Int × (List (List Int)))) := (o, r.1, r.2)
noncomputable def E_22 : Entry where
 params := [.v .int, .v .int]
 results := [.v .int]
 B := Int
 run := fun a => spec_l1Most a.1 a.2
 out := fun b => ((), ())
 res := fun b => b
noncomputable def C_22 : Cx where
 tt := tblTT tt
 T := tblT []
 L := tblL []
 dep := fun i => 0
 n := 2
noncomputable def D_22 : Code := Try.f119.body.getD .skip
noncomputable def N_22 (_ : outs [.v .int, .v .int]) (r : dens [.v .int]) : Int := r
noncomputable def E_23 : Entry where
 params := [.bx (.v (.pair (.slice (.num .u8)) (.pair .int (.num .u64))))]
 results := [.v (.pair .int (.pair .int (.slice (.pair (.slice .int) (.pair .int (.slice (.slice .int)))))))]
 B := ((List Int) × Int × Int) × (Int × Int × (List ((List Int) × Int × (List (List Int)))))
 run := fun a => spec_l1Cur_network a
 out := fun b => b.1
 res := fun b => b.2
noncomputable def S_23L11 (n : Nat) : LoopSpec where
 sh := [(0, .bx (.v (.pair (.slice (.num .u8)) (.pair .int (.num .u64))))), (2, .bx (.pr (.v .int) (.pr (.v .int) (.mv (.pair (.slice .int) (.pair .int (.slice (.slice .int)))) 2001)))), (3, .v .int), (4, .mv (.pair .int (.slice (.slice .int))) 0), (5, .bx (.pr (.v .int) (.pr (.v .int) (.mv (.pair (.slice .int) (.pair .int (.slice (.slice .int)))) 2001)))), (6, .v .int), (7, .bx (.v (.pair .int (.slice (.slice .int))))), (8, .bx (.pr (.mv .int 0) (.v (.pair .int (.slice (.slice .int)))))), (9, .v .int)]
 ex := [(.exit 2, [(0, .bx (.v (.pair (.slice (.num .u8)) (.pair .int (.num .u64))))), (2, .bx (.pr (.v .int) (.pr (.v .int) (.mv (.pair (.slice .int) (.pair .int (.slice (.slice .int)))) 2001)))), (3, .v .int), (4, .mv (.pair .int (.slice (.slice .int))) 0), (5, .bx (.pr (.v .int) (.pr (.v .int) (.mv (.pair (.slice .int) (.pair .int (.slice (.slice .int)))) 2001)))), (6, .v .int), (8, .bx (.pr (.mv .int 0) (.v (.pair .int (.slice (.slice .int))))))])]
 run := spec_l1Cur_network_L11 n
noncomputable def S_23L4 (n : Nat) : LoopSpec where
 sh := [(0, .bx (.v (.pair (.slice (.num .u8)) (.pair .int (.num .u64))))), (2, .bx (.pr (.v .int) (.pr (.v .int) (.mv (.pair (.slice .int) (.pair .int (.slice (.slice .int)))) 2001)))), (3, .v .int), (4, .mv (.pair .int (.slice (.slice .int))) 0), (5, .bx (.pr (.v .int) (.pr (.v .int) (.mv (.pair (.slice .int) (.pair .int (.slice (.slice .int)))) 2001)))), (6, .v .int)]
 ex := [(.exit 0, [(0, .bx (.v (.pair (.slice (.num .u8)) (.pair .int (.num .u64))))), (2, .bx (.pr (.v .int) (.pr (.v .int) (.mv (.pair (.slice .int) (.pair .int (.slice (.slice .int)))) 2001)))), (5, .bx (.pr (.v .int) (.pr (.v .int) (.mv (.pair (.slice .int) (.pair .int (.slice (.slice .int)))) 2001))))])]
 run := spec_l1Cur_network_L4 n
noncomputable def S_23L23 (n : Nat) : LoopSpec where
 sh := [(0, .bx (.v (.pair (.slice (.num .u8)) (.pair .int (.num .u64))))), (2, .bx (.pr (.v .int) (.pr (.v .int) (.mv (.pair (.slice .int) (.pair .int (.slice (.slice .int)))) 2001)))), (5, .bx (.pr (.v .int) (.pr (.v .int) (.mv (.pair (.slice .int) (.pair .int (.slice (.slice .int)))) 0)))), (10, .v .int)]
 ex := [(.exit 5, [(0, .bx (.v (.pair (.slice (.num .u8)) (.pair .int (.num .u64))))), (2, .bx (.pr (.v .int) (.pr (.v .int) (.mv (.pair (.slice .int) (.pair .int (.slice (.slice .int)))) 2001)))), (5, .bx (.pr (.v .int) (.pr (.v .int) (.mv (.pair (.slice .int) (.pair .int (.slice (.slice .int)))) 0))))])]
 run := spec_l1Cur_network_L23 n
noncomputable def C_23 : Cx where
 tt := tblTT tt
 T := tblT [(77, E_4), (78, E_7), (117, E_21), (118, E_20), (119, E_22), (120, E_3)]
 L := tblL [(11, S_23L11 fuel), (4, S_23L4 fuel), (23, S_23L23 fuel)]
 dep := fun i => match i with
  | 76 => 2001
  | 77 => 2001
  | _ => 0
 n := 1
 fine := true
noncomputable def B_23L11 : Code := (Try.f76.body.bind (loopBody 11)).getD .skip
noncomputable def B_23L4 : Code := (Try.f76.body.bind (loopBody 4)).getD .skip
noncomputable def B_23L23 : Code := (Try.f76.body.bind (loopBody 23)).getD .skip
noncomputable def D_23 : Code := Try.f76.body.getD .skip
noncomputable def N_23 (o : outs [.bx (.v (.pair (.slice (.num .u8)) (.pair .int (.num .u64))))]) (r : dens [.v (.pair .int (.pair .int (.slice (.pair (.slice .int) (.pair .int (.slice (.slice .int)))))))]) : ((List Int) × Int × Int) × (Int × Int × (List ((List Int) × Int × (List (List Int))))) := (o, r)
noncomputable def E_24 : Entry where
 params := [.v (.slice (.num .u8))]
 results := [.v (.pair .int (.pair .int (.slice (.pair (.slice .int) (.pair .int (.slice (.slice .int)))))))]
 B := (Int × Int × (List ((List Int) × Int × (List (List Int)))))
 run := fun a => spec_DrawIsNetwork a
 out := fun b => ()
 res := fun b => b
noncomputable def C_24 : Cx where
 tt := tblTT tt
 T := tblT [(76, E_23)]
 L := tblL []
 dep := fun i => 0
 n := 1
noncomputable def D_24 : Code := Try.f69.body.getD .skip
noncomputable def N_24 (_ : outs [.v (.slice (.num .u8))]) (r : dens [.v (.pair .int (.pair .int (.slice (.pair (.slice .int) (.pair .int (.slice (.slice .int)))))))]) : (Int × Int × (List ((List Int) × Int × (List (List Int))))) := r
noncomputable def E_25 : Entry where
 params := [.v (.slice (.num .u8))]
 results := [.v (.pair .int (.pair .int (.slice (.pair (.slice .int) (.pair .int (.slice (.slice .int)))))))]
 B := (Int × Int × (List ((List Int) × Int × (List (List Int)))))
 run := fun a => spec_DrawConflictCore a
 out := fun b => ()
 res := fun b => b
noncomputable def C_25 : Cx where
 tt := tblTT tt
 T := tblT [(69, E_24)]
 L := tblL []
 dep := fun i => 0
 n := 1
noncomputable def D_25 : Code := Try.f19.body.getD .skip
noncomputable def N_25 (_ : outs [.v (.slice (.num .u8))]) (r : dens [.v (.pair .int (.pair .int (.slice (.pair (.slice .int) (.pair .int (.slice (.slice .int)))))))]) : (Int × Int × (List ((List Int) × Int × (List (List Int))))) := r
noncomputable def E_26 : Entry where
 params := [.v .int]
 results := [.v .bool]
 B := Bool
 run := fun a => impl_isTemplateSize a
 out := fun b => ()
 res := fun b => b
noncomputable def C_26 : Cx where
 tt := tblTT tt
 T := tblT []
 L := tblL []
 dep := fun i => 0
 n := 1
noncomputable def D_26 : Code := Try.f108.body.getD .skip
noncomputable def N_26 (_ : outs [.v .int]) (r : dens [.v .bool]) : Bool := r
noncomputable def E_27 : Entry where
 params := [.v (.slice .int), .v .int]
 results := [.v .bool]
 B := Bool
 run := fun a => impl_inSize a.1 a.2
 out := fun b => ((), ())
 res := fun b => b
noncomputable def S_27L2 (n : Nat) : LoopSpec where
 sh := [(1, .v .int), (7, .v (.slice .int)), (8, .v .int), (9, .v .int)]
 ex := [(.exit 0, []), (.ret, [(4, .v .bool)])]
 run := impl_inSize_L2 n
noncomputable def C_27 : Cx where
 tt := tblTT tt
 T := tblT []
 L := tblL [(2, S_27L2 fuel)]
 dep := fun i => 0
 n := 2
noncomputable def B_27L2 : Code := (Try.f58.body.bind (loopBody 2)).getD .skip
noncomputable def D_27 : Code := Try.f58.body.getD .skip
noncomputable def N_27 (_ : outs [.v (.slice .int), .v .int]) (r : dens [.v .bool]) : Bool := r
noncomputable def E_28 : Entry where
 params := [.v (.slice .int), .v (.slice .int)]
 results := [.v .int]
 B := Int
 run := fun a => impl_compareLists a.1 a.2
 out := fun b => ((), ())
 res := fun b => b
noncomputable def S_28L2 (n : Nat) : LoopSpec where
 sh := [(0, .v (.slice .int)), (1, .v (.slice .int)), (5, .v .int)]
 ex := [(.exit 0, [(0, .v (.slice .int)), (1, .v (.slice .int))]), (.ret, [(4, .v .int)])]
 run := impl_compareLists_L2 n
noncomputable def C_28 : Cx where
 tt := tblTT tt
 T := tblT []
 L := tblL [(2, S_28L2 fuel)]
 dep := fun i => 0
 n := 2
noncomputable def B_28L2 : Code := (Try.f144.body.bind (loopBody 2)).getD .skip
noncomputable def D_28 : Code := Try.f144.body.getD .skip
noncomputable def N_28 (_ : outs [.v (.slice .int), .v (.slice .int)]) (r : dens [.v .int]) : Int := r
noncomputable def E_29 : Entry where
 params := [.v .int, .v (.pair .int (.slice (.slice .int)))]
 results := [.v .bool]
 B := Bool
 run := fun a => impl_isRelation a.1 a.2
 out := fun b => ((), ())
 res := fun b => b
noncomputable def S_29L4 (n : Nat) : LoopSpec where
 sh := [(0, .v .int), (3, .bx (.v (.pair .int (.slice (.slice .int))))), (16, .v (.slice (.slice .int))), (17, .v .int), (18, .v .int)]
 ex := [(.exit 0, []), (.ret, [(4, .v .bool)])]
 run := impl_isRelation_L4 n
noncomputable def C_29 : Cx where
 tt := tblTT tt
 T := tblT [(58, E_27), (144, E_28)]
 L := tblL [(4, S_29L4 fuel)]
 dep := fun i => 0
 n := 2
noncomputable def B_29L4 : Code := (Try.f125.body.bind (loopBody 4)).getD .skip
noncomputable def D_29 : Code := Try.f125.body.getD .skip
noncomputable def N_29 (_ : outs [.v .int, .v (.pair .int (.slice (.slice .int)))]) (r : dens [.v .bool]) : Bool := r
noncomputable def E_30 : Entry where
 params := [.v .int, .v .int, .v (.pair (.slice .int) (.pair .int (.slice (.slice .int))))]
 results := [.v .bool]
 B := Bool
 run := fun a => impl_isConstraint a.1 a.2.1 a.2.2
 out := fun b => ((), (), ())
 res := fun b => b
noncomputable def C_30 : Cx where
 tt := tblTT tt
 T := tblT [(58, E_27), (125, E_29)]
 L := tblL []
 dep := fun i => 0
 n := 3
noncomputable def D_30 : Code := Try.f109.body.getD .skip
noncomputable def N_30 (_ : outs [.v .int, .v .int, .v (.pair (.slice .int) (.pair .int (.slice (.slice .int))))]) (r : dens [.v .bool]) : Bool := r
noncomputable def E_31 : Entry where
 params := [.v (.pair .int (.pair .int (.slice (.pair (.slice .int) (.pair .int (.slice (.slice .int)))))))]
 results := [.v .bool]
 B := Bool
 run := fun a => impl_IsNetwork a
 out := fun b => ()
 res := fun b => b
noncomputable def S_31L4 (n : Nat) : LoopSpec where
 sh := [(1, .bx (.v (.pair .int (.pair .int (.slice (.pair (.slice .int) (.pair .int (.slice (.slice .int))))))))), (26, .v (.slice (.pair (.slice .int) (.pair .int (.slice (.slice .int)))))), (27, .v .int), (28, .v .int)]
 ex := [(.exit 0, []), (.ret, [(2, .v .bool)])]
 run := impl_IsNetwork_L4 n
noncomputable def C_31 : Cx where
 tt := tblTT tt
 T := tblT [(108, E_26), (109, E_30)]
 L := tblL [(4, S_31L4 fuel)]
 dep := fun i => 0
 n := 1
noncomputable def B_31L4 : Code := (Try.f57.body.bind (loopBody 4)).getD .skip
noncomputable def D_31 : Code := Try.f57.body.getD .skip
noncomputable def N_31 (_ : outs [.v (.pair .int (.pair .int (.slice (.pair (.slice .int) (.pair .int (.slice (.slice .int)))))))]) (r : dens [.v .bool]) : Bool := r
noncomputable def E_32 : Entry where
 params := [.v .int]
 results := [.mv .int 0]
 B := (List Int)
 run := fun a => impl_freeTable a
 out := fun b => ()
 res := fun b => b
noncomputable def S_32L3 (n : Nat) : LoopSpec where
 sh := [(3, .mv .int 0), (8, .v .int), (9, .v .int)]
 ex := [(.exit 0, [(3, .mv .int 0)])]
 run := impl_freeTable_L3 n
noncomputable def C_32 : Cx where
 tt := tblTT tt
 T := tblT []
 L := tblL [(3, S_32L3 fuel)]
 dep := fun i => 0
 n := 1
noncomputable def B_32L3 : Code := (Try.f112.body.bind (loopBody 3)).getD .skip
noncomputable def D_32 : Code := Try.f112.body.getD .skip
noncomputable def N_32 (_ : outs [.v .int]) (r : dens [.mv .int 0]) : (List Int) := r
noncomputable def E_33 : Entry where
 params := [.v (.slice .int)]
 results := [.v .str]
 B := ByteArray
 run := fun a => impl_keyOf a
 out := fun b => ()
 res := fun b => b
noncomputable def S_33L3 (n : Nat) : LoopSpec where
 sh := [(3, .mv (.num .u8) 0), (10, .v (.slice .int)), (11, .v .int), (12, .v .int)]
 ex := [(.exit 0, [(3, .mv (.num .u8) 0)])]
 run := impl_keyOf_L3 n
noncomputable def C_33 : Cx where
 tt := tblTT tt
 T := tblT []
 L := tblL [(3, S_33L3 fuel)]
 dep := fun i => 0
 n := 1
noncomputable def B_33L3 : Code := (Try.f62.body.bind (loopBody 3)).getD .skip
noncomputable def D_33 : Code := Try.f62.body.getD .skip
noncomputable def N_33 (_ : outs [.v (.slice .int)]) (r : dens [.v .str]) : ByteArray := r
noncomputable def E_34 : Entry where
 params := [.v (.pair .int (.slice (.slice .int)))]
 results := [.v .smap]
 B := (List ByteArray)
 run := fun a => impl_tupleSet a
 out := fun b => ()
 res := fun b => b
noncomputable def S_34L3 (n : Nat) : LoopSpec where
 sh := [(3, .mp), (8, .v (.slice (.slice .int))), (9, .v .int), (10, .v .int)]
 ex := [(.exit 0, [(3, .mp)])]
 run := impl_tupleSet_L3 n
noncomputable def C_34 : Cx where
 tt := tblTT tt
 T := tblT [(62, E_33)]
 L := tblL [(3, S_34L3 fuel)]
 dep := fun i => 0
 n := 1
noncomputable def B_34L3 : Code := (Try.f140.body.bind (loopBody 3)).getD .skip
noncomputable def D_34 : Code := Try.f140.body.getD .skip
noncomputable def N_34 (_ : outs [.v (.pair .int (.slice (.slice .int)))]) (r : dens [.v .smap]) : (List ByteArray) := r
noncomputable def E_35 : Entry where
 params := [.v (.pair .int (.pair .int (.slice (.pair (.slice .int) (.pair .int (.slice (.slice .int)))))))]
 results := [.v (.ptr (.pair .int (.pair (.slice (.slice (.slice .int))) (.slice (.slice .smap)))))]
 B := (Bool × Int × (List (List (List Int))) × (List (List (List ByteArray))))
 run := fun a => impl_newNetSearch a
 out := fun b => ()
 res := fun b => b
noncomputable def S_35L7 (n : Nat) : LoopSpec where
 sh := [(3, .bx (.pr (.v .int) (.pr (.mv (.slice (.slice .int)) 1) (.mv (.slice .smap) 1)))), (5, .bx (.v (.pair (.slice .int) (.pair .int (.slice (.slice .int)))))), (6, .v .int), (20, .v (.slice (.pair (.slice .int) (.pair .int (.slice (.slice .int)))))), (21, .v .int), (22, .v .int), (27, .v (.slice .int)), (28, .v .int), (29, .v .int)]
 ex := [(.exit 2, [(3, .bx (.pr (.v .int) (.pr (.mv (.slice (.slice .int)) 1) (.mv (.slice .smap) 1)))), (5, .bx (.v (.pair (.slice .int) (.pair .int (.slice (.slice .int)))))), (6, .v .int), (20, .v (.slice (.pair (.slice .int) (.pair .int (.slice (.slice .int)))))), (21, .v .int), (22, .v .int)])]
 run := impl_newNetSearch_L7 n
noncomputable def S_35L3 (n : Nat) : LoopSpec where
 sh := [(3, .bx (.pr (.v .int) (.pr (.mv (.slice (.slice .int)) 1) (.mv (.slice .smap) 1)))), (20, .v (.slice (.pair (.slice .int) (.pair .int (.slice (.slice .int)))))), (21, .v .int), (22, .v .int)]
 ex := [(.exit 0, [(3, .bx (.pr (.v .int) (.pr (.mv (.slice (.slice .int)) 1) (.mv (.slice .smap) 1))))])]
 run := impl_newNetSearch_L3 n
noncomputable def C_35 : Cx where
 tt := tblTT tt
 T := tblT [(140, E_34)]
 L := tblL [(7, S_35L7 fuel), (3, S_35L3 fuel)]
 dep := fun i => match i with
  | 13 => 1
  | 16 => 1
  | _ => 0
 n := 1
 fine := true
noncomputable def B_35L7 : Code := (Try.f110.body.bind (loopBody 7)).getD .skip
noncomputable def B_35L3 : Code := (Try.f110.body.bind (loopBody 3)).getD .skip
noncomputable def D_35 : Code := Try.f110.body.getD .skip
noncomputable def N_35 (_ : outs [.v (.pair .int (.pair .int (.slice (.pair (.slice .int) (.pair .int (.slice (.slice .int)))))))]) (r : dens [.v (.ptr (.pair .int (.pair (.slice (.slice (.slice .int))) (.slice (.slice .smap)))))]) : (Bool × Int × (List (List (List Int))) × (List (List (List ByteArray)))) := r
noncomputable def E_36 : Entry where
 params := [.v (.slice .int)]
 results := [.nv .int 0]
 B := (Bool × (List Int))
 run := fun a => impl_clone_b a
 out := fun b => ()
 res := fun b => b
noncomputable def C_36 : Cx where
 tt := tblTT tt
 T := tblT []
 L := tblL []
 dep := fun i => 0
 n := 1
noncomputable def D_36 : Code := Try.f135.body.getD .skip
noncomputable def N_36 (_ : outs [.v (.slice .int)]) (r : dens [.nv .int 0]) : (Bool × (List Int)) := r
noncomputable def E_37 : Entry where
 params := [.v (.slice .int), .bx (.nv .int 0)]
 results := [.v .bool]
 B := (Bool × (List Int)) × Bool
 run := fun a => impl_firstSolution_c1 a.1 a.2
 out := fun b => ((), b.1)
 res := fun b => b.2
noncomputable def C_37 : Cx where
 tt := tblTT tt
 T := tblT [(135, E_36)]
 L := tblL []
 dep := fun i => 0
 n := 2
noncomputable def D_37 : Code := Try.f134.body.getD .skip
noncomputable def N_37 (o : outs [.v (.slice .int), .bx (.nv .int 0)]) (r : dens [.v .bool]) : (Bool × (List Int)) × Bool := (o.2, r)
noncomputable def E_38 : Entry where
 params := [.v (.slice .int), .v (.slice .int)]
 results := [.mv .int 0]
 B := (List Int)
 run := fun a => impl_compose a.1 a.2
 out := fun b => ((), ())
 res := fun b => b
noncomputable def S_38L3 (n : Nat) : LoopSpec where
 sh := [(1, .v (.slice .int)), (5, .mv .int 0), (11, .v (.slice .int)), (12, .v .int), (13, .v .int)]
 ex := [(.exit 0, [(5, .mv .int 0)])]
 run := impl_compose_L3 n
noncomputable def C_38 : Cx where
 tt := tblTT tt
 T := tblT []
 L := tblL [(3, S_38L3 fuel)]
 dep := fun i => 0
 n := 2
noncomputable def B_38L3 : Code := (Try.f61.body.bind (loopBody 3)).getD .skip
noncomputable def D_38 : Code := Try.f61.body.getD .skip
noncomputable def N_38 (_ : outs [.v (.slice .int), .v (.slice .int)]) (r : dens [.mv .int 0]) : (List Int) := r
noncomputable def E_39_of (rec : (Int × (List Int) × (Bool × (List Int)) × (Bool × Int × (List (List (List Int))) × (List (List (List ByteArray)))) × (List Int) × Unit) → Option ((List Int) × (Bool × (List Int)) × (Bool × Int × (List (List (List Int))) × (List (List (List ByteArray)))) × (List Int) × Bool)) : Entry where
 params := [.v .int, .bx (.mv .int 0), .bx (.nv .int 0), .bx (.v (.ptr (.pair .int (.pair (.slice (.slice (.slice .int))) (.slice (.slice .smap)))))), .bx (.v (.slice .int)), .jk 1]
 results := [.v .bool]
 cod := [(2, .kb 134), (5, .kn 141 1 5)]
 B := (List Int) × (Bool × (List Int)) × (Bool × Int × (List (List (List Int))) × (List (List (List ByteArray)))) × (List Int) × Bool
 run := rec
 out := fun b => ((), b.1, b.2.1, b.2.2.1, b.2.2.2.1, ())
 res := fun b => b.2.2.2.2
noncomputable def E_39 (d : Nat) : Entry := E_39_of (impl_netSearch_each_c1_impl_firstSolution_c1 d)
noncomputable def S_39L10 (rec : (Int × (List Int) × (Bool × (List Int)) × (Bool × Int × (List (List (List Int))) × (List (List (List ByteArray)))) × (List Int) × Unit) → Option ((List Int) × (Bool × (List Int)) × (Bool × Int × (List (List (List Int))) × (List (List (List ByteArray)))) × (List Int) × Bool)) (n : Nat) : LoopSpec where
 sh := [(0, .v .int), (1, .bx (.mv .int 0)), (2, .bx (.nv .int 0)), (3, .bx (.v (.ptr (.pair .int (.pair (.slice (.slice (.slice .int))) (.slice (.slice .smap))))))), (4, .bx (.v (.slice .int))), (5, .jk 1), (8, .v .int), (9, .v .bool), (50, .v (.slice (.slice .int))), (51, .v .int), (52, .v .int)]
 ex := [(.exit 2, [(0, .v .int), (1, .bx (.mv .int 0)), (2, .bx (.nv .int 0)), (3, .bx (.v (.ptr (.pair .int (.pair (.slice (.slice (.slice .int))) (.slice (.slice .smap))))))), (4, .bx (.v (.slice .int))), (5, .jk 1), (8, .v .int), (9, .v .bool)])]
 run := impl_netSearch_each_c1_impl_firstSolution_c1_L10 rec n
noncomputable def S_39L4 (rec : (Int × (List Int) × (Bool × (List Int)) × (Bool × Int × (List (List (List Int))) × (List (List (List ByteArray)))) × (List Int) × Unit) → Option ((List Int) × (Bool × (List Int)) × (Bool × Int × (List (List (List Int))) × (List (List (List ByteArray)))) × (List Int) × Bool)) (n : Nat) : LoopSpec where
 sh := [(0, .v .int), (1, .bx (.mv .int 0)), (2, .bx (.nv .int 0)), (3, .bx (.v (.ptr (.pair .int (.pair (.slice (.slice (.slice .int))) (.slice (.slice .smap))))))), (4, .bx (.v (.slice .int))), (5, .jk 1), (8, .v .int)]
 ex := [(.exit 0, [(1, .bx (.mv .int 0)), (2, .bx (.nv .int 0)), (3, .bx (.v (.ptr (.pair .int (.pair (.slice (.slice (.slice .int))) (.slice (.slice .smap))))))), (4, .bx (.v (.slice .int))), (5, .jk 1)]), (.ret, [(1, .bx (.mv .int 0)), (2, .bx (.nv .int 0)), (3, .bx (.v (.ptr (.pair .int (.pair (.slice (.slice (.slice .int))) (.slice (.slice .smap))))))), (4, .bx (.v (.slice .int))), (5, .jk 1), (7, .v .bool)])]
 run := impl_netSearch_each_c1_impl_firstSolution_c1_L4 rec n
noncomputable def C_39 (rec : (Int × (List Int) × (Bool × (List Int)) × (Bool × Int × (List (List (List Int))) × (List (List (List ByteArray)))) × (List Int) × Unit) → Option ((List Int) × (Bool × (List Int)) × (Bool × Int × (List (List (List Int))) × (List (List (List ByteArray)))) × (List Int) × Bool)) : Cx where
 tt := tblTT tt
 T := tblT [(61, E_38), (62, E_33), (134, E_37), (8847501, E_39_of rec)]
 L := tblL [(10, S_39L10 rec fuel), (4, S_39L4 rec fuel)]
 dep := fun i => 0
 n := 6
 cod := [(2, .kb 134), (5, .kn 141 1 5)]
noncomputable def B_39L10 : Code := (Try.f141.body.bind (loopBody 10)).getD .skip
noncomputable def B_39L4 : Code := (Try.f141.body.bind (loopBody 4)).getD .skip
noncomputable def D_39 : Code := Try.f141.body.getD .skip
noncomputable def N_39 (o : outs [.v .int, .bx (.mv .int 0), .bx (.nv .int 0), .bx (.v (.ptr (.pair .int (.pair (.slice (.slice (.slice .int))) (.slice (.slice .smap)))))), .bx (.v (.slice .int)), .jk 1]) (r : dens [.v .bool]) : (List Int) × (Bool × (List Int)) × (Bool × Int × (List (List (List Int))) × (List (List (List ByteArray)))) × (List Int) × Bool := (o.2.1, o.2.2.1, o.2.2.2.1, o.2.2.2.2.1, r)
noncomputable def E_40 : Entry where
 params := [.v (.ptr (.pair .int (.pair (.slice (.slice (.slice .int))) (.slice (.slice .smap))))), .v (.slice .int), .bx (.nv .int 0)]
 results := []
 cod := [(2, .cl 134)]
 B := (Bool × (List Int))
 run := fun a => impl_netSearch_each_impl_firstSolution_c1 a.1 a.2.1 a.2.2
 out := fun b => ((), (), b)
 res := fun b => ()
noncomputable def C_40 : Cx where
 tt := tblTT tt
 T := tblT [(8847501, E_39 fuel)]
 L := tblL []
 dep := fun i => 0
 n := 3
 cod := [(2, .cl 134)]
noncomputable def D_40 : Code := Try.f111.body.getD .skip
noncomputable def N_40 (o : outs [.v (.ptr (.pair .int (.pair (.slice (.slice (.slice .int))) (.slice (.slice .smap))))), .v (.slice .int), .bx (.nv .int 0)]) (_ : dens []) : (Bool × (List Int)) := o.2.2
noncomputable def E_41 : Entry where
 params := [.v (.pair .int (.pair .int (.slice (.pair (.slice .int) (.pair .int (.slice (.slice .int))))))), .v (.slice .int)]
 results := [.nv .int 0]
 B := (Bool × (List Int))
 run := fun a => impl_firstSolution a.1 a.2
 out := fun b => ((), ())
 res := fun b => b
noncomputable def C_41 : Cx where
 tt := tblTT tt
 T := tblT [(110, E_35), (8847471, E_40)]
 L := tblL []
 dep := fun i => 0
 n := 2
noncomputable def D_41 : Code := Try.f101.body.getD .skip
noncomputable def N_41 (_ : outs [.v (.pair .int (.pair .int (.slice (.pair (.slice .int) (.pair .int (.slice (.slice .int))))))), .v (.slice .int)]) (r : dens [.nv .int 0]) : (Bool × (List Int)) := r
noncomputable def E_42 : Entry where
 params := [.v (.pair .int (.pair .int (.slice (.pair (.slice .int) (.pair .int (.slice (.slice .int)))))))]
 results := [.v .bool]
 B := Bool
 run := fun a => impl_solvable a
 out := fun b => ()
 res := fun b => b
noncomputable def C_42 : Cx where
 tt := tblTT tt
 T := tblT [(101, E_41), (112, E_32)]
 L := tblL []
 dep := fun i => 0
 n := 1
noncomputable def D_42 : Code := Try.f70.body.getD .skip
noncomputable def N_42 (_ : outs [.v (.pair .int (.pair .int (.slice (.pair (.slice .int) (.pair .int (.slice (.slice .int)))))))]) (r : dens [.v .bool]) : Bool := r
noncomputable def E_43 : Entry where
 params := [.v .int]
 results := [.mv .int 0]
 B := (List Int)
 run := fun a => impl_identityOf a
 out := fun b => ()
 res := fun b => b
noncomputable def S_43L3 (n : Nat) : LoopSpec where
 sh := [(3, .mv .int 0), (8, .v .int), (9, .v .int)]
 ex := [(.exit 0, [(3, .mv .int 0)])]
 run := impl_identityOf_L3 n
noncomputable def C_43 : Cx where
 tt := tblTT tt
 T := tblT []
 L := tblL [(3, S_43L3 fuel)]
 dep := fun i => 0
 n := 1
noncomputable def B_43L3 : Code := (Try.f71.body.bind (loopBody 3)).getD .skip
noncomputable def D_43 : Code := Try.f71.body.getD .skip
noncomputable def N_43 (_ : outs [.v .int]) (r : dens [.mv .int 0]) : (List Int) := r
noncomputable def E_44 : Entry where
 params := [.v (.pair .int (.pair .int (.slice (.pair (.slice .int) (.pair .int (.slice (.slice .int))))))), .io .int 0]
 results := [.pr (.v .int) (.pr (.v .int) (.mv (.pair (.slice .int) (.pair .int (.slice (.slice .int)))) 0))]
 B := (List Int) × (Int × (Int × (List ((List Int) × Int × (List (List Int))))))
 run := fun a => impl_partOf a.1 a.2
 out := fun b => ((), b.1)
 res := fun b => b.2
noncomputable def S_44L3 (n : Nat) : LoopSpec where
 sh := [(131085, .jk 1), (1, .io .int 0), (2, .bx (.v (.pair .int (.pair .int (.slice (.pair (.slice .int) (.pair .int (.slice (.slice .int))))))))), (4, .bx (.pr (.v .int) (.pr (.v .int) (.mv (.pair (.slice .int) (.pair .int (.slice (.slice .int)))) 0)))), (5, .bx (.pr (.v .int) (.pr (.v .int) (.mv (.pair (.slice .int) (.pair .int (.slice (.slice .int)))) 0)))), (14, .v .int), (15, .v .int)]
 ex := [(.exit 0, [(1, .io .int 0), (4, .bx (.pr (.v .int) (.pr (.v .int) (.mv (.pair (.slice .int) (.pair .int (.slice (.slice .int)))) 0)))), (5, .bx (.pr (.v .int) (.pr (.v .int) (.mv (.pair (.slice .int) (.pair .int (.slice (.slice .int)))) 0))))])]
 run := impl_partOf_L3 n
noncomputable def C_44 : Cx where
 tt := tblTT tt
 T := tblT []
 L := tblL [(3, S_44L3 fuel)]
 dep := fun i => 0
 n := 2
noncomputable def B_44L3 : Code := (Try.f72.body.bind (loopBody 3)).getD .skip
noncomputable def D_44 : Code := Try.f72.body.getD .skip
noncomputable def N_44 (o : outs [.v (.pair .int (.pair .int (.slice (.pair (.slice .int) (.pair .int (.slice (.slice .int))))))), .io .int 0]) (r : dens [.pr (.v .int) (.pr (.v .int) (.mv (.pair (.slice .int) (.pair .int (.slice (.slice .int)))) 0))]) : (List Int) × (Int × (Int × (List ((List Int) × Int × (List (List Int)))))) := (o.2, r)
noncomputable def E_45 : Entry where
 params := [.v (.pair .int (.pair .int (.slice (.pair (.slice .int) (.pair .int (.slice (.slice .int)))))))]
 results := [.mv .int 0, .v .bool]
 B := (List Int) × Bool
 run := fun a => impl_ConflictCore a
 out := fun b => ()
 res := fun b => (b.1, b.2)
noncomputable def S_45L9 (n : Nat) : LoopSpec where
 sh := [(327708, .jk 1), (1, .bx (.v (.pair .int (.pair .int (.slice (.pair (.slice .int) (.pair .int (.slice (.slice .int))))))))), (4, .mv .int 0), (5, .v .int), (6, .mv .int 0), (23, .v .int), (24, .v .int), (29, .v .int), (30, .v .int)]
 ex := [(.exit 2, [(1, .bx (.v (.pair .int (.pair .int (.slice (.pair (.slice .int) (.pair .int (.slice (.slice .int))))))))), (4, .mv .int 0), (6, .mv .int 0), (23, .v .int), (24, .v .int)])]
 run := impl_ConflictCore_L9 n
noncomputable def S_45L5 (n : Nat) : LoopSpec where
 sh := [(1, .bx (.v (.pair .int (.pair .int (.slice (.pair (.slice .int) (.pair .int (.slice (.slice .int))))))))), (4, .mv .int 0), (23, .v .int), (24, .v .int)]
 ex := [(.exit 0, [(4, .mv .int 0)])]
 run := impl_ConflictCore_L5 n
noncomputable def C_45 : Cx where
 tt := tblTT tt
 T := tblT [(57, E_31), (70, E_42), (71, E_43), (72, E_44)]
 L := tblL [(9, S_45L9 fuel), (5, S_45L5 fuel)]
 dep := fun i => 0
 n := 1
noncomputable def B_45L9 : Code := (Try.f20.body.bind (loopBody 9)).getD .skip
noncomputable def B_45L5 : Code := (Try.f20.body.bind (loopBody 5)).getD .skip
noncomputable def D_45 : Code := Try.f20.body.getD .skip
noncomputable def N_45 (_ : outs [.v (.pair .int (.pair .int (.slice (.pair (.slice .int) (.pair .int (.slice (.slice .int)))))))]) (r : dens [.mv .int 0, .v .bool]) : (List Int) × Bool := (r.1, r.2)
noncomputable def E_46 : Entry where
 params := [.v .int, .v (.slice .int)]
 results := [.v .bool]
 B := Bool
 run := fun a => spec_l2Elements a.1 a.2
 out := fun b => ((), ())
 res := fun b => b
noncomputable def S_46L2 (n : Nat) : LoopSpec where
 sh := [(0, .v .int), (1, .v (.slice .int)), (5, .v .int)]
 ex := [(.exit 0, []), (.ret, [(4, .v .bool)])]
 run := spec_l2Elements_L2 n
noncomputable def C_46 : Cx where
 tt := tblTT tt
 T := tblT [(50, E_8)]
 L := tblL [(2, S_46L2 fuel)]
 dep := fun i => 0
 n := 2
noncomputable def B_46L2 : Code := (Try.f51.body.bind (loopBody 2)).getD .skip
noncomputable def D_46 : Code := Try.f51.body.getD .skip
noncomputable def N_46 (_ : outs [.v .int, .v (.slice .int)]) (r : dens [.v .bool]) : Bool := r
noncomputable def E_47 : Entry where
 params := [.v .int, .v .int, .v (.slice .int)]
 results := [.v .bool]
 B := Bool
 run := fun a => spec_l8Tuple a.1 a.2.1 a.2.2
 out := fun b => ((), (), ())
 res := fun b => b
noncomputable def C_47 : Cx where
 tt := tblTT tt
 T := tblT [(51, E_46)]
 L := tblL []
 dep := fun i => 0
 n := 3
noncomputable def D_47 : Code := Try.f155.body.getD .skip
noncomputable def N_47 (_ : outs [.v .int, .v .int, .v (.slice .int)]) (r : dens [.v .bool]) : Bool := r
noncomputable def E_48 : Entry where
 params := [.v .int, .v (.pair .int (.slice (.slice .int)))]
 results := [.v .bool]
 B := Bool
 run := fun a => spec_l13Good a.1 a.2
 out := fun b => ((), ())
 res := fun b => b
noncomputable def S_48L4 (n : Nat) : LoopSpec where
 sh := [(0, .v .int), (3, .bx (.v (.pair .int (.slice (.slice .int))))), (5, .v .int)]
 ex := [(.exit 0, []), (.ret, [(4, .v .bool)])]
 run := spec_l13Good_L4 n
noncomputable def C_48 : Cx where
 tt := tblTT tt
 T := tblT [(50, E_8), (52, E_16), (155, E_47), (156, E_10)]
 L := tblL [(4, S_48L4 fuel)]
 dep := fun i => 0
 n := 2
noncomputable def B_48L4 : Code := (Try.f138.body.bind (loopBody 4)).getD .skip
noncomputable def D_48 : Code := Try.f138.body.getD .skip
noncomputable def N_48 (_ : outs [.v .int, .v (.pair .int (.slice (.slice .int)))]) (r : dens [.v .bool]) : Bool := r
noncomputable def E_49 : Entry where
 params := [.v .int, .v .int, .v (.pair (.slice .int) (.pair .int (.slice (.slice .int))))]
 results := [.v .bool]
 B := Bool
 run := fun a => spec_l19Is a.1 a.2.1 a.2.2
 out := fun b => ((), (), ())
 res := fun b => b
noncomputable def C_49 : Cx where
 tt := tblTT tt
 T := tblT [(51, E_46), (138, E_48)]
 L := tblL []
 dep := fun i => 0
 n := 3
noncomputable def D_49 : Code := Try.f104.body.getD .skip
noncomputable def N_49 (_ : outs [.v .int, .v .int, .v (.pair (.slice .int) (.pair .int (.slice (.slice .int))))]) (r : dens [.v .bool]) : Bool := r
noncomputable def E_50 : Entry where
 params := [.v (.pair .int (.pair .int (.slice (.pair (.slice .int) (.pair .int (.slice (.slice .int)))))))]
 results := [.v .bool]
 B := Bool
 run := fun a => spec_l19Good a
 out := fun b => ()
 res := fun b => b
noncomputable def S_50L4 (n : Nat) : LoopSpec where
 sh := [(1, .bx (.v (.pair .int (.pair .int (.slice (.pair (.slice .int) (.pair .int (.slice (.slice .int))))))))), (3, .v .int)]
 ex := [(.exit 0, []), (.ret, [(2, .v .bool)])]
 run := spec_l19Good_L4 n
noncomputable def C_50 : Cx where
 tt := tblTT tt
 T := tblT [(50, E_8), (104, E_49)]
 L := tblL [(4, S_50L4 fuel)]
 dep := fun i => 0
 n := 1
noncomputable def B_50L4 : Code := (Try.f49.body.bind (loopBody 4)).getD .skip
noncomputable def D_50 : Code := Try.f49.body.getD .skip
noncomputable def N_50 (_ : outs [.v (.pair .int (.pair .int (.slice (.pair (.slice .int) (.pair .int (.slice (.slice .int)))))))]) (r : dens [.v .bool]) : Bool := r
noncomputable def E_51 : Entry where
 params := [.v .int]
 results := [.mv .int 0]
 B := (List Int)
 run := fun a => spec_l14Free a
 out := fun b => ()
 res := fun b => b
noncomputable def S_51L3 (n : Nat) : LoopSpec where
 sh := [(0, .v .int), (3, .mv .int 0), (4, .v .int)]
 ex := [(.exit 0, [(3, .mv .int 0)])]
 run := spec_l14Free_L3 n
noncomputable def C_51 : Cx where
 tt := tblTT tt
 T := tblT []
 L := tblL [(3, S_51L3 fuel)]
 dep := fun i => 0
 n := 1
noncomputable def B_51L3 : Code := (Try.f54.body.bind (loopBody 3)).getD .skip
noncomputable def D_51 : Code := Try.f54.body.getD .skip
noncomputable def N_51 (_ : outs [.v .int]) (r : dens [.mv .int 0]) : (List Int) := r
noncomputable def E_52 : Entry where
 params := [.v .int, .v (.slice (.pair (.slice .int) (.pair .int (.slice (.slice .int)))))]
 results := [.mv (.slice (.pair (.slice .int) (.pair .int (.slice (.slice .int))))) 1]
 B := (List (List ((List Int) × Int × (List (List Int)))))
 run := fun a => spec_l19Most a.1 a.2
 out := fun b => ((), ())
 res := fun b => b
noncomputable def S_52L7 (n : Nat) : LoopSpec where
 sh := [(1, .v (.slice (.pair (.slice .int) (.pair .int (.slice (.slice .int)))))), (5, .mv (.slice (.pair (.slice .int) (.pair .int (.slice (.slice .int))))) 1), (6, .v .int), (7, .v .int), (8, .v .int)]
 ex := [(.exit 2, [(1, .v (.slice (.pair (.slice .int) (.pair .int (.slice (.slice .int)))))), (5, .mv (.slice (.pair (.slice .int) (.pair .int (.slice (.slice .int))))) 1), (6, .v .int), (7, .v .int)])]
 run := spec_l19Most_L7 n
noncomputable def S_52L3 (n : Nat) : LoopSpec where
 sh := [(1, .v (.slice (.pair (.slice .int) (.pair .int (.slice (.slice .int)))))), (5, .mv (.slice (.pair (.slice .int) (.pair .int (.slice (.slice .int))))) 1), (6, .v .int)]
 ex := [(.exit 0, [(5, .mv (.slice (.pair (.slice .int) (.pair .int (.slice (.slice .int))))) 1)])]
 run := spec_l19Most_L3 n
noncomputable def C_52 : Cx where
 tt := tblTT tt
 T := tblT [(119, E_22)]
 L := tblL [(7, S_52L7 fuel), (3, S_52L3 fuel)]
 dep := fun i => match i with
  | 10 => 1
  | _ => 0
 n := 2
 fine := true
noncomputable def B_52L7 : Code := (Try.f106.body.bind (loopBody 7)).getD .skip
noncomputable def B_52L3 : Code := (Try.f106.body.bind (loopBody 3)).getD .skip
noncomputable def D_52 : Code := Try.f106.body.getD .skip
noncomputable def N_52 (_ : outs [.v .int, .v (.slice (.pair (.slice .int) (.pair .int (.slice (.slice .int)))))]) (r : dens [.mv (.slice (.pair (.slice .int) (.pair .int (.slice (.slice .int))))) 1]) : (List (List ((List Int) × Int × (List (List Int))))) := r
noncomputable def E_53 : Entry where
 params := [.v (.pair .int (.slice (.slice .int))), .v (.slice .int)]
 results := [.v .bool]
 B := Bool
 run := fun a => spec_l13Has a.1 a.2
 out := fun b => ((), ())
 res := fun b => b
noncomputable def C_53 : Cx where
 tt := tblTT tt
 T := tblT [(160, E_12)]
 L := tblL []
 dep := fun i => 0
 n := 2
noncomputable def D_53 : Code := Try.f152.body.getD .skip
noncomputable def N_53 (_ : outs [.v (.pair .int (.slice (.slice .int))), .v (.slice .int)]) (r : dens [.v .bool]) : Bool := r
noncomputable def E_54 : Entry where
 params := [.v (.pair (.slice .int) (.pair .int (.slice (.slice .int)))), .v (.slice .int)]
 results := [.v .bool]
 B := Bool
 run := fun a => spec_l19Satisfies a.1 a.2
 out := fun b => ((), ())
 res := fun b => b
noncomputable def S_54L3 (n : Nat) : LoopSpec where
 sh := [(1, .v (.slice .int)), (2, .bx (.v (.pair (.slice .int) (.pair .int (.slice (.slice .int)))))), (5, .mv .int 0), (6, .v .int)]
 ex := [(.exit 0, [(2, .bx (.v (.pair (.slice .int) (.pair .int (.slice (.slice .int)))))), (5, .mv .int 0)])]
 run := spec_l19Satisfies_L3 n
noncomputable def C_54 : Cx where
 tt := tblTT tt
 T := tblT [(152, E_53)]
 L := tblL [(3, S_54L3 fuel)]
 dep := fun i => 0
 n := 2
noncomputable def B_54L3 : Code := (Try.f123.body.bind (loopBody 3)).getD .skip
noncomputable def D_54 : Code := Try.f123.body.getD .skip
noncomputable def N_54 (_ : outs [.v (.pair (.slice .int) (.pair .int (.slice (.slice .int)))), .v (.slice .int)]) (r : dens [.v .bool]) : Bool := r
noncomputable def E_55_of (rec : (Int × (List (List ((List Int) × Int × (List (List Int))))) × (List Int) × (List Int) × ((List (List Int)) × (Int × Int × Bool))) → Option (((List (List Int)) × (Int × Int × Bool)))) : Entry where
 params := [.v .int, .v (.slice (.slice (.pair (.slice .int) (.pair .int (.slice (.slice .int)))))), .v (.slice .int), .v (.slice .int), .pr (.mv (.slice .int) 1) (.v (.pair .int (.pair .int .bool)))]
 results := [.pr (.mv (.slice .int) 1) (.v (.pair .int (.pair .int .bool)))]
 B := ((List (List Int)) × (Int × Int × Bool))
 run := rec
 out := fun b => ((), (), (), (), ((), ()))
 res := fun b => b
noncomputable def E_55 (d : Nat) : Entry := E_55_of (spec_l19Go d)
noncomputable def S_55L14 (rec : (Int × (List (List ((List Int) × Int × (List (List Int))))) × (List Int) × (List Int) × ((List (List Int)) × (Int × Int × Bool))) → Option (((List (List Int)) × (Int × Int × Bool)))) (n : Nat) : LoopSpec where
 sh := [(0, .v .int), (1, .v (.slice (.slice (.pair (.slice .int) (.pair .int (.slice (.slice .int))))))), (2, .v (.slice .int)), (3, .v (.slice .int)), (9, .bx (.pr (.mv (.slice .int) 1) (.v (.pair .int (.pair .int .bool))))), (10, .bx (.pr (.mv (.slice .int) 1) (.v (.pair .int (.pair .int .bool))))), (11, .v .int), (12, .v .int), (13, .mv .int 0), (14, .v .bool), (15, .v .int)]
 ex := [(.exit 2, [(0, .v .int), (1, .v (.slice (.slice (.pair (.slice .int) (.pair .int (.slice (.slice .int))))))), (2, .v (.slice .int)), (3, .v (.slice .int)), (9, .bx (.pr (.mv (.slice .int) 1) (.v (.pair .int (.pair .int .bool))))), (10, .bx (.pr (.mv (.slice .int) 1) (.v (.pair .int (.pair .int .bool))))), (11, .v .int), (12, .v .int), (13, .mv .int 0), (14, .v .bool)])]
 run := spec_l19Go_L14 rec n
noncomputable def S_55L8 (rec : (Int × (List (List ((List Int) × Int × (List (List Int))))) × (List Int) × (List Int) × ((List (List Int)) × (Int × Int × Bool))) → Option (((List (List Int)) × (Int × Int × Bool)))) (n : Nat) : LoopSpec where
 sh := [(0, .v .int), (1, .v (.slice (.slice (.pair (.slice .int) (.pair .int (.slice (.slice .int))))))), (2, .v (.slice .int)), (3, .v (.slice .int)), (9, .bx (.pr (.mv (.slice .int) 1) (.v (.pair .int (.pair .int .bool))))), (10, .bx (.pr (.mv (.slice .int) 1) (.v (.pair .int (.pair .int .bool))))), (11, .v .int), (12, .v .int)]
 ex := [(.exit 0, [(9, .bx (.pr (.mv (.slice .int) 1) (.v (.pair .int (.pair .int .bool))))), (10, .bx (.pr (.mv (.slice .int) 1) (.v (.pair .int (.pair .int .bool)))))])]
 run := spec_l19Go_L8 rec n
noncomputable def C_55 (rec : (Int × (List (List ((List Int) × Int × (List (List Int))))) × (List Int) × (List Int) × ((List (List Int)) × (Int × Int × Bool))) → Option (((List (List Int)) × (Int × Int × Bool)))) : Cx where
 tt := tblTT tt
 T := tblT [(105, E_55_of rec), (123, E_54), (129, E_6)]
 L := tblL [(14, S_55L14 rec fuel), (8, S_55L8 rec fuel)]
 dep := fun i => match i with
  | 36 => 1
  | 37 => 1
  | _ => 0
 n := 5
noncomputable def B_55L14 : Code := (Try.f105.body.bind (loopBody 14)).getD .skip
noncomputable def B_55L8 : Code := (Try.f105.body.bind (loopBody 8)).getD .skip
noncomputable def D_55 : Code := Try.f105.body.getD .skip
noncomputable def N_55 (_ : outs [.v .int, .v (.slice (.slice (.pair (.slice .int) (.pair .int (.slice (.slice .int)))))), .v (.slice .int), .v (.slice .int), .pr (.mv (.slice .int) 1) (.v (.pair .int (.pair .int .bool)))]) (r : dens [.pr (.mv (.slice .int) 1) (.v (.pair .int (.pair .int .bool)))]) : ((List (List Int)) × (Int × Int × Bool)) := r
noncomputable def E_56 : Entry where
 params := [.v (.pair .int (.pair .int (.slice (.pair (.slice .int) (.pair .int (.slice (.slice .int))))))), .v (.slice (.pair (.slice .int) (.pair .int (.slice (.slice .int))))), .v (.slice .int), .v .int, .v .bool]
 results := [.pr (.mv (.slice .int) 1) (.v (.pair .int (.pair .int .bool)))]
 B := ((List (List Int)) × (Int × Int × Bool))
 run := fun a => spec_l19Find a.1 a.2.1 a.2.2.1 a.2.2.2.1 a.2.2.2.2
 out := fun b => ((), (), (), (), ())
 res := fun b => b
noncomputable def C_56 : Cx where
 tt := tblTT tt
 T := tblT [(105, E_55 fuel), (106, E_52)]
 L := tblL []
 dep := fun i => 0
 n := 5
noncomputable def D_56 : Code := Try.f55.body.getD .skip
noncomputable def N_56 (_ : outs [.v (.pair .int (.pair .int (.slice (.pair (.slice .int) (.pair .int (.slice (.slice .int))))))), .v (.slice (.pair (.slice .int) (.pair .int (.slice (.slice .int))))), .v (.slice .int), .v .int, .v .bool]) (r : dens [.pr (.mv (.slice .int) 1) (.v (.pair .int (.pair .int .bool)))]) : ((List (List Int)) × (Int × Int × Bool)) := r
noncomputable def E_57 : Entry where
 params := [.v (.pair .int (.pair .int (.slice (.pair (.slice .int) (.pair .int (.slice (.slice .int))))))), .v (.slice (.pair (.slice .int) (.pair .int (.slice (.slice .int)))))]
 results := [.v .bool]
 B := Bool
 run := fun a => spec_l19Can a.1 a.2
 out := fun b => ((), ())
 res := fun b => b
noncomputable def C_57 : Cx where
 tt := tblTT tt
 T := tblT [(54, E_51), (55, E_56)]
 L := tblL []
 dep := fun i => 0
 n := 2
noncomputable def D_57 : Code := Try.f73.body.getD .skip
noncomputable def N_57 (_ : outs [.v (.pair .int (.pair .int (.slice (.pair (.slice .int) (.pair .int (.slice (.slice .int))))))), .v (.slice (.pair (.slice .int) (.pair .int (.slice (.slice .int)))))]) (r : dens [.v .bool]) : Bool := r
noncomputable def E_58 : Entry where
 params := [.v .int]
 results := [.mv .int 0]
 B := (List Int)
 run := fun a => spec_l6Identity a
 out := fun b => ()
 res := fun b => b
noncomputable def S_58L3 (n : Nat) : LoopSpec where
 sh := [(0, .v .int), (3, .mv .int 0), (4, .v .int)]
 ex := [(.exit 0, [(3, .mv .int 0)])]
 run := spec_l6Identity_L3 n
noncomputable def C_58 : Cx where
 tt := tblTT tt
 T := tblT []
 L := tblL [(3, S_58L3 fuel)]
 dep := fun i => 0
 n := 1
noncomputable def B_58L3 : Code := (Try.f74.body.bind (loopBody 3)).getD .skip
noncomputable def D_58 : Code := Try.f74.body.getD .skip
noncomputable def N_58 (_ : outs [.v .int]) (r : dens [.mv .int 0]) : (List Int) := r
noncomputable def E_59 : Entry where
 params := [.v (.pair .int (.pair .int (.slice (.pair (.slice .int) (.pair .int (.slice (.slice .int)))))))]
 results := [.mv .int 0, .v .bool]
 B := (List Int) × Bool
 run := fun a => spec_ConflictCore a
 out := fun b => ()
 res := fun b => (b.1, b.2)
noncomputable def S_59L9 (n : Nat) : LoopSpec where
 sh := [(1, .bx (.v (.pair .int (.pair .int (.slice (.pair (.slice .int) (.pair .int (.slice (.slice .int))))))))), (4, .mv .int 0), (5, .v .int), (6, .mv .int 0), (7, .mv (.pair (.slice .int) (.pair .int (.slice (.slice .int)))) 0), (8, .v .int)]
 ex := [(.exit 2, [(1, .bx (.v (.pair .int (.pair .int (.slice (.pair (.slice .int) (.pair .int (.slice (.slice .int))))))))), (4, .mv .int 0), (5, .v .int), (6, .mv .int 0), (7, .mv (.pair (.slice .int) (.pair .int (.slice (.slice .int)))) 0)])]
 run := spec_ConflictCore_L9 n
noncomputable def S_59L5 (n : Nat) : LoopSpec where
 sh := [(1, .bx (.v (.pair .int (.pair .int (.slice (.pair (.slice .int) (.pair .int (.slice (.slice .int))))))))), (4, .mv .int 0), (5, .v .int)]
 ex := [(.exit 0, [(4, .mv .int 0)])]
 run := spec_ConflictCore_L5 n
noncomputable def C_59 : Cx where
 tt := tblTT tt
 T := tblT [(49, E_50), (73, E_57), (74, E_58)]
 L := tblL [(9, S_59L9 fuel), (5, S_59L5 fuel)]
 dep := fun i => 0
 n := 1
noncomputable def B_59L9 : Code := (Try.f21.body.bind (loopBody 9)).getD .skip
noncomputable def B_59L5 : Code := (Try.f21.body.bind (loopBody 5)).getD .skip
noncomputable def D_59 : Code := Try.f21.body.getD .skip
noncomputable def N_59 (_ : outs [.v (.pair .int (.pair .int (.slice (.pair (.slice .int) (.pair .int (.slice (.slice .int)))))))]) (r : dens [.mv .int 0, .v .bool]) : (List Int) × Bool := (r.1, r.2)
noncomputable def E_60 : Entry where
 params := [.v (.slice .int), .v (.slice .int)]
 results := [.v .bool]
 B := Bool
 run := fun a => laws_rInts a.1 a.2
 out := fun b => ((), ())
 res := fun b => b
noncomputable def S_60L4 (n : Nat) : LoopSpec where
 sh := [(0, .v (.slice .int)), (1, .v (.slice .int)), (5, .v .int)]
 ex := [(.exit 0, []), (.ret, [(4, .v .bool)])]
 run := laws_rInts_L4 n
noncomputable def C_60 : Cx where
 tt := tblTT tt
 T := tblT []
 L := tblL [(4, S_60L4 fuel)]
 dep := fun i => 0
 n := 2
noncomputable def B_60L4 : Code := (Try.f22.body.bind (loopBody 4)).getD .skip
noncomputable def D_60 : Code := Try.f22.body.getD .skip
noncomputable def N_60 (_ : outs [.v (.slice .int), .v (.slice .int)]) (r : dens [.v .bool]) : Bool := r
noncomputable def E_61 : Entry where
 params := [.v (.slice .int)]
 results := [.v .bool]
 B := Bool
 run := fun a => impl_rises a
 out := fun b => ()
 res := fun b => b
noncomputable def S_61L2 (n : Nat) : LoopSpec where
 sh := [(0, .v (.slice .int)), (3, .v .int)]
 ex := [(.exit 0, []), (.ret, [(2, .v .bool)])]
 run := impl_rises_L2 n
noncomputable def C_61 : Cx where
 tt := tblTT tt
 T := tblT []
 L := tblL [(2, S_61L2 fuel)]
 dep := fun i => 0
 n := 1
noncomputable def B_61L2 : Code := (Try.f75.body.bind (loopBody 2)).getD .skip
noncomputable def D_61 : Code := Try.f75.body.getD .skip
noncomputable def N_61 (_ : outs [.v (.slice .int)]) (r : dens [.v .bool]) : Bool := r
noncomputable def E_62 : Entry where
 params := [.v (.pair .int (.pair .int (.slice (.pair (.slice .int) (.pair .int (.slice (.slice .int))))))), .io .int 0]
 results := [.v .bool, .v .bool]
 B := (List Int) × Bool × Bool
 run := fun a => impl_IsConflict a.1 a.2
 out := fun b => ((), b.1)
 res := fun b => (b.2.1, b.2.2)
noncomputable def C_62 : Cx where
 tt := tblTT tt
 T := tblT [(57, E_31), (58, E_27), (70, E_42), (72, E_44), (75, E_61)]
 L := tblL []
 dep := fun i => 0
 n := 2
noncomputable def D_62 : Code := Try.f23.body.getD .skip
noncomputable def N_62 (o : outs [.v (.pair .int (.pair .int (.slice (.pair (.slice .int) (.pair .int (.slice (.slice .int))))))), .io .int 0]) (r : dens [.v .bool, .v .bool]) : (List Int) × Bool × Bool := (o.2, r.1, r.2)
noncomputable def E_63 : Entry where
 params := [.v (.slice (.num .u8))]
 results := [.v (.pair .int (.pair .int (.slice (.pair (.slice .int) (.pair .int (.slice (.slice .int))))))), .mv .int 0]
 B := (Int × Int × (List ((List Int) × Int × (List (List Int))))) × (List Int)
 run := fun a => spec_DrawIsConflict a
 out := fun b => ()
 res := fun b => (b.1, b.2)
noncomputable def S_63L5 (n : Nat) : LoopSpec where
 sh := [(2, .bx (.pr (.v .int) (.pr (.v .int) (.mv (.pair (.slice .int) (.pair .int (.slice (.slice .int)))) 0)))), (4, .bx (.v (.pair (.slice (.num .u8)) (.pair .int (.num .u64))))), (5, .bx (.v (.pair .int (.pair .int (.slice (.pair (.slice .int) (.pair .int (.slice (.slice .int))))))))), (6, .mv .int 0), (7, .v .int)]
 ex := [(.exit 0, [(2, .bx (.pr (.v .int) (.pr (.v .int) (.mv (.pair (.slice .int) (.pair .int (.slice (.slice .int)))) 0)))), (4, .bx (.v (.pair (.slice (.num .u8)) (.pair .int (.num .u64))))), (5, .bx (.v (.pair .int (.pair .int (.slice (.pair (.slice .int) (.pair .int (.slice (.slice .int))))))))), (6, .mv .int 0)])]
 run := spec_DrawIsConflict_L5 n
noncomputable def C_63 : Cx where
 tt := tblTT tt
 T := tblT [(76, E_23), (77, E_4), (78, E_7)]
 L := tblL [(5, S_63L5 fuel)]
 dep := fun i => 0
 n := 1
noncomputable def B_63L5 : Code := (Try.f24.body.bind (loopBody 5)).getD .skip
noncomputable def D_63 : Code := Try.f24.body.getD .skip
noncomputable def N_63 (_ : outs [.v (.slice (.num .u8))]) (r : dens [.v (.pair .int (.pair .int (.slice (.pair (.slice .int) (.pair .int (.slice (.slice .int))))))), .mv .int 0]) : (Int × Int × (List ((List Int) × Int × (List (List Int))))) × (List Int) := (r.1, r.2)
noncomputable def E_64 : Entry where
 params := [.v (.slice .int), .v .int, .v .int]
 results := [.v .bool]
 B := Bool
 run := fun a => spec_l1Rising a.1 a.2.1 a.2.2
 out := fun b => ((), (), ())
 res := fun b => b
noncomputable def S_64L2 (n : Nat) : LoopSpec where
 sh := [(0, .v (.slice .int)), (1, .v .int), (2, .v .int), (7, .v .int)]
 ex := [(.exit 0, []), (.ret, [(6, .v .bool)])]
 run := spec_l1Rising_L2 n
noncomputable def C_64 : Cx where
 tt := tblTT tt
 T := tblT [(50, E_8)]
 L := tblL [(2, S_64L2 fuel)]
 dep := fun i => 0
 n := 3
noncomputable def B_64L2 : Code := (Try.f79.body.bind (loopBody 2)).getD .skip
noncomputable def D_64 : Code := Try.f79.body.getD .skip
noncomputable def N_64 (_ : outs [.v (.slice .int), .v .int, .v .int]) (r : dens [.v .bool]) : Bool := r
noncomputable def E_65 : Entry where
 params := [.v (.pair .int (.pair .int (.slice (.pair (.slice .int) (.pair .int (.slice (.slice .int))))))), .v (.slice .int)]
 results := [.v .bool, .v .bool]
 B := Bool × Bool
 run := fun a => spec_IsConflict a.1 a.2
 out := fun b => ((), ())
 res := fun b => (b.1, b.2)
noncomputable def S_65L5 (n : Nat) : LoopSpec where
 sh := [(1, .v (.slice .int)), (2, .bx (.v (.pair .int (.pair .int (.slice (.pair (.slice .int) (.pair .int (.slice (.slice .int))))))))), (6, .mv (.pair (.slice .int) (.pair .int (.slice (.slice .int)))) 0), (7, .v .int)]
 ex := [(.exit 0, [(2, .bx (.v (.pair .int (.pair .int (.slice (.pair (.slice .int) (.pair .int (.slice (.slice .int))))))))), (6, .mv (.pair (.slice .int) (.pair .int (.slice (.slice .int)))) 0)])]
 run := spec_IsConflict_L5 n
noncomputable def C_65 : Cx where
 tt := tblTT tt
 T := tblT [(49, E_50), (73, E_57), (79, E_64)]
 L := tblL [(5, S_65L5 fuel)]
 dep := fun i => 0
 n := 2
noncomputable def B_65L5 : Code := (Try.f25.body.bind (loopBody 5)).getD .skip
noncomputable def D_65 : Code := Try.f25.body.getD .skip
noncomputable def N_65 (_ : outs [.v (.pair .int (.pair .int (.slice (.pair (.slice .int) (.pair .int (.slice (.slice .int))))))), .v (.slice .int)]) (r : dens [.v .bool, .v .bool]) : Bool × Bool := (r.1, r.2)
noncomputable def E_66 : Entry where
 params := [.bx (.v (.pair (.slice (.num .u8)) (.pair .int (.num .u64)))), .v (.pair .int (.pair .int (.slice (.pair (.slice .int) (.pair .int (.slice (.slice .int))))))), .v .bool]
 results := [.mv .int 0]
 B := ((List Int) × Int × Int) × (List Int)
 run := fun a => spec_l1Cur_values19 a.1 a.2.1 a.2.2
 out := fun b => (b.1, (), ())
 res := fun b => b.2
noncomputable def S_66L3 (n : Nat) : LoopSpec where
 sh := [(0, .bx (.v (.pair (.slice (.num .u8)) (.pair .int (.num .u64))))), (2, .v .bool), (4, .bx (.v (.pair .int (.pair .int (.slice (.pair (.slice .int) (.pair .int (.slice (.slice .int))))))))), (7, .mv .int 0), (8, .v .int)]
 ex := [(.exit 0, [(0, .bx (.v (.pair (.slice (.num .u8)) (.pair .int (.num .u64))))), (4, .bx (.v (.pair .int (.pair .int (.slice (.pair (.slice .int) (.pair .int (.slice (.slice .int))))))))), (7, .mv .int 0)])]
 run := spec_l1Cur_values19_L3 n
noncomputable def C_66 : Cx where
 tt := tblTT tt
 T := tblT [(77, E_4), (78, E_7), (119, E_22), (120, E_3)]
 L := tblL [(3, S_66L3 fuel)]
 dep := fun i => 0
 n := 3
noncomputable def B_66L3 : Code := (Try.f121.body.bind (loopBody 3)).getD .skip
noncomputable def D_66 : Code := Try.f121.body.getD .skip
noncomputable def N_66 (o : outs [.bx (.v (.pair (.slice (.num .u8)) (.pair .int (.num .u64)))), .v (.pair .int (.pair .int (.slice (.pair (.slice .int) (.pair .int (.slice (.slice .int))))))), .v .bool]) (r : dens [.mv .int 0]) : ((List Int) × Int × Int) × (List Int) := (o.1, r)
noncomputable def E_67 : Entry where
 params := [.v (.pair .int (.pair .int (.slice (.pair (.slice .int) (.pair .int (.slice (.slice .int))))))), .v (.slice (.pair (.slice .int) (.pair .int (.slice (.slice .int))))), .v (.slice .int), .v .int, .v .bool]
 results := [.v (.pair (.slice (.slice .int)) (.pair .int (.pair .int .bool)))]
 B := ((List (List Int)) × Int × Int × Bool)
 run := fun a => spec_l19Find_b a.1 a.2.1 a.2.2.1 a.2.2.2.1 a.2.2.2.2
 out := fun b => ((), (), (), (), ())
 res := fun b => b
noncomputable def C_67 : Cx where
 tt := tblTT tt
 T := tblT [(105, E_55 fuel), (106, E_52)]
 L := tblL []
 dep := fun i => 0
 n := 5
noncomputable def D_67 : Code := Try.f55.body.getD .skip
noncomputable def N_67 (_ : outs [.v (.pair .int (.pair .int (.slice (.pair (.slice .int) (.pair .int (.slice (.slice .int))))))), .v (.slice (.pair (.slice .int) (.pair .int (.slice (.slice .int))))), .v (.slice .int), .v .int, .v .bool]) (r : dens [.v (.pair (.slice (.slice .int)) (.pair .int (.pair .int .bool)))]) : ((List (List Int)) × Int × Int × Bool) := r
noncomputable def E_68 : Entry where
 params := [.v (.slice (.num .u8))]
 results := [.v (.pair .int (.pair .int (.slice (.pair (.slice .int) (.pair .int (.slice (.slice .int))))))), .v (.slice .int)]
 B := (Int × Int × (List ((List Int) × Int × (List (List Int))))) × (List Int)
 run := fun a => spec_DrawIsSolution a
 out := fun b => ()
 res := fun b => (b.1, b.2)
noncomputable def C_68 : Cx where
 tt := tblTT tt
 T := tblT [(49, E_50), (54, E_51), (55, E_67), (76, E_23), (77, E_4), (121, E_66)]
 L := tblL []
 dep := fun i => 0
 n := 1
 fine := true
noncomputable def D_68 : Code := Try.f80.body.getD .skip
noncomputable def N_68 (_ : outs [.v (.slice (.num .u8))]) (r : dens [.v (.pair .int (.pair .int (.slice (.pair (.slice .int) (.pair .int (.slice (.slice .int))))))), .v (.slice .int)]) : (Int × Int × (List ((List Int) × Int × (List (List Int))))) × (List Int) := (r.1, r.2)
noncomputable def E_69 : Entry where
 params := [.v (.slice (.num .u8))]
 results := [.v (.pair .int (.pair .int (.slice (.pair (.slice .int) (.pair .int (.slice (.slice .int))))))), .v (.slice .int)]
 B := (Int × Int × (List ((List Int) × Int × (List (List Int))))) × (List Int)
 run := fun a => spec_DrawFirstUnsatisfied a
 out := fun b => ()
 res := fun b => (b.1, b.2)
noncomputable def C_69 : Cx where
 tt := tblTT tt
 T := tblT [(80, E_68)]
 L := tblL []
 dep := fun i => 0
 n := 1
noncomputable def D_69 : Code := Try.f26.body.getD .skip
noncomputable def N_69 (_ : outs [.v (.slice (.num .u8))]) (r : dens [.v (.pair .int (.pair .int (.slice (.pair (.slice .int) (.pair .int (.slice (.slice .int))))))), .v (.slice .int)]) : (Int × Int × (List ((List Int) × Int × (List (List Int))))) × (List Int) := (r.1, r.2)
noncomputable def E_70 : Entry where
 params := [.v (.pair .int (.pair .int (.slice (.pair (.slice .int) (.pair .int (.slice (.slice .int))))))), .v (.slice .int)]
 results := [.v .bool]
 B := Bool
 run := fun a => impl_isAssignment a.1 a.2
 out := fun b => ((), ())
 res := fun b => b
noncomputable def C_70 : Cx where
 tt := tblTT tt
 T := tblT [(58, E_27)]
 L := tblL []
 dep := fun i => 0
 n := 2
noncomputable def D_70 : Code := Try.f81.body.getD .skip
noncomputable def N_70 (_ : outs [.v (.pair .int (.pair .int (.slice (.pair (.slice .int) (.pair .int (.slice (.slice .int))))))), .v (.slice .int)]) (r : dens [.v .bool]) : Bool := r
noncomputable def E_71 : Entry where
 params := [.v (.slice .int), .v (.slice .int)]
 results := [.v .bool]
 B := Bool
 run := fun a => impl_sameList a.1 a.2
 out := fun b => ((), ())
 res := fun b => b
noncomputable def S_71L4 (n : Nat) : LoopSpec where
 sh := [(1, .v (.slice .int)), (12, .v (.slice .int)), (13, .v .int), (14, .v .int)]
 ex := [(.exit 0, []), (.ret, [(4, .v .bool)])]
 run := impl_sameList_L4 n
noncomputable def C_71 : Cx where
 tt := tblTT tt
 T := tblT []
 L := tblL [(4, S_71L4 fuel)]
 dep := fun i => 0
 n := 2
noncomputable def B_71L4 : Code := (Try.f86.body.bind (loopBody 4)).getD .skip
noncomputable def D_71 : Code := Try.f86.body.getD .skip
noncomputable def N_71 (_ : outs [.v (.slice .int), .v (.slice .int)]) (r : dens [.v .bool]) : Bool := r
noncomputable def E_72 : Entry where
 params := [.v (.pair .int (.slice (.slice .int))), .v (.slice .int)]
 results := [.v .bool]
 B := Bool
 run := fun a => impl_hasRow a.1 a.2
 out := fun b => ((), ())
 res := fun b => b
noncomputable def S_72L2 (n : Nat) : LoopSpec where
 sh := [(1, .v (.slice .int)), (8, .v (.slice (.slice .int))), (9, .v .int), (10, .v .int)]
 ex := [(.exit 0, []), (.ret, [(4, .v .bool)])]
 run := impl_hasRow_L2 n
noncomputable def C_72 : Cx where
 tt := tblTT tt
 T := tblT [(86, E_71)]
 L := tblL [(2, S_72L2 fuel)]
 dep := fun i => 0
 n := 2
noncomputable def B_72L2 : Code := (Try.f122.body.bind (loopBody 2)).getD .skip
noncomputable def D_72 : Code := Try.f122.body.getD .skip
noncomputable def N_72 (_ : outs [.v (.pair .int (.slice (.slice .int))), .v (.slice .int)]) (r : dens [.v .bool]) : Bool := r
noncomputable def E_73 : Entry where
 params := [.v (.pair .int (.pair .int (.slice (.pair (.slice .int) (.pair .int (.slice (.slice .int))))))), .v (.slice .int)]
 results := [.v .int]
 B := Int
 run := fun a => impl_unsatisfied a.1 a.2
 out := fun b => ((), ())
 res := fun b => b
noncomputable def S_73L2 (n : Nat) : LoopSpec where
 sh := [(1, .v (.slice .int)), (8, .v (.slice (.pair (.slice .int) (.pair .int (.slice (.slice .int)))))), (9, .v .int), (10, .v .int)]
 ex := [(.exit 0, []), (.ret, [(4, .v .int)])]
 run := impl_unsatisfied_L2 n
noncomputable def C_73 : Cx where
 tt := tblTT tt
 T := tblT [(61, E_38), (122, E_72)]
 L := tblL [(2, S_73L2 fuel)]
 dep := fun i => 0
 n := 2
noncomputable def B_73L2 : Code := (Try.f82.body.bind (loopBody 2)).getD .skip
noncomputable def D_73 : Code := Try.f82.body.getD .skip
noncomputable def N_73 (_ : outs [.v (.pair .int (.pair .int (.slice (.pair (.slice .int) (.pair .int (.slice (.slice .int))))))), .v (.slice .int)]) (r : dens [.v .int]) : Int := r
noncomputable def E_74 : Entry where
 params := [.v (.pair .int (.pair .int (.slice (.pair (.slice .int) (.pair .int (.slice (.slice .int))))))), .v (.slice .int)]
 results := [.v .int, .v .bool]
 B := Int × Bool
 run := fun a => impl_FirstUnsatisfied a.1 a.2
 out := fun b => ((), ())
 res := fun b => (b.1, b.2)
noncomputable def C_74 : Cx where
 tt := tblTT tt
 T := tblT [(57, E_31), (81, E_70), (82, E_73)]
 L := tblL []
 dep := fun i => 0
 n := 2
noncomputable def D_74 : Code := Try.f27.body.getD .skip
noncomputable def N_74 (_ : outs [.v (.pair .int (.pair .int (.slice (.pair (.slice .int) (.pair .int (.slice (.slice .int))))))), .v (.slice .int)]) (r : dens [.v .int, .v .bool]) : Int × Bool := (r.1, r.2)
noncomputable def E_75 : Entry where
 params := [.v (.pair .int (.pair .int (.slice (.pair (.slice .int) (.pair .int (.slice (.slice .int))))))), .v (.slice .int)]
 results := [.v .bool]
 B := Bool
 run := fun a => spec_l19Assigned a.1 a.2
 out := fun b => ((), ())
 res := fun b => b
noncomputable def C_75 : Cx where
 tt := tblTT tt
 T := tblT [(51, E_46)]
 L := tblL []
 dep := fun i => 0
 n := 2
noncomputable def D_75 : Code := Try.f83.body.getD .skip
noncomputable def N_75 (_ : outs [.v (.pair .int (.pair .int (.slice (.pair (.slice .int) (.pair .int (.slice (.slice .int))))))), .v (.slice .int)]) (r : dens [.v .bool]) : Bool := r
noncomputable def E_76 : Entry where
 params := [.v (.pair .int (.pair .int (.slice (.pair (.slice .int) (.pair .int (.slice (.slice .int))))))), .v (.slice .int)]
 results := [.v .int]
 B := Int
 run := fun a => spec_l19Fault a.1 a.2
 out := fun b => ((), ())
 res := fun b => b
noncomputable def S_76L2 (n : Nat) : LoopSpec where
 sh := [(1, .v (.slice .int)), (2, .bx (.v (.pair .int (.pair .int (.slice (.pair (.slice .int) (.pair .int (.slice (.slice .int))))))))), (5, .v .int)]
 ex := [(.exit 0, []), (.ret, [(4, .v .int)])]
 run := spec_l19Fault_L2 n
noncomputable def C_76 : Cx where
 tt := tblTT tt
 T := tblT [(123, E_54)]
 L := tblL [(2, S_76L2 fuel)]
 dep := fun i => 0
 n := 2
noncomputable def B_76L2 : Code := (Try.f84.body.bind (loopBody 2)).getD .skip
noncomputable def D_76 : Code := Try.f84.body.getD .skip
noncomputable def N_76 (_ : outs [.v (.pair .int (.pair .int (.slice (.pair (.slice .int) (.pair .int (.slice (.slice .int))))))), .v (.slice .int)]) (r : dens [.v .int]) : Int := r
noncomputable def E_77 : Entry where
 params := [.v (.pair .int (.pair .int (.slice (.pair (.slice .int) (.pair .int (.slice (.slice .int))))))), .v (.slice .int)]
 results := [.v .int, .v .bool]
 B := Int × Bool
 run := fun a => spec_FirstUnsatisfied a.1 a.2
 out := fun b => ((), ())
 res := fun b => (b.1, b.2)
noncomputable def C_77 : Cx where
 tt := tblTT tt
 T := tblT [(49, E_50), (83, E_75), (84, E_76)]
 L := tblL []
 dep := fun i => 0
 n := 2
noncomputable def D_77 : Code := Try.f28.body.getD .skip
noncomputable def N_77 (_ : outs [.v (.pair .int (.pair .int (.slice (.pair (.slice .int) (.pair .int (.slice (.slice .int))))))), .v (.slice .int)]) (r : dens [.v .int, .v .bool]) : Int × Bool := (r.1, r.2)
noncomputable def E_78 : Entry where
 params := [.v (.pair .int (.pair .int (.slice (.pair (.slice .int) (.pair .int (.slice (.slice .int))))))), .v (.slice .int)]
 results := [.v .bool, .v .bool]
 B := Bool × Bool
 run := fun a => impl_IsSolution a.1 a.2
 out := fun b => ((), ())
 res := fun b => (b.1, b.2)
noncomputable def C_78 : Cx where
 tt := tblTT tt
 T := tblT [(57, E_31), (81, E_70), (82, E_73)]
 L := tblL []
 dep := fun i => 0
 n := 2
noncomputable def D_78 : Code := Try.f29.body.getD .skip
noncomputable def N_78 (_ : outs [.v (.pair .int (.pair .int (.slice (.pair (.slice .int) (.pair .int (.slice (.slice .int))))))), .v (.slice .int)]) (r : dens [.v .bool, .v .bool]) : Bool × Bool := (r.1, r.2)
noncomputable def E_79 : Entry where
 params := [.v (.pair .int (.pair .int (.slice (.pair (.slice .int) (.pair .int (.slice (.slice .int))))))), .v (.slice .int)]
 results := [.v .bool, .v .bool]
 B := Bool × Bool
 run := fun a => spec_IsSolution a.1 a.2
 out := fun b => ((), ())
 res := fun b => (b.1, b.2)
noncomputable def C_79 : Cx where
 tt := tblTT tt
 T := tblT [(49, E_50), (83, E_75), (84, E_76)]
 L := tblL []
 dep := fun i => 0
 n := 2
noncomputable def D_79 : Code := Try.f30.body.getD .skip
noncomputable def N_79 (_ : outs [.v (.pair .int (.pair .int (.slice (.pair (.slice .int) (.pair .int (.slice (.slice .int))))))), .v (.slice .int)]) (r : dens [.v .bool, .v .bool]) : Bool × Bool := (r.1, r.2)
noncomputable def E_80 : Entry where
 params := [.v .int]
 results := [.v .bool]
 B := Bool
 run := fun a => impl_isSize a
 out := fun b => ()
 res := fun b => b
noncomputable def C_80 : Cx where
 tt := tblTT tt
 T := tblT []
 L := tblL []
 dep := fun i => 0
 n := 1
noncomputable def D_80 : Code := Try.f124.body.getD .skip
noncomputable def N_80 (_ : outs [.v .int]) (r : dens [.v .bool]) : Bool := r
noncomputable def E_81 : Entry where
 params := [.v .int, .v (.pair .int (.slice (.slice .int)))]
 results := [.v .bool]
 B := Bool
 run := fun a => impl_hasRelation a.1 a.2
 out := fun b => ((), ())
 res := fun b => b
noncomputable def C_81 : Cx where
 tt := tblTT tt
 T := tblT [(124, E_80), (125, E_29)]
 L := tblL []
 dep := fun i => 0
 n := 2
noncomputable def D_81 : Code := Try.f85.body.getD .skip
noncomputable def N_81 (_ : outs [.v .int, .v (.pair .int (.slice (.slice .int)))]) (r : dens [.v .bool]) : Bool := r
noncomputable def E_82 : Entry where
 params := [.v .int, .v (.pair .int (.slice (.slice .int))), .v (.slice .int)]
 results := [.v .bool, .v .bool]
 B := Bool × Bool
 run := fun a => impl_HasTuple a.1 a.2.1 a.2.2
 out := fun b => ((), (), ())
 res := fun b => (b.1, b.2)
noncomputable def S_82L4 (n : Nat) : LoopSpec where
 sh := [(2, .v (.slice .int)), (15, .v (.slice (.slice .int))), (16, .v .int), (17, .v .int)]
 ex := [(.exit 0, []), (.ret, [(6, .v .bool), (7, .v .bool)])]
 run := impl_HasTuple_L4 n
noncomputable def C_82 : Cx where
 tt := tblTT tt
 T := tblT [(85, E_81), (86, E_71)]
 L := tblL [(4, S_82L4 fuel)]
 dep := fun i => 0
 n := 3
noncomputable def B_82L4 : Code := (Try.f31.body.bind (loopBody 4)).getD .skip
noncomputable def D_82 : Code := Try.f31.body.getD .skip
noncomputable def N_82 (_ : outs [.v .int, .v (.pair .int (.slice (.slice .int))), .v (.slice .int)]) (r : dens [.v .bool, .v .bool]) : Bool × Bool := (r.1, r.2)
noncomputable def E_83 : Entry where
 params := [.v (.slice (.num .u8))]
 results := [.v .bool]
 B := Bool
 run := fun a => laws_FnConflicts a
 out := fun b => ()
 res := fun b => b
noncomputable def S_83L13 (n : Nat) : LoopSpec where
 sh := [(0, .v (.slice (.num .u8))), (3, .bx (.v (.pair .int (.pair .int (.slice (.pair (.slice .int) (.pair .int (.slice (.slice .int))))))))), (4, .v (.slice .int)), (10, .v .int)]
 ex := [(.exit 0, [(0, .v (.slice (.num .u8)))]), (.ret, [(2, .v .bool)])]
 run := laws_FnConflicts_L13 n
noncomputable def S_83L36 (n : Nat) : LoopSpec where
 sh := [(20, .bx (.v (.pair .int (.pair .int (.slice (.pair (.slice .int) (.pair .int (.slice (.slice .int))))))))), (21, .v (.slice .int)), (22, .v .int), (30, .mv .int 0), (31, .v .int)]
 ex := [(.exit 2, [(20, .bx (.v (.pair .int (.pair .int (.slice (.pair (.slice .int) (.pair .int (.slice (.slice .int))))))))), (22, .v .int), (30, .mv .int 0)])]
 run := laws_FnConflicts_L36 n
noncomputable def C_83 : Cx where
 tt := tblTT tt
 T := tblT [(18, E_1), (19, E_25), (20, E_45), (21, E_59), (22, E_60), (23, E_62), (24, E_63), (25, E_65), (26, E_69), (27, E_74), (28, E_77), (29, E_78), (30, E_79), (31, E_82)]
 L := tblL [(13, S_83L13 fuel), (36, S_83L36 fuel)]
 dep := fun i => 0
 n := 1
noncomputable def B_83L13 : Code := (Try.f4.body.bind (loopBody 13)).getD .skip
noncomputable def B_83L36 : Code := (Try.f4.body.bind (loopBody 36)).getD .skip
noncomputable def D_83 : Code := Try.f4.body.getD .skip
noncomputable def N_83 (_ : outs [.v (.slice (.num .u8))]) (r : dens [.v .bool]) : Bool := r
end T
