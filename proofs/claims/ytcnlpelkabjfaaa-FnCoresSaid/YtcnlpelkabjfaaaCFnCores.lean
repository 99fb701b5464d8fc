/- Contexts of the typed functions; no conditions. -/
import Derived.Test.YtcnlpelkabjfaaaV5
import Derived.Test.YtcnlpelkabjfaaaProg
import Derived.Test.YtcnlpelkabjfaaaPFnCores
import Derived.KernelRfl
set_option linter.all false
set_option linter.unusedVariables false
set_option maxRecDepth 10000
open Go Go.Va Go.Proofs
namespace T
noncomputable def tt : List (Nat × TI) := [
 (2, { ty := .int }),
 (3, { ty := .int }),
 (4, { ty := .bool }),
 (5, { ty := (.num .u8) }),
 (6, { ty := (.num .u8) }),
 (7, { ty := (.pair .int (.pair .int (.pair .bool (.num .u8)))), fields := [2, 3, 4, 6] }),
 (9, { ty := .str }),
 (24, { ty := (.slice .int), elem := 3 }),
 (26, { ty := (.pair .int (.slice .int)), fields := [3, 24] }),
 (29, { ty := (.slice (.pair .int (.slice (.slice .int)))), elem := 44 }),
 (36, { ty := (.slice (.num .u8)), elem := 5 }),
 (42, { ty := (.slice (.slice .int)), elem := 24 }),
 (44, { ty := (.pair .int (.slice (.slice .int))), fields := [3, 42] }),
 (52, { ty := (.slice (.pair .int (.slice .int))), elem := 26 }),
 (60, { ty := (.pair (.slice (.slice .int)) (.pair .int .int)), fields := [42, 3, 3] }),
 (69, { ty := (.op false) }),
 (79, { ty := (.op true) }),
 (88, { ty := (.op false) }),
 (92, { ty := (.slice (.slice (.pair (.slice .int) (.pair .int (.slice (.slice .int)))))), elem := 122 }),
 (99, { ty := (.num .u64) }),
 (101, { ty := (.pair (.slice (.num .u8)) (.pair .int (.num .u64))), fields := [36, 3, 99] }),
 (104, { ty := (.slice .bool), elem := 4 }),
 (106, { ty := (.slice (.slice (.pair (.slice .int) .smap))), elem := 113 }),
 (108, { ty := (.pair .int (.pair .int (.slice (.slice (.pair (.slice .int) .smap))))), fields := [3, 3, 106] }),
 (109, { ty := .smap }),
 (113, { ty := (.slice (.pair (.slice .int) .smap)), elem := 115 }),
 (115, { ty := (.pair (.slice .int) .smap), fields := [24, 109] }),
 (122, { ty := (.slice (.pair (.slice .int) (.pair .int (.slice (.slice .int))))), elem := 124 }),
 (124, { ty := (.pair (.slice .int) (.pair .int (.slice (.slice .int)))), fields := [24, 44] }),
 (130, { ty := (.num .u64) })]
theorem tabT : tabOk Try.prog tt = true := by kernel_rfl
theorem mixT : Try.prog.follows .mixedOrders = true := by kernel_rfl
noncomputable def E_1 : Entry where
 params := [.v (.slice (.num .u8))]
 results := [.v .bool]
 B := Bool
 run := fun a => laws_rBig a
 out := fun b => ()
 res := fun b => b
noncomputable def C_1 : Cx where
 tt := tblTT tt
 T := tblT []
 L := tblL []
 dep := fun i => 0
 n := 1
noncomputable def D_1 : Code := Try.f14.body.getD .skip
noncomputable def N_1 (_ : outs [.v (.slice (.num .u8))]) (r : dens [.v .bool]) : Bool := r
noncomputable def E_2 : Entry where
 params := [.bx (.v (.pair (.slice (.num .u8)) (.pair .int (.num .u64))))]
 results := [.v .int]
 B := ((List Int) × Int × Int) × Int
 run := fun a => spec_l1Cur_next a
 out := fun b => b.1
 res := fun b => b.2
noncomputable def C_2 : Cx where
 tt := tblTT tt
 T := tblT []
 L := tblL []
 dep := fun i => 0
 n := 1
noncomputable def D_2 : Code := Try.f121.body.getD .skip
noncomputable def N_2 (o : outs [.bx (.v (.pair (.slice (.num .u8)) (.pair .int (.num .u64))))]) (r : dens [.v .int]) : ((List Int) × Int × Int) × Int := (o, r)
noncomputable def E_3 : Entry where
 params := [.bx (.v (.pair (.slice (.num .u8)) (.pair .int (.num .u64)))), .v .int]
 results := [.v .int]
 B := ((List Int) × Int × Int) × Int
 run := fun a => spec_l1Cur_pick a.1 a.2
 out := fun b => (b.1, ())
 res := fun b => b.2
noncomputable def C_3 : Cx where
 tt := tblTT tt
 T := tblT [(121, E_2)]
 L := tblL []
 dep := fun i => 0
 n := 2
noncomputable def D_3 : Code := Try.f112.body.getD .skip
noncomputable def N_3 (o : outs [.bx (.v (.pair (.slice (.num .u8)) (.pair .int (.num .u64)))), .v .int]) (r : dens [.v .int]) : ((List Int) × Int × Int) × Int := (o.1, r)
noncomputable def E_4 : Entry where
 params := [.bx (.v (.pair (.slice (.num .u8)) (.pair .int (.num .u64)))), .v .int]
 results := [.v .bool]
 B := ((List Int) × Int × Int) × Bool
 run := fun a => spec_l1Cur_one a.1 a.2
 out := fun b => (b.1, ())
 res := fun b => b.2
noncomputable def C_4 : Cx where
 tt := tblTT tt
 T := tblT [(112, E_3)]
 L := tblL []
 dep := fun i => 0
 n := 2
noncomputable def D_4 : Code := Try.f110.body.getD .skip
noncomputable def N_4 (o : outs [.bx (.v (.pair (.slice (.num .u8)) (.pair .int (.num .u64)))), .v .int]) (r : dens [.v .bool]) : ((List Int) × Int × Int) × Bool := (o.1, r)
noncomputable def E_5 : Entry where
 params := [.v .int]
 results := [.v .int, .mv (.pair .int (.slice (.slice .int))) 0]
 B := Int × (List (Int × (List (List Int))))
 run := fun a => spec_l14Known a
 out := fun b => ()
 res := fun b => (b.1, b.2)
noncomputable def C_5 : Cx where
 tt := tblTT tt
 T := tblT []
 L := tblL []
 dep := fun i => 0
 n := 1
noncomputable def D_5 : Code := Try.f111.body.getD .skip
noncomputable def N_5 (_ : outs [.v .int]) (r : dens [.v .int, .mv (.pair .int (.slice (.slice .int))) 0]) : Int × (List (Int × (List (List Int)))) := (r.1, r.2)
noncomputable def E_6 : Entry where
 params := [.v (.slice .int)]
 results := [.mv .int 0]
 B := (List Int)
 run := fun a => spec_l1Own a
 out := fun b => ()
 res := fun b => b
noncomputable def C_6 : Cx where
 tt := tblTT tt
 T := tblT []
 L := tblL []
 dep := fun i => 0
 n := 1
noncomputable def D_6 : Code := Try.f61.body.getD .skip
noncomputable def N_6 (_ : outs [.v (.slice .int)]) (r : dens [.mv .int 0]) : (List Int) := r
noncomputable def E_7 : Entry where
 params := [.bx (.v (.pair (.slice (.num .u8)) (.pair .int (.num .u64)))), .v (.slice .int)]
 results := [.v .int]
 B := ((List Int) × Int × Int) × Int
 run := fun a => spec_l1Cur_among a.1 a.2
 out := fun b => (b.1, ())
 res := fun b => b.2
noncomputable def C_7 : Cx where
 tt := tblTT tt
 T := tblT [(112, E_3)]
 L := tblL []
 dep := fun i => 0
 n := 2
noncomputable def D_7 : Code := Try.f113.body.getD .skip
noncomputable def N_7 (o : outs [.bx (.v (.pair (.slice (.num .u8)) (.pair .int (.num .u64)))), .v (.slice .int)]) (r : dens [.v .int]) : ((List Int) × Int × Int) × Int := (o.1, r)
noncomputable def E_8 : Entry where
 params := [.v .int, .v .int, .v .int]
 results := [.v .bool]
 B := Bool
 run := fun a => spec_l1In a.1 a.2.1 a.2.2
 out := fun b => ((), (), ())
 res := fun b => b
noncomputable def C_8 : Cx where
 tt := tblTT tt
 T := tblT []
 L := tblL []
 dep := fun i => 0
 n := 3
noncomputable def D_8 : Code := Try.f72.body.getD .skip
noncomputable def N_8 (_ : outs [.v .int, .v .int, .v .int]) (r : dens [.v .bool]) : Bool := r
noncomputable def E_9 : Entry where
 params := [.v .int]
 results := [.v .bool]
 B := Bool
 run := fun a => spec_l6Size a
 out := fun b => ()
 res := fun b => b
noncomputable def C_9 : Cx where
 tt := tblTT tt
 T := tblT [(72, E_8)]
 L := tblL []
 dep := fun i => 0
 n := 1
noncomputable def D_9 : Code := Try.f122.body.getD .skip
noncomputable def N_9 (_ : outs [.v .int]) (r : dens [.v .bool]) : Bool := r
noncomputable def E_10 : Entry where
 params := [.v (.slice .int), .v (.slice .int)]
 results := [.v .bool]
 B := Bool
 run := fun a => spec_l3Less a.1 a.2
 out := fun b => ((), ())
 res := fun b => b
noncomputable def S_10L2 (n : Nat) : LoopSpec where
 sh := [(0, .v (.slice .int)), (1, .v (.slice .int)), (5, .v .int)]
 ex := [(.exit 0, []), (.ret, [(4, .v .bool)])]
 run := spec_l3Less_L2 n
noncomputable def C_10 : Cx where
 tt := tblTT tt
 T := tblT []
 L := tblL [(2, S_10L2 fuel)]
 dep := fun i => 0
 n := 2
noncomputable def B_10L2 : Code := (Try.f115.body.bind (loopBody 2)).getD .skip
noncomputable def D_10 : Code := Try.f115.body.getD .skip
noncomputable def N_10 (_ : outs [.v (.slice .int), .v (.slice .int)]) (r : dens [.v .bool]) : Bool := r
noncomputable def E_11 : Entry where
 params := [.v (.slice .int), .v (.slice .int)]
 results := [.v .bool]
 B := Bool
 run := fun a => spec_l1Same a.1 a.2
 out := fun b => ((), ())
 res := fun b => b
noncomputable def S_11L4 (n : Nat) : LoopSpec where
 sh := [(0, .v (.slice .int)), (1, .v (.slice .int)), (5, .v .int)]
 ex := [(.exit 0, []), (.ret, [(4, .v .bool)])]
 run := spec_l1Same_L4 n
noncomputable def C_11 : Cx where
 tt := tblTT tt
 T := tblT []
 L := tblL [(4, S_11L4 fuel)]
 dep := fun i => 0
 n := 2
noncomputable def B_11L4 : Code := (Try.f116.body.bind (loopBody 4)).getD .skip
noncomputable def D_11 : Code := Try.f116.body.getD .skip
noncomputable def N_11 (_ : outs [.v (.slice .int), .v (.slice .int)]) (r : dens [.v .bool]) : Bool := r
noncomputable def E_12 : Entry where
 params := [.v (.slice (.slice .int)), .v (.slice .int)]
 results := [.v .int, .v .bool]
 B := Int × Bool
 run := fun a => spec_l8Find a.1 a.2
 out := fun b => ((), ())
 res := fun b => (b.1, b.2)
noncomputable def S_12L2 (n : Nat) : LoopSpec where
 sh := [(0, .v (.slice (.slice .int))), (1, .v (.slice .int)), (6, .v .int), (7, .v .int)]
 ex := [(.exit 0, [(0, .v (.slice (.slice .int))), (1, .v (.slice .int)), (6, .v .int)])]
 run := spec_l8Find_L2 n
noncomputable def C_12 : Cx where
 tt := tblTT tt
 T := tblT [(115, E_10), (116, E_11)]
 L := tblL [(2, S_12L2 fuel)]
 dep := fun i => 0
 n := 2
noncomputable def B_12L2 : Code := (Try.f98.body.bind (loopBody 2)).getD .skip
noncomputable def D_12 : Code := Try.f98.body.getD .skip
noncomputable def N_12 (_ : outs [.v (.slice (.slice .int)), .v (.slice .int)]) (r : dens [.v .int, .v .bool]) : Int × Bool := (r.1, r.2)
noncomputable def E_13 : Entry where
 params := [.v (.slice (.slice .int)), .v (.slice .int)]
 results := [.v (.slice (.slice .int))]
 B := (List (List Int))
 run := fun a => spec_l8Put a.1 a.2
 out := fun b => ((), ())
 res := fun b => b
noncomputable def C_13 : Cx where
 tt := tblTT tt
 T := tblT [(98, E_12)]
 L := tblL []
 dep := fun i => 0
 n := 2
noncomputable def D_13 : Code := Try.f123.body.getD .skip
noncomputable def N_13 (_ : outs [.v (.slice (.slice .int)), .v (.slice .int)]) (r : dens [.v (.slice (.slice .int))]) : (List (List Int)) := r
noncomputable def E_14 : Entry where
 params := [.bx (.v (.pair (.slice (.num .u8)) (.pair .int (.num .u64)))), .v .int]
 results := [.mv .int 0]
 B := ((List Int) × Int × Int) × (List Int)
 run := fun a => spec_l1Cur_partition13 a.1 a.2
 out := fun b => (b.1, ())
 res := fun b => b.2
noncomputable def S_14L3 (n : Nat) : LoopSpec where
 sh := [(0, .bx (.v (.pair (.slice (.num .u8)) (.pair .int (.num .u64))))), (1, .v .int), (5, .mv .int 0), (6, .v .int)]
 ex := [(.exit 0, [(0, .bx (.v (.pair (.slice (.num .u8)) (.pair .int (.num .u64))))), (5, .mv .int 0)])]
 run := spec_l1Cur_partition13_L3 n
noncomputable def C_14 : Cx where
 tt := tblTT tt
 T := tblT [(112, E_3)]
 L := tblL [(3, S_14L3 fuel)]
 dep := fun i => 0
 n := 2
noncomputable def B_14L3 : Code := (Try.f125.body.bind (loopBody 3)).getD .skip
noncomputable def D_14 : Code := Try.f125.body.getD .skip
noncomputable def N_14 (o : outs [.bx (.v (.pair (.slice (.num .u8)) (.pair .int (.num .u64)))), .v .int]) (r : dens [.mv .int 0]) : ((List Int) × Int × Int) × (List Int) := (o.1, r)
noncomputable def E_15 : Entry where
 params := [.v (.slice .int)]
 results := [.pr (.v .int) (.mv (.slice .int) 0)]
 B := (Int × (List (List Int)))
 run := fun a => spec_l13OfPartition a
 out := fun b => ()
 res := fun b => b
noncomputable def S_15L6 (n : Nat) : LoopSpec where
 sh := [(0, .v (.slice .int)), (2, .bx (.pr (.v .int) (.mv (.slice .int) 0))), (3, .bx (.pr (.v .int) (.mv (.slice .int) 0))), (4, .v .int), (5, .v .int)]
 ex := [(.exit 2, [(0, .v (.slice .int)), (2, .bx (.pr (.v .int) (.mv (.slice .int) 0))), (3, .bx (.pr (.v .int) (.mv (.slice .int) 0))), (4, .v .int)])]
 run := spec_l13OfPartition_L6 n
noncomputable def S_15L3 (n : Nat) : LoopSpec where
 sh := [(0, .v (.slice .int)), (2, .bx (.pr (.v .int) (.mv (.slice .int) 0))), (3, .bx (.pr (.v .int) (.mv (.slice .int) 0))), (4, .v .int)]
 ex := [(.exit 0, [(2, .bx (.pr (.v .int) (.mv (.slice .int) 0))), (3, .bx (.pr (.v .int) (.mv (.slice .int) 0)))])]
 run := spec_l13OfPartition_L3 n
noncomputable def C_15 : Cx where
 tt := tblTT tt
 T := tblT []
 L := tblL [(6, S_15L6 fuel), (3, S_15L3 fuel)]
 dep := fun i => 0
 n := 1
noncomputable def B_15L6 : Code := (Try.f124.body.bind (loopBody 6)).getD .skip
noncomputable def B_15L3 : Code := (Try.f124.body.bind (loopBody 3)).getD .skip
noncomputable def D_15 : Code := Try.f124.body.getD .skip
noncomputable def N_15 (_ : outs [.v (.slice .int)]) (r : dens [.pr (.v .int) (.mv (.slice .int) 0)]) : (Int × (List (List Int))) := r
noncomputable def E_16 : Entry where
 params := [.v .int, .v .int]
 results := [.v .int]
 B := Int
 run := fun a => spec_l2Pow a.1 a.2
 out := fun b => ((), ())
 res := fun b => b
noncomputable def S_16L2 (n : Nat) : LoopSpec where
 sh := [(0, .v .int), (1, .v .int), (5, .v .int)]
 ex := [(.exit 0, [(5, .v .int)])]
 run := spec_l2Pow_L2 n
noncomputable def C_16 : Cx where
 tt := tblTT tt
 T := tblT []
 L := tblL [(2, S_16L2 fuel)]
 dep := fun i => 0
 n := 2
noncomputable def B_16L2 : Code := (Try.f76.body.bind (loopBody 2)).getD .skip
noncomputable def D_16 : Code := Try.f76.body.getD .skip
noncomputable def N_16 (_ : outs [.v .int, .v .int]) (r : dens [.v .int]) : Int := r
noncomputable def E_17 : Entry where
 params := [.v .int, .v .int, .v .int]
 results := [.mv .int 0]
 B := (List Int)
 run := fun a => spec_l2Args a.1 a.2.1 a.2.2
 out := fun b => ((), (), ())
 res := fun b => b
noncomputable def S_17L3 (n : Nat) : LoopSpec where
 sh := [(0, .v .int), (2, .v .int), (7, .mv .int 0), (8, .v .int)]
 ex := [(.exit 0, [(7, .mv .int 0)])]
 run := spec_l2Args_L3 n
noncomputable def C_17 : Cx where
 tt := tblTT tt
 T := tblT []
 L := tblL [(3, S_17L3 fuel)]
 dep := fun i => 0
 n := 3
noncomputable def B_17L3 : Code := (Try.f103.body.bind (loopBody 3)).getD .skip
noncomputable def D_17 : Code := Try.f103.body.getD .skip
noncomputable def N_17 (_ : outs [.v .int, .v .int, .v .int]) (r : dens [.mv .int 0]) : (List Int) := r
noncomputable def E_18 : Entry where
 params := [.v .int, .v .int]
 results := [.pr (.v .int) (.mv (.slice .int) 0)]
 B := (Int × (List (List Int)))
 run := fun a => spec_l13Full a.1 a.2
 out := fun b => ((), ())
 res := fun b => b
noncomputable def S_18L3 (n : Nat) : LoopSpec where
 sh := [(0, .v .int), (1, .v .int), (4, .bx (.pr (.v .int) (.mv (.slice .int) 0))), (5, .bx (.pr (.v .int) (.mv (.slice .int) 0))), (6, .v .int)]
 ex := [(.exit 0, [(4, .bx (.pr (.v .int) (.mv (.slice .int) 0))), (5, .bx (.pr (.v .int) (.mv (.slice .int) 0)))])]
 run := spec_l13Full_L3 n
noncomputable def C_18 : Cx where
 tt := tblTT tt
 T := tblT [(76, E_16), (103, E_17)]
 L := tblL [(3, S_18L3 fuel)]
 dep := fun i => 0
 n := 2
noncomputable def B_18L3 : Code := (Try.f126.body.bind (loopBody 3)).getD .skip
noncomputable def D_18 : Code := Try.f126.body.getD .skip
noncomputable def N_18 (_ : outs [.v .int, .v .int]) (r : dens [.pr (.v .int) (.mv (.slice .int) 0)]) : (Int × (List (List Int))) := r
noncomputable def E_19 : Entry where
 params := [.mv (.slice .int) 0, .v (.slice .int)]
 results := [.mv (.slice .int) 0]
 B := (List (List Int))
 run := fun a => spec_l8Put_b a.1 a.2
 out := fun b => ((), ())
 res := fun b => b
noncomputable def C_19 : Cx where
 tt := tblTT tt
 T := tblT [(98, E_12)]
 L := tblL []
 dep := fun i => 0
 n := 2
 pre := fun i => match i with
  | 4 => [0]
  | _ => []
noncomputable def D_19 : Code := Try.f123.body.getD .skip
noncomputable def N_19 (_ : outs [.mv (.slice .int) 0, .v (.slice .int)]) (r : dens [.mv (.slice .int) 0]) : (List (List Int)) := r
noncomputable def E_20 : Entry where
 params := [.bx (.v (.pair (.slice (.num .u8)) (.pair .int (.num .u64)))), .v .int, .v .int]
 results := [.v (.pair .int (.slice (.slice .int)))]
 B := ((List Int) × Int × Int) × (Int × (List (List Int)))
 run := fun a => spec_l1Cur_relation a.1 a.2.1 a.2.2
 out := fun b => (b.1, (), ())
 res := fun b => b.2
noncomputable def S_20L9 (n : Nat) : LoopSpec where
 sh := [(0, .bx (.v (.pair (.slice (.num .u8)) (.pair .int (.num .u64))))), (1, .v .int), (2, .v .int), (6, .bx (.pr (.v .int) (.mv (.slice .int) 0))), (7, .bx (.pr (.v .int) (.mv (.slice .int) 0))), (8, .v .int), (9, .mv .int 0), (10, .v .int)]
 ex := [(.exit 2, [(0, .bx (.v (.pair (.slice (.num .u8)) (.pair .int (.num .u64))))), (1, .v .int), (2, .v .int), (6, .bx (.pr (.v .int) (.mv (.slice .int) 0))), (7, .bx (.pr (.v .int) (.mv (.slice .int) 0))), (8, .v .int), (9, .mv .int 0)])]
 run := spec_l1Cur_relation_L9 n
noncomputable def S_20L5 (n : Nat) : LoopSpec where
 sh := [(0, .bx (.v (.pair (.slice (.num .u8)) (.pair .int (.num .u64))))), (1, .v .int), (2, .v .int), (6, .bx (.pr (.v .int) (.mv (.slice .int) 0))), (7, .bx (.pr (.v .int) (.mv (.slice .int) 0))), (8, .v .int)]
 ex := [(.exit 0, [(0, .bx (.v (.pair (.slice (.num .u8)) (.pair .int (.num .u64))))), (1, .v .int), (2, .v .int), (6, .bx (.pr (.v .int) (.mv (.slice .int) 0))), (7, .bx (.pr (.v .int) (.mv (.slice .int) 0)))])]
 run := spec_l1Cur_relation_L5 n
noncomputable def C_20 : Cx where
 tt := tblTT tt
 T := tblT [(72, E_8), (110, E_4), (112, E_3), (113, E_7), (122, E_9), (123, E_19), (124, E_15), (125, E_14), (126, E_18)]
 L := tblL [(9, S_20L9 fuel), (5, S_20L5 fuel)]
 dep := fun i => 0
 n := 3
noncomputable def B_20L9 : Code := (Try.f114.body.bind (loopBody 9)).getD .skip
noncomputable def B_20L5 : Code := (Try.f114.body.bind (loopBody 5)).getD .skip
noncomputable def D_20 : Code := Try.f114.body.getD .skip
noncomputable def N_20 (o : outs [.bx (.v (.pair (.slice (.num .u8)) (.pair .int (.num .u64)))), .v .int, .v .int]) (r : dens [.v (.pair .int (.slice (.slice .int)))]) : ((List Int) × Int × Int) × (Int × (List (List Int))) := (o.1, r)
noncomputable def E_21 : Entry where
 params := [.bx (.v (.pair (.slice (.num .u8)) (.pair .int (.num .u64))))]
 results := [.v .int, .mv (.pair .int (.slice (.slice .int))) 0]
 B := ((List Int) × Int × Int) × Int × (List (Int × (List (List Int))))
 run := fun a => spec_l1Cur_template a
 out := fun b => b.1
 res := fun b => (b.2.1, b.2.2)
noncomputable def S_21L9 (n : Nat) : LoopSpec where
 sh := [(0, .bx (.v (.pair (.slice (.num .u8)) (.pair .int (.num .u64))))), (4, .v .int), (5, .mv (.pair .int (.slice (.slice .int))) 0), (6, .mv (.pair .int (.slice (.slice .int))) 0), (7, .v .int), (8, .bx (.pr (.v .int) (.mv (.slice .int) 0))), (9, .v .int)]
 ex := [(.exit 2, [(0, .bx (.v (.pair (.slice (.num .u8)) (.pair .int (.num .u64))))), (4, .v .int), (5, .mv (.pair .int (.slice (.slice .int))) 0), (6, .mv (.pair .int (.slice (.slice .int))) 0), (7, .v .int), (8, .bx (.pr (.v .int) (.mv (.slice .int) 0)))])]
 run := spec_l1Cur_template_L9 n
noncomputable def S_21L5 (n : Nat) : LoopSpec where
 sh := [(0, .bx (.v (.pair (.slice (.num .u8)) (.pair .int (.num .u64))))), (4, .v .int), (5, .mv (.pair .int (.slice (.slice .int))) 0), (6, .mv (.pair .int (.slice (.slice .int))) 0), (7, .v .int)]
 ex := [(.exit 0, [(0, .bx (.v (.pair (.slice (.num .u8)) (.pair .int (.num .u64))))), (4, .v .int), (6, .mv (.pair .int (.slice (.slice .int))) 0)])]
 run := spec_l1Cur_template_L5 n
noncomputable def S_21L17 (n : Nat) : LoopSpec where
 sh := [(0, .bx (.v (.pair (.slice (.num .u8)) (.pair .int (.num .u64))))), (10, .v .int), (11, .mv (.pair .int (.slice (.slice .int))) 0), (12, .v .int)]
 ex := [(.exit 4, [(0, .bx (.v (.pair (.slice (.num .u8)) (.pair .int (.num .u64))))), (10, .v .int), (11, .mv (.pair .int (.slice (.slice .int))) 0)])]
 run := spec_l1Cur_template_L17 n
noncomputable def C_21 : Cx where
 tt := tblTT tt
 T := tblT [(61, E_6), (110, E_4), (111, E_5), (112, E_3), (113, E_7), (114, E_20)]
 L := tblL [(9, S_21L9 fuel), (5, S_21L5 fuel), (17, S_21L17 fuel)]
 dep := fun i => 0
 n := 1
noncomputable def B_21L9 : Code := (Try.f88.body.bind (loopBody 9)).getD .skip
noncomputable def B_21L5 : Code := (Try.f88.body.bind (loopBody 5)).getD .skip
noncomputable def B_21L17 : Code := (Try.f88.body.bind (loopBody 17)).getD .skip
noncomputable def D_21 : Code := Try.f88.body.getD .skip
noncomputable def N_21 (o : outs [.bx (.v (.pair (.slice (.num .u8)) (.pair .int (.num .u64))))]) (r : dens [.v .int, .mv (.pair .int (.slice (.slice .int))) 0]) : ((List Int) × Int × Int) × Int × (List (Int × (List (List Int)))) := (o, r.1, r.2)
noncomputable def E_22 : Entry where
 params := [.v (.slice (.num .u8))]
 results := [.v .int, .mv (.pair .int (.slice (.slice .int))) 0]
 B := Int × (List (Int × (List (List Int))))
 run := fun a => spec_DrawIsTemplate a
 out := fun b => ()
 res := fun b => (b.1, b.2)
noncomputable def C_22 : Cx where
 tt := tblTT tt
 T := tblT [(88, E_21)]
 L := tblL []
 dep := fun i => 0
 n := 1
noncomputable def D_22 : Code := Try.f48.body.getD .skip
noncomputable def N_22 (_ : outs [.v (.slice (.num .u8))]) (r : dens [.v .int, .mv (.pair .int (.slice (.slice .int))) 0]) : Int × (List (Int × (List (List Int)))) := (r.1, r.2)
noncomputable def E_23 : Entry where
 params := [.v (.slice (.num .u8))]
 results := [.v .int, .mv (.pair .int (.slice (.slice .int))) 0]
 B := Int × (List (Int × (List (List Int))))
 run := fun a => spec_DrawCoreTemplate a
 out := fun b => ()
 res := fun b => (b.1, b.2)
noncomputable def C_23 : Cx where
 tt := tblTT tt
 T := tblT [(48, E_22)]
 L := tblL []
 dep := fun i => 0
 n := 1
noncomputable def D_23 : Code := Try.f15.body.getD .skip
noncomputable def N_23 (_ : outs [.v (.slice (.num .u8))]) (r : dens [.v .int, .mv (.pair .int (.slice (.slice .int))) 0]) : Int × (List (Int × (List (List Int)))) := (r.1, r.2)
noncomputable def E_24 : Entry where
 params := [.v .int]
 results := [.v .bool]
 B := Bool
 run := fun a => impl_isTemplateSize a
 out := fun b => ()
 res := fun b => b
noncomputable def C_24 : Cx where
 tt := tblTT tt
 T := tblT []
 L := tblL []
 dep := fun i => 0
 n := 1
noncomputable def D_24 : Code := Try.f80.body.getD .skip
noncomputable def N_24 (_ : outs [.v .int]) (r : dens [.v .bool]) : Bool := r
noncomputable def E_25 : Entry where
 params := [.v (.slice .int), .v .int]
 results := [.v .bool]
 B := Bool
 run := fun a => impl_inSize a.1 a.2
 out := fun b => ((), ())
 res := fun b => b
noncomputable def S_25L2 (n : Nat) : LoopSpec where
 sh := [(1, .v .int), (7, .v (.slice .int)), (8, .v .int), (9, .v .int)]
 ex := [(.exit 0, []), (.ret, [(4, .v .bool)])]
 run := impl_inSize_L2 n
noncomputable def C_25 : Cx where
 tt := tblTT tt
 T := tblT []
 L := tblL [(2, S_25L2 fuel)]
 dep := fun i => 0
 n := 2
noncomputable def B_25L2 : Code := (Try.f51.body.bind (loopBody 2)).getD .skip
noncomputable def D_25 : Code := Try.f51.body.getD .skip
noncomputable def N_25 (_ : outs [.v (.slice .int), .v .int]) (r : dens [.v .bool]) : Bool := r
noncomputable def E_26 : Entry where
 params := [.v (.slice .int), .v (.slice .int)]
 results := [.v .int]
 B := Int
 run := fun a => impl_compareLists a.1 a.2
 out := fun b => ((), ())
 res := fun b => b
noncomputable def S_26L2 (n : Nat) : LoopSpec where
 sh := [(0, .v (.slice .int)), (1, .v (.slice .int)), (5, .v .int)]
 ex := [(.exit 0, [(0, .v (.slice .int)), (1, .v (.slice .int))]), (.ret, [(4, .v .int)])]
 run := impl_compareLists_L2 n
noncomputable def C_26 : Cx where
 tt := tblTT tt
 T := tblT []
 L := tblL [(2, S_26L2 fuel)]
 dep := fun i => 0
 n := 2
noncomputable def B_26L2 : Code := (Try.f119.body.bind (loopBody 2)).getD .skip
noncomputable def D_26 : Code := Try.f119.body.getD .skip
noncomputable def N_26 (_ : outs [.v (.slice .int), .v (.slice .int)]) (r : dens [.v .int]) : Int := r
noncomputable def E_27 : Entry where
 params := [.v .int, .v (.pair .int (.slice (.slice .int)))]
 results := [.v .bool]
 B := Bool
 run := fun a => impl_isRelation a.1 a.2
 out := fun b => ((), ())
 res := fun b => b
noncomputable def S_27L4 (n : Nat) : LoopSpec where
 sh := [(0, .v .int), (3, .bx (.v (.pair .int (.slice (.slice .int))))), (16, .v (.slice (.slice .int))), (17, .v .int), (18, .v .int)]
 ex := [(.exit 0, []), (.ret, [(4, .v .bool)])]
 run := impl_isRelation_L4 n
noncomputable def C_27 : Cx where
 tt := tblTT tt
 T := tblT [(51, E_25), (119, E_26)]
 L := tblL [(4, S_27L4 fuel)]
 dep := fun i => 0
 n := 2
noncomputable def B_27L4 : Code := (Try.f107.body.bind (loopBody 4)).getD .skip
noncomputable def D_27 : Code := Try.f107.body.getD .skip
noncomputable def N_27 (_ : outs [.v .int, .v (.pair .int (.slice (.slice .int)))]) (r : dens [.v .bool]) : Bool := r
noncomputable def E_28 : Entry where
 params := [.v .int, .v (.slice (.pair .int (.slice (.slice .int))))]
 results := [.v .bool]
 B := Bool
 run := fun a => impl_isTemplate a.1 a.2
 out := fun b => ((), ())
 res := fun b => b
noncomputable def S_28L4 (n : Nat) : LoopSpec where
 sh := [(0, .v .int), (10, .v (.slice (.pair .int (.slice (.slice .int))))), (11, .v .int), (12, .v .int)]
 ex := [(.exit 0, []), (.ret, [(4, .v .bool)])]
 run := impl_isTemplate_L4 n
noncomputable def C_28 : Cx where
 tt := tblTT tt
 T := tblT [(107, E_27)]
 L := tblL [(4, S_28L4 fuel)]
 dep := fun i => 0
 n := 2
noncomputable def B_28L4 : Code := (Try.f81.body.bind (loopBody 4)).getD .skip
noncomputable def D_28 : Code := Try.f81.body.getD .skip
noncomputable def N_28 (_ : outs [.v .int, .v (.slice (.pair .int (.slice (.slice .int))))]) (r : dens [.v .bool]) : Bool := r
noncomputable def E_29 : Entry where
 params := [.v .int, .v (.slice (.pair .int (.slice (.slice .int)))), .v .int]
 results := [.v .bool]
 B := Bool
 run := fun a => impl_canAsk a.1 a.2.1 a.2.2
 out := fun b => ((), (), ())
 res := fun b => b
noncomputable def S_29L4 (n : Nat) : LoopSpec where
 sh := [(2, .v .int), (18, .v (.slice (.pair .int (.slice (.slice .int))))), (19, .v .int), (20, .v .int)]
 ex := [(.exit 0, []), (.ret, [(6, .v .bool)])]
 run := impl_canAsk_L4 n
noncomputable def C_29 : Cx where
 tt := tblTT tt
 T := tblT [(80, E_24), (81, E_28)]
 L := tblL [(4, S_29L4 fuel)]
 dep := fun i => 0
 n := 3
noncomputable def B_29L4 : Code := (Try.f38.body.bind (loopBody 4)).getD .skip
noncomputable def D_29 : Code := Try.f38.body.getD .skip
noncomputable def N_29 (_ : outs [.v .int, .v (.slice (.pair .int (.slice (.slice .int)))), .v .int]) (r : dens [.v .bool]) : Bool := r
noncomputable def E_30 : Entry where
 params := [.v .int, .v .int]
 results := [.v .int]
 B := Int
 run := fun a => impl_power a.1 a.2
 out := fun b => ((), ())
 res := fun b => b
noncomputable def S_30L2 (n : Nat) : LoopSpec where
 sh := [(0, .v .int), (1, .v .int), (5, .v .int)]
 ex := [(.exit 0, [(5, .v .int)])]
 run := impl_power_L2 n
noncomputable def C_30 : Cx where
 tt := tblTT tt
 T := tblT []
 L := tblL [(2, S_30L2 fuel)]
 dep := fun i => 0
 n := 2
noncomputable def B_30L2 : Code := (Try.f83.body.bind (loopBody 2)).getD .skip
noncomputable def D_30 : Code := Try.f83.body.getD .skip
noncomputable def N_30 (_ : outs [.v .int, .v .int]) (r : dens [.v .int]) : Int := r
noncomputable def E_31 : Entry where
 params := [.v (.slice .int)]
 results := [.v .str]
 B := ByteArray
 run := fun a => impl_keyOf a
 out := fun b => ()
 res := fun b => b
noncomputable def S_31L3 (n : Nat) : LoopSpec where
 sh := [(3, .mv (.num .u8) 0), (10, .v (.slice .int)), (11, .v .int), (12, .v .int)]
 ex := [(.exit 0, [(3, .mv (.num .u8) 0)])]
 run := impl_keyOf_L3 n
noncomputable def C_31 : Cx where
 tt := tblTT tt
 T := tblT []
 L := tblL [(3, S_31L3 fuel)]
 dep := fun i => 0
 n := 1
noncomputable def B_31L3 : Code := (Try.f94.body.bind (loopBody 3)).getD .skip
noncomputable def D_31 : Code := Try.f94.body.getD .skip
noncomputable def N_31 (_ : outs [.v (.slice .int)]) (r : dens [.v .str]) : ByteArray := r
noncomputable def E_32 : Entry where
 params := [.v (.pair .int (.slice (.slice .int)))]
 results := [.v .smap]
 B := (List ByteArray)
 run := fun a => impl_tupleSet a
 out := fun b => ()
 res := fun b => b
noncomputable def S_32L3 (n : Nat) : LoopSpec where
 sh := [(3, .mp), (8, .v (.slice (.slice .int))), (9, .v .int), (10, .v .int)]
 ex := [(.exit 0, [(3, .mp)])]
 run := impl_tupleSet_L3 n
noncomputable def C_32 : Cx where
 tt := tblTT tt
 T := tblT [(94, E_31)]
 L := tblL [(3, S_32L3 fuel)]
 dep := fun i => 0
 n := 1
noncomputable def B_32L3 : Code := (Try.f92.body.bind (loopBody 3)).getD .skip
noncomputable def D_32 : Code := Try.f92.body.getD .skip
noncomputable def N_32 (_ : outs [.v (.pair .int (.slice (.slice .int)))]) (r : dens [.v .smap]) : (List ByteArray) := r
noncomputable def E_33 : Entry where
 params := [.v .int, .v .int, .v .int]
 results := [.mv .int 0]
 B := (List Int)
 run := fun a => impl_argsAt a.1 a.2.1 a.2.2
 out := fun b => ((), (), ())
 res := fun b => b
noncomputable def S_33L3 (n : Nat) : LoopSpec where
 sh := [(0, .v .int), (2, .v .int), (7, .mv .int 0), (8, .v .int)]
 ex := [(.exit 0, [(7, .mv .int 0)])]
 run := impl_argsAt_L3 n
noncomputable def C_33 : Cx where
 tt := tblTT tt
 T := tblT []
 L := tblL [(3, S_33L3 fuel)]
 dep := fun i => 0
 n := 3
noncomputable def B_33L3 : Code := (Try.f93.body.bind (loopBody 3)).getD .skip
noncomputable def D_33 : Code := Try.f93.body.getD .skip
noncomputable def N_33 (_ : outs [.v .int, .v .int, .v .int]) (r : dens [.mv .int 0]) : (List Int) := r
noncomputable def E_34 : Entry where
 params := [.v .int, .v (.slice (.pair .int (.slice (.slice .int)))), .v .int]
 results := [.v (.ptr (.pair .int (.pair .int (.slice (.slice (.pair (.slice .int) .smap))))))]
 B := (Bool × Int × Int × (List (List ((List Int) × (List ByteArray)))))
 run := fun a => impl_newPolySearch a.1 a.2.1 a.2.2
 out := fun b => ((), (), ())
 res := fun b => b
noncomputable def S_34L17 (n : Nat) : LoopSpec where
 sh := [(917564, .jk 1), (0, .v .int), (2, .v .int), (7, .bx (.pr (.v .int) (.pr (.v .int) (.mv (.slice (.pair (.slice .int) .smap)) 1)))), (9, .bx (.v (.pair .int (.slice (.slice .int))))), (10, .v .smap), (11, .mp), (12, .v .int), (13, .mv .int 0), (14, .mv .int 0), (15, .v .int), (16, .v .int), (28, .v (.slice (.pair .int (.slice (.slice .int))))), (29, .v .int), (30, .v .int), (56, .v .int), (57, .v .int), (61, .v .int), (62, .v .int)]
 ex := [(.exit 6, [(0, .v .int), (2, .v .int), (7, .bx (.pr (.v .int) (.pr (.v .int) (.mv (.slice (.pair (.slice .int) .smap)) 1)))), (9, .bx (.v (.pair .int (.slice (.slice .int))))), (10, .v .smap), (11, .mp), (12, .v .int), (13, .mv .int 0), (14, .mv .int 0), (15, .v .int), (16, .v .int), (28, .v (.slice (.pair .int (.slice (.slice .int))))), (29, .v .int), (30, .v .int), (56, .v .int), (57, .v .int)])]
 run := impl_newPolySearch_L17 n
noncomputable def S_34L14 (n : Nat) : LoopSpec where
 sh := [(0, .v .int), (2, .v .int), (7, .bx (.pr (.v .int) (.pr (.v .int) (.mv (.slice (.pair (.slice .int) .smap)) 1)))), (9, .bx (.v (.pair .int (.slice (.slice .int))))), (10, .v .smap), (11, .mp), (12, .v .int), (13, .mv .int 0), (14, .mv .int 0), (15, .v .int), (28, .v (.slice (.pair .int (.slice (.slice .int))))), (29, .v .int), (30, .v .int), (56, .v .int), (57, .v .int)]
 ex := [(.exit 4, [(0, .v .int), (2, .v .int), (7, .bx (.pr (.v .int) (.pr (.v .int) (.mv (.slice (.pair (.slice .int) .smap)) 1)))), (9, .bx (.v (.pair .int (.slice (.slice .int))))), (10, .v .smap), (11, .mp), (12, .v .int), (14, .mv .int 0), (15, .v .int), (28, .v (.slice (.pair .int (.slice (.slice .int))))), (29, .v .int), (30, .v .int)])]
 run := impl_newPolySearch_L14 n
noncomputable def S_34L8 (n : Nat) : LoopSpec where
 sh := [(0, .v .int), (2, .v .int), (7, .bx (.pr (.v .int) (.pr (.v .int) (.mv (.slice (.pair (.slice .int) .smap)) 1)))), (9, .bx (.v (.pair .int (.slice (.slice .int))))), (10, .v .smap), (11, .mp), (12, .v .int), (28, .v (.slice (.pair .int (.slice (.slice .int))))), (29, .v .int), (30, .v .int)]
 ex := [(.exit 2, [(0, .v .int), (2, .v .int), (7, .bx (.pr (.v .int) (.pr (.v .int) (.mv (.slice (.pair (.slice .int) .smap)) 1)))), (28, .v (.slice (.pair .int (.slice (.slice .int))))), (29, .v .int), (30, .v .int)])]
 run := impl_newPolySearch_L8 n
noncomputable def S_34L3 (n : Nat) : LoopSpec where
 sh := [(0, .v .int), (2, .v .int), (7, .bx (.pr (.v .int) (.pr (.v .int) (.mv (.slice (.pair (.slice .int) .smap)) 1)))), (28, .v (.slice (.pair .int (.slice (.slice .int))))), (29, .v .int), (30, .v .int)]
 ex := [(.exit 0, [(7, .bx (.pr (.v .int) (.pr (.v .int) (.mv (.slice (.pair (.slice .int) .smap)) 1))))])]
 run := impl_newPolySearch_L3 n
noncomputable def C_34 : Cx where
 tt := tblTT tt
 T := tblT [(83, E_30), (92, E_32), (93, E_33), (94, E_31)]
 L := tblL [(17, S_34L17 fuel), (14, S_34L14 fuel), (8, S_34L8 fuel), (3, S_34L3 fuel)]
 dep := fun i => match i with
  | 25 => 1
  | _ => 0
 n := 3
 fine := true
noncomputable def B_34L17 : Code := (Try.f57.body.bind (loopBody 17)).getD .skip
noncomputable def B_34L14 : Code := (Try.f57.body.bind (loopBody 14)).getD .skip
noncomputable def B_34L8 : Code := (Try.f57.body.bind (loopBody 8)).getD .skip
noncomputable def B_34L3 : Code := (Try.f57.body.bind (loopBody 3)).getD .skip
noncomputable def D_34 : Code := Try.f57.body.getD .skip
noncomputable def N_34 (_ : outs [.v .int, .v (.slice (.pair .int (.slice (.slice .int)))), .v .int]) (r : dens [.v (.ptr (.pair .int (.pair .int (.slice (.slice (.pair (.slice .int) .smap))))))]) : (Bool × Int × Int × (List (List ((List Int) × (List ByteArray))))) := r
noncomputable def E_35 : Entry where
 params := [.v .int]
 results := [.mv .int 0]
 B := (List Int)
 run := fun a => impl_freeTable a
 out := fun b => ()
 res := fun b => b
noncomputable def S_35L3 (n : Nat) : LoopSpec where
 sh := [(3, .mv .int 0), (8, .v .int), (9, .v .int)]
 ex := [(.exit 0, [(3, .mv .int 0)])]
 run := impl_freeTable_L3 n
noncomputable def C_35 : Cx where
 tt := tblTT tt
 T := tblT []
 L := tblL [(3, S_35L3 fuel)]
 dep := fun i => 0
 n := 1
noncomputable def B_35L3 : Code := (Try.f55.body.bind (loopBody 3)).getD .skip
noncomputable def D_35 : Code := Try.f55.body.getD .skip
noncomputable def N_35 (_ : outs [.v .int]) (r : dens [.mv .int 0]) : (List Int) := r
noncomputable def E_36 : Entry where
 params := [.v (.slice .int), .v .int]
 results := [.mv .bool 0]
 B := (List Bool)
 run := fun a => impl_marks a.1 a.2
 out := fun b => ((), ())
 res := fun b => b
noncomputable def S_36L3 (n : Nat) : LoopSpec where
 sh := [(5, .mv .bool 0), (10, .v (.slice .int)), (11, .v .int), (12, .v .int)]
 ex := [(.exit 0, [(5, .mv .bool 0)])]
 run := impl_marks_L3 n
noncomputable def C_36 : Cx where
 tt := tblTT tt
 T := tblT []
 L := tblL [(3, S_36L3 fuel)]
 dep := fun i => 0
 n := 2
noncomputable def B_36L3 : Code := (Try.f90.body.bind (loopBody 3)).getD .skip
noncomputable def D_36 : Code := Try.f90.body.getD .skip
noncomputable def N_36 (_ : outs [.v (.slice .int), .v .int]) (r : dens [.mv .bool 0]) : (List Bool) := r
noncomputable def E_37 : Entry where
 params := [.v (.slice .bool)]
 results := [.mv .int 0]
 B := (List Int)
 run := fun a => impl_marked a
 out := fun b => ()
 res := fun b => b
noncomputable def S_37L3 (n : Nat) : LoopSpec where
 sh := [(3, .mv .int 0), (7, .v (.slice .bool)), (8, .v .int), (9, .v .int)]
 ex := [(.exit 0, [(3, .mv .int 0)])]
 run := impl_marked_L3 n
noncomputable def C_37 : Cx where
 tt := tblTT tt
 T := tblT []
 L := tblL [(3, S_37L3 fuel)]
 dep := fun i => 0
 n := 1
noncomputable def B_37L3 : Code := (Try.f89.body.bind (loopBody 3)).getD .skip
noncomputable def D_37 : Code := Try.f89.body.getD .skip
noncomputable def N_37 (_ : outs [.v (.slice .bool)]) (r : dens [.mv .int 0]) : (List Int) := r
noncomputable def E_38 : Entry where
 params := [.v (.slice .int), .v .int]
 results := [.mv .int 0]
 B := (List Int)
 run := fun a => impl_imagesOf a.1 a.2
 out := fun b => ((), ())
 res := fun b => b
noncomputable def C_38 : Cx where
 tt := tblTT tt
 T := tblT [(89, E_37), (90, E_36)]
 L := tblL []
 dep := fun i => 0
 n := 2
noncomputable def D_38 : Code := Try.f49.body.getD .skip
noncomputable def N_38 (_ : outs [.v (.slice .int), .v .int]) (r : dens [.mv .int 0]) : (List Int) := r
noncomputable def E_39 : Entry where
 params := [.v (.slice .int)]
 results := [.mv .int 0]
 B := (List Int)
 run := fun a => impl_clone a
 out := fun b => ()
 res := fun b => b
noncomputable def C_39 : Cx where
 tt := tblTT tt
 T := tblT []
 L := tblL []
 dep := fun i => 0
 n := 1
noncomputable def D_39 : Code := Try.f60.body.getD .skip
noncomputable def N_39 (_ : outs [.v (.slice .int)]) (r : dens [.mv .int 0]) : (List Int) := r
noncomputable def E_40 : Entry where
 params := [.v (.slice .int), .bx (.v .int), .bx (.v .int), .bx (.pr (.v .int) (.mv .int 0))]
 results := [.v .bool]
 B := Int × Int × (Int × (List Int)) × Bool
 run := fun a => impl_CoreMap_c1 a.1 a.2.1 a.2.2.1 a.2.2.2
 out := fun b => ((), b.1, b.2.1, b.2.2.1)
 res := fun b => b.2.2.2
noncomputable def C_40 : Cx where
 tt := tblTT tt
 T := tblT [(49, E_38), (60, E_39)]
 L := tblL []
 dep := fun i => 0
 n := 4
noncomputable def D_40 : Code := Try.f59.body.getD .skip
noncomputable def N_40 (o : outs [.v (.slice .int), .bx (.v .int), .bx (.v .int), .bx (.pr (.v .int) (.mv .int 0))]) (r : dens [.v .bool]) : Int × Int × (Int × (List Int)) × Bool := (o.2.1, o.2.2.1, o.2.2.2, r)
noncomputable def E_41 : Entry where
 params := [.v (.slice .int), .v (.slice .int)]
 results := [.mv .int 0]
 B := (List Int)
 run := fun a => impl_compose a.1 a.2
 out := fun b => ((), ())
 res := fun b => b
noncomputable def S_41L3 (n : Nat) : LoopSpec where
 sh := [(1, .v (.slice .int)), (5, .mv .int 0), (11, .v (.slice .int)), (12, .v .int), (13, .v .int)]
 ex := [(.exit 0, [(5, .mv .int 0)])]
 run := impl_compose_L3 n
noncomputable def C_41 : Cx where
 tt := tblTT tt
 T := tblT []
 L := tblL [(3, S_41L3 fuel)]
 dep := fun i => 0
 n := 2
noncomputable def B_41L3 : Code := (Try.f50.body.bind (loopBody 3)).getD .skip
noncomputable def D_41 : Code := Try.f50.body.getD .skip
noncomputable def N_41 (_ : outs [.v (.slice .int), .v (.slice .int)]) (r : dens [.mv .int 0]) : (List Int) := r
noncomputable def E_42 : Entry where
 params := [.v (.ptr (.pair .int (.pair .int (.slice (.slice (.pair (.slice .int) .smap)))))), .v (.slice .int), .v .int]
 results := [.v .bool]
 B := Bool
 run := fun a => impl_polySearch_fits_p a.1 a.2.1 a.2.2
 out := fun b => ((), (), ())
 res := fun b => b
noncomputable def S_42L2 (n : Nat) : LoopSpec where
 sh := [(1, .v (.slice .int)), (15, .v (.slice (.pair (.slice .int) .smap))), (16, .v .int), (17, .v .int)]
 ex := [(.exit 0, []), (.ret, [(6, .v .bool)])]
 run := impl_polySearch_fits_p_L2 n
noncomputable def C_42 : Cx where
 tt := tblTT tt
 T := tblT [(50, E_41), (94, E_31)]
 L := tblL [(2, S_42L2 fuel)]
 dep := fun i => 0
 n := 3
noncomputable def B_42L2 : Code := (Try.f96.body.bind (loopBody 2)).getD .skip
noncomputable def D_42 : Code := Try.f96.body.getD .skip
noncomputable def N_42 (_ : outs [.v (.ptr (.pair .int (.pair .int (.slice (.slice (.pair (.slice .int) .smap)))))), .v (.slice .int), .v .int]) (r : dens [.v .bool]) : Bool := r
noncomputable def E_43_of (rec : (Int × (List Int) × (Int × (Int × (Int × (List Int)))) × (Bool × Int × Int × (List (List ((List Int) × (List ByteArray))))) × (List Int) × Unit) → Option ((List Int) × (Int × (Int × (Int × (List Int)))) × (Bool × Int × Int × (List (List ((List Int) × (List ByteArray))))) × (List Int) × Bool)) : Entry where
 params := [.v .int, .bx (.mv .int 0), .pr (.bx (.v .int)) (.pr (.bx (.v .int)) (.bx (.pr (.v .int) (.mv .int 0)))), .bx (.v (.ptr (.pair .int (.pair .int (.slice (.slice (.pair (.slice .int) .smap))))))), .bx (.v (.slice .int)), .jk 1]
 results := [.v .bool]
 cod := [(2, .kb 59), (5, .kn 95 1 5)]
 B := (List Int) × (Int × (Int × (Int × (List Int)))) × (Bool × Int × Int × (List (List ((List Int) × (List ByteArray))))) × (List Int) × Bool
 run := rec
 out := fun b => ((), b.1, b.2.1, b.2.2.1, b.2.2.2.1, ())
 res := fun b => b.2.2.2.2
noncomputable def E_43 (d : Nat) : Entry := E_43_of (impl_polySearch_each_c1_impl_CoreMap_c1 d)
noncomputable def S_43L4 (rec : (Int × (List Int) × (Int × (Int × (Int × (List Int)))) × (Bool × Int × Int × (List (List ((List Int) × (List ByteArray))))) × (List Int) × Unit) → Option ((List Int) × (Int × (Int × (Int × (List Int)))) × (Bool × Int × Int × (List (List ((List Int) × (List ByteArray))))) × (List Int) × Bool)) (n : Nat) : LoopSpec where
 sh := [(0, .v .int), (1, .bx (.mv .int 0)), (2, .pr (.bx (.v .int)) (.pr (.bx (.v .int)) (.bx (.pr (.v .int) (.mv .int 0))))), (3, .bx (.v (.ptr (.pair .int (.pair .int (.slice (.slice (.pair (.slice .int) .smap)))))))), (4, .bx (.v (.slice .int))), (5, .jk 1), (8, .v .int)]
 ex := [(.exit 0, [(1, .bx (.mv .int 0)), (2, .pr (.bx (.v .int)) (.pr (.bx (.v .int)) (.bx (.pr (.v .int) (.mv .int 0))))), (3, .bx (.v (.ptr (.pair .int (.pair .int (.slice (.slice (.pair (.slice .int) .smap)))))))), (4, .bx (.v (.slice .int))), (5, .jk 1)]), (.ret, [(1, .bx (.mv .int 0)), (2, .pr (.bx (.v .int)) (.pr (.bx (.v .int)) (.bx (.pr (.v .int) (.mv .int 0))))), (3, .bx (.v (.ptr (.pair .int (.pair .int (.slice (.slice (.pair (.slice .int) .smap)))))))), (4, .bx (.v (.slice .int))), (5, .jk 1), (7, .v .bool)])]
 run := impl_polySearch_each_c1_impl_CoreMap_c1_L4 rec n
noncomputable def C_43 (rec : (Int × (List Int) × (Int × (Int × (Int × (List Int)))) × (Bool × Int × Int × (List (List ((List Int) × (List ByteArray))))) × (List Int) × Unit) → Option ((List Int) × (Int × (Int × (Int × (List Int)))) × (Bool × Int × Int × (List (List ((List Int) × (List ByteArray))))) × (List Int) × Bool)) : Cx where
 tt := tblTT tt
 T := tblT [(59, E_40), (96, E_42), (3932255, E_43_of rec)]
 L := tblL [(4, S_43L4 rec fuel)]
 dep := fun i => 0
 n := 6
 cod := [(2, .kb 59), (5, .kn 95 1 5)]
noncomputable def B_43L4 : Code := (Try.f95.body.bind (loopBody 4)).getD .skip
noncomputable def D_43 : Code := Try.f95.body.getD .skip
noncomputable def N_43 (o : outs [.v .int, .bx (.mv .int 0), .pr (.bx (.v .int)) (.pr (.bx (.v .int)) (.bx (.pr (.v .int) (.mv .int 0)))), .bx (.v (.ptr (.pair .int (.pair .int (.slice (.slice (.pair (.slice .int) .smap))))))), .bx (.v (.slice .int)), .jk 1]) (r : dens [.v .bool]) : (List Int) × (Int × (Int × (Int × (List Int)))) × (Bool × Int × Int × (List (List ((List Int) × (List ByteArray))))) × (List Int) × Bool := (o.2.1, o.2.2.1, o.2.2.2.1, o.2.2.2.2.1, r)
noncomputable def E_44 : Entry where
 params := [.v (.ptr (.pair .int (.pair .int (.slice (.slice (.pair (.slice .int) .smap)))))), .v (.slice .int), .pr (.bx (.v .int)) (.pr (.bx (.v .int)) (.bx (.pr (.v .int) (.mv .int 0))))]
 results := []
 cod := [(2, .cl 59)]
 B := (Int × (Int × (Int × (List Int))))
 run := fun a => impl_polySearch_each_impl_CoreMap_c1 a.1 a.2.1 a.2.2
 out := fun b => ((), (), b)
 res := fun b => ()
noncomputable def C_44 : Cx where
 tt := tblTT tt
 T := tblT [(3932255, E_43 fuel)]
 L := tblL []
 dep := fun i => 0
 n := 3
 cod := [(2, .cl 59)]
noncomputable def D_44 : Code := Try.f58.body.getD .skip
noncomputable def N_44 (o : outs [.v (.ptr (.pair .int (.pair .int (.slice (.slice (.pair (.slice .int) .smap)))))), .v (.slice .int), .pr (.bx (.v .int)) (.pr (.bx (.v .int)) (.bx (.pr (.v .int) (.mv .int 0))))]) (_ : dens []) : (Int × (Int × (Int × (List Int)))) := o.2.2
noncomputable def E_45 : Entry where
 params := [.v .int, .v (.slice (.pair .int (.slice (.slice .int))))]
 results := [.pr (.v .int) (.mv .int 0), .v .bool]
 B := (Int × (List Int)) × Bool
 run := fun a => impl_CoreMap a.1 a.2
 out := fun b => ((), ())
 res := fun b => (b.1, b.2)
noncomputable def C_45 : Cx where
 tt := tblTT tt
 T := tblT [(38, E_29), (55, E_35), (57, E_34), (3932218, E_44)]
 L := tblL []
 dep := fun i => 0
 n := 2
noncomputable def D_45 : Code := Try.f21.body.getD .skip
noncomputable def N_45 (_ : outs [.v .int, .v (.slice (.pair .int (.slice (.slice .int))))]) (r : dens [.pr (.v .int) (.mv .int 0), .v .bool]) : (Int × (List Int)) × Bool := (r.1, r.2)
noncomputable def E_46 : Entry where
 params := [.v .int, .v (.slice (.pair .int (.slice (.slice .int))))]
 results := [.v .int, .mv (.pair .int (.slice (.slice .int))) 2, .v .bool]
 B := Int × (List (Int × (List (List Int)))) × Bool
 run := fun a => impl_CoreTemplate a.1 a.2
 out := fun b => ((), ())
 res := fun b => (b.1, b.2.1, b.2.2)
noncomputable def S_46L7 (n : Nat) : LoopSpec where
 sh := [(0, .v .int), (1, .v (.slice (.pair .int (.slice (.slice .int))))), (9, .mv .int 0), (10, .mv .int 0), (37, .v .int), (38, .v .int)]
 ex := [(.exit 0, [(0, .v .int), (1, .v (.slice (.pair .int (.slice (.slice .int))))), (9, .mv .int 0), (10, .mv .int 0)])]
 run := impl_CoreTemplate_L7 n
noncomputable def S_46L12 (n : Nat) : LoopSpec where
 sh := [(655405, .jk 1), (0, .v .int), (1, .v (.slice (.pair .int (.slice (.slice .int))))), (9, .mv .int 0), (10, .mv .int 0), (46, .v .int), (47, .v .int)]
 ex := [(.exit 2, [(0, .v .int), (1, .v (.slice (.pair .int (.slice (.slice .int))))), (9, .mv .int 0), (10, .mv .int 0)])]
 run := impl_CoreTemplate_L12 n
noncomputable def S_46L22 (n : Nat) : LoopSpec where
 sh := [(0, .v .int), (9, .mv .int 0), (10, .mv .int 0), (14, .mv (.pair .int (.slice (.slice .int))) 2), (17, .bx (.pr (.v .int) (.mv (.slice .int) 1))), (58, .v (.slice (.pair .int (.slice (.slice .int))))), (59, .v .int), (60, .v .int), (68, .v (.slice (.slice .int))), (69, .v .int), (70, .v .int)]
 ex := [(.exit 6, [(0, .v .int), (9, .mv .int 0), (10, .mv .int 0), (14, .mv (.pair .int (.slice (.slice .int))) 2), (17, .bx (.pr (.v .int) (.mv (.slice .int) 1))), (58, .v (.slice (.pair .int (.slice (.slice .int))))), (59, .v .int), (60, .v .int)])]
 run := impl_CoreTemplate_L22 n
noncomputable def S_46L18 (n : Nat) : LoopSpec where
 sh := [(0, .v .int), (9, .mv .int 0), (10, .mv .int 0), (14, .mv (.pair .int (.slice (.slice .int))) 2), (58, .v (.slice (.pair .int (.slice (.slice .int))))), (59, .v .int), (60, .v .int)]
 ex := [(.exit 4, [(9, .mv .int 0), (14, .mv (.pair .int (.slice (.slice .int))) 2)])]
 run := impl_CoreTemplate_L18 n
noncomputable def C_46 : Cx where
 tt := tblTT tt
 T := tblT [(21, E_45), (49, E_38), (50, E_41), (51, E_25)]
 L := tblL [(7, S_46L7 fuel), (12, S_46L12 fuel), (22, S_46L22 fuel), (18, S_46L18 fuel)]
 dep := fun i => match i with
  | 29 => 2
  | 57 => 2
  | 83 => 1
  | 84 => 1
  | 89 => 2
  | 90 => 2
  | _ => 0
 n := 2
noncomputable def B_46L7 : Code := (Try.f16.body.bind (loopBody 7)).getD .skip
noncomputable def B_46L12 : Code := (Try.f16.body.bind (loopBody 12)).getD .skip
noncomputable def B_46L22 : Code := (Try.f16.body.bind (loopBody 22)).getD .skip
noncomputable def B_46L18 : Code := (Try.f16.body.bind (loopBody 18)).getD .skip
noncomputable def D_46 : Code := Try.f16.body.getD .skip
noncomputable def N_46 (_ : outs [.v .int, .v (.slice (.pair .int (.slice (.slice .int))))]) (r : dens [.v .int, .mv (.pair .int (.slice (.slice .int))) 2, .v .bool]) : Int × (List (Int × (List (List Int)))) × Bool := (r.1, r.2.1, r.2.2)
noncomputable def E_47 : Entry where
 params := [.v .int]
 results := [.v .bool]
 B := Bool
 run := fun a => spec_l14Size a
 out := fun b => ()
 res := fun b => b
noncomputable def C_47 : Cx where
 tt := tblTT tt
 T := tblT [(72, E_8)]
 L := tblL []
 dep := fun i => 0
 n := 1
noncomputable def D_47 : Code := Try.f70.body.getD .skip
noncomputable def N_47 (_ : outs [.v .int]) (r : dens [.v .bool]) : Bool := r
noncomputable def E_48 : Entry where
 params := [.v .int, .v (.slice .int)]
 results := [.v .bool]
 B := Bool
 run := fun a => spec_l2Elements a.1 a.2
 out := fun b => ((), ())
 res := fun b => b
noncomputable def S_48L2 (n : Nat) : LoopSpec where
 sh := [(0, .v .int), (1, .v (.slice .int)), (5, .v .int)]
 ex := [(.exit 0, []), (.ret, [(4, .v .bool)])]
 run := spec_l2Elements_L2 n
noncomputable def C_48 : Cx where
 tt := tblTT tt
 T := tblT [(72, E_8)]
 L := tblL [(2, S_48L2 fuel)]
 dep := fun i => 0
 n := 2
noncomputable def B_48L2 : Code := (Try.f127.body.bind (loopBody 2)).getD .skip
noncomputable def D_48 : Code := Try.f127.body.getD .skip
noncomputable def N_48 (_ : outs [.v .int, .v (.slice .int)]) (r : dens [.v .bool]) : Bool := r
noncomputable def E_49 : Entry where
 params := [.v .int, .v .int, .v (.slice .int)]
 results := [.v .bool]
 B := Bool
 run := fun a => spec_l8Tuple a.1 a.2.1 a.2.2
 out := fun b => ((), (), ())
 res := fun b => b
noncomputable def C_49 : Cx where
 tt := tblTT tt
 T := tblT [(127, E_48)]
 L := tblL []
 dep := fun i => 0
 n := 3
noncomputable def D_49 : Code := Try.f117.body.getD .skip
noncomputable def N_49 (_ : outs [.v .int, .v .int, .v (.slice .int)]) (r : dens [.v .bool]) : Bool := r
noncomputable def E_50 : Entry where
 params := [.v .int, .v (.pair .int (.slice (.slice .int)))]
 results := [.v .bool]
 B := Bool
 run := fun a => spec_l13Good a.1 a.2
 out := fun b => ((), ())
 res := fun b => b
noncomputable def S_50L4 (n : Nat) : LoopSpec where
 sh := [(0, .v .int), (3, .bx (.v (.pair .int (.slice (.slice .int))))), (5, .v .int)]
 ex := [(.exit 0, []), (.ret, [(4, .v .bool)])]
 run := spec_l13Good_L4 n
noncomputable def C_50 : Cx where
 tt := tblTT tt
 T := tblT [(72, E_8), (76, E_16), (115, E_10), (117, E_49)]
 L := tblL [(4, S_50L4 fuel)]
 dep := fun i => 0
 n := 2
noncomputable def B_50L4 : Code := (Try.f101.body.bind (loopBody 4)).getD .skip
noncomputable def D_50 : Code := Try.f101.body.getD .skip
noncomputable def N_50 (_ : outs [.v .int, .v (.pair .int (.slice (.slice .int)))]) (r : dens [.v .bool]) : Bool := r
noncomputable def E_51 : Entry where
 params := [.v .int, .v (.slice (.pair .int (.slice (.slice .int))))]
 results := [.v .bool]
 B := Bool
 run := fun a => spec_l14Rels a.1 a.2
 out := fun b => ((), ())
 res := fun b => b
noncomputable def S_51L4 (n : Nat) : LoopSpec where
 sh := [(0, .v .int), (1, .v (.slice (.pair .int (.slice (.slice .int))))), (5, .v .int)]
 ex := [(.exit 0, []), (.ret, [(4, .v .bool)])]
 run := spec_l14Rels_L4 n
noncomputable def C_51 : Cx where
 tt := tblTT tt
 T := tblT [(101, E_50)]
 L := tblL [(4, S_51L4 fuel)]
 dep := fun i => 0
 n := 2
noncomputable def B_51L4 : Code := (Try.f71.body.bind (loopBody 4)).getD .skip
noncomputable def D_51 : Code := Try.f71.body.getD .skip
noncomputable def N_51 (_ : outs [.v .int, .v (.slice (.pair .int (.slice (.slice .int))))]) (r : dens [.v .bool]) : Bool := r
noncomputable def E_52 : Entry where
 params := [.v .int, .v (.slice (.pair .int (.slice (.slice .int)))), .v .int]
 results := [.v .bool]
 B := Bool
 run := fun a => spec_l14Takes a.1 a.2.1 a.2.2
 out := fun b => ((), (), ())
 res := fun b => b
noncomputable def S_52L4 (n : Nat) : LoopSpec where
 sh := [(1, .v (.slice (.pair .int (.slice (.slice .int))))), (2, .v .int), (7, .v .int)]
 ex := [(.exit 0, []), (.ret, [(6, .v .bool)])]
 run := spec_l14Takes_L4 n
noncomputable def C_52 : Cx where
 tt := tblTT tt
 T := tblT [(70, E_47), (71, E_51), (72, E_8)]
 L := tblL [(4, S_52L4 fuel)]
 dep := fun i => 0
 n := 3
noncomputable def B_52L4 : Code := (Try.f32.body.bind (loopBody 4)).getD .skip
noncomputable def D_52 : Code := Try.f32.body.getD .skip
noncomputable def N_52 (_ : outs [.v .int, .v (.slice (.pair .int (.slice (.slice .int)))), .v .int]) (r : dens [.v .bool]) : Bool := r
noncomputable def E_53 : Entry where
 params := [.v .int]
 results := [.mv .int 0]
 B := (List Int)
 run := fun a => spec_l14Free a
 out := fun b => ()
 res := fun b => b
noncomputable def S_53L3 (n : Nat) : LoopSpec where
 sh := [(0, .v .int), (3, .mv .int 0), (4, .v .int)]
 ex := [(.exit 0, [(3, .mv .int 0)])]
 run := spec_l14Free_L3 n
noncomputable def C_53 : Cx where
 tt := tblTT tt
 T := tblT []
 L := tblL [(3, S_53L3 fuel)]
 dep := fun i => 0
 n := 1
noncomputable def B_53L3 : Code := (Try.f75.body.bind (loopBody 3)).getD .skip
noncomputable def D_53 : Code := Try.f75.body.getD .skip
noncomputable def N_53 (_ : outs [.v .int]) (r : dens [.mv .int 0]) : (List Int) := r
noncomputable def E_54 : Entry where
 params := [.v .int, .v .int]
 results := [.v .int]
 B := Int
 run := fun a => spec_l1Most a.1 a.2
 out := fun b => ((), ())
 res := fun b => b
noncomputable def C_54 : Cx where
 tt := tblTT tt
 T := tblT []
 L := tblL []
 dep := fun i => 0
 n := 2
noncomputable def D_54 : Code := Try.f104.body.getD .skip
noncomputable def N_54 (_ : outs [.v .int, .v .int]) (r : dens [.v .int]) : Int := r
noncomputable def E_55 : Entry where
 params := [.v .int, .v (.slice (.pair .int (.slice (.slice .int)))), .v .int]
 results := [.mv (.slice (.pair (.slice .int) (.pair .int (.slice (.slice .int))))) 1]
 B := (List (List ((List Int) × Int × (List (List Int)))))
 run := fun a => spec_l14Needs a.1 a.2.1 a.2.2
 out := fun b => ((), (), ())
 res := fun b => b
noncomputable def S_55L3 (n : Nat) : LoopSpec where
 sh := [(0, .v .int), (1, .v (.slice (.pair .int (.slice (.slice .int))))), (2, .v .int), (7, .mv (.slice (.pair (.slice .int) (.pair .int (.slice (.slice .int))))) 1), (8, .v .int)]
 ex := [(.exit 0, [(0, .v .int), (1, .v (.slice (.pair .int (.slice (.slice .int))))), (2, .v .int), (7, .mv (.slice (.pair (.slice .int) (.pair .int (.slice (.slice .int))))) 1)])]
 run := spec_l14Needs_L3 n
noncomputable def S_55L21 (n : Nat) : LoopSpec where
 sh := [(0, .v .int), (1, .v (.slice (.pair .int (.slice (.slice .int))))), (2, .v .int), (7, .mv (.slice (.pair (.slice .int) (.pair .int (.slice (.slice .int))))) 1), (9, .v .int), (10, .v .int), (11, .v .int), (12, .mv .int 0), (13, .bx (.pr (.mv .int 0) (.v (.pair .int (.slice (.slice .int)))))), (14, .v .int), (15, .v .int), (16, .v .int), (17, .v .int)]
 ex := [(.exit 8, [(0, .v .int), (1, .v (.slice (.pair .int (.slice (.slice .int))))), (2, .v .int), (7, .mv (.slice (.pair (.slice .int) (.pair .int (.slice (.slice .int))))) 1), (9, .v .int), (10, .v .int), (11, .v .int), (12, .mv .int 0), (13, .bx (.pr (.mv .int 0) (.v (.pair .int (.slice (.slice .int)))))), (14, .v .int), (15, .v .int), (16, .v .int)])]
 run := spec_l14Needs_L21 n
noncomputable def S_55L17 (n : Nat) : LoopSpec where
 sh := [(0, .v .int), (1, .v (.slice (.pair .int (.slice (.slice .int))))), (2, .v .int), (7, .mv (.slice (.pair (.slice .int) (.pair .int (.slice (.slice .int))))) 1), (9, .v .int), (10, .v .int), (11, .v .int), (12, .mv .int 0), (13, .bx (.pr (.mv .int 0) (.v (.pair .int (.slice (.slice .int)))))), (14, .v .int), (15, .v .int)]
 ex := [(.exit 6, [(0, .v .int), (1, .v (.slice (.pair .int (.slice (.slice .int))))), (2, .v .int), (7, .mv (.slice (.pair (.slice .int) (.pair .int (.slice (.slice .int))))) 1), (9, .v .int), (10, .v .int), (11, .v .int), (13, .bx (.pr (.mv .int 0) (.v (.pair .int (.slice (.slice .int)))))), (14, .v .int)])]
 run := spec_l14Needs_L17 n
noncomputable def S_55L11 (n : Nat) : LoopSpec where
 sh := [(0, .v .int), (1, .v (.slice (.pair .int (.slice (.slice .int))))), (2, .v .int), (7, .mv (.slice (.pair (.slice .int) (.pair .int (.slice (.slice .int))))) 1), (9, .v .int), (10, .v .int), (11, .v .int)]
 ex := [(.exit 4, [(0, .v .int), (1, .v (.slice (.pair .int (.slice (.slice .int))))), (2, .v .int), (7, .mv (.slice (.pair (.slice .int) (.pair .int (.slice (.slice .int))))) 1), (9, .v .int)])]
 run := spec_l14Needs_L11 n
noncomputable def S_55L7 (n : Nat) : LoopSpec where
 sh := [(0, .v .int), (1, .v (.slice (.pair .int (.slice (.slice .int))))), (2, .v .int), (7, .mv (.slice (.pair (.slice .int) (.pair .int (.slice (.slice .int))))) 1), (9, .v .int)]
 ex := [(.exit 2, [(7, .mv (.slice (.pair (.slice .int) (.pair .int (.slice (.slice .int))))) 1)])]
 run := spec_l14Needs_L7 n
noncomputable def C_55 : Cx where
 tt := tblTT tt
 T := tblT [(76, E_16), (103, E_17), (104, E_54)]
 L := tblL [(3, S_55L3 fuel), (21, S_55L21 fuel), (17, S_55L17 fuel), (11, S_55L11 fuel), (7, S_55L7 fuel)]
 dep := fun i => match i with
  | 18 => 1
  | 28 => 1
  | 29 => 1
  | _ => 0
 n := 3
 fine := true
noncomputable def B_55L3 : Code := (Try.f74.body.bind (loopBody 3)).getD .skip
noncomputable def B_55L21 : Code := (Try.f74.body.bind (loopBody 21)).getD .skip
noncomputable def B_55L17 : Code := (Try.f74.body.bind (loopBody 17)).getD .skip
noncomputable def B_55L11 : Code := (Try.f74.body.bind (loopBody 11)).getD .skip
noncomputable def B_55L7 : Code := (Try.f74.body.bind (loopBody 7)).getD .skip
noncomputable def D_55 : Code := Try.f74.body.getD .skip
noncomputable def N_55 (_ : outs [.v .int, .v (.slice (.pair .int (.slice (.slice .int)))), .v .int]) (r : dens [.mv (.slice (.pair (.slice .int) (.pair .int (.slice (.slice .int))))) 1]) : (List (List ((List Int) × Int × (List (List Int))))) := r
noncomputable def E_56 : Entry where
 params := [.v (.pair .int (.slice (.slice .int))), .v (.slice .int)]
 results := [.v .bool]
 B := Bool
 run := fun a => spec_l13Has a.1 a.2
 out := fun b => ((), ())
 res := fun b => b
noncomputable def C_56 : Cx where
 tt := tblTT tt
 T := tblT [(98, E_12)]
 L := tblL []
 dep := fun i => 0
 n := 2
noncomputable def D_56 : Code := Try.f64.body.getD .skip
noncomputable def N_56 (_ : outs [.v (.pair .int (.slice (.slice .int))), .v (.slice .int)]) (r : dens [.v .bool]) : Bool := r
noncomputable def E_57 : Entry where
 params := [.v (.slice (.pair (.slice .int) (.pair .int (.slice (.slice .int))))), .v (.slice .int)]
 results := [.v .bool]
 B := Bool
 run := fun a => spec_l14Holds a.1 a.2
 out := fun b => ((), ())
 res := fun b => b
noncomputable def S_57L6 (n : Nat) : LoopSpec where
 sh := [(0, .v (.slice (.pair (.slice .int) (.pair .int (.slice (.slice .int)))))), (1, .v (.slice .int)), (5, .v .int), (6, .mv .int 0), (7, .v .int)]
 ex := [(.exit 2, [(0, .v (.slice (.pair (.slice .int) (.pair .int (.slice (.slice .int)))))), (1, .v (.slice .int)), (5, .v .int), (6, .mv .int 0)])]
 run := spec_l14Holds_L6 n
noncomputable def S_57L2 (n : Nat) : LoopSpec where
 sh := [(0, .v (.slice (.pair (.slice .int) (.pair .int (.slice (.slice .int)))))), (1, .v (.slice .int)), (5, .v .int)]
 ex := [(.exit 0, []), (.ret, [(4, .v .bool)])]
 run := spec_l14Holds_L2 n
noncomputable def C_57 : Cx where
 tt := tblTT tt
 T := tblT [(64, E_56)]
 L := tblL [(6, S_57L6 fuel), (2, S_57L2 fuel)]
 dep := fun i => 0
 n := 2
noncomputable def B_57L6 : Code := (Try.f102.body.bind (loopBody 6)).getD .skip
noncomputable def B_57L2 : Code := (Try.f102.body.bind (loopBody 2)).getD .skip
noncomputable def D_57 : Code := Try.f102.body.getD .skip
noncomputable def N_57 (_ : outs [.v (.slice (.pair (.slice .int) (.pair .int (.slice (.slice .int))))), .v (.slice .int)]) (r : dens [.v .bool]) : Bool := r
noncomputable def E_58_of (rec : (Int × (List (List ((List Int) × Int × (List (List Int))))) × (List Int) × (List Int) × ((List (List Int)) × (Int × Int))) → Option (((List (List Int)) × (Int × Int)))) : Entry where
 params := [.v .int, .v (.slice (.slice (.pair (.slice .int) (.pair .int (.slice (.slice .int)))))), .v (.slice .int), .v (.slice .int), .pr (.mv (.slice .int) 1) (.v (.pair .int .int))]
 results := [.pr (.mv (.slice .int) 1) (.v (.pair .int .int))]
 B := ((List (List Int)) × (Int × Int))
 run := rec
 out := fun b => ((), (), (), (), ((), ()))
 res := fun b => b
noncomputable def E_58 (d : Nat) : Entry := E_58_of (spec_l14Go d)
noncomputable def S_58L8 (rec : (Int × (List (List ((List Int) × Int × (List (List Int))))) × (List Int) × (List Int) × ((List (List Int)) × (Int × Int))) → Option (((List (List Int)) × (Int × Int)))) (n : Nat) : LoopSpec where
 sh := [(0, .v .int), (1, .v (.slice (.slice (.pair (.slice .int) (.pair .int (.slice (.slice .int))))))), (2, .v (.slice .int)), (3, .v (.slice .int)), (9, .bx (.pr (.mv (.slice .int) 1) (.v (.pair .int .int)))), (10, .bx (.pr (.mv (.slice .int) 1) (.v (.pair .int .int)))), (11, .v .int), (12, .v .int)]
 ex := [(.exit 0, [(9, .bx (.pr (.mv (.slice .int) 1) (.v (.pair .int .int)))), (10, .bx (.pr (.mv (.slice .int) 1) (.v (.pair .int .int))))]), (.ret, [(10, .bx (.pr (.mv (.slice .int) 1) (.v (.pair .int .int))))])]
 run := spec_l14Go_L8 rec n
noncomputable def C_58 (rec : (Int × (List (List ((List Int) × Int × (List (List Int))))) × (List Int) × (List Int) × ((List (List Int)) × (Int × Int))) → Option (((List (List Int)) × (Int × Int)))) : Cx where
 tt := tblTT tt
 T := tblT [(61, E_6), (73, E_58_of rec), (102, E_57)]
 L := tblL [(8, S_58L8 rec fuel)]
 dep := fun i => match i with
  | 34 => 1
  | 35 => 1
  | _ => 0
 n := 5
noncomputable def B_58L8 : Code := (Try.f73.body.bind (loopBody 8)).getD .skip
noncomputable def D_58 : Code := Try.f73.body.getD .skip
noncomputable def N_58 (_ : outs [.v .int, .v (.slice (.slice (.pair (.slice .int) (.pair .int (.slice (.slice .int)))))), .v (.slice .int), .v (.slice .int), .pr (.mv (.slice .int) 1) (.v (.pair .int .int))]) (r : dens [.pr (.mv (.slice .int) 1) (.v (.pair .int .int))]) : ((List (List Int)) × (Int × Int)) := r
noncomputable def E_59 : Entry where
 params := [.v .int, .v (.slice (.pair .int (.slice (.slice .int)))), .v .int, .v (.slice .int), .v .int]
 results := [.pr (.mv (.slice .int) 1) (.v (.pair .int .int))]
 B := ((List (List Int)) × (Int × Int))
 run := fun a => spec_l14All a.1 a.2.1 a.2.2.1 a.2.2.2.1 a.2.2.2.2
 out := fun b => ((), (), (), (), ())
 res := fun b => b
noncomputable def C_59 : Cx where
 tt := tblTT tt
 T := tblT [(73, E_58 fuel), (74, E_55)]
 L := tblL []
 dep := fun i => 0
 n := 5
noncomputable def D_59 : Code := Try.f33.body.getD .skip
noncomputable def N_59 (_ : outs [.v .int, .v (.slice (.pair .int (.slice (.slice .int)))), .v .int, .v (.slice .int), .v .int]) (r : dens [.pr (.mv (.slice .int) 1) (.v (.pair .int .int))]) : ((List (List Int)) × (Int × Int)) := r
noncomputable def E_60 : Entry where
 params := [.v (.slice .int), .v .int]
 results := [.v (.slice .int)]
 B := (List Int)
 run := fun a => spec_l1Put a.1 a.2
 out := fun b => ((), ())
 res := fun b => b
noncomputable def S_60L2 (n : Nat) : LoopSpec where
 sh := [(0, .v (.slice .int)), (1, .v .int), (5, .v .int)]
 ex := [(.exit 0, [(0, .v (.slice .int)), (1, .v .int), (5, .v .int)])]
 run := spec_l1Put_L2 n
noncomputable def C_60 : Cx where
 tt := tblTT tt
 T := tblT []
 L := tblL [(2, S_60L2 fuel)]
 dep := fun i => 0
 n := 2
noncomputable def B_60L2 : Code := (Try.f91.body.bind (loopBody 2)).getD .skip
noncomputable def D_60 : Code := Try.f91.body.getD .skip
noncomputable def N_60 (_ : outs [.v (.slice .int), .v .int]) (r : dens [.v (.slice .int)]) : (List Int) := r
noncomputable def E_61 : Entry where
 params := [.v (.slice .int)]
 results := [.v (.slice .int)]
 B := (List Int)
 run := fun a => spec_l14Values a
 out := fun b => ()
 res := fun b => b
noncomputable def S_61L3 (n : Nat) : LoopSpec where
 sh := [(0, .v (.slice .int)), (3, .v (.slice .int)), (4, .v .int)]
 ex := [(.exit 0, [(3, .v (.slice .int))])]
 run := spec_l14Values_L3 n
noncomputable def C_61 : Cx where
 tt := tblTT tt
 T := tblT [(91, E_60)]
 L := tblL [(3, S_61L3 fuel)]
 dep := fun i => 0
 n := 1
noncomputable def B_61L3 : Code := (Try.f52.body.bind (loopBody 3)).getD .skip
noncomputable def D_61 : Code := Try.f52.body.getD .skip
noncomputable def N_61 (_ : outs [.v (.slice .int)]) (r : dens [.v (.slice .int)]) : (List Int) := r
noncomputable def E_62 : Entry where
 params := [.v .int, .v (.slice (.pair .int (.slice (.slice .int))))]
 results := [.v (.slice .int)]
 B := (List Int)
 run := fun a => spec_l14Core a.1 a.2
 out := fun b => ((), ())
 res := fun b => b
noncomputable def S_62L4 (n : Nat) : LoopSpec where
 sh := [(6, .v (.slice .int)), (5, .v (.slice (.slice .int))), (7, .v .int)]
 ex := [(.exit 0, [(6, .v (.slice .int))])]
 run := spec_l14Core_L4 n
noncomputable def C_62 : Cx where
 tt := tblTT tt
 T := tblT [(33, E_59), (52, E_61), (75, E_53)]
 L := tblL [(4, S_62L4 fuel)]
 dep := fun i => 0
 n := 2
noncomputable def B_62L4 : Code := (Try.f53.body.bind (loopBody 4)).getD .skip
noncomputable def D_62 : Code := Try.f53.body.getD .skip
noncomputable def N_62 (_ : outs [.v .int, .v (.slice (.pair .int (.slice (.slice .int))))]) (r : dens [.v (.slice .int)]) : (List Int) := r
noncomputable def E_63 : Entry where
 params := [.v (.slice .int), .v .int]
 results := [.v .int]
 B := Int
 run := fun a => spec_l5Place a.1 a.2
 out := fun b => ((), ())
 res := fun b => b
noncomputable def S_63L2 (n : Nat) : LoopSpec where
 sh := [(0, .v (.slice .int)), (1, .v .int), (5, .v .int)]
 ex := [(.exit 0, []), (.ret, [(4, .v .int)])]
 run := spec_l5Place_L2 n
noncomputable def C_63 : Cx where
 tt := tblTT tt
 T := tblT []
 L := tblL [(2, S_63L2 fuel)]
 dep := fun i => 0
 n := 2
noncomputable def B_63L2 : Code := (Try.f54.body.bind (loopBody 2)).getD .skip
noncomputable def D_63 : Code := Try.f54.body.getD .skip
noncomputable def N_63 (_ : outs [.v (.slice .int), .v .int]) (r : dens [.v .int]) : Int := r
noncomputable def E_64 : Entry where
 params := [.v .int, .v (.slice (.pair .int (.slice (.slice .int))))]
 results := [.v .int, .mv (.pair .int (.slice (.slice .int))) 0, .v .bool]
 B := Int × (List (Int × (List (List Int)))) × Bool
 run := fun a => spec_CoreTemplate a.1 a.2
 out := fun b => ((), ())
 res := fun b => (b.1, b.2.1, b.2.2)
noncomputable def S_64L14 (n : Nat) : LoopSpec where
 sh := [(1, .v (.slice (.pair .int (.slice (.slice .int))))), (7, .mv (.pair .int (.slice (.slice .int))) 0), (8, .v (.slice .int)), (9, .v .int), (10, .bx (.pr (.v .int) (.mv (.slice .int) 0))), (11, .v .int), (12, .mv .int 0), (13, .v .int)]
 ex := [(.exit 4, [(1, .v (.slice (.pair .int (.slice (.slice .int))))), (7, .mv (.pair .int (.slice (.slice .int))) 0), (8, .v (.slice .int)), (9, .v .int), (10, .bx (.pr (.v .int) (.mv (.slice .int) 0))), (11, .v .int), (12, .mv .int 0)])]
 run := spec_CoreTemplate_L14 n
noncomputable def S_64L10 (n : Nat) : LoopSpec where
 sh := [(1, .v (.slice (.pair .int (.slice (.slice .int))))), (7, .mv (.pair .int (.slice (.slice .int))) 0), (8, .v (.slice .int)), (9, .v .int), (10, .bx (.pr (.v .int) (.mv (.slice .int) 0))), (11, .v .int)]
 ex := [(.exit 2, [(1, .v (.slice (.pair .int (.slice (.slice .int))))), (7, .mv (.pair .int (.slice (.slice .int))) 0), (8, .v (.slice .int)), (9, .v .int), (10, .bx (.pr (.v .int) (.mv (.slice .int) 0)))])]
 run := spec_CoreTemplate_L10 n
noncomputable def S_64L6 (n : Nat) : LoopSpec where
 sh := [(1, .v (.slice (.pair .int (.slice (.slice .int))))), (7, .mv (.pair .int (.slice (.slice .int))) 0), (8, .v (.slice .int)), (9, .v .int)]
 ex := [(.exit 0, [(7, .mv (.pair .int (.slice (.slice .int))) 0), (8, .v (.slice .int))])]
 run := spec_CoreTemplate_L6 n
noncomputable def C_64 : Cx where
 tt := tblTT tt
 T := tblT [(32, E_52), (52, E_61), (53, E_62), (54, E_63)]
 L := tblL [(14, S_64L14 fuel), (10, S_64L10 fuel), (6, S_64L6 fuel)]
 dep := fun i => 0
 n := 2
noncomputable def B_64L14 : Code := (Try.f17.body.bind (loopBody 14)).getD .skip
noncomputable def B_64L10 : Code := (Try.f17.body.bind (loopBody 10)).getD .skip
noncomputable def B_64L6 : Code := (Try.f17.body.bind (loopBody 6)).getD .skip
noncomputable def D_64 : Code := Try.f17.body.getD .skip
noncomputable def N_64 (_ : outs [.v .int, .v (.slice (.pair .int (.slice (.slice .int))))]) (r : dens [.v .int, .mv (.pair .int (.slice (.slice .int))) 0, .v .bool]) : Int × (List (Int × (List (List Int)))) × Bool := (r.1, r.2.1, r.2.2)
noncomputable def E_65 : Entry where
 params := [.v (.slice .int), .v (.slice .int)]
 results := [.v .bool]
 B := Bool
 run := fun a => laws_rInts a.1 a.2
 out := fun b => ((), ())
 res := fun b => b
noncomputable def S_65L4 (n : Nat) : LoopSpec where
 sh := [(0, .v (.slice .int)), (1, .v (.slice .int)), (5, .v .int)]
 ex := [(.exit 0, []), (.ret, [(4, .v .bool)])]
 run := laws_rInts_L4 n
noncomputable def C_65 : Cx where
 tt := tblTT tt
 T := tblT []
 L := tblL [(4, S_65L4 fuel)]
 dep := fun i => 0
 n := 2
noncomputable def B_65L4 : Code := (Try.f27.body.bind (loopBody 4)).getD .skip
noncomputable def D_65 : Code := Try.f27.body.getD .skip
noncomputable def N_65 (_ : outs [.v (.slice .int), .v (.slice .int)]) (r : dens [.v .bool]) : Bool := r
noncomputable def E_66 : Entry where
 params := [.v (.slice (.slice .int)), .v (.slice (.slice .int))]
 results := [.v .bool]
 B := Bool
 run := fun a => laws_rTable a.1 a.2
 out := fun b => ((), ())
 res := fun b => b
noncomputable def S_66L4 (n : Nat) : LoopSpec where
 sh := [(0, .v (.slice (.slice .int))), (1, .v (.slice (.slice .int))), (5, .v .int)]
 ex := [(.exit 0, []), (.ret, [(4, .v .bool)])]
 run := laws_rTable_L4 n
noncomputable def C_66 : Cx where
 tt := tblTT tt
 T := tblT [(27, E_65)]
 L := tblL [(4, S_66L4 fuel)]
 dep := fun i => 0
 n := 2
noncomputable def B_66L4 : Code := (Try.f18.body.bind (loopBody 4)).getD .skip
noncomputable def D_66 : Code := Try.f18.body.getD .skip
noncomputable def N_66 (_ : outs [.v (.slice (.slice .int)), .v (.slice (.slice .int))]) (r : dens [.v .bool]) : Bool := r
noncomputable def E_67 : Entry where
 params := [.v (.slice .int), .v (.ptr .int)]
 results := [.v .bool]
 B := Bool
 run := fun a => impl_IsCore_c1_p a.1 a.2
 out := fun b => ((), ())
 res := fun b => b
noncomputable def C_67 : Cx where
 tt := tblTT tt
 T := tblT [(49, E_38)]
 L := tblL []
 dep := fun i => 0
 n := 2
noncomputable def D_67 : Code := Try.f56.body.getD .skip
noncomputable def N_67 (_ : outs [.v (.slice .int), .v (.ptr .int)]) (r : dens [.v .bool]) : Bool := r
noncomputable def E_68 : Entry where
 params := [.v (.slice .int), .pz (.fc 56 (.ptr .int)), .bx (.v .int), .bx (.pr (.v .int) (.mv .int 0)), .bx (.v .bool)]
 results := [.v .bool]
 B := Int × (Int × (List Int)) × Bool × Bool
 run := fun a => impl_firstPoly_c1_impl_IsCore_c1 a.1 a.2.1 a.2.2.1 a.2.2.2.1 a.2.2.2.2
 out := fun b => ((), (), b.1, b.2.1, b.2.2.1)
 res := fun b => b.2.2.2
noncomputable def C_68 : Cx where
 tt := tblTT tt
 T := tblT [(56, E_67), (60, E_39)]
 L := tblL []
 dep := fun i => 0
 n := 5
noncomputable def D_68 : Code := Try.f82.body.getD .skip
noncomputable def N_68 (o : outs [.v (.slice .int), .pz (.fc 56 (.ptr .int)), .bx (.v .int), .bx (.pr (.v .int) (.mv .int 0)), .bx (.v .bool)]) (r : dens [.v .bool]) : Int × (Int × (List Int)) × Bool × Bool := (o.2.2.1, o.2.2.2.1, o.2.2.2.2, r)
noncomputable def E_69_of (rec : (Int × (List Int) × ((Bool × Int) × (Int × ((Int × (List Int)) × Bool))) × (Bool × Int × Int × (List (List ((List Int) × (List ByteArray))))) × (List Int) × Unit) → Option ((List Int) × (Unit × (Int × ((Int × (List Int)) × Bool))) × (Bool × Int × Int × (List (List ((List Int) × (List ByteArray))))) × (List Int) × Bool)) : Entry where
 params := [.v .int, .bx (.mv .int 0), .pr (.pz (.fc 56 (.ptr .int))) (.pr (.bx (.v .int)) (.pr (.bx (.pr (.v .int) (.mv .int 0))) (.bx (.v .bool)))), .bx (.v (.ptr (.pair .int (.pair .int (.slice (.slice (.pair (.slice .int) .smap))))))), .bx (.v (.slice .int)), .jk 1]
 results := [.v .bool]
 cod := [(2, .kb 82), (5, .kn 95 1 5)]
 B := (List Int) × (Unit × (Int × ((Int × (List Int)) × Bool))) × (Bool × Int × Int × (List (List ((List Int) × (List ByteArray))))) × (List Int) × Bool
 run := rec
 out := fun b => ((), b.1, b.2.1, b.2.2.1, b.2.2.2.1, ())
 res := fun b => b.2.2.2.2
noncomputable def E_69 (d : Nat) : Entry := E_69_of (impl_polySearch_each_c1_impl_firstPoly_c1_impl_IsCore_c1 d)
noncomputable def S_69L4 (rec : (Int × (List Int) × ((Bool × Int) × (Int × ((Int × (List Int)) × Bool))) × (Bool × Int × Int × (List (List ((List Int) × (List ByteArray))))) × (List Int) × Unit) → Option ((List Int) × (Unit × (Int × ((Int × (List Int)) × Bool))) × (Bool × Int × Int × (List (List ((List Int) × (List ByteArray))))) × (List Int) × Bool)) (n : Nat) : LoopSpec where
 sh := [(0, .v .int), (1, .bx (.mv .int 0)), (2, .pr (.pz (.fc 56 (.ptr .int))) (.pr (.bx (.v .int)) (.pr (.bx (.pr (.v .int) (.mv .int 0))) (.bx (.v .bool))))), (3, .bx (.v (.ptr (.pair .int (.pair .int (.slice (.slice (.pair (.slice .int) .smap)))))))), (4, .bx (.v (.slice .int))), (5, .jk 1), (8, .v .int)]
 ex := [(.exit 0, [(1, .bx (.mv .int 0)), (2, .pr (.pz (.fc 56 (.ptr .int))) (.pr (.bx (.v .int)) (.pr (.bx (.pr (.v .int) (.mv .int 0))) (.bx (.v .bool))))), (3, .bx (.v (.ptr (.pair .int (.pair .int (.slice (.slice (.pair (.slice .int) .smap)))))))), (4, .bx (.v (.slice .int))), (5, .jk 1)]), (.ret, [(1, .bx (.mv .int 0)), (2, .pr (.pz (.fc 56 (.ptr .int))) (.pr (.bx (.v .int)) (.pr (.bx (.pr (.v .int) (.mv .int 0))) (.bx (.v .bool))))), (3, .bx (.v (.ptr (.pair .int (.pair .int (.slice (.slice (.pair (.slice .int) .smap)))))))), (4, .bx (.v (.slice .int))), (5, .jk 1), (7, .v .bool)])]
 run := impl_polySearch_each_c1_impl_firstPoly_c1_impl_IsCore_c1_L4 rec n
noncomputable def C_69 (rec : (Int × (List Int) × ((Bool × Int) × (Int × ((Int × (List Int)) × Bool))) × (Bool × Int × Int × (List (List ((List Int) × (List ByteArray))))) × (List Int) × Unit) → Option ((List Int) × (Unit × (Int × ((Int × (List Int)) × Bool))) × (Bool × Int × Int × (List (List ((List Int) × (List ByteArray))))) × (List Int) × Bool)) : Cx where
 tt := tblTT tt
 T := tblT [(82, E_68), (96, E_42), (5439583, E_69_of rec)]
 L := tblL [(4, S_69L4 rec fuel)]
 dep := fun i => 0
 n := 6
 cod := [(2, .kb 82), (5, .kn 95 1 5)]
noncomputable def B_69L4 : Code := (Try.f95.body.bind (loopBody 4)).getD .skip
noncomputable def D_69 : Code := Try.f95.body.getD .skip
noncomputable def N_69 (o : outs [.v .int, .bx (.mv .int 0), .pr (.pz (.fc 56 (.ptr .int))) (.pr (.bx (.v .int)) (.pr (.bx (.pr (.v .int) (.mv .int 0))) (.bx (.v .bool)))), .bx (.v (.ptr (.pair .int (.pair .int (.slice (.slice (.pair (.slice .int) .smap))))))), .bx (.v (.slice .int)), .jk 1]) (r : dens [.v .bool]) : (List Int) × (Unit × (Int × ((Int × (List Int)) × Bool))) × (Bool × Int × Int × (List (List ((List Int) × (List ByteArray))))) × (List Int) × Bool := (o.2.1, o.2.2.1, o.2.2.2.1, o.2.2.2.2.1, r)
noncomputable def E_70 : Entry where
 params := [.v (.ptr (.pair .int (.pair .int (.slice (.slice (.pair (.slice .int) .smap)))))), .v (.slice .int), .pr (.pz (.fc 56 (.ptr .int))) (.pr (.bx (.v .int)) (.pr (.bx (.pr (.v .int) (.mv .int 0))) (.bx (.v .bool))))]
 results := []
 cod := [(2, .cl 82)]
 B := (Unit × (Int × ((Int × (List Int)) × Bool)))
 run := fun a => impl_polySearch_each_impl_firstPoly_c1_impl_IsCore_c1 a.1 a.2.1 a.2.2
 out := fun b => ((), (), b)
 res := fun b => ()
noncomputable def C_70 : Cx where
 tt := tblTT tt
 T := tblT [(5439583, E_69 fuel)]
 L := tblL []
 dep := fun i => 0
 n := 3
 cod := [(2, .cl 82)]
noncomputable def D_70 : Code := Try.f58.body.getD .skip
noncomputable def N_70 (o : outs [.v (.ptr (.pair .int (.pair .int (.slice (.slice (.pair (.slice .int) .smap)))))), .v (.slice .int), .pr (.pz (.fc 56 (.ptr .int))) (.pr (.bx (.v .int)) (.pr (.bx (.pr (.v .int) (.mv .int 0))) (.bx (.v .bool))))]) (_ : dens []) : (Unit × (Int × ((Int × (List Int)) × Bool))) := o.2.2
noncomputable def E_71 : Entry where
 params := [.v .int, .v (.slice (.pair .int (.slice (.slice .int)))), .v .int, .v (.slice .int), .v (.fc 56 (.ptr .int))]
 results := [.pr (.v .int) (.mv .int 0), .v .bool]
 B := (Int × (List Int)) × Bool
 run := fun a => impl_firstPoly_impl_IsCore_c1 a.1 a.2.1 a.2.2.1 a.2.2.2.1 a.2.2.2.2
 out := fun b => ((), (), (), (), ())
 res := fun b => (b.1, b.2)
noncomputable def C_71 : Cx where
 tt := tblTT tt
 T := tblT [(57, E_34), (5439546, E_70)]
 L := tblL []
 dep := fun i => 0
 n := 5
noncomputable def D_71 : Code := Try.f39.body.getD .skip
noncomputable def N_71 (_ : outs [.v .int, .v (.slice (.pair .int (.slice (.slice .int)))), .v .int, .v (.slice .int), .v (.fc 56 (.ptr .int))]) (r : dens [.pr (.v .int) (.mv .int 0), .v .bool]) : (Int × (List Int)) × Bool := (r.1, r.2)
noncomputable def E_72 : Entry where
 params := [.v .int, .v (.slice (.pair .int (.slice (.slice .int))))]
 results := [.v .bool, .v .bool]
 B := Bool × Bool
 run := fun a => impl_IsCore a.1 a.2
 out := fun b => ((), ())
 res := fun b => (b.1, b.2)
noncomputable def C_72 : Cx where
 tt := tblTT tt
 T := tblT [(38, E_29), (55, E_35), (3735591, E_71)]
 L := tblL []
 dep := fun i => 0
 n := 2
 pre := fun i => match i with
  | 3 => [2]
  | _ => []
 fcl := [(56, (.ptr .int))]
noncomputable def D_72 : Code := Try.f19.body.getD .skip
noncomputable def N_72 (_ : outs [.v .int, .v (.slice (.pair .int (.slice (.slice .int))))]) (r : dens [.v .bool, .v .bool]) : Bool × Bool := (r.1, r.2)
noncomputable def E_73 : Entry where
 params := [.v .int, .v (.slice (.pair .int (.slice (.slice .int))))]
 results := [.v .bool, .v .bool]
 B := Bool × Bool
 run := fun a => spec_IsCore a.1 a.2
 out := fun b => ((), ())
 res := fun b => (b.1, b.2)
noncomputable def C_73 : Cx where
 tt := tblTT tt
 T := tblT [(32, E_52), (52, E_61), (53, E_62)]
 L := tblL []
 dep := fun i => 0
 n := 2
noncomputable def D_73 : Code := Try.f20.body.getD .skip
noncomputable def N_73 (_ : outs [.v .int, .v (.slice (.pair .int (.slice (.slice .int))))]) (r : dens [.v .bool, .v .bool]) : Bool × Bool := (r.1, r.2)
noncomputable def E_74 : Entry where
 params := [.v .int, .v (.slice (.pair .int (.slice (.slice .int))))]
 results := [.pr (.v .int) (.mv .int 0), .v .bool]
 B := (Int × (List Int)) × Bool
 run := fun a => spec_CoreMap a.1 a.2
 out := fun b => ((), ())
 res := fun b => (b.1, b.2)
noncomputable def C_74 : Cx where
 tt := tblTT tt
 T := tblT [(32, E_52), (53, E_62), (61, E_6)]
 L := tblL []
 dep := fun i => 0
 n := 2
noncomputable def D_74 : Code := Try.f22.body.getD .skip
noncomputable def N_74 (_ : outs [.v .int, .v (.slice (.pair .int (.slice (.slice .int))))]) (r : dens [.pr (.v .int) (.mv .int 0), .v .bool]) : (Int × (List Int)) × Bool := (r.1, r.2)
noncomputable def E_75 : Entry where
 params := [.v (.pair .int (.slice .int)), .v (.pair .int (.slice .int))]
 results := [.v .bool]
 B := Bool
 run := fun a => laws_rOp a.1 a.2
 out := fun b => ((), ())
 res := fun b => b
noncomputable def C_75 : Cx where
 tt := tblTT tt
 T := tblT [(27, E_65)]
 L := tblL []
 dep := fun i => 0
 n := 2
noncomputable def D_75 : Code := Try.f23.body.getD .skip
noncomputable def N_75 (_ : outs [.v (.pair .int (.slice .int)), .v (.pair .int (.slice .int))]) (r : dens [.v .bool]) : Bool := r
noncomputable def E_76 : Entry where
 params := [.v (.pair .int (.slice .int)), .v .int]
 results := [.v .bool]
 B := Bool
 run := fun a => impl_isOp a.1 a.2
 out := fun b => ((), ())
 res := fun b => b
noncomputable def C_76 : Cx where
 tt := tblTT tt
 T := tblT [(51, E_25), (83, E_30)]
 L := tblL []
 dep := fun i => 0
 n := 2
noncomputable def D_76 : Code := Try.f62.body.getD .skip
noncomputable def N_76 (_ : outs [.v (.pair .int (.slice .int)), .v .int]) (r : dens [.v .bool]) : Bool := r
noncomputable def E_77 : Entry where
 params := [.v .int, .v (.pair .int (.slice .int)), .v (.pair .int (.slice (.slice .int)))]
 results := [.mv .int 0, .mv .int 0, .v .bool]
 B := (List Int) × (List Int) × Bool
 run := fun a => impl_firstBreak a.1 a.2.1 a.2.2
 out := fun b => ((), (), ())
 res := fun b => (b.1, b.2.1, b.2.2)
noncomputable def S_77L10 (n : Nat) : LoopSpec where
 sh := [(0, .v .int), (4, .bx (.v (.pair .int (.slice .int)))), (5, .bx (.v (.pair .int (.slice (.slice .int))))), (9, .v .smap), (10, .v .int), (11, .mv .int 0), (12, .mv .int 0), (13, .v .int), (14, .v .int), (15, .v .int)]
 ex := [(.exit 2, [(0, .v .int), (4, .bx (.v (.pair .int (.slice .int)))), (5, .bx (.v (.pair .int (.slice (.slice .int))))), (9, .v .smap), (10, .v .int), (11, .mv .int 0), (12, .mv .int 0), (13, .v .int)])]
 run := impl_firstBreak_L10 n
noncomputable def S_77L19 (n : Nat) : LoopSpec where
 sh := [(786493, .jk 1), (0, .v .int), (4, .bx (.v (.pair .int (.slice .int)))), (5, .bx (.v (.pair .int (.slice (.slice .int))))), (9, .v .smap), (10, .v .int), (11, .mv .int 0), (12, .mv .int 0), (13, .v .int), (16, .v .int), (17, .v .int), (57, .v .int), (58, .v .int), (62, .v .int), (63, .v .int)]
 ex := [(.exit 6, [(0, .v .int), (4, .bx (.v (.pair .int (.slice .int)))), (5, .bx (.v (.pair .int (.slice (.slice .int))))), (9, .v .smap), (10, .v .int), (11, .mv .int 0), (12, .mv .int 0), (13, .v .int), (16, .v .int), (17, .v .int), (57, .v .int), (58, .v .int)])]
 run := impl_firstBreak_L19 n
noncomputable def S_77L15 (n : Nat) : LoopSpec where
 sh := [(0, .v .int), (4, .bx (.v (.pair .int (.slice .int)))), (5, .bx (.v (.pair .int (.slice (.slice .int))))), (9, .v .smap), (10, .v .int), (11, .mv .int 0), (12, .mv .int 0), (13, .v .int), (57, .v .int), (58, .v .int)]
 ex := [(.exit 4, [(0, .v .int), (4, .bx (.v (.pair .int (.slice .int)))), (5, .bx (.v (.pair .int (.slice (.slice .int))))), (9, .v .smap), (10, .v .int), (11, .mv .int 0), (12, .mv .int 0), (13, .v .int)])]
 run := impl_firstBreak_L15 n
noncomputable def S_77L6 (n : Nat) : LoopSpec where
 sh := [(0, .v .int), (4, .bx (.v (.pair .int (.slice .int)))), (5, .bx (.v (.pair .int (.slice (.slice .int))))), (9, .v .smap), (10, .v .int), (11, .mv .int 0), (12, .mv .int 0), (13, .v .int)]
 ex := [(.exit 0, []), (.ret, [(6, .mv .int 0), (7, .mv .int 0), (8, .v .bool)])]
 run := impl_firstBreak_L6 n
noncomputable def C_77 : Cx where
 tt := tblTT tt
 T := tblT [(83, E_30), (92, E_32), (94, E_31)]
 L := tblL [(10, S_77L10 fuel), (19, S_77L19 fuel), (15, S_77L15 fuel), (6, S_77L6 fuel)]
 dep := fun i => 0
 n := 3
noncomputable def B_77L10 : Code := (Try.f97.body.bind (loopBody 10)).getD .skip
noncomputable def B_77L19 : Code := (Try.f97.body.bind (loopBody 19)).getD .skip
noncomputable def B_77L15 : Code := (Try.f97.body.bind (loopBody 15)).getD .skip
noncomputable def B_77L6 : Code := (Try.f97.body.bind (loopBody 6)).getD .skip
noncomputable def D_77 : Code := Try.f97.body.getD .skip
noncomputable def N_77 (_ : outs [.v .int, .v (.pair .int (.slice .int)), .v (.pair .int (.slice (.slice .int)))]) (r : dens [.mv .int 0, .mv .int 0, .v .bool]) : (List Int) × (List Int) × Bool := (r.1, r.2.1, r.2.2)
noncomputable def E_78 : Entry where
 params := [.v .int, .v (.slice (.pair .int (.slice (.slice .int)))), .v (.pair .int (.slice .int))]
 results := [.v .bool]
 B := Bool
 run := fun a => impl_keepsAll a.1 a.2.1 a.2.2
 out := fun b => ((), (), ())
 res := fun b => b
noncomputable def S_78L2 (n : Nat) : LoopSpec where
 sh := [(0, .v .int), (5, .bx (.v (.pair .int (.slice .int)))), (12, .v (.slice (.pair .int (.slice (.slice .int))))), (13, .v .int), (14, .v .int)]
 ex := [(.exit 0, []), (.ret, [(6, .v .bool)])]
 run := impl_keepsAll_L2 n
noncomputable def C_78 : Cx where
 tt := tblTT tt
 T := tblT [(97, E_77)]
 L := tblL [(2, S_78L2 fuel)]
 dep := fun i => 0
 n := 3
noncomputable def B_78L2 : Code := (Try.f63.body.bind (loopBody 2)).getD .skip
noncomputable def D_78 : Code := Try.f63.body.getD .skip
noncomputable def N_78 (_ : outs [.v .int, .v (.slice (.pair .int (.slice (.slice .int)))), .v (.pair .int (.slice .int))]) (r : dens [.v .bool]) : Bool := r
noncomputable def E_79 : Entry where
 params := [.v .int, .v (.slice (.pair .int (.slice (.slice .int)))), .v (.pair .int (.slice .int))]
 results := [.v .bool, .v .bool]
 B := Bool × Bool
 run := fun a => impl_IsPolymorphism a.1 a.2.1 a.2.2
 out := fun b => ((), (), ())
 res := fun b => (b.1, b.2)
noncomputable def C_79 : Cx where
 tt := tblTT tt
 T := tblT [(38, E_29), (62, E_76), (63, E_78)]
 L := tblL []
 dep := fun i => 0
 n := 3
noncomputable def D_79 : Code := Try.f24.body.getD .skip
noncomputable def N_79 (_ : outs [.v .int, .v (.slice (.pair .int (.slice (.slice .int)))), .v (.pair .int (.slice .int))]) (r : dens [.v .bool, .v .bool]) : Bool × Bool := (r.1, r.2)
noncomputable def E_80 : Entry where
 params := [.v .int, .v (.slice (.pair .int (.slice (.slice .int))))]
 results := [.mv .int 0, .v .bool]
 B := (List Int) × Bool
 run := fun a => impl_ConstantPolymorphisms a.1 a.2
 out := fun b => ((), ())
 res := fun b => (b.1, b.2)
noncomputable def S_80L9 (n : Nat) : LoopSpec where
 sh := [(0, .v .int), (1, .v (.slice (.pair .int (.slice (.slice .int))))), (6, .mv .int 0), (7, .v .int), (8, .mv .int 0), (24, .v .int), (25, .v .int)]
 ex := [(.exit 2, [(0, .v .int), (1, .v (.slice (.pair .int (.slice (.slice .int))))), (6, .mv .int 0), (7, .v .int), (8, .mv .int 0)])]
 run := impl_ConstantPolymorphisms_L9 n
noncomputable def S_80L5 (n : Nat) : LoopSpec where
 sh := [(0, .v .int), (1, .v (.slice (.pair .int (.slice (.slice .int))))), (6, .mv .int 0), (7, .v .int)]
 ex := [(.exit 0, [(6, .mv .int 0)])]
 run := impl_ConstantPolymorphisms_L5 n
noncomputable def C_80 : Cx where
 tt := tblTT tt
 T := tblT [(38, E_29), (63, E_78)]
 L := tblL [(9, S_80L9 fuel), (5, S_80L5 fuel)]
 dep := fun i => 0
 n := 2
noncomputable def B_80L9 : Code := (Try.f25.body.bind (loopBody 9)).getD .skip
noncomputable def B_80L5 : Code := (Try.f25.body.bind (loopBody 5)).getD .skip
noncomputable def D_80 : Code := Try.f25.body.getD .skip
noncomputable def N_80 (_ : outs [.v .int, .v (.slice (.pair .int (.slice (.slice .int))))]) (r : dens [.mv .int 0, .v .bool]) : (List Int) × Bool := (r.1, r.2)
noncomputable def E_81 : Entry where
 params := [.v .int, .v (.slice (.pair .int (.slice (.slice .int))))]
 results := [.mv .int 0, .v .bool]
 B := (List Int) × Bool
 run := fun a => spec_ConstantPolymorphisms a.1 a.2
 out := fun b => ((), ())
 res := fun b => (b.1, b.2)
noncomputable def S_81L13 (n : Nat) : LoopSpec where
 sh := [(0, .v .int), (1, .v (.slice (.pair .int (.slice (.slice .int))))), (6, .mv .int 0), (7, .v .int), (8, .v .bool), (9, .v .int), (10, .mv .int 0), (11, .v .int)]
 ex := [(.exit 4, [(0, .v .int), (1, .v (.slice (.pair .int (.slice (.slice .int))))), (6, .mv .int 0), (7, .v .int), (8, .v .bool), (9, .v .int), (10, .mv .int 0)])]
 run := spec_ConstantPolymorphisms_L13 n
noncomputable def S_81L9 (n : Nat) : LoopSpec where
 sh := [(0, .v .int), (1, .v (.slice (.pair .int (.slice (.slice .int))))), (6, .mv .int 0), (7, .v .int), (8, .v .bool), (9, .v .int)]
 ex := [(.exit 2, [(0, .v .int), (1, .v (.slice (.pair .int (.slice (.slice .int))))), (6, .mv .int 0), (7, .v .int), (8, .v .bool)])]
 run := spec_ConstantPolymorphisms_L9 n
noncomputable def S_81L5 (n : Nat) : LoopSpec where
 sh := [(0, .v .int), (1, .v (.slice (.pair .int (.slice (.slice .int))))), (6, .mv .int 0), (7, .v .int)]
 ex := [(.exit 0, [(6, .mv .int 0)])]
 run := spec_ConstantPolymorphisms_L5 n
noncomputable def C_81 : Cx where
 tt := tblTT tt
 T := tblT [(32, E_52), (64, E_56)]
 L := tblL [(13, S_81L13 fuel), (9, S_81L9 fuel), (5, S_81L5 fuel)]
 dep := fun i => 0
 n := 2
noncomputable def B_81L13 : Code := (Try.f26.body.bind (loopBody 13)).getD .skip
noncomputable def B_81L9 : Code := (Try.f26.body.bind (loopBody 9)).getD .skip
noncomputable def B_81L5 : Code := (Try.f26.body.bind (loopBody 5)).getD .skip
noncomputable def D_81 : Code := Try.f26.body.getD .skip
noncomputable def N_81 (_ : outs [.v .int, .v (.slice (.pair .int (.slice (.slice .int))))]) (r : dens [.mv .int 0, .v .bool]) : (List Int) × Bool := (r.1, r.2)
noncomputable def E_82 : Entry where
 params := [.v .int, .v .int]
 results := [.v .bool]
 B := Bool
 run := fun a => impl_isPolyRange a.1 a.2
 out := fun b => ((), ())
 res := fun b => b
noncomputable def C_82 : Cx where
 tt := tblTT tt
 T := tblT [(83, E_30)]
 L := tblL []
 dep := fun i => 0
 n := 2
noncomputable def D_82 : Code := Try.f65.body.getD .skip
noncomputable def N_82 (_ : outs [.v .int, .v .int]) (r : dens [.v .bool]) : Bool := r
noncomputable def E_83 : Entry where
 params := [.v .int, .v .int]
 results := [.mv .int 0]
 B := (List Int)
 run := fun a => impl_idempotentTable a.1 a.2
 out := fun b => ((), ())
 res := fun b => b
noncomputable def S_83L7 (n : Nat) : LoopSpec where
 sh := [(0, .v .int), (1, .v .int), (5, .mv .int 0), (6, .v .int), (7, .v .int), (8, .v .int)]
 ex := [(.exit 2, [(0, .v .int), (1, .v .int), (5, .mv .int 0), (6, .v .int), (7, .v .int)])]
 run := impl_idempotentTable_L7 n
noncomputable def S_83L3 (n : Nat) : LoopSpec where
 sh := [(0, .v .int), (1, .v .int), (5, .mv .int 0), (6, .v .int)]
 ex := [(.exit 0, [(5, .mv .int 0)])]
 run := impl_idempotentTable_L3 n
noncomputable def C_83 : Cx where
 tt := tblTT tt
 T := tblT [(55, E_35), (83, E_30)]
 L := tblL [(7, S_83L7 fuel), (3, S_83L3 fuel)]
 dep := fun i => 0
 n := 2
noncomputable def B_83L7 : Code := (Try.f40.body.bind (loopBody 7)).getD .skip
noncomputable def B_83L3 : Code := (Try.f40.body.bind (loopBody 3)).getD .skip
noncomputable def D_83 : Code := Try.f40.body.getD .skip
noncomputable def N_83 (_ : outs [.v .int, .v .int]) (r : dens [.mv .int 0]) : (List Int) := r
noncomputable def E_84 : Entry where
 params := [.v (.slice .int), .bx (.mv (.pair .int (.slice .int)) 1), .bx (.v .int)]
 results := [.v .bool]
 B := (List (Int × (List Int))) × Int × Bool
 run := fun a => impl_listPolys_c1 a.1 a.2.1 a.2.2
 out := fun b => ((), b.1, b.2.1)
 res := fun b => b.2.2
noncomputable def C_84 : Cx where
 tt := tblTT tt
 T := tblT [(60, E_39)]
 L := tblL []
 dep := fun i => match i with
  | 10 => 1
  | 11 => 1
  | _ => 0
 n := 3
noncomputable def D_84 : Code := Try.f99.body.getD .skip
noncomputable def N_84 (o : outs [.v (.slice .int), .bx (.mv (.pair .int (.slice .int)) 1), .bx (.v .int)]) (r : dens [.v .bool]) : (List (Int × (List Int))) × Int × Bool := (o.2.1, o.2.2, r)
noncomputable def E_85_of (rec : (Int × (List Int) × ((List (Int × (List Int))) × Int) × (Bool × Int × Int × (List (List ((List Int) × (List ByteArray))))) × (List Int) × Unit) → Option ((List Int) × ((List (Int × (List Int))) × Int) × (Bool × Int × Int × (List (List ((List Int) × (List ByteArray))))) × (List Int) × Bool)) : Entry where
 params := [.v .int, .bx (.mv .int 0), .pr (.bx (.mv (.pair .int (.slice .int)) 1)) (.bx (.v .int)), .bx (.v (.ptr (.pair .int (.pair .int (.slice (.slice (.pair (.slice .int) .smap))))))), .bx (.v (.slice .int)), .jk 1]
 results := [.v .bool]
 cod := [(2, .kb 99), (5, .kn 95 1 5)]
 B := (List Int) × ((List (Int × (List Int))) × Int) × (Bool × Int × Int × (List (List ((List Int) × (List ByteArray))))) × (List Int) × Bool
 run := rec
 out := fun b => ((), b.1, b.2.1, b.2.2.1, b.2.2.2.1, ())
 res := fun b => b.2.2.2.2
noncomputable def E_85 (d : Nat) : Entry := E_85_of (impl_polySearch_each_c1_impl_listPolys_c1 d)
noncomputable def S_85L4 (rec : (Int × (List Int) × ((List (Int × (List Int))) × Int) × (Bool × Int × Int × (List (List ((List Int) × (List ByteArray))))) × (List Int) × Unit) → Option ((List Int) × ((List (Int × (List Int))) × Int) × (Bool × Int × Int × (List (List ((List Int) × (List ByteArray))))) × (List Int) × Bool)) (n : Nat) : LoopSpec where
 sh := [(0, .v .int), (1, .bx (.mv .int 0)), (2, .pr (.bx (.mv (.pair .int (.slice .int)) 1)) (.bx (.v .int))), (3, .bx (.v (.ptr (.pair .int (.pair .int (.slice (.slice (.pair (.slice .int) .smap)))))))), (4, .bx (.v (.slice .int))), (5, .jk 1), (8, .v .int)]
 ex := [(.exit 0, [(1, .bx (.mv .int 0)), (2, .pr (.bx (.mv (.pair .int (.slice .int)) 1)) (.bx (.v .int))), (3, .bx (.v (.ptr (.pair .int (.pair .int (.slice (.slice (.pair (.slice .int) .smap)))))))), (4, .bx (.v (.slice .int))), (5, .jk 1)]), (.ret, [(1, .bx (.mv .int 0)), (2, .pr (.bx (.mv (.pair .int (.slice .int)) 1)) (.bx (.v .int))), (3, .bx (.v (.ptr (.pair .int (.pair .int (.slice (.slice (.pair (.slice .int) .smap)))))))), (4, .bx (.v (.slice .int))), (5, .jk 1), (7, .v .bool)])]
 run := impl_polySearch_each_c1_impl_listPolys_c1_L4 rec n
noncomputable def C_85 (rec : (Int × (List Int) × ((List (Int × (List Int))) × Int) × (Bool × Int × Int × (List (List ((List Int) × (List ByteArray))))) × (List Int) × Unit) → Option ((List Int) × ((List (Int × (List Int))) × Int) × (Bool × Int × Int × (List (List ((List Int) × (List ByteArray))))) × (List Int) × Bool)) : Cx where
 tt := tblTT tt
 T := tblT [(96, E_42), (99, E_84), (6553695, E_85_of rec)]
 L := tblL [(4, S_85L4 rec fuel)]
 dep := fun i => 0
 n := 6
 cod := [(2, .kb 99), (5, .kn 95 1 5)]
noncomputable def B_85L4 : Code := (Try.f95.body.bind (loopBody 4)).getD .skip
noncomputable def D_85 : Code := Try.f95.body.getD .skip
noncomputable def N_85 (o : outs [.v .int, .bx (.mv .int 0), .pr (.bx (.mv (.pair .int (.slice .int)) 1)) (.bx (.v .int)), .bx (.v (.ptr (.pair .int (.pair .int (.slice (.slice (.pair (.slice .int) .smap))))))), .bx (.v (.slice .int)), .jk 1]) (r : dens [.v .bool]) : (List Int) × ((List (Int × (List Int))) × Int) × (Bool × Int × Int × (List (List ((List Int) × (List ByteArray))))) × (List Int) × Bool := (o.2.1, o.2.2.1, o.2.2.2.1, o.2.2.2.2.1, r)
noncomputable def E_86 : Entry where
 params := [.v (.ptr (.pair .int (.pair .int (.slice (.slice (.pair (.slice .int) .smap)))))), .v (.slice .int), .pr (.bx (.mv (.pair .int (.slice .int)) 1)) (.bx (.v .int))]
 results := []
 cod := [(2, .cl 99)]
 B := ((List (Int × (List Int))) × Int)
 run := fun a => impl_polySearch_each_impl_listPolys_c1 a.1 a.2.1 a.2.2
 out := fun b => ((), (), b)
 res := fun b => ()
noncomputable def C_86 : Cx where
 tt := tblTT tt
 T := tblT [(6553695, E_85 fuel)]
 L := tblL []
 dep := fun i => 0
 n := 3
 cod := [(2, .cl 99)]
noncomputable def D_86 : Code := Try.f58.body.getD .skip
noncomputable def N_86 (o : outs [.v (.ptr (.pair .int (.pair .int (.slice (.slice (.pair (.slice .int) .smap)))))), .v (.slice .int), .pr (.bx (.mv (.pair .int (.slice .int)) 1)) (.bx (.v .int))]) (_ : dens []) : ((List (Int × (List Int))) × Int) := o.2.2
noncomputable def E_87 : Entry where
 params := [.v .int, .v (.slice (.pair .int (.slice (.slice .int)))), .v .int, .v (.slice .int)]
 results := [.mv (.pair .int (.slice .int)) 1, .v .bool]
 B := (List (Int × (List Int))) × Bool
 run := fun a => impl_listPolys a.1 a.2.1 a.2.2.1 a.2.2.2
 out := fun b => ((), (), (), ())
 res := fun b => (b.1, b.2)
noncomputable def C_87 : Cx where
 tt := tblTT tt
 T := tblT [(57, E_34), (6553658, E_86)]
 L := tblL []
 dep := fun i => match i with
  | 11 => 1
  | 22 => 1
  | _ => 0
 n := 4
noncomputable def D_87 : Code := Try.f66.body.getD .skip
noncomputable def N_87 (_ : outs [.v .int, .v (.slice (.pair .int (.slice (.slice .int)))), .v .int, .v (.slice .int)]) (r : dens [.mv (.pair .int (.slice .int)) 1, .v .bool]) : (List (Int × (List Int))) × Bool := (r.1, r.2)
noncomputable def E_88 : Entry where
 params := [.v .int, .v (.slice (.pair .int (.slice (.slice .int)))), .v .int]
 results := [.mv (.pair .int (.slice .int)) 1, .v .bool]
 B := (List (Int × (List Int))) × Bool
 run := fun a => impl_IdempotentPolymorphisms a.1 a.2.1 a.2.2
 out := fun b => ((), (), ())
 res := fun b => (b.1, b.2)
noncomputable def C_88 : Cx where
 tt := tblTT tt
 T := tblT [(38, E_29), (40, E_83), (65, E_82), (66, E_87)]
 L := tblL []
 dep := fun i => match i with
  | 19 => 1
  | _ => 0
 n := 3
noncomputable def D_88 : Code := Try.f28.body.getD .skip
noncomputable def N_88 (_ : outs [.v .int, .v (.slice (.pair .int (.slice (.slice .int)))), .v .int]) (r : dens [.mv (.pair .int (.slice .int)) 1, .v .bool]) : (List (Int × (List Int))) × Bool := (r.1, r.2)
noncomputable def E_89 : Entry where
 params := [.v .int, .v (.slice (.pair .int (.slice (.slice .int)))), .v .int]
 results := [.v .bool]
 B := Bool
 run := fun a => spec_l14Small a.1 a.2.1 a.2.2
 out := fun b => ((), (), ())
 res := fun b => b
noncomputable def C_89 : Cx where
 tt := tblTT tt
 T := tblT [(32, E_52), (76, E_16)]
 L := tblL []
 dep := fun i => 0
 n := 3
noncomputable def D_89 : Code := Try.f67.body.getD .skip
noncomputable def N_89 (_ : outs [.v .int, .v (.slice (.pair .int (.slice (.slice .int)))), .v .int]) (r : dens [.v .bool]) : Bool := r
noncomputable def E_90 : Entry where
 params := [.v .int, .v .int]
 results := [.mv .int 0]
 B := (List Int)
 run := fun a => spec_l14Idempotent a.1 a.2
 out := fun b => ((), ())
 res := fun b => b
noncomputable def S_90L7 (n : Nat) : LoopSpec where
 sh := [(0, .v .int), (1, .v .int), (5, .mv .int 0), (6, .v .int), (7, .v .int), (8, .v .int)]
 ex := [(.exit 2, [(0, .v .int), (1, .v .int), (5, .mv .int 0), (6, .v .int), (7, .v .int)])]
 run := spec_l14Idempotent_L7 n
noncomputable def S_90L3 (n : Nat) : LoopSpec where
 sh := [(0, .v .int), (1, .v .int), (5, .mv .int 0), (6, .v .int)]
 ex := [(.exit 0, [(5, .mv .int 0)])]
 run := spec_l14Idempotent_L3 n
noncomputable def C_90 : Cx where
 tt := tblTT tt
 T := tblT [(75, E_53), (76, E_16)]
 L := tblL [(7, S_90L7 fuel), (3, S_90L3 fuel)]
 dep := fun i => 0
 n := 2
noncomputable def B_90L7 : Code := (Try.f34.body.bind (loopBody 7)).getD .skip
noncomputable def B_90L3 : Code := (Try.f34.body.bind (loopBody 3)).getD .skip
noncomputable def D_90 : Code := Try.f34.body.getD .skip
noncomputable def N_90 (_ : outs [.v .int, .v .int]) (r : dens [.mv .int 0]) : (List Int) := r
noncomputable def E_91 : Entry where
 params := [.v .int, .v (.slice (.slice .int))]
 results := [.mv (.pair .int (.slice .int)) 0]
 B := (List (Int × (List Int)))
 run := fun a => spec_l12Ops a.1 a.2
 out := fun b => ((), ())
 res := fun b => b
noncomputable def S_91L3 (n : Nat) : LoopSpec where
 sh := [(0, .v .int), (1, .v (.slice (.slice .int))), (5, .mv (.pair .int (.slice .int)) 0), (6, .v .int)]
 ex := [(.exit 0, [(5, .mv (.pair .int (.slice .int)) 0)])]
 run := spec_l12Ops_L3 n
noncomputable def C_91 : Cx where
 tt := tblTT tt
 T := tblT [(61, E_6)]
 L := tblL [(3, S_91L3 fuel)]
 dep := fun i => 0
 n := 2
noncomputable def B_91L3 : Code := (Try.f68.body.bind (loopBody 3)).getD .skip
noncomputable def D_91 : Code := Try.f68.body.getD .skip
noncomputable def N_91 (_ : outs [.v .int, .v (.slice (.slice .int))]) (r : dens [.mv (.pair .int (.slice .int)) 0]) : (List (Int × (List Int))) := r
noncomputable def E_92 : Entry where
 params := [.v .int, .v (.slice (.pair .int (.slice (.slice .int)))), .v .int]
 results := [.mv (.pair .int (.slice .int)) 0, .v .bool]
 B := (List (Int × (List Int))) × Bool
 run := fun a => spec_IdempotentPolymorphisms a.1 a.2.1 a.2.2
 out := fun b => ((), (), ())
 res := fun b => (b.1, b.2)
noncomputable def C_92 : Cx where
 tt := tblTT tt
 T := tblT [(33, E_59), (34, E_90), (67, E_89), (68, E_91)]
 L := tblL []
 dep := fun i => 0
 n := 3
noncomputable def D_92 : Code := Try.f29.body.getD .skip
noncomputable def N_92 (_ : outs [.v .int, .v (.slice (.pair .int (.slice (.slice .int)))), .v .int]) (r : dens [.mv (.pair .int (.slice .int)) 0, .v .bool]) : (List (Int × (List Int))) × Bool := (r.1, r.2)
noncomputable def E_93 : Entry where
 params := [.v (.slice (.pair .int (.slice .int))), .v (.slice (.pair .int (.slice .int)))]
 results := [.v .bool]
 B := Bool
 run := fun a => laws_rOps a.1 a.2
 out := fun b => ((), ())
 res := fun b => b
noncomputable def S_93L4 (n : Nat) : LoopSpec where
 sh := [(0, .v (.slice (.pair .int (.slice .int)))), (1, .v (.slice (.pair .int (.slice .int)))), (5, .v .int)]
 ex := [(.exit 0, []), (.ret, [(4, .v .bool)])]
 run := laws_rOps_L4 n
noncomputable def C_93 : Cx where
 tt := tblTT tt
 T := tblT [(23, E_75)]
 L := tblL [(4, S_93L4 fuel)]
 dep := fun i => 0
 n := 2
noncomputable def B_93L4 : Code := (Try.f30.body.bind (loopBody 4)).getD .skip
noncomputable def D_93 : Code := Try.f30.body.getD .skip
noncomputable def N_93 (_ : outs [.v (.slice (.pair .int (.slice .int))), .v (.slice (.pair .int (.slice .int)))]) (r : dens [.v .bool]) : Bool := r
noncomputable def E_94 : Entry where
 params := [.v (.slice (.num .u8))]
 results := [.v .bool]
 B := Bool
 run := fun a => laws_FnCores a
 out := fun b => ()
 res := fun b => b
noncomputable def S_94L9 (n : Nat) : LoopSpec where
 sh := [(3, .v .int), (4, .v (.slice (.pair .int (.slice (.slice .int))))), (5, .v .int), (6, .mv (.pair .int (.slice (.slice .int))) 2), (7, .v .bool), (9, .mv (.pair .int (.slice (.slice .int))) 0), (11, .v .int)]
 ex := [(.exit 0, [(3, .v .int), (4, .v (.slice (.pair .int (.slice (.slice .int))))), (5, .v .int), (6, .mv (.pair .int (.slice (.slice .int))) 2), (7, .v .bool)]), (.ret, [(2, .v .bool)])]
 run := laws_FnCores_L9 n
noncomputable def S_94L43 (n : Nat) : LoopSpec where
 sh := [(3, .v .int), (28, .mv (.pair .int (.slice .int)) 1), (32, .v .int), (33, .v .int)]
 ex := [(.exit 4, [(3, .v .int), (28, .mv (.pair .int (.slice .int)) 1), (32, .v .int)]), (.ret, [(2, .v .bool)])]
 run := laws_FnCores_L43 n
noncomputable def S_94L38 (n : Nat) : LoopSpec where
 sh := [(3, .v .int), (28, .mv (.pair .int (.slice .int)) 1), (32, .v .int)]
 ex := [(.exit 2, []), (.ret, [(2, .v .bool)])]
 run := laws_FnCores_L38 n
noncomputable def C_94 : Cx where
 tt := tblTT tt
 T := tblT [(14, E_1), (15, E_23), (16, E_46), (17, E_64), (18, E_66), (19, E_72), (20, E_73), (21, E_45), (22, E_74), (23, E_75), (24, E_79), (25, E_80), (26, E_81), (27, E_65), (28, E_88), (29, E_92), (30, E_93)]
 L := tblL [(9, S_94L9 fuel), (43, S_94L43 fuel), (38, S_94L38 fuel)]
 dep := fun i => 0
 n := 1
noncomputable def B_94L9 : Code := (Try.f4.body.bind (loopBody 9)).getD .skip
noncomputable def B_94L43 : Code := (Try.f4.body.bind (loopBody 43)).getD .skip
noncomputable def B_94L38 : Code := (Try.f4.body.bind (loopBody 38)).getD .skip
noncomputable def D_94 : Code := Try.f4.body.getD .skip
noncomputable def N_94 (_ : outs [.v (.slice (.num .u8))]) (r : dens [.v .bool]) : Bool := r
end T
