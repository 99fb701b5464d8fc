/- Contexts of the typed functions; no conditions. -/
import Derived.Test.YtcdjlpcapanibacV5
import Derived.Test.YtcdjlpcapanibacProg
import Derived.Test.YtcdjlpcapanibacPFnPolymorphismNetwork
import Derived.KernelRfl
set_option linter.all false
set_option linter.unusedVariables false
set_option maxRecDepth 10000
open Go Go.Va Go.Proofs
namespace T
noncomputable def tt : List (Nat × TI) := [
 (2, { ty := .int }),
 (3, { ty := .int }),
 (4, { ty := .bool }),
 (5, { ty := (.num .u8) }),
 (6, { ty := (.num .u8) }),
 (7, { ty := (.pair .int (.pair .int (.pair .bool (.num .u8)))), fields := [2, 3, 4, 6] }),
 (8, { ty := (.pair .int (.pair .int (.pair .bool (.num .u8)))), fields := [2, 3, 4, 6] }),
 (9, { ty := .str }),
 (22, { ty := (.slice (.num .u8)), elem := 5 }),
 (24, { ty := (.slice (.pair .int (.slice (.slice .int)))), elem := 36 }),
 (27, { ty := (.slice (.pair (.slice .int) (.pair .int (.slice (.slice .int))))), elem := 38 }),
 (29, { ty := (.pair .int (.pair .int (.slice (.pair (.slice .int) (.pair .int (.slice (.slice .int))))))), fields := [3, 3, 27] }),
 (33, { ty := (.slice .int), elem := 3 }),
 (34, { ty := (.slice (.slice .int)), elem := 33 }),
 (36, { ty := (.pair .int (.slice (.slice .int))), fields := [3, 34] }),
 (38, { ty := (.pair (.slice .int) (.pair .int (.slice (.slice .int)))), fields := [33, 36] }),
 (45, { ty := (.slice (.pair .int (.slice .int))), elem := 49 }),
 (49, { ty := (.pair .int (.slice .int)), fields := [3, 33] }),
 (90, { ty := (.op false) }),
 (91, { ty := (.op true) }),
 (100, { ty := (.num .u64) }),
 (102, { ty := (.pair (.slice (.num .u8)) (.pair .int (.num .u64))), fields := [22, 3, 100] }),
 (104, { ty := (.op false) }),
 (148, { ty := (.op true) }),
 (150, { ty := (.slice (.slice (.pair (.slice .int) .smap))), elem := 156 }),
 (152, { ty := (.pair .int (.pair .int (.slice (.slice (.pair (.slice .int) .smap))))), fields := [3, 3, 150] }),
 (153, { ty := .smap }),
 (156, { ty := (.slice (.pair (.slice .int) .smap)), elem := 158 }),
 (158, { ty := (.pair (.slice .int) .smap), fields := [33, 153] }),
 (185, { ty := (.slice (.slice (.slice .int))), elem := 34 }),
 (186, { ty := (.slice (.slice .smap)), elem := 189 }),
 (188, { ty := (.pair .int (.pair (.slice (.slice (.slice .int))) (.slice (.slice .smap)))), fields := [3, 185, 186] }),
 (189, { ty := (.slice .smap), elem := 153 }),
 (190, { ty := (.num .u64) })]
theorem tabT : tabOk Try.prog tt = true := by kernel_rfl
theorem mixT : Try.prog.follows .mixedOrders = true := by kernel_rfl
noncomputable def E_1 : Entry where
 params := [.v (.slice (.num .u8))]
 results := [.v .bool]
 B := Bool
 run := fun a => laws_rBig a
 out := fun b => ()
 res := fun b => b
noncomputable def C_1 : Cx where
 tt := tblTT tt
 T := tblT []
 L := tblL []
 dep := fun i => 0
 n := 1
noncomputable def D_1 : Code := Try.f7.body.getD .skip
noncomputable def N_1 (_ : outs [.v (.slice (.num .u8))]) (r : dens [.v .bool]) : Bool := r
noncomputable def E_2 : Entry where
 params := [.bx (.v (.pair (.slice (.num .u8)) (.pair .int (.num .u64))))]
 results := [.v .int]
 B := ((List Int) × Int × Int) × Int
 run := fun a => spec_l1Cur_next a
 out := fun b => b.1
 res := fun b => b.2
noncomputable def C_2 : Cx where
 tt := tblTT tt
 T := tblT []
 L := tblL []
 dep := fun i => 0
 n := 1
noncomputable def D_2 : Code := Try.f199.body.getD .skip
noncomputable def N_2 (o : outs [.bx (.v (.pair (.slice (.num .u8)) (.pair .int (.num .u64))))]) (r : dens [.v .int]) : ((List Int) × Int × Int) × Int := (o, r)
noncomputable def E_3 : Entry where
 params := [.bx (.v (.pair (.slice (.num .u8)) (.pair .int (.num .u64)))), .v .int]
 results := [.v .int]
 B := ((List Int) × Int × Int) × Int
 run := fun a => spec_l1Cur_pick a.1 a.2
 out := fun b => (b.1, ())
 res := fun b => b.2
noncomputable def C_3 : Cx where
 tt := tblTT tt
 T := tblT [(199, E_2)]
 L := tblL []
 dep := fun i => 0
 n := 2
noncomputable def D_3 : Code := Try.f163.body.getD .skip
noncomputable def N_3 (o : outs [.bx (.v (.pair (.slice (.num .u8)) (.pair .int (.num .u64)))), .v .int]) (r : dens [.v .int]) : ((List Int) × Int × Int) × Int := (o.1, r)
noncomputable def E_4 : Entry where
 params := [.bx (.v (.pair (.slice (.num .u8)) (.pair .int (.num .u64)))), .v .int]
 results := [.v .bool]
 B := ((List Int) × Int × Int) × Bool
 run := fun a => spec_l1Cur_one a.1 a.2
 out := fun b => (b.1, ())
 res := fun b => b.2
noncomputable def C_4 : Cx where
 tt := tblTT tt
 T := tblT [(163, E_3)]
 L := tblL []
 dep := fun i => 0
 n := 2
noncomputable def D_4 : Code := Try.f96.body.getD .skip
noncomputable def N_4 (o : outs [.bx (.v (.pair (.slice (.num .u8)) (.pair .int (.num .u64)))), .v .int]) (r : dens [.v .bool]) : ((List Int) × Int × Int) × Bool := (o.1, r)
noncomputable def E_5 : Entry where
 params := [.v .int]
 results := [.v .int, .mv (.pair .int (.slice (.slice .int))) 0]
 B := Int × (List (Int × (List (List Int))))
 run := fun a => spec_l14Known a
 out := fun b => ()
 res := fun b => (b.1, b.2)
noncomputable def C_5 : Cx where
 tt := tblTT tt
 T := tblT []
 L := tblL []
 dep := fun i => 0
 n := 1
noncomputable def D_5 : Code := Try.f190.body.getD .skip
noncomputable def N_5 (_ : outs [.v .int]) (r : dens [.v .int, .mv (.pair .int (.slice (.slice .int))) 0]) : Int × (List (Int × (List (List Int)))) := (r.1, r.2)
noncomputable def E_6 : Entry where
 params := [.v (.slice .int)]
 results := [.mv .int 0]
 B := (List Int)
 run := fun a => spec_l1Own a
 out := fun b => ()
 res := fun b => b
noncomputable def C_6 : Cx where
 tt := tblTT tt
 T := tblT []
 L := tblL []
 dep := fun i => 0
 n := 1
noncomputable def D_6 : Code := Try.f141.body.getD .skip
noncomputable def N_6 (_ : outs [.v (.slice .int)]) (r : dens [.mv .int 0]) : (List Int) := r
noncomputable def E_7 : Entry where
 params := [.bx (.v (.pair (.slice (.num .u8)) (.pair .int (.num .u64)))), .v (.slice .int)]
 results := [.v .int]
 B := ((List Int) × Int × Int) × Int
 run := fun a => spec_l1Cur_among a.1 a.2
 out := fun b => (b.1, ())
 res := fun b => b.2
noncomputable def C_7 : Cx where
 tt := tblTT tt
 T := tblT [(163, E_3)]
 L := tblL []
 dep := fun i => 0
 n := 2
noncomputable def D_7 : Code := Try.f97.body.getD .skip
noncomputable def N_7 (o : outs [.bx (.v (.pair (.slice (.num .u8)) (.pair .int (.num .u64)))), .v (.slice .int)]) (r : dens [.v .int]) : ((List Int) × Int × Int) × Int := (o.1, r)
noncomputable def E_8 : Entry where
 params := [.v .int, .v .int, .v .int]
 results := [.v .bool]
 B := Bool
 run := fun a => spec_l1In a.1 a.2.1 a.2.2
 out := fun b => ((), (), ())
 res := fun b => b
noncomputable def C_8 : Cx where
 tt := tblTT tt
 T := tblT []
 L := tblL []
 dep := fun i => 0
 n := 3
noncomputable def D_8 : Code := Try.f159.body.getD .skip
noncomputable def N_8 (_ : outs [.v .int, .v .int, .v .int]) (r : dens [.v .bool]) : Bool := r
noncomputable def E_9 : Entry where
 params := [.v .int]
 results := [.v .bool]
 B := Bool
 run := fun a => spec_l6Size a
 out := fun b => ()
 res := fun b => b
noncomputable def C_9 : Cx where
 tt := tblTT tt
 T := tblT [(159, E_8)]
 L := tblL []
 dep := fun i => 0
 n := 1
noncomputable def D_9 : Code := Try.f195.body.getD .skip
noncomputable def N_9 (_ : outs [.v .int]) (r : dens [.v .bool]) : Bool := r
noncomputable def E_10 : Entry where
 params := [.v (.slice .int), .v (.slice .int)]
 results := [.v .bool]
 B := Bool
 run := fun a => spec_l3Less a.1 a.2
 out := fun b => ((), ())
 res := fun b => b
noncomputable def S_10L2 (n : Nat) : LoopSpec where
 sh := [(0, .v (.slice .int)), (1, .v (.slice .int)), (5, .v .int)]
 ex := [(.exit 0, []), (.ret, [(4, .v .bool)])]
 run := spec_l3Less_L2 n
noncomputable def C_10 : Cx where
 tt := tblTT tt
 T := tblT []
 L := tblL [(2, S_10L2 fuel)]
 dep := fun i => 0
 n := 2
noncomputable def B_10L2 : Code := (Try.f210.body.bind (loopBody 2)).getD .skip
noncomputable def D_10 : Code := Try.f210.body.getD .skip
noncomputable def N_10 (_ : outs [.v (.slice .int), .v (.slice .int)]) (r : dens [.v .bool]) : Bool := r
noncomputable def E_11 : Entry where
 params := [.v (.slice .int), .v (.slice .int)]
 results := [.v .bool]
 B := Bool
 run := fun a => spec_l1Same a.1 a.2
 out := fun b => ((), ())
 res := fun b => b
noncomputable def S_11L4 (n : Nat) : LoopSpec where
 sh := [(0, .v (.slice .int)), (1, .v (.slice .int)), (5, .v .int)]
 ex := [(.exit 0, []), (.ret, [(4, .v .bool)])]
 run := spec_l1Same_L4 n
noncomputable def C_11 : Cx where
 tt := tblTT tt
 T := tblT []
 L := tblL [(4, S_11L4 fuel)]
 dep := fun i => 0
 n := 2
noncomputable def B_11L4 : Code := (Try.f73.body.bind (loopBody 4)).getD .skip
noncomputable def D_11 : Code := Try.f73.body.getD .skip
noncomputable def N_11 (_ : outs [.v (.slice .int), .v (.slice .int)]) (r : dens [.v .bool]) : Bool := r
noncomputable def E_12 : Entry where
 params := [.v (.slice (.slice .int)), .v (.slice .int)]
 results := [.v .int, .v .bool]
 B := Int × Bool
 run := fun a => spec_l8Find a.1 a.2
 out := fun b => ((), ())
 res := fun b => (b.1, b.2)
noncomputable def S_12L2 (n : Nat) : LoopSpec where
 sh := [(0, .v (.slice (.slice .int))), (1, .v (.slice .int)), (6, .v .int), (7, .v .int)]
 ex := [(.exit 0, [(0, .v (.slice (.slice .int))), (1, .v (.slice .int)), (6, .v .int)])]
 run := spec_l8Find_L2 n
noncomputable def C_12 : Cx where
 tt := tblTT tt
 T := tblT [(73, E_11), (210, E_10)]
 L := tblL [(2, S_12L2 fuel)]
 dep := fun i => 0
 n := 2
noncomputable def B_12L2 : Code := (Try.f189.body.bind (loopBody 2)).getD .skip
noncomputable def D_12 : Code := Try.f189.body.getD .skip
noncomputable def N_12 (_ : outs [.v (.slice (.slice .int)), .v (.slice .int)]) (r : dens [.v .int, .v .bool]) : Int × Bool := (r.1, r.2)
noncomputable def E_13 : Entry where
 params := [.v (.slice (.slice .int)), .v (.slice .int)]
 results := [.v (.slice (.slice .int))]
 B := (List (List Int))
 run := fun a => spec_l8Put a.1 a.2
 out := fun b => ((), ())
 res := fun b => b
noncomputable def C_13 : Cx where
 tt := tblTT tt
 T := tblT [(189, E_12)]
 L := tblL []
 dep := fun i => 0
 n := 2
noncomputable def D_13 : Code := Try.f143.body.getD .skip
noncomputable def N_13 (_ : outs [.v (.slice (.slice .int)), .v (.slice .int)]) (r : dens [.v (.slice (.slice .int))]) : (List (List Int)) := r
noncomputable def E_14 : Entry where
 params := [.bx (.v (.pair (.slice (.num .u8)) (.pair .int (.num .u64)))), .v .int]
 results := [.mv .int 0]
 B := ((List Int) × Int × Int) × (List Int)
 run := fun a => spec_l1Cur_partition13 a.1 a.2
 out := fun b => (b.1, ())
 res := fun b => b.2
noncomputable def S_14L3 (n : Nat) : LoopSpec where
 sh := [(0, .bx (.v (.pair (.slice (.num .u8)) (.pair .int (.num .u64))))), (1, .v .int), (5, .mv .int 0), (6, .v .int)]
 ex := [(.exit 0, [(0, .bx (.v (.pair (.slice (.num .u8)) (.pair .int (.num .u64))))), (5, .mv .int 0)])]
 run := spec_l1Cur_partition13_L3 n
noncomputable def C_14 : Cx where
 tt := tblTT tt
 T := tblT [(163, E_3)]
 L := tblL [(3, S_14L3 fuel)]
 dep := fun i => 0
 n := 2
noncomputable def B_14L3 : Code := (Try.f197.body.bind (loopBody 3)).getD .skip
noncomputable def D_14 : Code := Try.f197.body.getD .skip
noncomputable def N_14 (o : outs [.bx (.v (.pair (.slice (.num .u8)) (.pair .int (.num .u64)))), .v .int]) (r : dens [.mv .int 0]) : ((List Int) × Int × Int) × (List Int) := (o.1, r)
noncomputable def E_15 : Entry where
 params := [.v (.slice .int)]
 results := [.pr (.v .int) (.mv (.slice .int) 0)]
 B := (Int × (List (List Int)))
 run := fun a => spec_l13OfPartition a
 out := fun b => ()
 res := fun b => b
noncomputable def S_15L6 (n : Nat) : LoopSpec where
 sh := [(0, .v (.slice .int)), (2, .bx (.pr (.v .int) (.mv (.slice .int) 0))), (3, .bx (.pr (.v .int) (.mv (.slice .int) 0))), (4, .v .int), (5, .v .int)]
 ex := [(.exit 2, [(0, .v (.slice .int)), (2, .bx (.pr (.v .int) (.mv (.slice .int) 0))), (3, .bx (.pr (.v .int) (.mv (.slice .int) 0))), (4, .v .int)])]
 run := spec_l13OfPartition_L6 n
noncomputable def S_15L3 (n : Nat) : LoopSpec where
 sh := [(0, .v (.slice .int)), (2, .bx (.pr (.v .int) (.mv (.slice .int) 0))), (3, .bx (.pr (.v .int) (.mv (.slice .int) 0))), (4, .v .int)]
 ex := [(.exit 0, [(2, .bx (.pr (.v .int) (.mv (.slice .int) 0))), (3, .bx (.pr (.v .int) (.mv (.slice .int) 0)))])]
 run := spec_l13OfPartition_L3 n
noncomputable def C_15 : Cx where
 tt := tblTT tt
 T := tblT []
 L := tblL [(6, S_15L6 fuel), (3, S_15L3 fuel)]
 dep := fun i => 0
 n := 1
noncomputable def B_15L6 : Code := (Try.f196.body.bind (loopBody 6)).getD .skip
noncomputable def B_15L3 : Code := (Try.f196.body.bind (loopBody 3)).getD .skip
noncomputable def D_15 : Code := Try.f196.body.getD .skip
noncomputable def N_15 (_ : outs [.v (.slice .int)]) (r : dens [.pr (.v .int) (.mv (.slice .int) 0)]) : (Int × (List (List Int))) := r
noncomputable def E_16 : Entry where
 params := [.v .int, .v .int]
 results := [.v .int]
 B := Int
 run := fun a => spec_l2Pow a.1 a.2
 out := fun b => ((), ())
 res := fun b => b
noncomputable def S_16L2 (n : Nat) : LoopSpec where
 sh := [(0, .v .int), (1, .v .int), (5, .v .int)]
 ex := [(.exit 0, [(5, .v .int)])]
 run := spec_l2Pow_L2 n
noncomputable def C_16 : Cx where
 tt := tblTT tt
 T := tblT []
 L := tblL [(2, S_16L2 fuel)]
 dep := fun i => 0
 n := 2
noncomputable def B_16L2 : Code := (Try.f71.body.bind (loopBody 2)).getD .skip
noncomputable def D_16 : Code := Try.f71.body.getD .skip
noncomputable def N_16 (_ : outs [.v .int, .v .int]) (r : dens [.v .int]) : Int := r
noncomputable def E_17 : Entry where
 params := [.v .int, .v .int, .v .int]
 results := [.mv .int 0]
 B := (List Int)
 run := fun a => spec_l2Args a.1 a.2.1 a.2.2
 out := fun b => ((), (), ())
 res := fun b => b
noncomputable def S_17L3 (n : Nat) : LoopSpec where
 sh := [(0, .v .int), (2, .v .int), (7, .mv .int 0), (8, .v .int)]
 ex := [(.exit 0, [(7, .mv .int 0)])]
 run := spec_l2Args_L3 n
noncomputable def C_17 : Cx where
 tt := tblTT tt
 T := tblT []
 L := tblL [(3, S_17L3 fuel)]
 dep := fun i => 0
 n := 3
noncomputable def B_17L3 : Code := (Try.f72.body.bind (loopBody 3)).getD .skip
noncomputable def D_17 : Code := Try.f72.body.getD .skip
noncomputable def N_17 (_ : outs [.v .int, .v .int, .v .int]) (r : dens [.mv .int 0]) : (List Int) := r
noncomputable def E_18 : Entry where
 params := [.v .int, .v .int]
 results := [.pr (.v .int) (.mv (.slice .int) 0)]
 B := (Int × (List (List Int)))
 run := fun a => spec_l13Full a.1 a.2
 out := fun b => ((), ())
 res := fun b => b
noncomputable def S_18L3 (n : Nat) : LoopSpec where
 sh := [(0, .v .int), (1, .v .int), (4, .bx (.pr (.v .int) (.mv (.slice .int) 0))), (5, .bx (.pr (.v .int) (.mv (.slice .int) 0))), (6, .v .int)]
 ex := [(.exit 0, [(4, .bx (.pr (.v .int) (.mv (.slice .int) 0))), (5, .bx (.pr (.v .int) (.mv (.slice .int) 0)))])]
 run := spec_l13Full_L3 n
noncomputable def C_18 : Cx where
 tt := tblTT tt
 T := tblT [(71, E_16), (72, E_17)]
 L := tblL [(3, S_18L3 fuel)]
 dep := fun i => 0
 n := 2
noncomputable def B_18L3 : Code := (Try.f198.body.bind (loopBody 3)).getD .skip
noncomputable def D_18 : Code := Try.f198.body.getD .skip
noncomputable def N_18 (_ : outs [.v .int, .v .int]) (r : dens [.pr (.v .int) (.mv (.slice .int) 0)]) : (Int × (List (List Int))) := r
noncomputable def E_19 : Entry where
 params := [.mv (.slice .int) 0, .v (.slice .int)]
 results := [.mv (.slice .int) 0]
 B := (List (List Int))
 run := fun a => spec_l8Put_b a.1 a.2
 out := fun b => ((), ())
 res := fun b => b
noncomputable def C_19 : Cx where
 tt := tblTT tt
 T := tblT [(189, E_12)]
 L := tblL []
 dep := fun i => 0
 n := 2
 pre := fun i => match i with
  | 4 => [0]
  | _ => []
noncomputable def D_19 : Code := Try.f143.body.getD .skip
noncomputable def N_19 (_ : outs [.mv (.slice .int) 0, .v (.slice .int)]) (r : dens [.mv (.slice .int) 0]) : (List (List Int)) := r
noncomputable def E_20 : Entry where
 params := [.bx (.v (.pair (.slice (.num .u8)) (.pair .int (.num .u64)))), .v .int, .v .int]
 results := [.v (.pair .int (.slice (.slice .int)))]
 B := ((List Int) × Int × Int) × (Int × (List (List Int)))
 run := fun a => spec_l1Cur_relation a.1 a.2.1 a.2.2
 out := fun b => (b.1, (), ())
 res := fun b => b.2
noncomputable def S_20L9 (n : Nat) : LoopSpec where
 sh := [(0, .bx (.v (.pair (.slice (.num .u8)) (.pair .int (.num .u64))))), (1, .v .int), (2, .v .int), (6, .bx (.pr (.v .int) (.mv (.slice .int) 0))), (7, .bx (.pr (.v .int) (.mv (.slice .int) 0))), (8, .v .int), (9, .mv .int 0), (10, .v .int)]
 ex := [(.exit 2, [(0, .bx (.v (.pair (.slice (.num .u8)) (.pair .int (.num .u64))))), (1, .v .int), (2, .v .int), (6, .bx (.pr (.v .int) (.mv (.slice .int) 0))), (7, .bx (.pr (.v .int) (.mv (.slice .int) 0))), (8, .v .int), (9, .mv .int 0)])]
 run := spec_l1Cur_relation_L9 n
noncomputable def S_20L5 (n : Nat) : LoopSpec where
 sh := [(0, .bx (.v (.pair (.slice (.num .u8)) (.pair .int (.num .u64))))), (1, .v .int), (2, .v .int), (6, .bx (.pr (.v .int) (.mv (.slice .int) 0))), (7, .bx (.pr (.v .int) (.mv (.slice .int) 0))), (8, .v .int)]
 ex := [(.exit 0, [(0, .bx (.v (.pair (.slice (.num .u8)) (.pair .int (.num .u64))))), (1, .v .int), (2, .v .int), (6, .bx (.pr (.v .int) (.mv (.slice .int) 0))), (7, .bx (.pr (.v .int) (.mv (.slice .int) 0)))])]
 run := spec_l1Cur_relation_L5 n
noncomputable def C_20 : Cx where
 tt := tblTT tt
 T := tblT [(96, E_4), (97, E_7), (143, E_19), (159, E_8), (163, E_3), (195, E_9), (196, E_15), (197, E_14), (198, E_18)]
 L := tblL [(9, S_20L9 fuel), (5, S_20L5 fuel)]
 dep := fun i => 0
 n := 3
noncomputable def B_20L9 : Code := (Try.f161.body.bind (loopBody 9)).getD .skip
noncomputable def B_20L5 : Code := (Try.f161.body.bind (loopBody 5)).getD .skip
noncomputable def D_20 : Code := Try.f161.body.getD .skip
noncomputable def N_20 (o : outs [.bx (.v (.pair (.slice (.num .u8)) (.pair .int (.num .u64)))), .v .int, .v .int]) (r : dens [.v (.pair .int (.slice (.slice .int)))]) : ((List Int) × Int × Int) × (Int × (List (List Int))) := (o.1, r)
noncomputable def E_21 : Entry where
 params := [.bx (.v (.pair (.slice (.num .u8)) (.pair .int (.num .u64))))]
 results := [.v .int, .mv (.pair .int (.slice (.slice .int))) 0]
 B := ((List Int) × Int × Int) × Int × (List (Int × (List (List Int))))
 run := fun a => spec_l1Cur_template a
 out := fun b => b.1
 res := fun b => (b.2.1, b.2.2)
noncomputable def S_21L9 (n : Nat) : LoopSpec where
 sh := [(0, .bx (.v (.pair (.slice (.num .u8)) (.pair .int (.num .u64))))), (4, .v .int), (5, .mv (.pair .int (.slice (.slice .int))) 0), (6, .mv (.pair .int (.slice (.slice .int))) 0), (7, .v .int), (8, .bx (.pr (.v .int) (.mv (.slice .int) 0))), (9, .v .int)]
 ex := [(.exit 2, [(0, .bx (.v (.pair (.slice (.num .u8)) (.pair .int (.num .u64))))), (4, .v .int), (5, .mv (.pair .int (.slice (.slice .int))) 0), (6, .mv (.pair .int (.slice (.slice .int))) 0), (7, .v .int), (8, .bx (.pr (.v .int) (.mv (.slice .int) 0)))])]
 run := spec_l1Cur_template_L9 n
noncomputable def S_21L5 (n : Nat) : LoopSpec where
 sh := [(0, .bx (.v (.pair (.slice (.num .u8)) (.pair .int (.num .u64))))), (4, .v .int), (5, .mv (.pair .int (.slice (.slice .int))) 0), (6, .mv (.pair .int (.slice (.slice .int))) 0), (7, .v .int)]
 ex := [(.exit 0, [(0, .bx (.v (.pair (.slice (.num .u8)) (.pair .int (.num .u64))))), (4, .v .int), (6, .mv (.pair .int (.slice (.slice .int))) 0)])]
 run := spec_l1Cur_template_L5 n
noncomputable def S_21L17 (n : Nat) : LoopSpec where
 sh := [(0, .bx (.v (.pair (.slice (.num .u8)) (.pair .int (.num .u64))))), (10, .v .int), (11, .mv (.pair .int (.slice (.slice .int))) 0), (12, .v .int)]
 ex := [(.exit 4, [(0, .bx (.v (.pair (.slice (.num .u8)) (.pair .int (.num .u64))))), (10, .v .int), (11, .mv (.pair .int (.slice (.slice .int))) 0)])]
 run := spec_l1Cur_template_L17 n
noncomputable def C_21 : Cx where
 tt := tblTT tt
 T := tblT [(96, E_4), (97, E_7), (141, E_6), (161, E_20), (163, E_3), (190, E_5)]
 L := tblL [(9, S_21L9 fuel), (5, S_21L5 fuel), (17, S_21L17 fuel)]
 dep := fun i => 0
 n := 1
noncomputable def B_21L9 : Code := (Try.f144.body.bind (loopBody 9)).getD .skip
noncomputable def B_21L5 : Code := (Try.f144.body.bind (loopBody 5)).getD .skip
noncomputable def B_21L17 : Code := (Try.f144.body.bind (loopBody 17)).getD .skip
noncomputable def D_21 : Code := Try.f144.body.getD .skip
noncomputable def N_21 (o : outs [.bx (.v (.pair (.slice (.num .u8)) (.pair .int (.num .u64))))]) (r : dens [.v .int, .mv (.pair .int (.slice (.slice .int))) 0]) : ((List Int) × Int × Int) × Int × (List (Int × (List (List Int)))) := (o, r.1, r.2)
noncomputable def E_22 : Entry where
 params := [.bx (.v (.pair (.slice (.num .u8)) (.pair .int (.num .u64))))]
 results := [.v .int]
 B := ((List Int) × Int × Int) × Int
 run := fun a => spec_l1Cur_arity12 a
 out := fun b => b.1
 res := fun b => b.2
noncomputable def C_22 : Cx where
 tt := tblTT tt
 T := tblT [(97, E_7), (163, E_3)]
 L := tblL []
 dep := fun i => 0
 n := 1
noncomputable def D_22 : Code := Try.f145.body.getD .skip
noncomputable def N_22 (o : outs [.bx (.v (.pair (.slice (.num .u8)) (.pair .int (.num .u64))))]) (r : dens [.v .int]) : ((List Int) × Int × Int) × Int := (o, r)
noncomputable def E_23 : Entry where
 params := [.v (.slice (.num .u8))]
 results := [.v .int, .mv (.pair .int (.slice (.slice .int))) 0, .v .int]
 B := Int × (List (Int × (List (List Int)))) × Int
 run := fun a => spec_DrawPolymorphismsOf a
 out := fun b => ()
 res := fun b => (b.1, b.2.1, b.2.2)
noncomputable def C_23 : Cx where
 tt := tblTT tt
 T := tblT [(144, E_21), (145, E_22)]
 L := tblL []
 dep := fun i => 0
 n := 1
noncomputable def D_23 : Code := Try.f63.body.getD .skip
noncomputable def N_23 (_ : outs [.v (.slice (.num .u8))]) (r : dens [.v .int, .mv (.pair .int (.slice (.slice .int))) 0, .v .int]) : Int × (List (Int × (List (List Int)))) × Int := (r.1, r.2.1, r.2.2)
noncomputable def E_24 : Entry where
 params := [.v (.slice (.num .u8))]
 results := [.v .int, .mv (.pair .int (.slice (.slice .int))) 0, .v .int]
 B := Int × (List (Int × (List (List Int)))) × Int
 run := fun a => spec_DrawNetworkOfPolymorphisms a
 out := fun b => ()
 res := fun b => (b.1, b.2.1, b.2.2)
noncomputable def C_24 : Cx where
 tt := tblTT tt
 T := tblT [(63, E_23)]
 L := tblL []
 dep := fun i => 0
 n := 1
noncomputable def D_24 : Code := Try.f8.body.getD .skip
noncomputable def N_24 (_ : outs [.v (.slice (.num .u8))]) (r : dens [.v .int, .mv (.pair .int (.slice (.slice .int))) 0, .v .int]) : Int × (List (Int × (List (List Int)))) × Int := (r.1, r.2.1, r.2.2)
noncomputable def E_25 : Entry where
 params := [.v .int]
 results := [.v .bool]
 B := Bool
 run := fun a => impl_isTemplateSize a
 out := fun b => ()
 res := fun b => b
noncomputable def C_25 : Cx where
 tt := tblTT tt
 T := tblT []
 L := tblL []
 dep := fun i => 0
 n := 1
noncomputable def D_25 : Code := Try.f146.body.getD .skip
noncomputable def N_25 (_ : outs [.v .int]) (r : dens [.v .bool]) : Bool := r
noncomputable def E_26 : Entry where
 params := [.v (.slice .int), .v .int]
 results := [.v .bool]
 B := Bool
 run := fun a => impl_inSize a.1 a.2
 out := fun b => ((), ())
 res := fun b => b
noncomputable def S_26L2 (n : Nat) : LoopSpec where
 sh := [(1, .v .int), (7, .v (.slice .int)), (8, .v .int), (9, .v .int)]
 ex := [(.exit 0, []), (.ret, [(4, .v .bool)])]
 run := impl_inSize_L2 n
noncomputable def C_26 : Cx where
 tt := tblTT tt
 T := tblT []
 L := tblL [(2, S_26L2 fuel)]
 dep := fun i => 0
 n := 2
noncomputable def B_26L2 : Code := (Try.f94.body.bind (loopBody 2)).getD .skip
noncomputable def D_26 : Code := Try.f94.body.getD .skip
noncomputable def N_26 (_ : outs [.v (.slice .int), .v .int]) (r : dens [.v .bool]) : Bool := r
noncomputable def E_27 : Entry where
 params := [.v (.slice .int), .v (.slice .int)]
 results := [.v .int]
 B := Int
 run := fun a => impl_compareLists a.1 a.2
 out := fun b => ((), ())
 res := fun b => b
noncomputable def S_27L2 (n : Nat) : LoopSpec where
 sh := [(0, .v (.slice .int)), (1, .v (.slice .int)), (5, .v .int)]
 ex := [(.exit 0, [(0, .v (.slice .int)), (1, .v (.slice .int))]), (.ret, [(4, .v .int)])]
 run := impl_compareLists_L2 n
noncomputable def C_27 : Cx where
 tt := tblTT tt
 T := tblT []
 L := tblL [(2, S_27L2 fuel)]
 dep := fun i => 0
 n := 2
noncomputable def B_27L2 : Code := (Try.f140.body.bind (loopBody 2)).getD .skip
noncomputable def D_27 : Code := Try.f140.body.getD .skip
noncomputable def N_27 (_ : outs [.v (.slice .int), .v (.slice .int)]) (r : dens [.v .int]) : Int := r
noncomputable def E_28 : Entry where
 params := [.v .int, .v (.pair .int (.slice (.slice .int)))]
 results := [.v .bool]
 B := Bool
 run := fun a => impl_isRelation a.1 a.2
 out := fun b => ((), ())
 res := fun b => b
noncomputable def S_28L4 (n : Nat) : LoopSpec where
 sh := [(0, .v .int), (3, .bx (.v (.pair .int (.slice (.slice .int))))), (16, .v (.slice (.slice .int))), (17, .v .int), (18, .v .int)]
 ex := [(.exit 0, []), (.ret, [(4, .v .bool)])]
 run := impl_isRelation_L4 n
noncomputable def C_28 : Cx where
 tt := tblTT tt
 T := tblT [(94, E_26), (140, E_27)]
 L := tblL [(4, S_28L4 fuel)]
 dep := fun i => 0
 n := 2
noncomputable def B_28L4 : Code := (Try.f170.body.bind (loopBody 4)).getD .skip
noncomputable def D_28 : Code := Try.f170.body.getD .skip
noncomputable def N_28 (_ : outs [.v .int, .v (.pair .int (.slice (.slice .int)))]) (r : dens [.v .bool]) : Bool := r
noncomputable def E_29 : Entry where
 params := [.v .int, .v (.slice (.pair .int (.slice (.slice .int))))]
 results := [.v .bool]
 B := Bool
 run := fun a => impl_isTemplate a.1 a.2
 out := fun b => ((), ())
 res := fun b => b
noncomputable def S_29L4 (n : Nat) : LoopSpec where
 sh := [(0, .v .int), (10, .v (.slice (.pair .int (.slice (.slice .int))))), (11, .v .int), (12, .v .int)]
 ex := [(.exit 0, []), (.ret, [(4, .v .bool)])]
 run := impl_isTemplate_L4 n
noncomputable def C_29 : Cx where
 tt := tblTT tt
 T := tblT [(170, E_28)]
 L := tblL [(4, S_29L4 fuel)]
 dep := fun i => 0
 n := 2
noncomputable def B_29L4 : Code := (Try.f147.body.bind (loopBody 4)).getD .skip
noncomputable def D_29 : Code := Try.f147.body.getD .skip
noncomputable def N_29 (_ : outs [.v .int, .v (.slice (.pair .int (.slice (.slice .int))))]) (r : dens [.v .bool]) : Bool := r
noncomputable def E_30 : Entry where
 params := [.v .int, .v (.slice (.pair .int (.slice (.slice .int)))), .v .int]
 results := [.v .bool]
 B := Bool
 run := fun a => impl_canAsk a.1 a.2.1 a.2.2
 out := fun b => ((), (), ())
 res := fun b => b
noncomputable def S_30L4 (n : Nat) : LoopSpec where
 sh := [(2, .v .int), (18, .v (.slice (.pair .int (.slice (.slice .int))))), (19, .v .int), (20, .v .int)]
 ex := [(.exit 0, []), (.ret, [(6, .v .bool)])]
 run := impl_canAsk_L4 n
noncomputable def C_30 : Cx where
 tt := tblTT tt
 T := tblT [(146, E_25), (147, E_29)]
 L := tblL [(4, S_30L4 fuel)]
 dep := fun i => 0
 n := 3
noncomputable def B_30L4 : Code := (Try.f64.body.bind (loopBody 4)).getD .skip
noncomputable def D_30 : Code := Try.f64.body.getD .skip
noncomputable def N_30 (_ : outs [.v .int, .v (.slice (.pair .int (.slice (.slice .int)))), .v .int]) (r : dens [.v .bool]) : Bool := r
noncomputable def E_31 : Entry where
 params := [.v .int, .v .int]
 results := [.v .int]
 B := Int
 run := fun a => impl_power a.1 a.2
 out := fun b => ((), ())
 res := fun b => b
noncomputable def S_31L2 (n : Nat) : LoopSpec where
 sh := [(0, .v .int), (1, .v .int), (5, .v .int)]
 ex := [(.exit 0, [(5, .v .int)])]
 run := impl_power_L2 n
noncomputable def C_31 : Cx where
 tt := tblTT tt
 T := tblT []
 L := tblL [(2, S_31L2 fuel)]
 dep := fun i => 0
 n := 2
noncomputable def B_31L2 : Code := (Try.f66.body.bind (loopBody 2)).getD .skip
noncomputable def D_31 : Code := Try.f66.body.getD .skip
noncomputable def N_31 (_ : outs [.v .int, .v .int]) (r : dens [.v .int]) : Int := r
noncomputable def E_32 : Entry where
 params := [.v .int, .v .int]
 results := [.v .bool]
 B := Bool
 run := fun a => impl_isPolyRange a.1 a.2
 out := fun b => ((), ())
 res := fun b => b
noncomputable def C_32 : Cx where
 tt := tblTT tt
 T := tblT [(66, E_31)]
 L := tblL []
 dep := fun i => 0
 n := 2
noncomputable def D_32 : Code := Try.f65.body.getD .skip
noncomputable def N_32 (_ : outs [.v .int, .v .int]) (r : dens [.v .bool]) : Bool := r
noncomputable def E_33 : Entry where
 params := [.v (.slice .int)]
 results := [.mv .int 0]
 B := (List Int)
 run := fun a => impl_clone a
 out := fun b => ()
 res := fun b => b
noncomputable def C_33 : Cx where
 tt := tblTT tt
 T := tblT []
 L := tblL []
 dep := fun i => 0
 n := 1
noncomputable def D_33 : Code := Try.f84.body.getD .skip
noncomputable def N_33 (_ : outs [.v (.slice .int)]) (r : dens [.mv .int 0]) : (List Int) := r
noncomputable def E_34 : Entry where
 params := [.v (.slice (.slice .int))]
 results := [.mv (.slice .int) 1]
 B := (List (List Int))
 run := fun a => impl_cloneRows a
 out := fun b => ()
 res := fun b => b
noncomputable def S_34L3 (n : Nat) : LoopSpec where
 sh := [(3, .mv (.slice .int) 1), (7, .v (.slice (.slice .int))), (8, .v .int), (9, .v .int)]
 ex := [(.exit 0, [(3, .mv (.slice .int) 1)])]
 run := impl_cloneRows_L3 n
noncomputable def C_34 : Cx where
 tt := tblTT tt
 T := tblT [(84, E_33)]
 L := tblL [(3, S_34L3 fuel)]
 dep := fun i => match i with
  | 6 => 1
  | 16 => 1
  | 17 => 1
  | _ => 0
 n := 1
noncomputable def B_34L3 : Code := (Try.f148.body.bind (loopBody 3)).getD .skip
noncomputable def D_34 : Code := Try.f148.body.getD .skip
noncomputable def N_34 (_ : outs [.v (.slice (.slice .int))]) (r : dens [.mv (.slice .int) 1]) : (List (List Int)) := r
noncomputable def E_35 : Entry where
 params := [.v (.pair .int (.slice (.slice .int)))]
 results := [.pr (.v .int) (.mv (.slice .int) 1)]
 B := (Int × (List (List Int)))
 run := fun a => impl_cloneRelation a
 out := fun b => ()
 res := fun b => b
noncomputable def C_35 : Cx where
 tt := tblTT tt
 T := tblT [(148, E_34)]
 L := tblL []
 dep := fun i => 0
 n := 1
noncomputable def D_35 : Code := Try.f67.body.getD .skip
noncomputable def N_35 (_ : outs [.v (.pair .int (.slice (.slice .int)))]) (r : dens [.pr (.v .int) (.mv (.slice .int) 1)]) : (Int × (List (List Int))) := r
noncomputable def E_36 : Entry where
 params := [.v .int, .v .int, .v .int]
 results := [.mv .int 0]
 B := (List Int)
 run := fun a => impl_argsAt a.1 a.2.1 a.2.2
 out := fun b => ((), (), ())
 res := fun b => b
noncomputable def S_36L3 (n : Nat) : LoopSpec where
 sh := [(0, .v .int), (2, .v .int), (7, .mv .int 0), (8, .v .int)]
 ex := [(.exit 0, [(7, .mv .int 0)])]
 run := impl_argsAt_L3 n
noncomputable def C_36 : Cx where
 tt := tblTT tt
 T := tblT []
 L := tblL [(3, S_36L3 fuel)]
 dep := fun i => 0
 n := 3
noncomputable def B_36L3 : Code := (Try.f68.body.bind (loopBody 3)).getD .skip
noncomputable def D_36 : Code := Try.f68.body.getD .skip
noncomputable def N_36 (_ : outs [.v .int, .v .int, .v .int]) (r : dens [.mv .int 0]) : (List Int) := r
noncomputable def E_37 : Entry where
 params := [.v (.slice .int), .v (.slice .int)]
 results := [.v .bool]
 B := Bool
 run := fun a => impl_sameList a.1 a.2
 out := fun b => ((), ())
 res := fun b => b
noncomputable def S_37L4 (n : Nat) : LoopSpec where
 sh := [(1, .v (.slice .int)), (12, .v (.slice .int)), (13, .v .int), (14, .v .int)]
 ex := [(.exit 0, []), (.ret, [(4, .v .bool)])]
 run := impl_sameList_L4 n
noncomputable def C_37 : Cx where
 tt := tblTT tt
 T := tblT []
 L := tblL [(4, S_37L4 fuel)]
 dep := fun i => 0
 n := 2
noncomputable def B_37L4 : Code := (Try.f105.body.bind (loopBody 4)).getD .skip
noncomputable def D_37 : Code := Try.f105.body.getD .skip
noncomputable def N_37 (_ : outs [.v (.slice .int), .v (.slice .int)]) (r : dens [.v .bool]) : Bool := r
noncomputable def E_38 : Entry where
 params := [.v (.pair .int (.slice (.slice .int))), .v (.pair .int (.slice (.slice .int)))]
 results := [.v .bool]
 B := Bool
 run := fun a => impl_sameRelation a.1 a.2
 out := fun b => ((), ())
 res := fun b => b
noncomputable def S_38L4 (n : Nat) : LoopSpec where
 sh := [(3, .bx (.v (.pair .int (.slice (.slice .int))))), (22, .v (.slice (.slice .int))), (23, .v .int), (24, .v .int)]
 ex := [(.exit 0, []), (.ret, [(4, .v .bool)])]
 run := impl_sameRelation_L4 n
noncomputable def C_38 : Cx where
 tt := tblTT tt
 T := tblT [(105, E_37)]
 L := tblL [(4, S_38L4 fuel)]
 dep := fun i => 0
 n := 2
noncomputable def B_38L4 : Code := (Try.f149.body.bind (loopBody 4)).getD .skip
noncomputable def D_38 : Code := Try.f149.body.getD .skip
noncomputable def N_38 (_ : outs [.v (.pair .int (.slice (.slice .int))), .v (.pair .int (.slice (.slice .int)))]) (r : dens [.v .bool]) : Bool := r
noncomputable def E_39 : Entry where
 params := [.v (.slice (.pair (.slice .int) (.pair .int (.slice (.slice .int))))), .v (.pair (.slice .int) (.pair .int (.slice (.slice .int))))]
 results := [.v .bool]
 B := Bool
 run := fun a => impl_hasConstraint a.1 a.2
 out := fun b => ((), ())
 res := fun b => b
noncomputable def S_39L2 (n : Nat) : LoopSpec where
 sh := [(3, .bx (.v (.pair (.slice .int) (.pair .int (.slice (.slice .int)))))), (7, .v (.slice (.pair (.slice .int) (.pair .int (.slice (.slice .int)))))), (8, .v .int), (9, .v .int)]
 ex := [(.exit 0, []), (.ret, [(4, .v .bool)])]
 run := impl_hasConstraint_L2 n
noncomputable def C_39 : Cx where
 tt := tblTT tt
 T := tblT [(105, E_37), (149, E_38)]
 L := tblL [(2, S_39L2 fuel)]
 dep := fun i => 0
 n := 2
noncomputable def B_39L2 : Code := (Try.f69.body.bind (loopBody 2)).getD .skip
noncomputable def D_39 : Code := Try.f69.body.getD .skip
noncomputable def N_39 (_ : outs [.v (.slice (.pair (.slice .int) (.pair .int (.slice (.slice .int))))), .v (.pair (.slice .int) (.pair .int (.slice (.slice .int))))]) (r : dens [.v .bool]) : Bool := r
noncomputable def E_40 : Entry where
 params := [.v .int, .v (.slice (.pair .int (.slice (.slice .int)))), .v .int]
 results := [.v (.pair .int (.pair .int (.slice (.pair (.slice .int) (.pair .int (.slice (.slice .int))))))), .v .bool]
 B := (Int × Int × (List ((List Int) × Int × (List (List Int))))) × Bool
 run := fun a => impl_NetworkOfPolymorphisms a.1 a.2.1 a.2.2
 out := fun b => ((), (), ())
 res := fun b => (b.1, b.2)
noncomputable def S_40L15 (n : Nat) : LoopSpec where
 sh := [(0, .v .int), (2, .v .int), (6, .bx (.pr (.v .int) (.pr (.v .int) (.mv (.pair (.slice .int) (.pair .int (.slice (.slice .int)))) 2)))), (8, .bx (.pr (.v .int) (.pr (.v .int) (.mv (.pair (.slice .int) (.pair .int (.slice (.slice .int)))) 2)))), (10, .bx (.v (.pair .int (.slice (.slice .int))))), (11, .v .int), (12, .bx (.pr (.mv .int 0) (.pr (.v .int) (.mv (.slice .int) 1)))), (14, .v .int), (33, .v (.slice (.pair .int (.slice (.slice .int))))), (34, .v .int), (35, .v .int), (59, .mv .int 0), (60, .v .int), (61, .v .int), (67, .v .int), (68, .v .int)]
 ex := [(.exit 6, [(0, .v .int), (2, .v .int), (6, .bx (.pr (.v .int) (.pr (.v .int) (.mv (.pair (.slice .int) (.pair .int (.slice (.slice .int)))) 2)))), (8, .bx (.pr (.v .int) (.pr (.v .int) (.mv (.pair (.slice .int) (.pair .int (.slice (.slice .int)))) 2)))), (10, .bx (.v (.pair .int (.slice (.slice .int))))), (11, .v .int), (12, .bx (.pr (.mv .int 0) (.pr (.v .int) (.mv (.slice .int) 1)))), (33, .v (.slice (.pair .int (.slice (.slice .int))))), (34, .v .int), (35, .v .int), (59, .mv .int 0), (60, .v .int), (61, .v .int)])]
 run := impl_NetworkOfPolymorphisms_L15 n
noncomputable def S_40L12 (n : Nat) : LoopSpec where
 sh := [(0, .v .int), (2, .v .int), (6, .bx (.pr (.v .int) (.pr (.v .int) (.mv (.pair (.slice .int) (.pair .int (.slice (.slice .int)))) 2)))), (8, .bx (.pr (.v .int) (.pr (.v .int) (.mv (.pair (.slice .int) (.pair .int (.slice (.slice .int)))) 2)))), (10, .bx (.v (.pair .int (.slice (.slice .int))))), (11, .v .int), (12, .bx (.pr (.mv .int 0) (.pr (.v .int) (.mv (.slice .int) 1)))), (33, .v (.slice (.pair .int (.slice (.slice .int))))), (34, .v .int), (35, .v .int), (59, .mv .int 0), (60, .v .int), (61, .v .int)]
 ex := [(.exit 4, [(0, .v .int), (2, .v .int), (6, .bx (.pr (.v .int) (.pr (.v .int) (.mv (.pair (.slice .int) (.pair .int (.slice (.slice .int)))) 2)))), (8, .bx (.pr (.v .int) (.pr (.v .int) (.mv (.pair (.slice .int) (.pair .int (.slice (.slice .int)))) 2)))), (10, .bx (.v (.pair .int (.slice (.slice .int))))), (11, .v .int), (12, .bx (.pr (.mv .int 0) (.pr (.v .int) (.mv (.slice .int) 1)))), (33, .v (.slice (.pair .int (.slice (.slice .int))))), (34, .v .int), (35, .v .int)])]
 run := impl_NetworkOfPolymorphisms_L12 n
noncomputable def S_40L8 (n : Nat) : LoopSpec where
 sh := [(0, .v .int), (2, .v .int), (6, .bx (.pr (.v .int) (.pr (.v .int) (.mv (.pair (.slice .int) (.pair .int (.slice (.slice .int)))) 2)))), (8, .bx (.pr (.v .int) (.pr (.v .int) (.mv (.pair (.slice .int) (.pair .int (.slice (.slice .int)))) 2)))), (10, .bx (.v (.pair .int (.slice (.slice .int))))), (11, .v .int), (33, .v (.slice (.pair .int (.slice (.slice .int))))), (34, .v .int), (35, .v .int)]
 ex := [(.exit 2, [(0, .v .int), (2, .v .int), (6, .bx (.pr (.v .int) (.pr (.v .int) (.mv (.pair (.slice .int) (.pair .int (.slice (.slice .int)))) 2)))), (8, .bx (.pr (.v .int) (.pr (.v .int) (.mv (.pair (.slice .int) (.pair .int (.slice (.slice .int)))) 2)))), (33, .v (.slice (.pair .int (.slice (.slice .int))))), (34, .v .int), (35, .v .int)]), (.ret, [(6, .bx (.v (.pair .int (.pair .int (.slice (.pair (.slice .int) (.pair .int (.slice (.slice .int))))))))), (7, .v .bool)])]
 run := impl_NetworkOfPolymorphisms_L8 n
noncomputable def S_40L5 (n : Nat) : LoopSpec where
 sh := [(0, .v .int), (2, .v .int), (6, .bx (.pr (.v .int) (.pr (.v .int) (.mv (.pair (.slice .int) (.pair .int (.slice (.slice .int)))) 2)))), (8, .bx (.pr (.v .int) (.pr (.v .int) (.mv (.pair (.slice .int) (.pair .int (.slice (.slice .int)))) 2)))), (33, .v (.slice (.pair .int (.slice (.slice .int))))), (34, .v .int), (35, .v .int)]
 ex := [(.exit 0, [(6, .bx (.pr (.v .int) (.pr (.v .int) (.mv (.pair (.slice .int) (.pair .int (.slice (.slice .int)))) 2)))), (8, .bx (.pr (.v .int) (.pr (.v .int) (.mv (.pair (.slice .int) (.pair .int (.slice (.slice .int)))) 2))))]), (.ret, [(6, .bx (.v (.pair .int (.pair .int (.slice (.pair (.slice .int) (.pair .int (.slice (.slice .int))))))))), (7, .v .bool)])]
 run := impl_NetworkOfPolymorphisms_L5 n
noncomputable def C_40 : Cx where
 tt := tblTT tt
 T := tblT [(64, E_30), (65, E_32), (66, E_31), (67, E_35), (68, E_36), (69, E_39)]
 L := tblL [(15, S_40L15 fuel), (12, S_40L12 fuel), (8, S_40L8 fuel), (5, S_40L5 fuel)]
 dep := fun i => match i with
  | 105 => 2
  | 106 => 2
  | _ => 0
 n := 3
noncomputable def B_40L15 : Code := (Try.f9.body.bind (loopBody 15)).getD .skip
noncomputable def B_40L12 : Code := (Try.f9.body.bind (loopBody 12)).getD .skip
noncomputable def B_40L8 : Code := (Try.f9.body.bind (loopBody 8)).getD .skip
noncomputable def B_40L5 : Code := (Try.f9.body.bind (loopBody 5)).getD .skip
noncomputable def D_40 : Code := Try.f9.body.getD .skip
noncomputable def N_40 (_ : outs [.v .int, .v (.slice (.pair .int (.slice (.slice .int)))), .v .int]) (r : dens [.v (.pair .int (.pair .int (.slice (.pair (.slice .int) (.pair .int (.slice (.slice .int))))))), .v .bool]) : (Int × Int × (List ((List Int) × Int × (List (List Int))))) × Bool := (r.1, r.2)
noncomputable def E_41 : Entry where
 params := [.v .int]
 results := [.v .bool]
 B := Bool
 run := fun a => spec_l14Size a
 out := fun b => ()
 res := fun b => b
noncomputable def C_41 : Cx where
 tt := tblTT tt
 T := tblT [(159, E_8)]
 L := tblL []
 dep := fun i => 0
 n := 1
noncomputable def D_41 : Code := Try.f191.body.getD .skip
noncomputable def N_41 (_ : outs [.v .int]) (r : dens [.v .bool]) : Bool := r
noncomputable def E_42 : Entry where
 params := [.v .int, .v (.slice .int)]
 results := [.v .bool]
 B := Bool
 run := fun a => spec_l2Elements a.1 a.2
 out := fun b => ((), ())
 res := fun b => b
noncomputable def S_42L2 (n : Nat) : LoopSpec where
 sh := [(0, .v .int), (1, .v (.slice .int)), (5, .v .int)]
 ex := [(.exit 0, []), (.ret, [(4, .v .bool)])]
 run := spec_l2Elements_L2 n
noncomputable def C_42 : Cx where
 tt := tblTT tt
 T := tblT [(159, E_8)]
 L := tblL [(2, S_42L2 fuel)]
 dep := fun i => 0
 n := 2
noncomputable def B_42L2 : Code := (Try.f167.body.bind (loopBody 2)).getD .skip
noncomputable def D_42 : Code := Try.f167.body.getD .skip
noncomputable def N_42 (_ : outs [.v .int, .v (.slice .int)]) (r : dens [.v .bool]) : Bool := r
noncomputable def E_43 : Entry where
 params := [.v .int, .v .int, .v (.slice .int)]
 results := [.v .bool]
 B := Bool
 run := fun a => spec_l8Tuple a.1 a.2.1 a.2.2
 out := fun b => ((), (), ())
 res := fun b => b
noncomputable def C_43 : Cx where
 tt := tblTT tt
 T := tblT [(167, E_42)]
 L := tblL []
 dep := fun i => 0
 n := 3
noncomputable def D_43 : Code := Try.f204.body.getD .skip
noncomputable def N_43 (_ : outs [.v .int, .v .int, .v (.slice .int)]) (r : dens [.v .bool]) : Bool := r
noncomputable def E_44 : Entry where
 params := [.v .int, .v (.pair .int (.slice (.slice .int)))]
 results := [.v .bool]
 B := Bool
 run := fun a => spec_l13Good a.1 a.2
 out := fun b => ((), ())
 res := fun b => b
noncomputable def S_44L4 (n : Nat) : LoopSpec where
 sh := [(0, .v .int), (3, .bx (.v (.pair .int (.slice (.slice .int))))), (5, .v .int)]
 ex := [(.exit 0, []), (.ret, [(4, .v .bool)])]
 run := spec_l13Good_L4 n
noncomputable def C_44 : Cx where
 tt := tblTT tt
 T := tblT [(71, E_16), (159, E_8), (204, E_43), (210, E_10)]
 L := tblL [(4, S_44L4 fuel)]
 dep := fun i => 0
 n := 2
noncomputable def B_44L4 : Code := (Try.f194.body.bind (loopBody 4)).getD .skip
noncomputable def D_44 : Code := Try.f194.body.getD .skip
noncomputable def N_44 (_ : outs [.v .int, .v (.pair .int (.slice (.slice .int)))]) (r : dens [.v .bool]) : Bool := r
noncomputable def E_45 : Entry where
 params := [.v .int, .v (.slice (.pair .int (.slice (.slice .int))))]
 results := [.v .bool]
 B := Bool
 run := fun a => spec_l14Rels a.1 a.2
 out := fun b => ((), ())
 res := fun b => b
noncomputable def S_45L4 (n : Nat) : LoopSpec where
 sh := [(0, .v .int), (1, .v (.slice (.pair .int (.slice (.slice .int))))), (5, .v .int)]
 ex := [(.exit 0, []), (.ret, [(4, .v .bool)])]
 run := spec_l14Rels_L4 n
noncomputable def C_45 : Cx where
 tt := tblTT tt
 T := tblT [(194, E_44)]
 L := tblL [(4, S_45L4 fuel)]
 dep := fun i => 0
 n := 2
noncomputable def B_45L4 : Code := (Try.f192.body.bind (loopBody 4)).getD .skip
noncomputable def D_45 : Code := Try.f192.body.getD .skip
noncomputable def N_45 (_ : outs [.v .int, .v (.slice (.pair .int (.slice (.slice .int))))]) (r : dens [.v .bool]) : Bool := r
noncomputable def E_46 : Entry where
 params := [.v .int, .v (.slice (.pair .int (.slice (.slice .int)))), .v .int]
 results := [.v .bool]
 B := Bool
 run := fun a => spec_l14Takes a.1 a.2.1 a.2.2
 out := fun b => ((), (), ())
 res := fun b => b
noncomputable def S_46L4 (n : Nat) : LoopSpec where
 sh := [(1, .v (.slice (.pair .int (.slice (.slice .int))))), (2, .v .int), (7, .v .int)]
 ex := [(.exit 0, []), (.ret, [(6, .v .bool)])]
 run := spec_l14Takes_L4 n
noncomputable def C_46 : Cx where
 tt := tblTT tt
 T := tblT [(159, E_8), (191, E_41), (192, E_45)]
 L := tblL [(4, S_46L4 fuel)]
 dep := fun i => 0
 n := 3
noncomputable def B_46L4 : Code := (Try.f150.body.bind (loopBody 4)).getD .skip
noncomputable def D_46 : Code := Try.f150.body.getD .skip
noncomputable def N_46 (_ : outs [.v .int, .v (.slice (.pair .int (.slice (.slice .int)))), .v .int]) (r : dens [.v .bool]) : Bool := r
noncomputable def E_47 : Entry where
 params := [.v .int, .v (.slice (.pair .int (.slice (.slice .int)))), .v .int]
 results := [.v .bool]
 B := Bool
 run := fun a => spec_l14Small a.1 a.2.1 a.2.2
 out := fun b => ((), (), ())
 res := fun b => b
noncomputable def C_47 : Cx where
 tt := tblTT tt
 T := tblT [(71, E_16), (150, E_46)]
 L := tblL []
 dep := fun i => 0
 n := 3
noncomputable def D_47 : Code := Try.f70.body.getD .skip
noncomputable def N_47 (_ : outs [.v .int, .v (.slice (.pair .int (.slice (.slice .int)))), .v .int]) (r : dens [.v .bool]) : Bool := r
noncomputable def E_48 : Entry where
 params := [.v (.pair .int (.slice (.slice .int))), .v (.pair .int (.slice (.slice .int)))]
 results := [.v .bool]
 B := Bool
 run := fun a => spec_l19SameRel a.1 a.2
 out := fun b => ((), ())
 res := fun b => b
noncomputable def S_48L4 (n : Nat) : LoopSpec where
 sh := [(2, .bx (.v (.pair .int (.slice (.slice .int))))), (3, .bx (.v (.pair .int (.slice (.slice .int))))), (5, .v .int)]
 ex := [(.exit 0, []), (.ret, [(4, .v .bool)])]
 run := spec_l19SameRel_L4 n
noncomputable def C_48 : Cx where
 tt := tblTT tt
 T := tblT [(73, E_11)]
 L := tblL [(4, S_48L4 fuel)]
 dep := fun i => 0
 n := 2
noncomputable def B_48L4 : Code := (Try.f74.body.bind (loopBody 4)).getD .skip
noncomputable def D_48 : Code := Try.f74.body.getD .skip
noncomputable def N_48 (_ : outs [.v (.pair .int (.slice (.slice .int))), .v (.pair .int (.slice (.slice .int)))]) (r : dens [.v .bool]) : Bool := r
noncomputable def E_49 : Entry where
 params := [.v (.slice (.pair (.slice .int) (.pair .int (.slice (.slice .int)))))]
 results := [.mv (.pair (.slice .int) (.pair .int (.slice (.slice .int)))) 0]
 B := (List ((List Int) × Int × (List (List Int))))
 run := fun a => spec_l19Copy a
 out := fun b => ()
 res := fun b => b
noncomputable def S_49L7 (n : Nat) : LoopSpec where
 sh := [(0, .v (.slice (.pair (.slice .int) (.pair .int (.slice (.slice .int)))))), (3, .mv (.pair (.slice .int) (.pair .int (.slice (.slice .int)))) 0), (4, .v .int), (5, .bx (.pr (.mv .int 0) (.pr (.v .int) (.mv (.slice .int) 0)))), (6, .v .int)]
 ex := [(.exit 2, [(0, .v (.slice (.pair (.slice .int) (.pair .int (.slice (.slice .int)))))), (3, .mv (.pair (.slice .int) (.pair .int (.slice (.slice .int)))) 0), (4, .v .int), (5, .bx (.pr (.mv .int 0) (.pr (.v .int) (.mv (.slice .int) 0))))])]
 run := spec_l19Copy_L7 n
noncomputable def S_49L3 (n : Nat) : LoopSpec where
 sh := [(0, .v (.slice (.pair (.slice .int) (.pair .int (.slice (.slice .int)))))), (3, .mv (.pair (.slice .int) (.pair .int (.slice (.slice .int)))) 0), (4, .v .int)]
 ex := [(.exit 0, [(3, .mv (.pair (.slice .int) (.pair .int (.slice (.slice .int)))) 0)])]
 run := spec_l19Copy_L3 n
noncomputable def C_49 : Cx where
 tt := tblTT tt
 T := tblT [(141, E_6)]
 L := tblL [(7, S_49L7 fuel), (3, S_49L3 fuel)]
 dep := fun i => 0
 n := 1
noncomputable def B_49L7 : Code := (Try.f75.body.bind (loopBody 7)).getD .skip
noncomputable def B_49L3 : Code := (Try.f75.body.bind (loopBody 3)).getD .skip
noncomputable def D_49 : Code := Try.f75.body.getD .skip
noncomputable def N_49 (_ : outs [.v (.slice (.pair (.slice .int) (.pair .int (.slice (.slice .int)))))]) (r : dens [.mv (.pair (.slice .int) (.pair .int (.slice (.slice .int)))) 0]) : (List ((List Int) × Int × (List (List Int)))) := r
noncomputable def E_50 : Entry where
 params := [.v .int, .v (.slice (.pair .int (.slice (.slice .int)))), .v .int]
 results := [.v (.pair .int (.pair .int (.slice (.pair (.slice .int) (.pair .int (.slice (.slice .int))))))), .v .bool]
 B := (Int × Int × (List ((List Int) × Int × (List (List Int))))) × Bool
 run := fun a => spec_NetworkOfPolymorphisms a.1 a.2.1 a.2.2
 out := fun b => ((), (), ())
 res := fun b => (b.1, b.2)
noncomputable def S_50L18 (n : Nat) : LoopSpec where
 sh := [(0, .v .int), (1, .v (.slice (.pair .int (.slice (.slice .int))))), (2, .v .int), (6, .bx (.pr (.v .int) (.pr (.v .int) (.mv (.pair (.slice .int) (.pair .int (.slice (.slice .int)))) 0)))), (8, .bx (.pr (.v .int) (.pr (.v .int) (.mv (.pair (.slice .int) (.pair .int (.slice (.slice .int)))) 0)))), (9, .v .int), (10, .v .int), (11, .v .int), (12, .mv .int 0), (13, .mv .int 0), (14, .v .int), (15, .v .int), (16, .v .int)]
 ex := [(.exit 6, [(0, .v .int), (1, .v (.slice (.pair .int (.slice (.slice .int))))), (2, .v .int), (6, .bx (.pr (.v .int) (.pr (.v .int) (.mv (.pair (.slice .int) (.pair .int (.slice (.slice .int)))) 0)))), (8, .bx (.pr (.v .int) (.pr (.v .int) (.mv (.pair (.slice .int) (.pair .int (.slice (.slice .int)))) 0)))), (9, .v .int), (10, .v .int), (11, .v .int), (12, .mv .int 0), (13, .mv .int 0), (14, .v .int), (15, .v .int)])]
 run := spec_NetworkOfPolymorphisms_L18 n
noncomputable def S_50L14 (n : Nat) : LoopSpec where
 sh := [(0, .v .int), (1, .v (.slice (.pair .int (.slice (.slice .int))))), (2, .v .int), (6, .bx (.pr (.v .int) (.pr (.v .int) (.mv (.pair (.slice .int) (.pair .int (.slice (.slice .int)))) 0)))), (8, .bx (.pr (.v .int) (.pr (.v .int) (.mv (.pair (.slice .int) (.pair .int (.slice (.slice .int)))) 0)))), (9, .v .int), (10, .v .int), (11, .v .int), (12, .mv .int 0), (13, .mv .int 0), (14, .v .int)]
 ex := [(.exit 4, [(0, .v .int), (1, .v (.slice (.pair .int (.slice (.slice .int))))), (2, .v .int), (6, .bx (.pr (.v .int) (.pr (.v .int) (.mv (.pair (.slice .int) (.pair .int (.slice (.slice .int)))) 0)))), (8, .bx (.pr (.v .int) (.pr (.v .int) (.mv (.pair (.slice .int) (.pair .int (.slice (.slice .int)))) 0)))), (9, .v .int), (10, .v .int), (11, .v .int), (13, .mv .int 0)])]
 run := spec_NetworkOfPolymorphisms_L14 n
noncomputable def S_50L24 (n : Nat) : LoopSpec where
 sh := [(0, .v .int), (1, .v (.slice (.pair .int (.slice (.slice .int))))), (2, .v .int), (6, .bx (.pr (.v .int) (.pr (.v .int) (.mv (.pair (.slice .int) (.pair .int (.slice (.slice .int)))) 0)))), (8, .bx (.pr (.v .int) (.pr (.v .int) (.mv (.pair (.slice .int) (.pair .int (.slice (.slice .int)))) 0)))), (9, .v .int), (10, .v .int), (11, .v .int), (13, .mv .int 0), (17, .v .bool), (18, .v .int)]
 ex := [(.exit 8, [(0, .v .int), (1, .v (.slice (.pair .int (.slice (.slice .int))))), (2, .v .int), (6, .bx (.pr (.v .int) (.pr (.v .int) (.mv (.pair (.slice .int) (.pair .int (.slice (.slice .int)))) 0)))), (8, .bx (.pr (.v .int) (.pr (.v .int) (.mv (.pair (.slice .int) (.pair .int (.slice (.slice .int)))) 0)))), (9, .v .int), (10, .v .int), (11, .v .int), (13, .mv .int 0), (17, .v .bool)])]
 run := spec_NetworkOfPolymorphisms_L24 n
noncomputable def S_50L9 (n : Nat) : LoopSpec where
 sh := [(0, .v .int), (1, .v (.slice (.pair .int (.slice (.slice .int))))), (2, .v .int), (6, .bx (.pr (.v .int) (.pr (.v .int) (.mv (.pair (.slice .int) (.pair .int (.slice (.slice .int)))) 0)))), (8, .bx (.pr (.v .int) (.pr (.v .int) (.mv (.pair (.slice .int) (.pair .int (.slice (.slice .int)))) 0)))), (9, .v .int), (10, .v .int), (11, .v .int)]
 ex := [(.exit 2, [(0, .v .int), (1, .v (.slice (.pair .int (.slice (.slice .int))))), (2, .v .int), (6, .bx (.pr (.v .int) (.pr (.v .int) (.mv (.pair (.slice .int) (.pair .int (.slice (.slice .int)))) 0)))), (8, .bx (.pr (.v .int) (.pr (.v .int) (.mv (.pair (.slice .int) (.pair .int (.slice (.slice .int)))) 0)))), (9, .v .int)]), (.ret, [(6, .bx (.v (.pair .int (.pair .int (.slice (.pair (.slice .int) (.pair .int (.slice (.slice .int))))))))), (7, .v .bool)])]
 run := spec_NetworkOfPolymorphisms_L9 n
noncomputable def S_50L5 (n : Nat) : LoopSpec where
 sh := [(0, .v .int), (1, .v (.slice (.pair .int (.slice (.slice .int))))), (2, .v .int), (6, .bx (.pr (.v .int) (.pr (.v .int) (.mv (.pair (.slice .int) (.pair .int (.slice (.slice .int)))) 0)))), (8, .bx (.pr (.v .int) (.pr (.v .int) (.mv (.pair (.slice .int) (.pair .int (.slice (.slice .int)))) 0)))), (9, .v .int)]
 ex := [(.exit 0, [(6, .bx (.pr (.v .int) (.pr (.v .int) (.mv (.pair (.slice .int) (.pair .int (.slice (.slice .int)))) 0)))), (8, .bx (.pr (.v .int) (.pr (.v .int) (.mv (.pair (.slice .int) (.pair .int (.slice (.slice .int)))) 0))))]), (.ret, [(6, .bx (.v (.pair .int (.pair .int (.slice (.pair (.slice .int) (.pair .int (.slice (.slice .int))))))))), (7, .v .bool)])]
 run := spec_NetworkOfPolymorphisms_L5 n
noncomputable def C_50 : Cx where
 tt := tblTT tt
 T := tblT [(70, E_47), (71, E_16), (72, E_17), (73, E_11), (74, E_48), (75, E_49)]
 L := tblL [(18, S_50L18 fuel), (14, S_50L14 fuel), (24, S_50L24 fuel), (9, S_50L9 fuel), (5, S_50L5 fuel)]
 dep := fun i => 0
 n := 3
noncomputable def B_50L18 : Code := (Try.f10.body.bind (loopBody 18)).getD .skip
noncomputable def B_50L14 : Code := (Try.f10.body.bind (loopBody 14)).getD .skip
noncomputable def B_50L24 : Code := (Try.f10.body.bind (loopBody 24)).getD .skip
noncomputable def B_50L9 : Code := (Try.f10.body.bind (loopBody 9)).getD .skip
noncomputable def B_50L5 : Code := (Try.f10.body.bind (loopBody 5)).getD .skip
noncomputable def D_50 : Code := Try.f10.body.getD .skip
noncomputable def N_50 (_ : outs [.v .int, .v (.slice (.pair .int (.slice (.slice .int)))), .v .int]) (r : dens [.v (.pair .int (.pair .int (.slice (.pair (.slice .int) (.pair .int (.slice (.slice .int))))))), .v .bool]) : (Int × Int × (List ((List Int) × Int × (List (List Int))))) × Bool := (r.1, r.2)
noncomputable def E_51 : Entry where
 params := [.v (.slice .int), .v (.slice .int)]
 results := [.v .bool]
 B := Bool
 run := fun a => laws_rInts a.1 a.2
 out := fun b => ((), ())
 res := fun b => b
noncomputable def S_51L4 (n : Nat) : LoopSpec where
 sh := [(0, .v (.slice .int)), (1, .v (.slice .int)), (5, .v .int)]
 ex := [(.exit 0, []), (.ret, [(4, .v .bool)])]
 run := laws_rInts_L4 n
noncomputable def C_51 : Cx where
 tt := tblTT tt
 T := tblT []
 L := tblL [(4, S_51L4 fuel)]
 dep := fun i => 0
 n := 2
noncomputable def B_51L4 : Code := (Try.f11.body.bind (loopBody 4)).getD .skip
noncomputable def D_51 : Code := Try.f11.body.getD .skip
noncomputable def N_51 (_ : outs [.v (.slice .int), .v (.slice .int)]) (r : dens [.v .bool]) : Bool := r
noncomputable def E_52 : Entry where
 params := [.v (.slice (.slice .int)), .v (.slice (.slice .int))]
 results := [.v .bool]
 B := Bool
 run := fun a => laws_rTable a.1 a.2
 out := fun b => ((), ())
 res := fun b => b
noncomputable def S_52L4 (n : Nat) : LoopSpec where
 sh := [(0, .v (.slice (.slice .int))), (1, .v (.slice (.slice .int))), (5, .v .int)]
 ex := [(.exit 0, []), (.ret, [(4, .v .bool)])]
 run := laws_rTable_L4 n
noncomputable def C_52 : Cx where
 tt := tblTT tt
 T := tblT [(11, E_51)]
 L := tblL [(4, S_52L4 fuel)]
 dep := fun i => 0
 n := 2
noncomputable def B_52L4 : Code := (Try.f12.body.bind (loopBody 4)).getD .skip
noncomputable def D_52 : Code := Try.f12.body.getD .skip
noncomputable def N_52 (_ : outs [.v (.slice (.slice .int)), .v (.slice (.slice .int))]) (r : dens [.v .bool]) : Bool := r
noncomputable def E_53 : Entry where
 params := [.v .int, .v .int, .v (.pair (.slice .int) (.pair .int (.slice (.slice .int))))]
 results := [.v .bool]
 B := Bool
 run := fun a => impl_isConstraint a.1 a.2.1 a.2.2
 out := fun b => ((), (), ())
 res := fun b => b
noncomputable def C_53 : Cx where
 tt := tblTT tt
 T := tblT [(94, E_26), (170, E_28)]
 L := tblL []
 dep := fun i => 0
 n := 3
noncomputable def D_53 : Code := Try.f151.body.getD .skip
noncomputable def N_53 (_ : outs [.v .int, .v .int, .v (.pair (.slice .int) (.pair .int (.slice (.slice .int))))]) (r : dens [.v .bool]) : Bool := r
noncomputable def E_54 : Entry where
 params := [.v (.pair .int (.pair .int (.slice (.pair (.slice .int) (.pair .int (.slice (.slice .int)))))))]
 results := [.v .bool]
 B := Bool
 run := fun a => impl_IsNetwork a
 out := fun b => ()
 res := fun b => b
noncomputable def S_54L4 (n : Nat) : LoopSpec where
 sh := [(1, .bx (.v (.pair .int (.pair .int (.slice (.pair (.slice .int) (.pair .int (.slice (.slice .int))))))))), (26, .v (.slice (.pair (.slice .int) (.pair .int (.slice (.slice .int)))))), (27, .v .int), (28, .v .int)]
 ex := [(.exit 0, []), (.ret, [(2, .v .bool)])]
 run := impl_IsNetwork_L4 n
noncomputable def C_54 : Cx where
 tt := tblTT tt
 T := tblT [(146, E_25), (151, E_53)]
 L := tblL [(4, S_54L4 fuel)]
 dep := fun i => 0
 n := 1
noncomputable def B_54L4 : Code := (Try.f76.body.bind (loopBody 4)).getD .skip
noncomputable def D_54 : Code := Try.f76.body.getD .skip
noncomputable def N_54 (_ : outs [.v (.pair .int (.pair .int (.slice (.pair (.slice .int) (.pair .int (.slice (.slice .int)))))))]) (r : dens [.v .bool]) : Bool := r
noncomputable def E_55 : Entry where
 params := [.v (.slice .int)]
 results := [.v .str]
 B := ByteArray
 run := fun a => impl_keyOf a
 out := fun b => ()
 res := fun b => b
noncomputable def S_55L3 (n : Nat) : LoopSpec where
 sh := [(3, .mv (.num .u8) 0), (10, .v (.slice .int)), (11, .v .int), (12, .v .int)]
 ex := [(.exit 0, [(3, .mv (.num .u8) 0)])]
 run := impl_keyOf_L3 n
noncomputable def C_55 : Cx where
 tt := tblTT tt
 T := tblT []
 L := tblL [(3, S_55L3 fuel)]
 dep := fun i => 0
 n := 1
noncomputable def B_55L3 : Code := (Try.f155.body.bind (loopBody 3)).getD .skip
noncomputable def D_55 : Code := Try.f155.body.getD .skip
noncomputable def N_55 (_ : outs [.v (.slice .int)]) (r : dens [.v .str]) : ByteArray := r
noncomputable def E_56 : Entry where
 params := [.v (.pair .int (.slice (.slice .int)))]
 results := [.v .smap]
 B := (List ByteArray)
 run := fun a => impl_tupleSet a
 out := fun b => ()
 res := fun b => b
noncomputable def S_56L3 (n : Nat) : LoopSpec where
 sh := [(3, .mp), (8, .v (.slice (.slice .int))), (9, .v .int), (10, .v .int)]
 ex := [(.exit 0, [(3, .mp)])]
 run := impl_tupleSet_L3 n
noncomputable def C_56 : Cx where
 tt := tblTT tt
 T := tblT [(155, E_55)]
 L := tblL [(3, S_56L3 fuel)]
 dep := fun i => 0
 n := 1
noncomputable def B_56L3 : Code := (Try.f154.body.bind (loopBody 3)).getD .skip
noncomputable def D_56 : Code := Try.f154.body.getD .skip
noncomputable def N_56 (_ : outs [.v (.pair .int (.slice (.slice .int)))]) (r : dens [.v .smap]) : (List ByteArray) := r
noncomputable def E_57 : Entry where
 params := [.v (.pair .int (.pair .int (.slice (.pair (.slice .int) (.pair .int (.slice (.slice .int)))))))]
 results := [.v (.ptr (.pair .int (.pair (.slice (.slice (.slice .int))) (.slice (.slice .smap)))))]
 B := (Bool × Int × (List (List (List Int))) × (List (List (List ByteArray))))
 run := fun a => impl_newNetSearch a
 out := fun b => ()
 res := fun b => b
noncomputable def S_57L7 (n : Nat) : LoopSpec where
 sh := [(3, .bx (.pr (.v .int) (.pr (.mv (.slice (.slice .int)) 1) (.mv (.slice .smap) 1)))), (5, .bx (.v (.pair (.slice .int) (.pair .int (.slice (.slice .int)))))), (6, .v .int), (20, .v (.slice (.pair (.slice .int) (.pair .int (.slice (.slice .int)))))), (21, .v .int), (22, .v .int), (27, .v (.slice .int)), (28, .v .int), (29, .v .int)]
 ex := [(.exit 2, [(3, .bx (.pr (.v .int) (.pr (.mv (.slice (.slice .int)) 1) (.mv (.slice .smap) 1)))), (5, .bx (.v (.pair (.slice .int) (.pair .int (.slice (.slice .int)))))), (6, .v .int), (20, .v (.slice (.pair (.slice .int) (.pair .int (.slice (.slice .int)))))), (21, .v .int), (22, .v .int)])]
 run := impl_newNetSearch_L7 n
noncomputable def S_57L3 (n : Nat) : LoopSpec where
 sh := [(3, .bx (.pr (.v .int) (.pr (.mv (.slice (.slice .int)) 1) (.mv (.slice .smap) 1)))), (20, .v (.slice (.pair (.slice .int) (.pair .int (.slice (.slice .int)))))), (21, .v .int), (22, .v .int)]
 ex := [(.exit 0, [(3, .bx (.pr (.v .int) (.pr (.mv (.slice (.slice .int)) 1) (.mv (.slice .smap) 1))))])]
 run := impl_newNetSearch_L3 n
noncomputable def C_57 : Cx where
 tt := tblTT tt
 T := tblT [(154, E_56)]
 L := tblL [(7, S_57L7 fuel), (3, S_57L3 fuel)]
 dep := fun i => match i with
  | 13 => 1
  | 16 => 1
  | _ => 0
 n := 1
 fine := true
noncomputable def B_57L7 : Code := (Try.f152.body.bind (loopBody 7)).getD .skip
noncomputable def B_57L3 : Code := (Try.f152.body.bind (loopBody 3)).getD .skip
noncomputable def D_57 : Code := Try.f152.body.getD .skip
noncomputable def N_57 (_ : outs [.v (.pair .int (.pair .int (.slice (.pair (.slice .int) (.pair .int (.slice (.slice .int)))))))]) (r : dens [.v (.ptr (.pair .int (.pair (.slice (.slice (.slice .int))) (.slice (.slice .smap)))))]) : (Bool × Int × (List (List (List Int))) × (List (List (List ByteArray)))) := r
noncomputable def E_58 : Entry where
 params := [.v .int]
 results := [.mv .int 0]
 B := (List Int)
 run := fun a => impl_freeTable a
 out := fun b => ()
 res := fun b => b
noncomputable def S_58L3 (n : Nat) : LoopSpec where
 sh := [(3, .mv .int 0), (8, .v .int), (9, .v .int)]
 ex := [(.exit 0, [(3, .mv .int 0)])]
 run := impl_freeTable_L3 n
noncomputable def C_58 : Cx where
 tt := tblTT tt
 T := tblT []
 L := tblL [(3, S_58L3 fuel)]
 dep := fun i => 0
 n := 1
noncomputable def B_58L3 : Code := (Try.f81.body.bind (loopBody 3)).getD .skip
noncomputable def D_58 : Code := Try.f81.body.getD .skip
noncomputable def N_58 (_ : outs [.v .int]) (r : dens [.mv .int 0]) : (List Int) := r
noncomputable def E_59 : Entry where
 params := [.v (.slice .int), .bx (.v .int)]
 results := [.v .bool]
 B := Int × Bool
 run := fun a => impl_CountSolutions_c1 a.1 a.2
 out := fun b => ((), b.1)
 res := fun b => b.2
noncomputable def C_59 : Cx where
 tt := tblTT tt
 T := tblT []
 L := tblL []
 dep := fun i => 0
 n := 2
noncomputable def D_59 : Code := Try.f78.body.getD .skip
noncomputable def N_59 (o : outs [.v (.slice .int), .bx (.v .int)]) (r : dens [.v .bool]) : Int × Bool := (o.2, r)
noncomputable def E_60 : Entry where
 params := [.v (.slice .int), .v (.slice .int)]
 results := [.mv .int 0]
 B := (List Int)
 run := fun a => impl_compose a.1 a.2
 out := fun b => ((), ())
 res := fun b => b
noncomputable def S_60L3 (n : Nat) : LoopSpec where
 sh := [(1, .v (.slice .int)), (5, .mv .int 0), (11, .v (.slice .int)), (12, .v .int), (13, .v .int)]
 ex := [(.exit 0, [(5, .mv .int 0)])]
 run := impl_compose_L3 n
noncomputable def C_60 : Cx where
 tt := tblTT tt
 T := tblT []
 L := tblL [(3, S_60L3 fuel)]
 dep := fun i => 0
 n := 2
noncomputable def B_60L3 : Code := (Try.f166.body.bind (loopBody 3)).getD .skip
noncomputable def D_60 : Code := Try.f166.body.getD .skip
noncomputable def N_60 (_ : outs [.v (.slice .int), .v (.slice .int)]) (r : dens [.mv .int 0]) : (List Int) := r
noncomputable def E_61_of (rec : (Int × (List Int) × Int × (Bool × Int × (List (List (List Int))) × (List (List (List ByteArray)))) × (List Int) × Unit) → Option ((List Int) × Int × (Bool × Int × (List (List (List Int))) × (List (List (List ByteArray)))) × (List Int) × Bool)) : Entry where
 params := [.v .int, .bx (.mv .int 0), .bx (.v .int), .bx (.v (.ptr (.pair .int (.pair (.slice (.slice (.slice .int))) (.slice (.slice .smap)))))), .bx (.v (.slice .int)), .jk 1]
 results := [.v .bool]
 cod := [(2, .kb 78), (5, .kn 193 1 5)]
 B := (List Int) × Int × (Bool × Int × (List (List (List Int))) × (List (List (List ByteArray)))) × (List Int) × Bool
 run := rec
 out := fun b => ((), b.1, b.2.1, b.2.2.1, b.2.2.2.1, ())
 res := fun b => b.2.2.2.2
noncomputable def E_61 (d : Nat) : Entry := E_61_of (impl_netSearch_each_c1_impl_CountSolutions_c1 d)
noncomputable def S_61L10 (rec : (Int × (List Int) × Int × (Bool × Int × (List (List (List Int))) × (List (List (List ByteArray)))) × (List Int) × Unit) → Option ((List Int) × Int × (Bool × Int × (List (List (List Int))) × (List (List (List ByteArray)))) × (List Int) × Bool)) (n : Nat) : LoopSpec where
 sh := [(0, .v .int), (1, .bx (.mv .int 0)), (2, .bx (.v .int)), (3, .bx (.v (.ptr (.pair .int (.pair (.slice (.slice (.slice .int))) (.slice (.slice .smap))))))), (4, .bx (.v (.slice .int))), (5, .jk 1), (8, .v .int), (9, .v .bool), (50, .v (.slice (.slice .int))), (51, .v .int), (52, .v .int)]
 ex := [(.exit 2, [(0, .v .int), (1, .bx (.mv .int 0)), (2, .bx (.v .int)), (3, .bx (.v (.ptr (.pair .int (.pair (.slice (.slice (.slice .int))) (.slice (.slice .smap))))))), (4, .bx (.v (.slice .int))), (5, .jk 1), (8, .v .int), (9, .v .bool)])]
 run := impl_netSearch_each_c1_impl_CountSolutions_c1_L10 rec n
noncomputable def S_61L4 (rec : (Int × (List Int) × Int × (Bool × Int × (List (List (List Int))) × (List (List (List ByteArray)))) × (List Int) × Unit) → Option ((List Int) × Int × (Bool × Int × (List (List (List Int))) × (List (List (List ByteArray)))) × (List Int) × Bool)) (n : Nat) : LoopSpec where
 sh := [(0, .v .int), (1, .bx (.mv .int 0)), (2, .bx (.v .int)), (3, .bx (.v (.ptr (.pair .int (.pair (.slice (.slice (.slice .int))) (.slice (.slice .smap))))))), (4, .bx (.v (.slice .int))), (5, .jk 1), (8, .v .int)]
 ex := [(.exit 0, [(1, .bx (.mv .int 0)), (2, .bx (.v .int)), (3, .bx (.v (.ptr (.pair .int (.pair (.slice (.slice (.slice .int))) (.slice (.slice .smap))))))), (4, .bx (.v (.slice .int))), (5, .jk 1)]), (.ret, [(1, .bx (.mv .int 0)), (2, .bx (.v .int)), (3, .bx (.v (.ptr (.pair .int (.pair (.slice (.slice (.slice .int))) (.slice (.slice .smap))))))), (4, .bx (.v (.slice .int))), (5, .jk 1), (7, .v .bool)])]
 run := impl_netSearch_each_c1_impl_CountSolutions_c1_L4 rec n
noncomputable def C_61 (rec : (Int × (List Int) × Int × (Bool × Int × (List (List (List Int))) × (List (List (List ByteArray)))) × (List Int) × Unit) → Option ((List Int) × Int × (Bool × Int × (List (List (List Int))) × (List (List (List ByteArray)))) × (List Int) × Bool)) : Cx where
 tt := tblTT tt
 T := tblT [(78, E_59), (155, E_55), (166, E_60), (5177537, E_61_of rec)]
 L := tblL [(10, S_61L10 rec fuel), (4, S_61L4 rec fuel)]
 dep := fun i => 0
 n := 6
 cod := [(2, .kb 78), (5, .kn 193 1 5)]
noncomputable def B_61L10 : Code := (Try.f193.body.bind (loopBody 10)).getD .skip
noncomputable def B_61L4 : Code := (Try.f193.body.bind (loopBody 4)).getD .skip
noncomputable def D_61 : Code := Try.f193.body.getD .skip
noncomputable def N_61 (o : outs [.v .int, .bx (.mv .int 0), .bx (.v .int), .bx (.v (.ptr (.pair .int (.pair (.slice (.slice (.slice .int))) (.slice (.slice .smap)))))), .bx (.v (.slice .int)), .jk 1]) (r : dens [.v .bool]) : (List Int) × Int × (Bool × Int × (List (List (List Int))) × (List (List (List ByteArray)))) × (List Int) × Bool := (o.2.1, o.2.2.1, o.2.2.2.1, o.2.2.2.2.1, r)
noncomputable def E_62 : Entry where
 params := [.v (.ptr (.pair .int (.pair (.slice (.slice (.slice .int))) (.slice (.slice .smap))))), .v (.slice .int), .bx (.v .int)]
 results := []
 cod := [(2, .cl 78)]
 B := Int
 run := fun a => impl_netSearch_each_impl_CountSolutions_c1 a.1 a.2.1 a.2.2
 out := fun b => ((), (), b)
 res := fun b => ()
noncomputable def C_62 : Cx where
 tt := tblTT tt
 T := tblT [(5177537, E_61 fuel)]
 L := tblL []
 dep := fun i => 0
 n := 3
 cod := [(2, .cl 78)]
noncomputable def D_62 : Code := Try.f153.body.getD .skip
noncomputable def N_62 (o : outs [.v (.ptr (.pair .int (.pair (.slice (.slice (.slice .int))) (.slice (.slice .smap))))), .v (.slice .int), .bx (.v .int)]) (_ : dens []) : Int := o.2.2
noncomputable def E_63 : Entry where
 params := [.v (.pair .int (.pair .int (.slice (.pair (.slice .int) (.pair .int (.slice (.slice .int))))))), .bx (.v .int)]
 results := []
 cod := [(1, .cl 78)]
 B := Int
 run := fun a => impl_eachSolution_impl_CountSolutions_c1 a.1 a.2
 out := fun b => ((), b)
 res := fun b => ()
noncomputable def C_63 : Cx where
 tt := tblTT tt
 T := tblT [(81, E_58), (152, E_57), (5177497, E_62)]
 L := tblL []
 dep := fun i => 0
 n := 2
 cod := [(1, .cl 78)]
noncomputable def D_63 : Code := Try.f77.body.getD .skip
noncomputable def N_63 (o : outs [.v (.pair .int (.pair .int (.slice (.pair (.slice .int) (.pair .int (.slice (.slice .int))))))), .bx (.v .int)]) (_ : dens []) : Int := o.2
noncomputable def E_64 : Entry where
 params := [.v (.pair .int (.pair .int (.slice (.pair (.slice .int) (.pair .int (.slice (.slice .int)))))))]
 results := [.v .int, .v .bool]
 B := Int × Bool
 run := fun a => impl_CountSolutions a
 out := fun b => ()
 res := fun b => (b.1, b.2)
noncomputable def C_64 : Cx where
 tt := tblTT tt
 T := tblT [(76, E_54), (5177421, E_63)]
 L := tblL []
 dep := fun i => 0
 n := 1
noncomputable def D_64 : Code := Try.f13.body.getD .skip
noncomputable def N_64 (_ : outs [.v (.pair .int (.pair .int (.slice (.pair (.slice .int) (.pair .int (.slice (.slice .int)))))))]) (r : dens [.v .int, .v .bool]) : Int × Bool := (r.1, r.2)
noncomputable def E_65 : Entry where
 params := [.v .int, .v (.slice (.pair .int (.slice (.slice .int)))), .v .int]
 results := [.v (.ptr (.pair .int (.pair .int (.slice (.slice (.pair (.slice .int) .smap))))))]
 B := (Bool × Int × Int × (List (List ((List Int) × (List ByteArray)))))
 run := fun a => impl_newPolySearch a.1 a.2.1 a.2.2
 out := fun b => ((), (), ())
 res := fun b => b
noncomputable def S_65L17 (n : Nat) : LoopSpec where
 sh := [(917564, .jk 1), (0, .v .int), (2, .v .int), (7, .bx (.pr (.v .int) (.pr (.v .int) (.mv (.slice (.pair (.slice .int) .smap)) 1)))), (9, .bx (.v (.pair .int (.slice (.slice .int))))), (10, .v .smap), (11, .mp), (12, .v .int), (13, .mv .int 0), (14, .mv .int 0), (15, .v .int), (16, .v .int), (28, .v (.slice (.pair .int (.slice (.slice .int))))), (29, .v .int), (30, .v .int), (56, .v .int), (57, .v .int), (61, .v .int), (62, .v .int)]
 ex := [(.exit 6, [(0, .v .int), (2, .v .int), (7, .bx (.pr (.v .int) (.pr (.v .int) (.mv (.slice (.pair (.slice .int) .smap)) 1)))), (9, .bx (.v (.pair .int (.slice (.slice .int))))), (10, .v .smap), (11, .mp), (12, .v .int), (13, .mv .int 0), (14, .mv .int 0), (15, .v .int), (16, .v .int), (28, .v (.slice (.pair .int (.slice (.slice .int))))), (29, .v .int), (30, .v .int), (56, .v .int), (57, .v .int)])]
 run := impl_newPolySearch_L17 n
noncomputable def S_65L14 (n : Nat) : LoopSpec where
 sh := [(0, .v .int), (2, .v .int), (7, .bx (.pr (.v .int) (.pr (.v .int) (.mv (.slice (.pair (.slice .int) .smap)) 1)))), (9, .bx (.v (.pair .int (.slice (.slice .int))))), (10, .v .smap), (11, .mp), (12, .v .int), (13, .mv .int 0), (14, .mv .int 0), (15, .v .int), (28, .v (.slice (.pair .int (.slice (.slice .int))))), (29, .v .int), (30, .v .int), (56, .v .int), (57, .v .int)]
 ex := [(.exit 4, [(0, .v .int), (2, .v .int), (7, .bx (.pr (.v .int) (.pr (.v .int) (.mv (.slice (.pair (.slice .int) .smap)) 1)))), (9, .bx (.v (.pair .int (.slice (.slice .int))))), (10, .v .smap), (11, .mp), (12, .v .int), (14, .mv .int 0), (15, .v .int), (28, .v (.slice (.pair .int (.slice (.slice .int))))), (29, .v .int), (30, .v .int)])]
 run := impl_newPolySearch_L14 n
noncomputable def S_65L8 (n : Nat) : LoopSpec where
 sh := [(0, .v .int), (2, .v .int), (7, .bx (.pr (.v .int) (.pr (.v .int) (.mv (.slice (.pair (.slice .int) .smap)) 1)))), (9, .bx (.v (.pair .int (.slice (.slice .int))))), (10, .v .smap), (11, .mp), (12, .v .int), (28, .v (.slice (.pair .int (.slice (.slice .int))))), (29, .v .int), (30, .v .int)]
 ex := [(.exit 2, [(0, .v .int), (2, .v .int), (7, .bx (.pr (.v .int) (.pr (.v .int) (.mv (.slice (.pair (.slice .int) .smap)) 1)))), (28, .v (.slice (.pair .int (.slice (.slice .int))))), (29, .v .int), (30, .v .int)])]
 run := impl_newPolySearch_L8 n
noncomputable def S_65L3 (n : Nat) : LoopSpec where
 sh := [(0, .v .int), (2, .v .int), (7, .bx (.pr (.v .int) (.pr (.v .int) (.mv (.slice (.pair (.slice .int) .smap)) 1)))), (28, .v (.slice (.pair .int (.slice (.slice .int))))), (29, .v .int), (30, .v .int)]
 ex := [(.exit 0, [(7, .bx (.pr (.v .int) (.pr (.v .int) (.mv (.slice (.pair (.slice .int) .smap)) 1))))])]
 run := impl_newPolySearch_L3 n
noncomputable def C_65 : Cx where
 tt := tblTT tt
 T := tblT [(66, E_31), (68, E_36), (154, E_56), (155, E_55)]
 L := tblL [(17, S_65L17 fuel), (14, S_65L14 fuel), (8, S_65L8 fuel), (3, S_65L3 fuel)]
 dep := fun i => match i with
  | 25 => 1
  | _ => 0
 n := 3
 fine := true
noncomputable def B_65L17 : Code := (Try.f79.body.bind (loopBody 17)).getD .skip
noncomputable def B_65L14 : Code := (Try.f79.body.bind (loopBody 14)).getD .skip
noncomputable def B_65L8 : Code := (Try.f79.body.bind (loopBody 8)).getD .skip
noncomputable def B_65L3 : Code := (Try.f79.body.bind (loopBody 3)).getD .skip
noncomputable def D_65 : Code := Try.f79.body.getD .skip
noncomputable def N_65 (_ : outs [.v .int, .v (.slice (.pair .int (.slice (.slice .int)))), .v .int]) (r : dens [.v (.ptr (.pair .int (.pair .int (.slice (.slice (.pair (.slice .int) .smap))))))]) : (Bool × Int × Int × (List (List ((List Int) × (List ByteArray))))) := r
noncomputable def E_66 : Entry where
 params := [.v (.slice .int), .bx (.v .int)]
 results := [.v .bool]
 B := Int × Bool
 run := fun a => impl_CountPolymorphisms_c1 a.1 a.2
 out := fun b => ((), b.1)
 res := fun b => b.2
noncomputable def C_66 : Cx where
 tt := tblTT tt
 T := tblT []
 L := tblL []
 dep := fun i => 0
 n := 2
noncomputable def D_66 : Code := Try.f82.body.getD .skip
noncomputable def N_66 (o : outs [.v (.slice .int), .bx (.v .int)]) (r : dens [.v .bool]) : Int × Bool := (o.2, r)
noncomputable def E_67 : Entry where
 params := [.v (.ptr (.pair .int (.pair .int (.slice (.slice (.pair (.slice .int) .smap)))))), .v (.slice .int), .v .int]
 results := [.v .bool]
 B := Bool
 run := fun a => impl_polySearch_fits_p a.1 a.2.1 a.2.2
 out := fun b => ((), (), ())
 res := fun b => b
noncomputable def S_67L2 (n : Nat) : LoopSpec where
 sh := [(1, .v (.slice .int)), (15, .v (.slice (.pair (.slice .int) .smap))), (16, .v .int), (17, .v .int)]
 ex := [(.exit 0, []), (.ret, [(6, .v .bool)])]
 run := impl_polySearch_fits_p_L2 n
noncomputable def C_67 : Cx where
 tt := tblTT tt
 T := tblT [(155, E_55), (166, E_60)]
 L := tblL [(2, S_67L2 fuel)]
 dep := fun i => 0
 n := 3
noncomputable def B_67L2 : Code := (Try.f157.body.bind (loopBody 2)).getD .skip
noncomputable def D_67 : Code := Try.f157.body.getD .skip
noncomputable def N_67 (_ : outs [.v (.ptr (.pair .int (.pair .int (.slice (.slice (.pair (.slice .int) .smap)))))), .v (.slice .int), .v .int]) (r : dens [.v .bool]) : Bool := r
noncomputable def E_68_of (rec : (Int × (List Int) × Int × (Bool × Int × Int × (List (List ((List Int) × (List ByteArray))))) × (List Int) × Unit) → Option ((List Int) × Int × (Bool × Int × Int × (List (List ((List Int) × (List ByteArray))))) × (List Int) × Bool)) : Entry where
 params := [.v .int, .bx (.mv .int 0), .bx (.v .int), .bx (.v (.ptr (.pair .int (.pair .int (.slice (.slice (.pair (.slice .int) .smap))))))), .bx (.v (.slice .int)), .jk 1]
 results := [.v .bool]
 cod := [(2, .kb 82), (5, .kn 156 1 5)]
 B := (List Int) × Int × (Bool × Int × Int × (List (List ((List Int) × (List ByteArray))))) × (List Int) × Bool
 run := rec
 out := fun b => ((), b.1, b.2.1, b.2.2.1, b.2.2.2.1, ())
 res := fun b => b.2.2.2.2
noncomputable def E_68 (d : Nat) : Entry := E_68_of (impl_polySearch_each_c1_impl_CountPolymorphisms_c1 d)
noncomputable def S_68L4 (rec : (Int × (List Int) × Int × (Bool × Int × Int × (List (List ((List Int) × (List ByteArray))))) × (List Int) × Unit) → Option ((List Int) × Int × (Bool × Int × Int × (List (List ((List Int) × (List ByteArray))))) × (List Int) × Bool)) (n : Nat) : LoopSpec where
 sh := [(0, .v .int), (1, .bx (.mv .int 0)), (2, .bx (.v .int)), (3, .bx (.v (.ptr (.pair .int (.pair .int (.slice (.slice (.pair (.slice .int) .smap)))))))), (4, .bx (.v (.slice .int))), (5, .jk 1), (8, .v .int)]
 ex := [(.exit 0, [(1, .bx (.mv .int 0)), (2, .bx (.v .int)), (3, .bx (.v (.ptr (.pair .int (.pair .int (.slice (.slice (.pair (.slice .int) .smap)))))))), (4, .bx (.v (.slice .int))), (5, .jk 1)]), (.ret, [(1, .bx (.mv .int 0)), (2, .bx (.v .int)), (3, .bx (.v (.ptr (.pair .int (.pair .int (.slice (.slice (.pair (.slice .int) .smap)))))))), (4, .bx (.v (.slice .int))), (5, .jk 1), (7, .v .bool)])]
 run := impl_polySearch_each_c1_impl_CountPolymorphisms_c1_L4 rec n
noncomputable def C_68 (rec : (Int × (List Int) × Int × (Bool × Int × Int × (List (List ((List Int) × (List ByteArray))))) × (List Int) × Unit) → Option ((List Int) × Int × (Bool × Int × Int × (List (List ((List Int) × (List ByteArray))))) × (List Int) × Bool)) : Cx where
 tt := tblTT tt
 T := tblT [(82, E_66), (157, E_67), (5439644, E_68_of rec)]
 L := tblL [(4, S_68L4 rec fuel)]
 dep := fun i => 0
 n := 6
 cod := [(2, .kb 82), (5, .kn 156 1 5)]
noncomputable def B_68L4 : Code := (Try.f156.body.bind (loopBody 4)).getD .skip
noncomputable def D_68 : Code := Try.f156.body.getD .skip
noncomputable def N_68 (o : outs [.v .int, .bx (.mv .int 0), .bx (.v .int), .bx (.v (.ptr (.pair .int (.pair .int (.slice (.slice (.pair (.slice .int) .smap))))))), .bx (.v (.slice .int)), .jk 1]) (r : dens [.v .bool]) : (List Int) × Int × (Bool × Int × Int × (List (List ((List Int) × (List ByteArray))))) × (List Int) × Bool := (o.2.1, o.2.2.1, o.2.2.2.1, o.2.2.2.2.1, r)
noncomputable def E_69 : Entry where
 params := [.v (.ptr (.pair .int (.pair .int (.slice (.slice (.pair (.slice .int) .smap)))))), .v (.slice .int), .bx (.v .int)]
 results := []
 cod := [(2, .cl 82)]
 B := Int
 run := fun a => impl_polySearch_each_impl_CountPolymorphisms_c1 a.1 a.2.1 a.2.2
 out := fun b => ((), (), b)
 res := fun b => ()
noncomputable def C_69 : Cx where
 tt := tblTT tt
 T := tblT [(5439644, E_68 fuel)]
 L := tblL []
 dep := fun i => 0
 n := 3
 cod := [(2, .cl 82)]
noncomputable def D_69 : Code := Try.f80.body.getD .skip
noncomputable def N_69 (o : outs [.v (.ptr (.pair .int (.pair .int (.slice (.slice (.pair (.slice .int) .smap)))))), .v (.slice .int), .bx (.v .int)]) (_ : dens []) : Int := o.2.2
noncomputable def E_70 : Entry where
 params := [.v .int, .v (.slice (.pair .int (.slice (.slice .int)))), .v .int]
 results := [.v .int, .v .bool]
 B := Int × Bool
 run := fun a => impl_CountPolymorphisms a.1 a.2.1 a.2.2
 out := fun b => ((), (), ())
 res := fun b => (b.1, b.2)
noncomputable def C_70 : Cx where
 tt := tblTT tt
 T := tblT [(64, E_30), (65, E_32), (66, E_31), (79, E_65), (81, E_58), (5439568, E_69)]
 L := tblL []
 dep := fun i => 0
 n := 3
noncomputable def D_70 : Code := Try.f14.body.getD .skip
noncomputable def N_70 (_ : outs [.v .int, .v (.slice (.pair .int (.slice (.slice .int)))), .v .int]) (r : dens [.v .int, .v .bool]) : Int × Bool := (r.1, r.2)
noncomputable def E_71 : Entry where
 params := [.v (.slice .int), .bx (.mv (.slice .int) 1)]
 results := [.v .bool]
 B := (List (List Int)) × Bool
 run := fun a => impl_AllSolutions_c1 a.1 a.2
 out := fun b => ((), b.1)
 res := fun b => b.2
noncomputable def C_71 : Cx where
 tt := tblTT tt
 T := tblT [(84, E_33)]
 L := tblL []
 dep := fun i => match i with
  | 7 => 1
  | 8 => 1
  | _ => 0
 n := 2
noncomputable def D_71 : Code := Try.f83.body.getD .skip
noncomputable def N_71 (o : outs [.v (.slice .int), .bx (.mv (.slice .int) 1)]) (r : dens [.v .bool]) : (List (List Int)) × Bool := (o.2, r)
noncomputable def E_72_of (rec : (Int × (List Int) × (List (List Int)) × (Bool × Int × (List (List (List Int))) × (List (List (List ByteArray)))) × (List Int) × Unit) → Option ((List Int) × (List (List Int)) × (Bool × Int × (List (List (List Int))) × (List (List (List ByteArray)))) × (List Int) × Bool)) : Entry where
 params := [.v .int, .bx (.mv .int 0), .bx (.mv (.slice .int) 1), .bx (.v (.ptr (.pair .int (.pair (.slice (.slice (.slice .int))) (.slice (.slice .smap)))))), .bx (.v (.slice .int)), .jk 1]
 results := [.v .bool]
 cod := [(2, .kb 83), (5, .kn 193 1 5)]
 B := (List Int) × (List (List Int)) × (Bool × Int × (List (List (List Int))) × (List (List (List ByteArray)))) × (List Int) × Bool
 run := rec
 out := fun b => ((), b.1, b.2.1, b.2.2.1, b.2.2.2.1, ())
 res := fun b => b.2.2.2.2
noncomputable def E_72 (d : Nat) : Entry := E_72_of (impl_netSearch_each_c1_impl_AllSolutions_c1 d)
noncomputable def S_72L10 (rec : (Int × (List Int) × (List (List Int)) × (Bool × Int × (List (List (List Int))) × (List (List (List ByteArray)))) × (List Int) × Unit) → Option ((List Int) × (List (List Int)) × (Bool × Int × (List (List (List Int))) × (List (List (List ByteArray)))) × (List Int) × Bool)) (n : Nat) : LoopSpec where
 sh := [(0, .v .int), (1, .bx (.mv .int 0)), (2, .bx (.mv (.slice .int) 1)), (3, .bx (.v (.ptr (.pair .int (.pair (.slice (.slice (.slice .int))) (.slice (.slice .smap))))))), (4, .bx (.v (.slice .int))), (5, .jk 1), (8, .v .int), (9, .v .bool), (50, .v (.slice (.slice .int))), (51, .v .int), (52, .v .int)]
 ex := [(.exit 2, [(0, .v .int), (1, .bx (.mv .int 0)), (2, .bx (.mv (.slice .int) 1)), (3, .bx (.v (.ptr (.pair .int (.pair (.slice (.slice (.slice .int))) (.slice (.slice .smap))))))), (4, .bx (.v (.slice .int))), (5, .jk 1), (8, .v .int), (9, .v .bool)])]
 run := impl_netSearch_each_c1_impl_AllSolutions_c1_L10 rec n
noncomputable def S_72L4 (rec : (Int × (List Int) × (List (List Int)) × (Bool × Int × (List (List (List Int))) × (List (List (List ByteArray)))) × (List Int) × Unit) → Option ((List Int) × (List (List Int)) × (Bool × Int × (List (List (List Int))) × (List (List (List ByteArray)))) × (List Int) × Bool)) (n : Nat) : LoopSpec where
 sh := [(0, .v .int), (1, .bx (.mv .int 0)), (2, .bx (.mv (.slice .int) 1)), (3, .bx (.v (.ptr (.pair .int (.pair (.slice (.slice (.slice .int))) (.slice (.slice .smap))))))), (4, .bx (.v (.slice .int))), (5, .jk 1), (8, .v .int)]
 ex := [(.exit 0, [(1, .bx (.mv .int 0)), (2, .bx (.mv (.slice .int) 1)), (3, .bx (.v (.ptr (.pair .int (.pair (.slice (.slice (.slice .int))) (.slice (.slice .smap))))))), (4, .bx (.v (.slice .int))), (5, .jk 1)]), (.ret, [(1, .bx (.mv .int 0)), (2, .bx (.mv (.slice .int) 1)), (3, .bx (.v (.ptr (.pair .int (.pair (.slice (.slice (.slice .int))) (.slice (.slice .smap))))))), (4, .bx (.v (.slice .int))), (5, .jk 1), (7, .v .bool)])]
 run := impl_netSearch_each_c1_impl_AllSolutions_c1_L4 rec n
noncomputable def C_72 (rec : (Int × (List Int) × (List (List Int)) × (Bool × Int × (List (List (List Int))) × (List (List (List ByteArray)))) × (List Int) × Unit) → Option ((List Int) × (List (List Int)) × (Bool × Int × (List (List (List Int))) × (List (List (List ByteArray)))) × (List Int) × Bool)) : Cx where
 tt := tblTT tt
 T := tblT [(83, E_71), (155, E_55), (166, E_60), (5505217, E_72_of rec)]
 L := tblL [(10, S_72L10 rec fuel), (4, S_72L4 rec fuel)]
 dep := fun i => 0
 n := 6
 cod := [(2, .kb 83), (5, .kn 193 1 5)]
noncomputable def B_72L10 : Code := (Try.f193.body.bind (loopBody 10)).getD .skip
noncomputable def B_72L4 : Code := (Try.f193.body.bind (loopBody 4)).getD .skip
noncomputable def D_72 : Code := Try.f193.body.getD .skip
noncomputable def N_72 (o : outs [.v .int, .bx (.mv .int 0), .bx (.mv (.slice .int) 1), .bx (.v (.ptr (.pair .int (.pair (.slice (.slice (.slice .int))) (.slice (.slice .smap)))))), .bx (.v (.slice .int)), .jk 1]) (r : dens [.v .bool]) : (List Int) × (List (List Int)) × (Bool × Int × (List (List (List Int))) × (List (List (List ByteArray)))) × (List Int) × Bool := (o.2.1, o.2.2.1, o.2.2.2.1, o.2.2.2.2.1, r)
noncomputable def E_73 : Entry where
 params := [.v (.ptr (.pair .int (.pair (.slice (.slice (.slice .int))) (.slice (.slice .smap))))), .v (.slice .int), .bx (.mv (.slice .int) 1)]
 results := []
 cod := [(2, .cl 83)]
 B := (List (List Int))
 run := fun a => impl_netSearch_each_impl_AllSolutions_c1 a.1 a.2.1 a.2.2
 out := fun b => ((), (), b)
 res := fun b => ()
noncomputable def C_73 : Cx where
 tt := tblTT tt
 T := tblT [(5505217, E_72 fuel)]
 L := tblL []
 dep := fun i => 0
 n := 3
 cod := [(2, .cl 83)]
noncomputable def D_73 : Code := Try.f153.body.getD .skip
noncomputable def N_73 (o : outs [.v (.ptr (.pair .int (.pair (.slice (.slice (.slice .int))) (.slice (.slice .smap))))), .v (.slice .int), .bx (.mv (.slice .int) 1)]) (_ : dens []) : (List (List Int)) := o.2.2
noncomputable def E_74 : Entry where
 params := [.v (.pair .int (.pair .int (.slice (.pair (.slice .int) (.pair .int (.slice (.slice .int))))))), .bx (.mv (.slice .int) 1)]
 results := []
 cod := [(1, .cl 83)]
 B := (List (List Int))
 run := fun a => impl_eachSolution_impl_AllSolutions_c1 a.1 a.2
 out := fun b => ((), b)
 res := fun b => ()
noncomputable def C_74 : Cx where
 tt := tblTT tt
 T := tblT [(81, E_58), (152, E_57), (5505177, E_73)]
 L := tblL []
 dep := fun i => 0
 n := 2
 cod := [(1, .cl 83)]
noncomputable def D_74 : Code := Try.f77.body.getD .skip
noncomputable def N_74 (o : outs [.v (.pair .int (.pair .int (.slice (.pair (.slice .int) (.pair .int (.slice (.slice .int))))))), .bx (.mv (.slice .int) 1)]) (_ : dens []) : (List (List Int)) := o.2
noncomputable def E_75 : Entry where
 params := [.v (.pair .int (.pair .int (.slice (.pair (.slice .int) (.pair .int (.slice (.slice .int)))))))]
 results := [.mv (.slice .int) 1, .v .bool]
 B := (List (List Int)) × Bool
 run := fun a => impl_AllSolutions a
 out := fun b => ()
 res := fun b => (b.1, b.2)
noncomputable def C_75 : Cx where
 tt := tblTT tt
 T := tblT [(76, E_54), (5505101, E_74)]
 L := tblL []
 dep := fun i => match i with
  | 8 => 1
  | 9 => 1
  | 16 => 1
  | _ => 0
 n := 1
noncomputable def D_75 : Code := Try.f15.body.getD .skip
noncomputable def N_75 (_ : outs [.v (.pair .int (.pair .int (.slice (.pair (.slice .int) (.pair .int (.slice (.slice .int)))))))]) (r : dens [.mv (.slice .int) 1, .v .bool]) : (List (List Int)) × Bool := (r.1, r.2)
noncomputable def E_76 : Entry where
 params := [.v (.slice .int), .bx (.mv (.pair .int (.slice .int)) 1), .bx (.v .int)]
 results := [.v .bool]
 B := (List (Int × (List Int))) × Int × Bool
 run := fun a => impl_listPolys_c1 a.1 a.2.1 a.2.2
 out := fun b => ((), b.1, b.2.1)
 res := fun b => b.2.2
noncomputable def C_76 : Cx where
 tt := tblTT tt
 T := tblT [(84, E_33)]
 L := tblL []
 dep := fun i => match i with
  | 10 => 1
  | 11 => 1
  | _ => 0
 n := 3
noncomputable def D_76 : Code := Try.f158.body.getD .skip
noncomputable def N_76 (o : outs [.v (.slice .int), .bx (.mv (.pair .int (.slice .int)) 1), .bx (.v .int)]) (r : dens [.v .bool]) : (List (Int × (List Int))) × Int × Bool := (o.2.1, o.2.2, r)
noncomputable def E_77_of (rec : (Int × (List Int) × ((List (Int × (List Int))) × Int) × (Bool × Int × Int × (List (List ((List Int) × (List ByteArray))))) × (List Int) × Unit) → Option ((List Int) × ((List (Int × (List Int))) × Int) × (Bool × Int × Int × (List (List ((List Int) × (List ByteArray))))) × (List Int) × Bool)) : Entry where
 params := [.v .int, .bx (.mv .int 0), .pr (.bx (.mv (.pair .int (.slice .int)) 1)) (.bx (.v .int)), .bx (.v (.ptr (.pair .int (.pair .int (.slice (.slice (.pair (.slice .int) .smap))))))), .bx (.v (.slice .int)), .jk 1]
 results := [.v .bool]
 cod := [(2, .kb 158), (5, .kn 156 1 5)]
 B := (List Int) × ((List (Int × (List Int))) × Int) × (Bool × Int × Int × (List (List ((List Int) × (List ByteArray))))) × (List Int) × Bool
 run := rec
 out := fun b => ((), b.1, b.2.1, b.2.2.1, b.2.2.2.1, ())
 res := fun b => b.2.2.2.2
noncomputable def E_77 (d : Nat) : Entry := E_77_of (impl_polySearch_each_c1_impl_listPolys_c1 d)
noncomputable def S_77L4 (rec : (Int × (List Int) × ((List (Int × (List Int))) × Int) × (Bool × Int × Int × (List (List ((List Int) × (List ByteArray))))) × (List Int) × Unit) → Option ((List Int) × ((List (Int × (List Int))) × Int) × (Bool × Int × Int × (List (List ((List Int) × (List ByteArray))))) × (List Int) × Bool)) (n : Nat) : LoopSpec where
 sh := [(0, .v .int), (1, .bx (.mv .int 0)), (2, .pr (.bx (.mv (.pair .int (.slice .int)) 1)) (.bx (.v .int))), (3, .bx (.v (.ptr (.pair .int (.pair .int (.slice (.slice (.pair (.slice .int) .smap)))))))), (4, .bx (.v (.slice .int))), (5, .jk 1), (8, .v .int)]
 ex := [(.exit 0, [(1, .bx (.mv .int 0)), (2, .pr (.bx (.mv (.pair .int (.slice .int)) 1)) (.bx (.v .int))), (3, .bx (.v (.ptr (.pair .int (.pair .int (.slice (.slice (.pair (.slice .int) .smap)))))))), (4, .bx (.v (.slice .int))), (5, .jk 1)]), (.ret, [(1, .bx (.mv .int 0)), (2, .pr (.bx (.mv (.pair .int (.slice .int)) 1)) (.bx (.v .int))), (3, .bx (.v (.ptr (.pair .int (.pair .int (.slice (.slice (.pair (.slice .int) .smap)))))))), (4, .bx (.v (.slice .int))), (5, .jk 1), (7, .v .bool)])]
 run := impl_polySearch_each_c1_impl_listPolys_c1_L4 rec n
noncomputable def C_77 (rec : (Int × (List Int) × ((List (Int × (List Int))) × Int) × (Bool × Int × Int × (List (List ((List Int) × (List ByteArray))))) × (List Int) × Unit) → Option ((List Int) × ((List (Int × (List Int))) × Int) × (Bool × Int × Int × (List (List ((List Int) × (List ByteArray))))) × (List Int) × Bool)) : Cx where
 tt := tblTT tt
 T := tblT [(157, E_67), (158, E_76), (10420380, E_77_of rec)]
 L := tblL [(4, S_77L4 rec fuel)]
 dep := fun i => 0
 n := 6
 cod := [(2, .kb 158), (5, .kn 156 1 5)]
noncomputable def B_77L4 : Code := (Try.f156.body.bind (loopBody 4)).getD .skip
noncomputable def D_77 : Code := Try.f156.body.getD .skip
noncomputable def N_77 (o : outs [.v .int, .bx (.mv .int 0), .pr (.bx (.mv (.pair .int (.slice .int)) 1)) (.bx (.v .int)), .bx (.v (.ptr (.pair .int (.pair .int (.slice (.slice (.pair (.slice .int) .smap))))))), .bx (.v (.slice .int)), .jk 1]) (r : dens [.v .bool]) : (List Int) × ((List (Int × (List Int))) × Int) × (Bool × Int × Int × (List (List ((List Int) × (List ByteArray))))) × (List Int) × Bool := (o.2.1, o.2.2.1, o.2.2.2.1, o.2.2.2.2.1, r)
noncomputable def E_78 : Entry where
 params := [.v (.ptr (.pair .int (.pair .int (.slice (.slice (.pair (.slice .int) .smap)))))), .v (.slice .int), .pr (.bx (.mv (.pair .int (.slice .int)) 1)) (.bx (.v .int))]
 results := []
 cod := [(2, .cl 158)]
 B := ((List (Int × (List Int))) × Int)
 run := fun a => impl_polySearch_each_impl_listPolys_c1 a.1 a.2.1 a.2.2
 out := fun b => ((), (), b)
 res := fun b => ()
noncomputable def C_78 : Cx where
 tt := tblTT tt
 T := tblT [(10420380, E_77 fuel)]
 L := tblL []
 dep := fun i => 0
 n := 3
 cod := [(2, .cl 158)]
noncomputable def D_78 : Code := Try.f80.body.getD .skip
noncomputable def N_78 (o : outs [.v (.ptr (.pair .int (.pair .int (.slice (.slice (.pair (.slice .int) .smap)))))), .v (.slice .int), .pr (.bx (.mv (.pair .int (.slice .int)) 1)) (.bx (.v .int))]) (_ : dens []) : ((List (Int × (List Int))) × Int) := o.2.2
noncomputable def E_79 : Entry where
 params := [.v .int, .v (.slice (.pair .int (.slice (.slice .int)))), .v .int, .v (.slice .int)]
 results := [.mv (.pair .int (.slice .int)) 1, .v .bool]
 B := (List (Int × (List Int))) × Bool
 run := fun a => impl_listPolys a.1 a.2.1 a.2.2.1 a.2.2.2
 out := fun b => ((), (), (), ())
 res := fun b => (b.1, b.2)
noncomputable def C_79 : Cx where
 tt := tblTT tt
 T := tblT [(79, E_65), (10420304, E_78)]
 L := tblL []
 dep := fun i => match i with
  | 11 => 1
  | 22 => 1
  | _ => 0
 n := 4
noncomputable def D_79 : Code := Try.f85.body.getD .skip
noncomputable def N_79 (_ : outs [.v .int, .v (.slice (.pair .int (.slice (.slice .int)))), .v .int, .v (.slice .int)]) (r : dens [.mv (.pair .int (.slice .int)) 1, .v .bool]) : (List (Int × (List Int))) × Bool := (r.1, r.2)
noncomputable def E_80 : Entry where
 params := [.v .int, .v (.slice (.pair .int (.slice (.slice .int)))), .v .int]
 results := [.mv (.pair .int (.slice .int)) 1, .v .bool]
 B := (List (Int × (List Int))) × Bool
 run := fun a => impl_PolymorphismsOf a.1 a.2.1 a.2.2
 out := fun b => ((), (), ())
 res := fun b => (b.1, b.2)
noncomputable def C_80 : Cx where
 tt := tblTT tt
 T := tblT [(64, E_30), (65, E_32), (66, E_31), (81, E_58), (85, E_79)]
 L := tblL []
 dep := fun i => match i with
  | 19 => 1
  | _ => 0
 n := 3
noncomputable def D_80 : Code := Try.f16.body.getD .skip
noncomputable def N_80 (_ : outs [.v .int, .v (.slice (.pair .int (.slice (.slice .int)))), .v .int]) (r : dens [.mv (.pair .int (.slice .int)) 1, .v .bool]) : (List (Int × (List Int))) × Bool := (r.1, r.2)
noncomputable def E_81 : Entry where
 params := [.v (.slice (.num .u8))]
 results := [.v .bool]
 B := Bool
 run := fun a => laws_FnPolymorphismNetwork a
 out := fun b => ()
 res := fun b => b
noncomputable def S_81L9 (n : Nat) : LoopSpec where
 sh := [(3, .v .int), (4, .v (.slice (.pair .int (.slice (.slice .int))))), (5, .v .int), (6, .bx (.v (.pair .int (.pair .int (.slice (.pair (.slice .int) (.pair .int (.slice (.slice .int))))))))), (7, .v .bool), (8, .bx (.v (.pair .int (.pair .int (.slice (.pair (.slice .int) (.pair .int (.slice (.slice .int))))))))), (10, .v .int)]
 ex := [(.exit 0, [(3, .v .int), (4, .v (.slice (.pair .int (.slice (.slice .int))))), (5, .v .int), (6, .bx (.v (.pair .int (.pair .int (.slice (.pair (.slice .int) (.pair .int (.slice (.slice .int))))))))), (7, .v .bool)]), (.ret, [(2, .v .bool)])]
 run := laws_FnPolymorphismNetwork_L9 n
noncomputable def S_81L24 (n : Nat) : LoopSpec where
 sh := [(15, .mv (.slice .int) 1), (17, .mv (.pair .int (.slice .int)) 1), (19, .v .int)]
 ex := [(.exit 2, []), (.ret, [(2, .v .bool)])]
 run := laws_FnPolymorphismNetwork_L24 n
noncomputable def C_81 : Cx where
 tt := tblTT tt
 T := tblT [(7, E_1), (8, E_24), (9, E_40), (10, E_50), (11, E_51), (12, E_52), (13, E_64), (14, E_70), (15, E_75), (16, E_80)]
 L := tblL [(9, S_81L9 fuel), (24, S_81L24 fuel)]
 dep := fun i => 0
 n := 1
noncomputable def B_81L9 : Code := (Try.f3.body.bind (loopBody 9)).getD .skip
noncomputable def B_81L24 : Code := (Try.f3.body.bind (loopBody 24)).getD .skip
noncomputable def D_81 : Code := Try.f3.body.getD .skip
noncomputable def N_81 (_ : outs [.v (.slice (.num .u8))]) (r : dens [.v .bool]) : Bool := r
end T
