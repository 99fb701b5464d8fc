/- Contexts of the typed functions; no conditions. -/
import Derived.Test.YtcdjlpcapanibaaV5
import Derived.Test.YtcdjlpcapanibaaProg
import Derived.Test.YtcdjlpcapanibaaPFnExactForksOf
import Derived.KernelRfl
set_option linter.all false
set_option linter.unusedVariables false
set_option maxRecDepth 10000
open Go Go.Va Go.Proofs
namespace T
noncomputable def tt : List (Nat × TI) := [
 (2, { ty := .int }),
 (3, { ty := .int }),
 (4, { ty := .bool }),
 (22, { ty := (.slice (.slice .int)), elem := 29 }),
 (29, { ty := (.slice .int), elem := 3 }),
 (59, { ty := (.op false) })]
theorem tabT : tabOk Try.prog tt = true := by kernel_rfl
theorem mixT : Try.prog.follows .mixedOrders = true := by kernel_rfl
noncomputable def E_1 : Entry where
 params := [.v (.slice .int), .v .int]
 results := [.v .int]
 B := Int
 run := fun a => laws_szIntS a.1 a.2
 out := fun b => ((), ())
 res := fun b => b
noncomputable def C_1 : Cx where
 tt := tblTT tt
 T := tblT []
 L := tblL []
 dep := fun i => 0
 n := 2
noncomputable def D_1 : Code := Try.f29.body.getD .skip
noncomputable def N_1 (_ : outs [.v (.slice .int), .v .int]) (r : dens [.v .int]) : Int := r
noncomputable def E_2 : Entry where
 params := [.v (.slice (.slice .int)), .v .int]
 results := [.v .int]
 B := Int
 run := fun a => laws_szIntSS a.1 a.2
 out := fun b => ((), ())
 res := fun b => b
noncomputable def S_2L5 (n : Nat) : LoopSpec where
 sh := [(0, .v (.slice (.slice .int))), (1, .v .int), (5, .v .int)]
 ex := [(.exit 0, [(1, .v .int)]), (.ret, [(4, .v .int)])]
 run := laws_szIntSS_L5 n
noncomputable def C_2 : Cx where
 tt := tblTT tt
 T := tblT [(29, E_1)]
 L := tblL [(5, S_2L5 fuel)]
 dep := fun i => 0
 n := 2
noncomputable def B_2L5 : Code := (Try.f7.body.bind (loopBody 5)).getD .skip
noncomputable def D_2 : Code := Try.f7.body.getD .skip
noncomputable def N_2 (_ : outs [.v (.slice (.slice .int)), .v .int]) (r : dens [.v .int]) : Int := r
noncomputable def E_3 : Entry where
 params := [.v (.slice .int)]
 results := [.mv .int 0]
 B := (List Int)
 run := fun a => laws_toIntS a
 out := fun b => ()
 res := fun b => b
noncomputable def S_3L3 (n : Nat) : LoopSpec where
 sh := [(0, .v (.slice .int)), (3, .mv .int 0), (4, .v .int)]
 ex := [(.exit 0, [(3, .mv .int 0)])]
 run := laws_toIntS_L3 n
noncomputable def C_3 : Cx where
 tt := tblTT tt
 T := tblT []
 L := tblL [(3, S_3L3 fuel)]
 dep := fun i => 0
 n := 1
noncomputable def B_3L3 : Code := (Try.f32.body.bind (loopBody 3)).getD .skip
noncomputable def D_3 : Code := Try.f32.body.getD .skip
noncomputable def N_3 (_ : outs [.v (.slice .int)]) (r : dens [.mv .int 0]) : (List Int) := r
noncomputable def E_4 : Entry where
 params := [.v (.slice (.slice .int))]
 results := [.mv (.slice .int) 1]
 B := (List (List Int))
 run := fun a => laws_toIntSS a
 out := fun b => ()
 res := fun b => b
noncomputable def S_4L3 (n : Nat) : LoopSpec where
 sh := [(0, .v (.slice (.slice .int))), (3, .mv (.slice .int) 1), (4, .v .int)]
 ex := [(.exit 0, [(3, .mv (.slice .int) 1)])]
 run := laws_toIntSS_L3 n
noncomputable def C_4 : Cx where
 tt := tblTT tt
 T := tblT [(32, E_3)]
 L := tblL [(3, S_4L3 fuel)]
 dep := fun i => match i with
  | 7 => 1
  | _ => 0
 n := 1
noncomputable def B_4L3 : Code := (Try.f9.body.bind (loopBody 3)).getD .skip
noncomputable def D_4 : Code := Try.f9.body.getD .skip
noncomputable def N_4 (_ : outs [.v (.slice (.slice .int))]) (r : dens [.mv (.slice .int) 1]) : (List (List Int)) := r
noncomputable def E_5 : Entry where
 params := [.v .int, .v .int, .v .int]
 results := [.v .bool]
 B := Bool
 run := fun a => spec_l1In a.1 a.2.1 a.2.2
 out := fun b => ((), (), ())
 res := fun b => b
noncomputable def C_5 : Cx where
 tt := tblTT tt
 T := tblT []
 L := tblL []
 dep := fun i => 0
 n := 3
noncomputable def D_5 : Code := Try.f60.body.getD .skip
noncomputable def N_5 (_ : outs [.v .int, .v .int, .v .int]) (r : dens [.v .bool]) : Bool := r
noncomputable def E_6 : Entry where
 params := [.v .int]
 results := [.v .bool]
 B := Bool
 run := fun a => spec_l6Size a
 out := fun b => ()
 res := fun b => b
noncomputable def C_6 : Cx where
 tt := tblTT tt
 T := tblT [(60, E_5)]
 L := tblL []
 dep := fun i => 0
 n := 1
noncomputable def D_6 : Code := Try.f56.body.getD .skip
noncomputable def N_6 (_ : outs [.v .int]) (r : dens [.v .bool]) : Bool := r
noncomputable def E_7 : Entry where
 params := [.v .int, .v .int]
 results := [.v .int]
 B := Int
 run := fun a => spec_l2Pow a.1 a.2
 out := fun b => ((), ())
 res := fun b => b
noncomputable def S_7L2 (n : Nat) : LoopSpec where
 sh := [(0, .v .int), (1, .v .int), (5, .v .int)]
 ex := [(.exit 0, [(5, .v .int)])]
 run := spec_l2Pow_L2 n
noncomputable def C_7 : Cx where
 tt := tblTT tt
 T := tblT []
 L := tblL [(2, S_7L2 fuel)]
 dep := fun i => 0
 n := 2
noncomputable def B_7L2 : Code := (Try.f61.body.bind (loopBody 2)).getD .skip
noncomputable def D_7 : Code := Try.f61.body.getD .skip
noncomputable def N_7 (_ : outs [.v .int, .v .int]) (r : dens [.v .int]) : Int := r
noncomputable def E_8 : Entry where
 params := [.v .int, .v (.slice .int)]
 results := [.v .bool]
 B := Bool
 run := fun a => spec_l2Elements a.1 a.2
 out := fun b => ((), ())
 res := fun b => b
noncomputable def S_8L2 (n : Nat) : LoopSpec where
 sh := [(0, .v .int), (1, .v (.slice .int)), (5, .v .int)]
 ex := [(.exit 0, []), (.ret, [(4, .v .bool)])]
 run := spec_l2Elements_L2 n
noncomputable def C_8 : Cx where
 tt := tblTT tt
 T := tblT [(60, E_5)]
 L := tblL [(2, S_8L2 fuel)]
 dep := fun i => 0
 n := 2
noncomputable def B_8L2 : Code := (Try.f92.body.bind (loopBody 2)).getD .skip
noncomputable def D_8 : Code := Try.f92.body.getD .skip
noncomputable def N_8 (_ : outs [.v .int, .v (.slice .int)]) (r : dens [.v .bool]) : Bool := r
noncomputable def E_9 : Entry where
 params := [.v .int, .v .int, .v (.slice .int)]
 results := [.v .bool]
 B := Bool
 run := fun a => spec_l8Tuple a.1 a.2.1 a.2.2
 out := fun b => ((), (), ())
 res := fun b => b
noncomputable def C_9 : Cx where
 tt := tblTT tt
 T := tblT [(92, E_8)]
 L := tblL []
 dep := fun i => 0
 n := 3
noncomputable def D_9 : Code := Try.f62.body.getD .skip
noncomputable def N_9 (_ : outs [.v .int, .v .int, .v (.slice .int)]) (r : dens [.v .bool]) : Bool := r
noncomputable def E_10 : Entry where
 params := [.v (.slice .int), .v (.slice .int)]
 results := [.v .bool]
 B := Bool
 run := fun a => spec_l3Less a.1 a.2
 out := fun b => ((), ())
 res := fun b => b
noncomputable def S_10L2 (n : Nat) : LoopSpec where
 sh := [(0, .v (.slice .int)), (1, .v (.slice .int)), (5, .v .int)]
 ex := [(.exit 0, []), (.ret, [(4, .v .bool)])]
 run := spec_l3Less_L2 n
noncomputable def C_10 : Cx where
 tt := tblTT tt
 T := tblT []
 L := tblL [(2, S_10L2 fuel)]
 dep := fun i => 0
 n := 2
noncomputable def B_10L2 : Code := (Try.f63.body.bind (loopBody 2)).getD .skip
noncomputable def D_10 : Code := Try.f63.body.getD .skip
noncomputable def N_10 (_ : outs [.v (.slice .int), .v (.slice .int)]) (r : dens [.v .bool]) : Bool := r
noncomputable def E_11 : Entry where
 params := [.v .int, .v .int, .v (.slice (.slice .int))]
 results := [.v .bool]
 B := Bool
 run := fun a => spec_l21Set a.1 a.2.1 a.2.2
 out := fun b => ((), (), ())
 res := fun b => b
noncomputable def S_11L4 (n : Nat) : LoopSpec where
 sh := [(0, .v .int), (1, .v .int), (2, .v (.slice (.slice .int))), (7, .v .int)]
 ex := [(.exit 0, []), (.ret, [(6, .v .bool)])]
 run := spec_l21Set_L4 n
noncomputable def C_11 : Cx where
 tt := tblTT tt
 T := tblT [(56, E_6), (60, E_5), (61, E_7), (62, E_9), (63, E_10)]
 L := tblL [(4, S_11L4 fuel)]
 dep := fun i => 0
 n := 3
noncomputable def B_11L4 : Code := (Try.f30.body.bind (loopBody 4)).getD .skip
noncomputable def D_11 : Code := Try.f30.body.getD .skip
noncomputable def N_11 (_ : outs [.v .int, .v .int, .v (.slice (.slice .int))]) (r : dens [.v .bool]) : Bool := r
noncomputable def E_12 : Entry where
 params := [.v (.slice .int), .v (.slice .int)]
 results := [.v .bool]
 B := Bool
 run := fun a => spec_l1Same a.1 a.2
 out := fun b => ((), ())
 res := fun b => b
noncomputable def S_12L4 (n : Nat) : LoopSpec where
 sh := [(0, .v (.slice .int)), (1, .v (.slice .int)), (5, .v .int)]
 ex := [(.exit 0, []), (.ret, [(4, .v .bool)])]
 run := spec_l1Same_L4 n
noncomputable def C_12 : Cx where
 tt := tblTT tt
 T := tblT []
 L := tblL [(4, S_12L4 fuel)]
 dep := fun i => 0
 n := 2
noncomputable def B_12L4 : Code := (Try.f93.body.bind (loopBody 4)).getD .skip
noncomputable def D_12 : Code := Try.f93.body.getD .skip
noncomputable def N_12 (_ : outs [.v (.slice .int), .v (.slice .int)]) (r : dens [.v .bool]) : Bool := r
noncomputable def E_13 : Entry where
 params := [.v (.slice (.slice .int)), .v .int, .v .int, .v .int]
 results := [.v .int, .v .int, .v .bool]
 B := Int × Int × Bool
 run := fun a => spec_l21Pair a.1 a.2.1 a.2.2.1 a.2.2.2
 out := fun b => ((), (), (), ())
 res := fun b => (b.1, b.2.1, b.2.2)
noncomputable def S_13L5 (n : Nat) : LoopSpec where
 sh := [(0, .v (.slice (.slice .int))), (1, .v .int), (2, .v .int), (3, .v .int), (11, .v .int), (12, .v .int)]
 ex := [(.exit 2, [(0, .v (.slice (.slice .int))), (1, .v .int), (2, .v .int), (3, .v .int), (11, .v .int)]), (.ret, [(8, .v .int), (9, .v .int), (10, .v .bool)])]
 run := spec_l21Pair_L5 n
noncomputable def S_13L2 (n : Nat) : LoopSpec where
 sh := [(0, .v (.slice (.slice .int))), (1, .v .int), (2, .v .int), (3, .v .int), (11, .v .int)]
 ex := [(.exit 0, []), (.ret, [(8, .v .int), (9, .v .int), (10, .v .bool)])]
 run := spec_l21Pair_L2 n
noncomputable def C_13 : Cx where
 tt := tblTT tt
 T := tblT [(93, E_12)]
 L := tblL [(5, S_13L5 fuel), (2, S_13L2 fuel)]
 dep := fun i => 0
 n := 4
noncomputable def B_13L5 : Code := (Try.f64.body.bind (loopBody 5)).getD .skip
noncomputable def B_13L2 : Code := (Try.f64.body.bind (loopBody 2)).getD .skip
noncomputable def D_13 : Code := Try.f64.body.getD .skip
noncomputable def N_13 (_ : outs [.v (.slice (.slice .int)), .v .int, .v .int, .v .int]) (r : dens [.v .int, .v .int, .v .bool]) : Int × Int × Bool := (r.1, r.2.1, r.2.2)
noncomputable def E_14 : Entry where
 params := [.v (.slice .int)]
 results := [.mv .int 0]
 B := (List Int)
 run := fun a => spec_l1Own a
 out := fun b => ()
 res := fun b => b
noncomputable def C_14 : Cx where
 tt := tblTT tt
 T := tblT []
 L := tblL []
 dep := fun i => 0
 n := 1
noncomputable def D_14 : Code := Try.f66.body.getD .skip
noncomputable def N_14 (_ : outs [.v (.slice .int)]) (r : dens [.mv .int 0]) : (List Int) := r
noncomputable def E_15 : Entry where
 params := [.v (.slice (.slice .int)), .v (.slice .int)]
 results := [.v .int, .v .bool]
 B := Int × Bool
 run := fun a => spec_l8Find a.1 a.2
 out := fun b => ((), ())
 res := fun b => (b.1, b.2)
noncomputable def S_15L2 (n : Nat) : LoopSpec where
 sh := [(0, .v (.slice (.slice .int))), (1, .v (.slice .int)), (6, .v .int), (7, .v .int)]
 ex := [(.exit 0, [(0, .v (.slice (.slice .int))), (1, .v (.slice .int)), (6, .v .int)])]
 run := spec_l8Find_L2 n
noncomputable def C_15 : Cx where
 tt := tblTT tt
 T := tblT [(63, E_10), (93, E_12)]
 L := tblL [(2, S_15L2 fuel)]
 dep := fun i => 0
 n := 2
noncomputable def B_15L2 : Code := (Try.f74.body.bind (loopBody 2)).getD .skip
noncomputable def D_15 : Code := Try.f74.body.getD .skip
noncomputable def N_15 (_ : outs [.v (.slice (.slice .int)), .v (.slice .int)]) (r : dens [.v .int, .v .bool]) : Int × Bool := (r.1, r.2)
noncomputable def E_16 : Entry where
 params := [.v (.slice (.slice .int)), .v (.slice .int)]
 results := [.v (.slice (.slice .int))]
 B := (List (List Int))
 run := fun a => spec_l8Put a.1 a.2
 out := fun b => ((), ())
 res := fun b => b
noncomputable def C_16 : Cx where
 tt := tblTT tt
 T := tblT [(74, E_15)]
 L := tblL []
 dep := fun i => 0
 n := 2
noncomputable def D_16 : Code := Try.f65.body.getD .skip
noncomputable def N_16 (_ : outs [.v (.slice (.slice .int)), .v (.slice .int)]) (r : dens [.v (.slice (.slice .int))]) : (List (List Int)) := r
noncomputable def E_17 : Entry where
 params := [.v .int, .v .int, .v (.slice (.slice .int))]
 results := [.mv (.slice .int) 0, .v (.slice (.slice .int))]
 B := (List (List Int)) × (List (List Int))
 run := fun a => spec_l21Forks a.1 a.2.1 a.2.2
 out := fun b => ((), (), ())
 res := fun b => (b.1, b.2)
noncomputable def S_17L9 (n : Nat) : LoopSpec where
 sh := [(0, .v .int), (1, .v .int), (2, .v (.slice (.slice .int))), (8, .mv (.slice .int) 0), (9, .v (.slice (.slice .int))), (10, .v .int), (11, .v .int), (12, .v .int)]
 ex := [(.exit 4, [(0, .v .int), (1, .v .int), (2, .v (.slice (.slice .int))), (8, .mv (.slice .int) 0), (9, .v (.slice (.slice .int))), (10, .v .int), (11, .v .int)])]
 run := spec_l21Forks_L9 n
noncomputable def S_17L6 (n : Nat) : LoopSpec where
 sh := [(0, .v .int), (1, .v .int), (2, .v (.slice (.slice .int))), (8, .mv (.slice .int) 0), (9, .v (.slice (.slice .int))), (10, .v .int), (11, .v .int)]
 ex := [(.exit 2, [(0, .v .int), (1, .v .int), (2, .v (.slice (.slice .int))), (8, .mv (.slice .int) 0), (9, .v (.slice (.slice .int))), (10, .v .int)])]
 run := spec_l21Forks_L6 n
noncomputable def S_17L3 (n : Nat) : LoopSpec where
 sh := [(0, .v .int), (1, .v .int), (2, .v (.slice (.slice .int))), (8, .mv (.slice .int) 0), (9, .v (.slice (.slice .int))), (10, .v .int)]
 ex := [(.exit 0, [(8, .mv (.slice .int) 0), (9, .v (.slice (.slice .int)))])]
 run := spec_l21Forks_L3 n
noncomputable def C_17 : Cx where
 tt := tblTT tt
 T := tblT [(64, E_13), (65, E_16), (66, E_14)]
 L := tblL [(9, S_17L9 fuel), (6, S_17L6 fuel), (3, S_17L3 fuel)]
 dep := fun i => 0
 n := 3
noncomputable def B_17L9 : Code := (Try.f31.body.bind (loopBody 9)).getD .skip
noncomputable def B_17L6 : Code := (Try.f31.body.bind (loopBody 6)).getD .skip
noncomputable def B_17L3 : Code := (Try.f31.body.bind (loopBody 3)).getD .skip
noncomputable def D_17 : Code := Try.f31.body.getD .skip
noncomputable def N_17 (_ : outs [.v .int, .v .int, .v (.slice (.slice .int))]) (r : dens [.mv (.slice .int) 0, .v (.slice (.slice .int))]) : (List (List Int)) × (List (List Int)) := (r.1, r.2)
noncomputable def E_18 : Entry where
 params := [.v .int, .v .int, .v (.slice (.slice .int))]
 results := [.mv (.slice .int) 0, .v .bool]
 B := (List (List Int)) × Bool
 run := fun a => spec_ForksOf a.1 a.2.1 a.2.2
 out := fun b => ((), (), ())
 res := fun b => (b.1, b.2)
noncomputable def C_18 : Cx where
 tt := tblTT tt
 T := tblT [(30, E_11), (31, E_17)]
 L := tblL []
 dep := fun i => 0
 n := 3
noncomputable def D_18 : Code := Try.f8.body.getD .skip
noncomputable def N_18 (_ : outs [.v .int, .v .int, .v (.slice (.slice .int))]) (r : dens [.mv (.slice .int) 0, .v .bool]) : (List (List Int)) × Bool := (r.1, r.2)
noncomputable def E_19 : Entry where
 params := [.v .int]
 results := [.v .bool]
 B := Bool
 run := fun a => impl_isSize a
 out := fun b => ()
 res := fun b => b
noncomputable def C_19 : Cx where
 tt := tblTT tt
 T := tblT []
 L := tblL []
 dep := fun i => 0
 n := 1
noncomputable def D_19 : Code := Try.f49.body.getD .skip
noncomputable def N_19 (_ : outs [.v .int]) (r : dens [.v .bool]) : Bool := r
noncomputable def E_20 : Entry where
 params := [.v (.slice .int), .v .int]
 results := [.v .bool]
 B := Bool
 run := fun a => impl_inSize a.1 a.2
 out := fun b => ((), ())
 res := fun b => b
noncomputable def S_20L2 (n : Nat) : LoopSpec where
 sh := [(1, .v .int), (7, .v (.slice .int)), (8, .v .int), (9, .v .int)]
 ex := [(.exit 0, []), (.ret, [(4, .v .bool)])]
 run := impl_inSize_L2 n
noncomputable def C_20 : Cx where
 tt := tblTT tt
 T := tblT []
 L := tblL [(2, S_20L2 fuel)]
 dep := fun i => 0
 n := 2
noncomputable def B_20L2 : Code := (Try.f67.body.bind (loopBody 2)).getD .skip
noncomputable def D_20 : Code := Try.f67.body.getD .skip
noncomputable def N_20 (_ : outs [.v (.slice .int), .v .int]) (r : dens [.v .bool]) : Bool := r
noncomputable def E_21 : Entry where
 params := [.v (.slice .int), .v (.slice .int)]
 results := [.v .int]
 B := Int
 run := fun a => impl_compareLists a.1 a.2
 out := fun b => ((), ())
 res := fun b => b
noncomputable def S_21L2 (n : Nat) : LoopSpec where
 sh := [(0, .v (.slice .int)), (1, .v (.slice .int)), (5, .v .int)]
 ex := [(.exit 0, [(0, .v (.slice .int)), (1, .v (.slice .int))]), (.ret, [(4, .v .int)])]
 run := impl_compareLists_L2 n
noncomputable def C_21 : Cx where
 tt := tblTT tt
 T := tblT []
 L := tblL [(2, S_21L2 fuel)]
 dep := fun i => 0
 n := 2
noncomputable def B_21L2 : Code := (Try.f37.body.bind (loopBody 2)).getD .skip
noncomputable def D_21 : Code := Try.f37.body.getD .skip
noncomputable def N_21 (_ : outs [.v (.slice .int), .v (.slice .int)]) (r : dens [.v .int]) : Int := r
noncomputable def E_22 : Entry where
 params := [.v .int, .v .int, .v (.slice (.slice .int))]
 results := [.v .bool]
 B := Bool
 run := fun a => impl_isTupleSet a.1 a.2.1 a.2.2
 out := fun b => ((), (), ())
 res := fun b => b
noncomputable def S_22L4 (n : Nat) : LoopSpec where
 sh := [(0, .v .int), (1, .v .int), (2, .v (.slice (.slice .int))), (20, .v (.slice (.slice .int))), (21, .v .int), (22, .v .int)]
 ex := [(.exit 0, []), (.ret, [(6, .v .bool)])]
 run := impl_isTupleSet_L4 n
noncomputable def C_22 : Cx where
 tt := tblTT tt
 T := tblT [(37, E_21), (49, E_19), (67, E_20)]
 L := tblL [(4, S_22L4 fuel)]
 dep := fun i => 0
 n := 3
noncomputable def B_22L4 : Code := (Try.f33.body.bind (loopBody 4)).getD .skip
noncomputable def D_22 : Code := Try.f33.body.getD .skip
noncomputable def N_22 (_ : outs [.v .int, .v .int, .v (.slice (.slice .int))]) (r : dens [.v .bool]) : Bool := r
noncomputable def E_23 : Entry where
 params := [.v (.slice .int), .v (.slice .int)]
 results := [.v .bool]
 B := Bool
 run := fun a => impl_sameList a.1 a.2
 out := fun b => ((), ())
 res := fun b => b
noncomputable def S_23L4 (n : Nat) : LoopSpec where
 sh := [(1, .v (.slice .int)), (12, .v (.slice .int)), (13, .v .int), (14, .v .int)]
 ex := [(.exit 0, []), (.ret, [(4, .v .bool)])]
 run := impl_sameList_L4 n
noncomputable def C_23 : Cx where
 tt := tblTT tt
 T := tblT []
 L := tblL [(4, S_23L4 fuel)]
 dep := fun i => 0
 n := 2
noncomputable def B_23L4 : Code := (Try.f68.body.bind (loopBody 4)).getD .skip
noncomputable def D_23 : Code := Try.f68.body.getD .skip
noncomputable def N_23 (_ : outs [.v (.slice .int), .v (.slice .int)]) (r : dens [.v .bool]) : Bool := r
noncomputable def E_24 : Entry where
 params := [.mv (.slice .int) 1]
 results := [.mv (.slice .int) 1]
 B := List (List Int)
 run := fun a => impl_different a
 out := fun b => ()
 res := fun b => b
noncomputable def D_24 : Code := Try.f38.body.getD .skip
noncomputable def E_25 : Entry where
 params := [.v .int, .v (.slice .int), .v (.slice .int), .bx (.mv (.slice .int) 1)]
 results := []
 B := (List (List Int))
 run := fun a => impl_ForksOf_c1 a.1 a.2.1 a.2.2.1 a.2.2.2
 out := fun b => ((), (), (), b)
 res := fun b => ()
noncomputable def C_25 : Cx where
 tt := tblTT tt
 T := tblT []
 L := tblL []
 dep := fun i => match i with
  | 18 => 1
  | 19 => 1
  | _ => 0
 n := 4
noncomputable def D_25 : Code := Try.f35.body.getD .skip
noncomputable def N_25 (o : outs [.v .int, .v (.slice .int), .v (.slice .int), .bx (.mv (.slice .int) 1)]) (_ : dens []) : (List (List Int)) := o.2.2.2
noncomputable def E_26 : Entry where
 params := [.v .int, .v (.slice (.slice .int)), .bx (.mv (.slice .int) 1)]
 results := []
 cod := [(2, .cl 35)]
 B := (List (List Int))
 run := fun a => impl_forksOf_impl_ForksOf_c1 a.1 a.2.1 a.2.2
 out := fun b => ((), (), b)
 res := fun b => ()
noncomputable def S_26L7 (n : Nat) : LoopSpec where
 sh := [(0, .v .int), (1, .v (.slice (.slice .int))), (2, .bx (.mv (.slice .int) 1)), (6, .v .int), (7, .v .int), (8, .v .int), (9, .mv (.slice .int) 0)]
 ex := [(.exit 4, [(0, .v .int), (1, .v (.slice (.slice .int))), (2, .bx (.mv (.slice .int) 1)), (6, .v .int), (8, .v .int), (9, .mv (.slice .int) 0)])]
 run := impl_forksOf_impl_ForksOf_c1_L7 n
noncomputable def S_26L15 (n : Nat) : LoopSpec where
 sh := [(655434, .jk 1), (655440, .jk 1), (0, .v .int), (1, .v (.slice (.slice .int))), (2, .bx (.mv (.slice .int) 1)), (6, .v .int), (8, .v .int), (9, .mv (.slice .int) 0), (11, .v (.slice .int)), (75, .v .int), (76, .v .int), (81, .v .int), (82, .v .int)]
 ex := [(.exit 8, [(655434, .jk 1), (0, .v .int), (1, .v (.slice (.slice .int))), (2, .bx (.mv (.slice .int) 1)), (6, .v .int), (8, .v .int), (9, .mv (.slice .int) 0), (75, .v .int), (76, .v .int)])]
 run := impl_forksOf_impl_ForksOf_c1_L15 n
noncomputable def S_26L12 (n : Nat) : LoopSpec where
 sh := [(655434, .jk 1), (0, .v .int), (1, .v (.slice (.slice .int))), (2, .bx (.mv (.slice .int) 1)), (6, .v .int), (8, .v .int), (9, .mv (.slice .int) 0), (75, .v .int), (76, .v .int)]
 ex := [(.exit 6, [(0, .v .int), (1, .v (.slice (.slice .int))), (2, .bx (.mv (.slice .int) 1)), (6, .v .int), (8, .v .int)])]
 run := impl_forksOf_impl_ForksOf_c1_L12 n
noncomputable def S_26L4 (n : Nat) : LoopSpec where
 sh := [(0, .v .int), (1, .v (.slice (.slice .int))), (2, .bx (.mv (.slice .int) 1)), (6, .v .int), (7, .v .int)]
 ex := [(.exit 2, [(0, .v .int), (1, .v (.slice (.slice .int))), (2, .bx (.mv (.slice .int) 1)), (6, .v .int)])]
 run := impl_forksOf_impl_ForksOf_c1_L4 n
noncomputable def S_26L1 (n : Nat) : LoopSpec where
 sh := [(0, .v .int), (1, .v (.slice (.slice .int))), (2, .bx (.mv (.slice .int) 1)), (6, .v .int)]
 ex := [(.exit 0, [(2, .bx (.mv (.slice .int) 1))])]
 run := impl_forksOf_impl_ForksOf_c1_L1 n
noncomputable def C_26 : Cx where
 tt := tblTT tt
 T := tblT [(35, E_25), (68, E_23)]
 L := tblL [(7, S_26L7 fuel), (15, S_26L15 fuel), (12, S_26L12 fuel), (4, S_26L4 fuel), (1, S_26L1 fuel)]
 dep := fun i => 0
 n := 3
 cod := [(2, .cl 35)]
noncomputable def B_26L7 : Code := (Try.f34.body.bind (loopBody 7)).getD .skip
noncomputable def B_26L15 : Code := (Try.f34.body.bind (loopBody 15)).getD .skip
noncomputable def B_26L12 : Code := (Try.f34.body.bind (loopBody 12)).getD .skip
noncomputable def B_26L4 : Code := (Try.f34.body.bind (loopBody 4)).getD .skip
noncomputable def B_26L1 : Code := (Try.f34.body.bind (loopBody 1)).getD .skip
noncomputable def D_26 : Code := Try.f34.body.getD .skip
noncomputable def N_26 (o : outs [.v .int, .v (.slice (.slice .int)), .bx (.mv (.slice .int) 1)]) (_ : dens []) : (List (List Int)) := o.2.2
noncomputable def E_27 : Entry where
 params := [.io (.slice .int) 1, .v (.fn 37)]
 results := []
 B := List (List Int)
 run := fun a => impl_sortRows_impl_compareLists a.1 a.2
 out := fun b => (b, ())
 res := fun b => ()
noncomputable def D_27 : Code := Try.f36.body.getD .skip
noncomputable def E_28 : Entry where
 params := [.v .int, .v .int, .v (.slice (.slice .int))]
 results := [.mv (.slice .int) 1, .v .bool]
 B := (List (List Int)) × Bool
 run := fun a => impl_ForksOf a.1 a.2.1 a.2.2
 out := fun b => ((), (), ())
 res := fun b => (b.1, b.2)
noncomputable def C_28 : Cx where
 tt := tblTT tt
 T := tblT [(33, E_22), (38, E_24), (2359330, E_26), (2490404, E_27)]
 L := tblL []
 dep := fun i => match i with
  | 14 => 1
  | 15 => 1
  | _ => 0
 n := 3
noncomputable def D_28 : Code := Try.f10.body.getD .skip
noncomputable def N_28 (_ : outs [.v .int, .v .int, .v (.slice (.slice .int))]) (r : dens [.mv (.slice .int) 1, .v .bool]) : (List (List Int)) × Bool := (r.1, r.2)
noncomputable def E_29 : Entry where
 params := [.v (.slice .int), .v (.slice .int)]
 results := [.v .bool]
 B := Bool
 run := fun a => laws_eqIntS a.1 a.2
 out := fun b => ((), ())
 res := fun b => b
noncomputable def S_29L4 (n : Nat) : LoopSpec where
 sh := [(0, .v (.slice .int)), (1, .v (.slice .int)), (5, .v .int)]
 ex := [(.exit 0, []), (.ret, [(4, .v .bool)])]
 run := laws_eqIntS_L4 n
noncomputable def C_29 : Cx where
 tt := tblTT tt
 T := tblT []
 L := tblL [(4, S_29L4 fuel)]
 dep := fun i => 0
 n := 2
noncomputable def B_29L4 : Code := (Try.f39.body.bind (loopBody 4)).getD .skip
noncomputable def D_29 : Code := Try.f39.body.getD .skip
noncomputable def N_29 (_ : outs [.v (.slice .int), .v (.slice .int)]) (r : dens [.v .bool]) : Bool := r
noncomputable def E_30 : Entry where
 params := [.v (.slice (.slice .int)), .v (.slice (.slice .int))]
 results := [.v .bool]
 B := Bool
 run := fun a => laws_eqIntSS a.1 a.2
 out := fun b => ((), ())
 res := fun b => b
noncomputable def S_30L4 (n : Nat) : LoopSpec where
 sh := [(0, .v (.slice (.slice .int))), (1, .v (.slice (.slice .int))), (5, .v .int)]
 ex := [(.exit 0, []), (.ret, [(4, .v .bool)])]
 run := laws_eqIntSS_L4 n
noncomputable def C_30 : Cx where
 tt := tblTT tt
 T := tblT [(39, E_29)]
 L := tblL [(4, S_30L4 fuel)]
 dep := fun i => 0
 n := 2
noncomputable def B_30L4 : Code := (Try.f11.body.bind (loopBody 4)).getD .skip
noncomputable def D_30 : Code := Try.f11.body.getD .skip
noncomputable def N_30 (_ : outs [.v (.slice (.slice .int)), .v (.slice (.slice .int))]) (r : dens [.v .bool]) : Bool := r
noncomputable def E_31 : Entry where
 params := [.io .int 0, .v .int]
 results := [.v .int]
 B := (List Int) × Int
 run := fun a => laws_markIntS a.1 a.2
 out := fun b => (b.1, ())
 res := fun b => b.2
noncomputable def S_31L2 (n : Nat) : LoopSpec where
 sh := [(0, .io .int 0), (1, .v .int), (5, .v .int)]
 ex := [(.exit 0, [(0, .io .int 0), (1, .v .int)])]
 run := laws_markIntS_L2 n
noncomputable def C_31 : Cx where
 tt := tblTT tt
 T := tblT []
 L := tblL [(2, S_31L2 fuel)]
 dep := fun i => 0
 n := 2
noncomputable def B_31L2 : Code := (Try.f40.body.bind (loopBody 2)).getD .skip
noncomputable def D_31 : Code := Try.f40.body.getD .skip
noncomputable def N_31 (o : outs [.io .int 0, .v .int]) (r : dens [.v .int]) : (List Int) × Int := (o.1, r)
noncomputable def E_32 : Entry where
 params := [.io (.slice .int) 1, .v .int]
 results := [.v .int]
 B := (List (List Int)) × Int
 run := fun a => laws_markIntSS a.1 a.2
 out := fun b => (b.1, ())
 res := fun b => b.2
noncomputable def S_32L2 (n : Nat) : LoopSpec where
 sh := [(0, .io (.slice .int) 1), (1, .v .int), (5, .v .int)]
 ex := [(.exit 0, [(0, .io (.slice .int) 1), (1, .v .int)])]
 run := laws_markIntSS_L2 n
noncomputable def C_32 : Cx where
 tt := tblTT tt
 T := tblT [(40, E_31)]
 L := tblL [(2, S_32L2 fuel)]
 dep := fun i => 0
 n := 2
noncomputable def B_32L2 : Code := (Try.f12.body.bind (loopBody 2)).getD .skip
noncomputable def D_32 : Code := Try.f12.body.getD .skip
noncomputable def N_32 (o : outs [.io (.slice .int) 1, .v .int]) (r : dens [.v .int]) : (List (List Int)) × Int := (o.1, r)
noncomputable def E_33 : Entry where
 params := [.v (.slice .int), .v .int]
 results := [.v .int]
 B := Int
 run := fun a => laws_heldIntS a.1 a.2
 out := fun b => ((), ())
 res := fun b => b
noncomputable def S_33L2 (n : Nat) : LoopSpec where
 sh := [(0, .v (.slice .int)), (1, .v .int), (5, .v .int)]
 ex := [(.exit 0, [(1, .v .int)]), (.ret, [(4, .v .int)])]
 run := laws_heldIntS_L2 n
noncomputable def C_33 : Cx where
 tt := tblTT tt
 T := tblT []
 L := tblL [(2, S_33L2 fuel)]
 dep := fun i => 0
 n := 2
noncomputable def B_33L2 : Code := (Try.f41.body.bind (loopBody 2)).getD .skip
noncomputable def D_33 : Code := Try.f41.body.getD .skip
noncomputable def N_33 (_ : outs [.v (.slice .int), .v .int]) (r : dens [.v .int]) : Int := r
noncomputable def E_34 : Entry where
 params := [.v (.slice (.slice .int)), .v .int]
 results := [.v .int]
 B := Int
 run := fun a => laws_heldIntSS a.1 a.2
 out := fun b => ((), ())
 res := fun b => b
noncomputable def S_34L2 (n : Nat) : LoopSpec where
 sh := [(0, .v (.slice (.slice .int))), (1, .v .int), (5, .v .int)]
 ex := [(.exit 0, [(1, .v .int)]), (.ret, [(4, .v .int)])]
 run := laws_heldIntSS_L2 n
noncomputable def C_34 : Cx where
 tt := tblTT tt
 T := tblT [(41, E_33)]
 L := tblL [(2, S_34L2 fuel)]
 dep := fun i => 0
 n := 2
noncomputable def B_34L2 : Code := (Try.f13.body.bind (loopBody 2)).getD .skip
noncomputable def D_34 : Code := Try.f13.body.getD .skip
noncomputable def N_34 (_ : outs [.v (.slice (.slice .int)), .v .int]) (r : dens [.v .int]) : Int := r
noncomputable def E_35 : Entry where
 params := [.v .int, .v .int, .v (.slice (.slice .int))]
 results := [.v .bool]
 B := Bool
 run := fun a => laws_FnExactForksOf a.1 a.2.1 a.2.2
 out := fun b => ((), (), ())
 res := fun b => b
noncomputable def C_35 : Cx where
 tt := tblTT tt
 T := tblT [(7, E_2), (8, E_18), (9, E_4), (10, E_28), (11, E_30), (12, E_32), (13, E_34)]
 L := tblL []
 dep := fun i => 0
 n := 3
noncomputable def D_35 : Code := Try.f3.body.getD .skip
noncomputable def N_35 (_ : outs [.v .int, .v .int, .v (.slice (.slice .int))]) (r : dens [.v .bool]) : Bool := r
end T
