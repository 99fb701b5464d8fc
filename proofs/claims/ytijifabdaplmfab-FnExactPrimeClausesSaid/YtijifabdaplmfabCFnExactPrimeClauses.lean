/- Contexts of the typed functions; no conditions. -/
import Derived.Test.YtijifabdaplmfabV5
import Derived.Test.YtijifabdaplmfabProg
import Derived.Test.YtijifabdaplmfabPFnExactPrimeClauses
import Derived.KernelRfl
set_option linter.all false
set_option linter.unusedVariables false
set_option maxRecDepth 10000
open Go Go.Va Go.Proofs
namespace T
noncomputable def tt : List (Nat × TI) := [
 (3, { ty := .int }),
 (4, { ty := .bool }),
 (22, { ty := (.slice (.slice .int)), elem := 53 }),
 (24, { ty := (.pair .int (.slice (.slice .int))), fields := [3, 22] }),
 (28, { ty := (.pair .int (.slice (.slice .int))), fields := [3, 22] }),
 (53, { ty := (.slice .int), elem := 3 }),
 (89, { ty := (.op false) })]
theorem tabT : tabOk Try.prog tt = true := by kernel_rfl
theorem mixT : Try.prog.follows .mixedOrders = true := by kernel_rfl
noncomputable def E_1 : Entry where
 params := [.v (.slice .int), .v .int]
 results := [.v .int]
 B := Int
 run := fun a => laws_szIntS a.1 a.2
 out := fun b => ((), ())
 res := fun b => b
noncomputable def C_1 : Cx where
 tt := tblTT tt
 T := tblT []
 L := tblL []
 dep := fun i => 0
 n := 2
noncomputable def D_1 : Code := Try.f51.body.getD .skip
noncomputable def N_1 (_ : outs [.v (.slice .int), .v .int]) (r : dens [.v .int]) : Int := r
noncomputable def E_2 : Entry where
 params := [.v (.slice (.slice .int)), .v .int]
 results := [.v .int]
 B := Int
 run := fun a => laws_szIntSS a.1 a.2
 out := fun b => ((), ())
 res := fun b => b
noncomputable def S_2L5 (n : Nat) : LoopSpec where
 sh := [(0, .v (.slice (.slice .int))), (1, .v .int), (5, .v .int)]
 ex := [(.exit 0, [(1, .v .int)]), (.ret, [(4, .v .int)])]
 run := laws_szIntSS_L5 n
noncomputable def C_2 : Cx where
 tt := tblTT tt
 T := tblT [(51, E_1)]
 L := tblL [(5, S_2L5 fuel)]
 dep := fun i => 0
 n := 2
noncomputable def B_2L5 : Code := (Try.f34.body.bind (loopBody 5)).getD .skip
noncomputable def D_2 : Code := Try.f34.body.getD .skip
noncomputable def N_2 (_ : outs [.v (.slice (.slice .int)), .v .int]) (r : dens [.v .int]) : Int := r
noncomputable def E_3 : Entry where
 params := [.v (.pair .int (.slice (.slice .int))), .v .int]
 results := [.v .int]
 B := Int
 run := fun a => laws_szRelation a.1 a.2
 out := fun b => ((), ())
 res := fun b => b
noncomputable def C_3 : Cx where
 tt := tblTT tt
 T := tblT [(34, E_2)]
 L := tblL []
 dep := fun i => 0
 n := 2
noncomputable def D_3 : Code := Try.f7.body.getD .skip
noncomputable def N_3 (_ : outs [.v (.pair .int (.slice (.slice .int))), .v .int]) (r : dens [.v .int]) : Int := r
noncomputable def E_4 : Entry where
 params := [.v (.slice .int)]
 results := [.mv .int 0]
 B := (List Int)
 run := fun a => laws_toIntS a
 out := fun b => ()
 res := fun b => b
noncomputable def S_4L3 (n : Nat) : LoopSpec where
 sh := [(0, .v (.slice .int)), (3, .mv .int 0), (4, .v .int)]
 ex := [(.exit 0, [(3, .mv .int 0)])]
 run := laws_toIntS_L3 n
noncomputable def C_4 : Cx where
 tt := tblTT tt
 T := tblT []
 L := tblL [(3, S_4L3 fuel)]
 dep := fun i => 0
 n := 1
noncomputable def B_4L3 : Code := (Try.f57.body.bind (loopBody 3)).getD .skip
noncomputable def D_4 : Code := Try.f57.body.getD .skip
noncomputable def N_4 (_ : outs [.v (.slice .int)]) (r : dens [.mv .int 0]) : (List Int) := r
noncomputable def E_5 : Entry where
 params := [.v (.slice (.slice .int))]
 results := [.mv (.slice .int) 1]
 B := (List (List Int))
 run := fun a => laws_toIntSS a
 out := fun b => ()
 res := fun b => b
noncomputable def S_5L3 (n : Nat) : LoopSpec where
 sh := [(0, .v (.slice (.slice .int))), (3, .mv (.slice .int) 1), (4, .v .int)]
 ex := [(.exit 0, [(3, .mv (.slice .int) 1)])]
 run := laws_toIntSS_L3 n
noncomputable def C_5 : Cx where
 tt := tblTT tt
 T := tblT [(57, E_4)]
 L := tblL [(3, S_5L3 fuel)]
 dep := fun i => match i with
  | 7 => 1
  | _ => 0
 n := 1
noncomputable def B_5L3 : Code := (Try.f37.body.bind (loopBody 3)).getD .skip
noncomputable def D_5 : Code := Try.f37.body.getD .skip
noncomputable def N_5 (_ : outs [.v (.slice (.slice .int))]) (r : dens [.mv (.slice .int) 1]) : (List (List Int)) := r
noncomputable def E_6 : Entry where
 params := [.v (.pair .int (.slice (.slice .int)))]
 results := [.pr (.v .int) (.mv (.slice .int) 1)]
 B := (Int × (List (List Int)))
 run := fun a => laws_toRelation a
 out := fun b => ()
 res := fun b => b
noncomputable def C_6 : Cx where
 tt := tblTT tt
 T := tblT [(37, E_5)]
 L := tblL []
 dep := fun i => 0
 n := 1
noncomputable def D_6 : Code := Try.f9.body.getD .skip
noncomputable def N_6 (_ : outs [.v (.pair .int (.slice (.slice .int)))]) (r : dens [.pr (.v .int) (.mv (.slice .int) 1)]) : (Int × (List (List Int))) := r
noncomputable def E_7 : Entry where
 params := [.v .int, .v .int, .v .int]
 results := [.v .bool]
 B := Bool
 run := fun a => spec_l1In a.1 a.2.1 a.2.2
 out := fun b => ((), (), ())
 res := fun b => b
noncomputable def C_7 : Cx where
 tt := tblTT tt
 T := tblT []
 L := tblL []
 dep := fun i => 0
 n := 3
noncomputable def D_7 : Code := Try.f63.body.getD .skip
noncomputable def N_7 (_ : outs [.v .int, .v .int, .v .int]) (r : dens [.v .bool]) : Bool := r
noncomputable def E_8 : Entry where
 params := [.v .int, .v .int]
 results := [.v .int]
 B := Int
 run := fun a => spec_l2Pow a.1 a.2
 out := fun b => ((), ())
 res := fun b => b
noncomputable def S_8L2 (n : Nat) : LoopSpec where
 sh := [(0, .v .int), (1, .v .int), (5, .v .int)]
 ex := [(.exit 0, [(5, .v .int)])]
 run := spec_l2Pow_L2 n
noncomputable def C_8 : Cx where
 tt := tblTT tt
 T := tblT []
 L := tblL [(2, S_8L2 fuel)]
 dep := fun i => 0
 n := 2
noncomputable def B_8L2 : Code := (Try.f64.body.bind (loopBody 2)).getD .skip
noncomputable def D_8 : Code := Try.f64.body.getD .skip
noncomputable def N_8 (_ : outs [.v .int, .v .int]) (r : dens [.v .int]) : Int := r
noncomputable def E_9 : Entry where
 params := [.v .int, .v (.slice .int)]
 results := [.v .bool]
 B := Bool
 run := fun a => spec_l2Elements a.1 a.2
 out := fun b => ((), ())
 res := fun b => b
noncomputable def S_9L2 (n : Nat) : LoopSpec where
 sh := [(0, .v .int), (1, .v (.slice .int)), (5, .v .int)]
 ex := [(.exit 0, []), (.ret, [(4, .v .bool)])]
 run := spec_l2Elements_L2 n
noncomputable def C_9 : Cx where
 tt := tblTT tt
 T := tblT [(63, E_7)]
 L := tblL [(2, S_9L2 fuel)]
 dep := fun i => 0
 n := 2
noncomputable def B_9L2 : Code := (Try.f85.body.bind (loopBody 2)).getD .skip
noncomputable def D_9 : Code := Try.f85.body.getD .skip
noncomputable def N_9 (_ : outs [.v .int, .v (.slice .int)]) (r : dens [.v .bool]) : Bool := r
noncomputable def E_10 : Entry where
 params := [.v .int, .v .int, .v (.slice .int)]
 results := [.v .bool]
 B := Bool
 run := fun a => spec_l8Tuple a.1 a.2.1 a.2.2
 out := fun b => ((), (), ())
 res := fun b => b
noncomputable def C_10 : Cx where
 tt := tblTT tt
 T := tblT [(85, E_9)]
 L := tblL []
 dep := fun i => 0
 n := 3
noncomputable def D_10 : Code := Try.f65.body.getD .skip
noncomputable def N_10 (_ : outs [.v .int, .v .int, .v (.slice .int)]) (r : dens [.v .bool]) : Bool := r
noncomputable def E_11 : Entry where
 params := [.v (.slice .int), .v (.slice .int)]
 results := [.v .bool]
 B := Bool
 run := fun a => spec_l3Less a.1 a.2
 out := fun b => ((), ())
 res := fun b => b
noncomputable def S_11L2 (n : Nat) : LoopSpec where
 sh := [(0, .v (.slice .int)), (1, .v (.slice .int)), (5, .v .int)]
 ex := [(.exit 0, []), (.ret, [(4, .v .bool)])]
 run := spec_l3Less_L2 n
noncomputable def C_11 : Cx where
 tt := tblTT tt
 T := tblT []
 L := tblL [(2, S_11L2 fuel)]
 dep := fun i => 0
 n := 2
noncomputable def B_11L2 : Code := (Try.f66.body.bind (loopBody 2)).getD .skip
noncomputable def D_11 : Code := Try.f66.body.getD .skip
noncomputable def N_11 (_ : outs [.v (.slice .int), .v (.slice .int)]) (r : dens [.v .bool]) : Bool := r
noncomputable def E_12 : Entry where
 params := [.v .int, .v (.pair .int (.slice (.slice .int)))]
 results := [.v .bool]
 B := Bool
 run := fun a => spec_l13Good a.1 a.2
 out := fun b => ((), ())
 res := fun b => b
noncomputable def S_12L4 (n : Nat) : LoopSpec where
 sh := [(0, .v .int), (3, .bx (.v (.pair .int (.slice (.slice .int))))), (5, .v .int)]
 ex := [(.exit 0, []), (.ret, [(4, .v .bool)])]
 run := spec_l13Good_L4 n
noncomputable def C_12 : Cx where
 tt := tblTT tt
 T := tblT [(63, E_7), (64, E_8), (65, E_10), (66, E_11)]
 L := tblL [(4, S_12L4 fuel)]
 dep := fun i => 0
 n := 2
noncomputable def B_12L4 : Code := (Try.f35.body.bind (loopBody 4)).getD .skip
noncomputable def D_12 : Code := Try.f35.body.getD .skip
noncomputable def N_12 (_ : outs [.v .int, .v (.pair .int (.slice (.slice .int)))]) (r : dens [.v .bool]) : Bool := r
noncomputable def E_13 : Entry where
 params := [.v .int, .v .int, .v .int]
 results := [.mv .int 0]
 B := (List Int)
 run := fun a => spec_l2Args a.1 a.2.1 a.2.2
 out := fun b => ((), (), ())
 res := fun b => b
noncomputable def S_13L3 (n : Nat) : LoopSpec where
 sh := [(0, .v .int), (2, .v .int), (7, .mv .int 0), (8, .v .int)]
 ex := [(.exit 0, [(7, .mv .int 0)])]
 run := spec_l2Args_L3 n
noncomputable def C_13 : Cx where
 tt := tblTT tt
 T := tblT []
 L := tblL [(3, S_13L3 fuel)]
 dep := fun i => 0
 n := 3
noncomputable def B_13L3 : Code := (Try.f86.body.bind (loopBody 3)).getD .skip
noncomputable def D_13 : Code := Try.f86.body.getD .skip
noncomputable def N_13 (_ : outs [.v .int, .v .int, .v .int]) (r : dens [.mv .int 0]) : (List Int) := r
noncomputable def E_14 : Entry where
 params := [.v (.slice .int), .v (.slice .int)]
 results := [.v .bool]
 B := Bool
 run := fun a => spec_l3Before a.1 a.2
 out := fun b => ((), ())
 res := fun b => b
noncomputable def C_14 : Cx where
 tt := tblTT tt
 T := tblT [(66, E_11)]
 L := tblL []
 dep := fun i => 0
 n := 2
noncomputable def D_14 : Code := Try.f87.body.getD .skip
noncomputable def N_14 (_ : outs [.v (.slice .int), .v (.slice .int)]) (r : dens [.v .bool]) : Bool := r
noncomputable def E_15 : Entry where
 params := [.v .int]
 results := [.v (.slice (.slice .int))]
 B := (List (List Int))
 run := fun a => spec_l22Clauses a
 out := fun b => ()
 res := fun b => b
noncomputable def S_15L7 (n : Nat) : LoopSpec where
 sh := [(0, .v .int), (3, .v (.slice (.slice .int))), (4, .v .int), (5, .mv .int 0), (6, .mv .int 0), (7, .v .int)]
 ex := [(.exit 2, [(0, .v .int), (3, .v (.slice (.slice .int))), (4, .v .int), (6, .mv .int 0)])]
 run := spec_l22Clauses_L7 n
noncomputable def S_15L14 (n : Nat) : LoopSpec where
 sh := [(0, .v .int), (3, .v (.slice (.slice .int))), (4, .v .int), (6, .mv .int 0), (8, .v .int)]
 ex := [(.exit 4, [(0, .v .int), (3, .v (.slice (.slice .int))), (4, .v .int), (6, .mv .int 0), (8, .v .int)])]
 run := spec_l22Clauses_L14 n
noncomputable def S_15L3 (n : Nat) : LoopSpec where
 sh := [(0, .v .int), (3, .v (.slice (.slice .int))), (4, .v .int)]
 ex := [(.exit 0, [(3, .v (.slice (.slice .int)))])]
 run := spec_l22Clauses_L3 n
noncomputable def C_15 : Cx where
 tt := tblTT tt
 T := tblT [(64, E_8), (86, E_13), (87, E_14)]
 L := tblL [(7, S_15L7 fuel), (14, S_15L14 fuel), (3, S_15L3 fuel)]
 dep := fun i => 0
 n := 1
 fine := true
noncomputable def B_15L7 : Code := (Try.f67.body.bind (loopBody 7)).getD .skip
noncomputable def B_15L14 : Code := (Try.f67.body.bind (loopBody 14)).getD .skip
noncomputable def B_15L3 : Code := (Try.f67.body.bind (loopBody 3)).getD .skip
noncomputable def D_15 : Code := Try.f67.body.getD .skip
noncomputable def N_15 (_ : outs [.v .int]) (r : dens [.v (.slice (.slice .int))]) : (List (List Int)) := r
noncomputable def E_16 : Entry where
 params := [.v (.slice .int), .v (.slice .int)]
 results := [.v .bool]
 B := Bool
 run := fun a => spec_l22Obeys a.1 a.2
 out := fun b => ((), ())
 res := fun b => b
noncomputable def S_16L2 (n : Nat) : LoopSpec where
 sh := [(0, .v (.slice .int)), (1, .v (.slice .int)), (5, .v .int)]
 ex := [(.exit 0, []), (.ret, [(4, .v .bool)])]
 run := spec_l22Obeys_L2 n
noncomputable def C_16 : Cx where
 tt := tblTT tt
 T := tblT []
 L := tblL [(2, S_16L2 fuel)]
 dep := fun i => 0
 n := 2
noncomputable def B_16L2 : Code := (Try.f88.body.bind (loopBody 2)).getD .skip
noncomputable def D_16 : Code := Try.f88.body.getD .skip
noncomputable def N_16 (_ : outs [.v (.slice .int), .v (.slice .int)]) (r : dens [.v .bool]) : Bool := r
noncomputable def E_17 : Entry where
 params := [.v (.pair .int (.slice (.slice .int))), .v (.slice .int)]
 results := [.v .bool]
 B := Bool
 run := fun a => spec_l22All a.1 a.2
 out := fun b => ((), ())
 res := fun b => b
noncomputable def S_17L2 (n : Nat) : LoopSpec where
 sh := [(1, .v (.slice .int)), (2, .bx (.v (.pair .int (.slice (.slice .int))))), (5, .v .int)]
 ex := [(.exit 0, []), (.ret, [(4, .v .bool)])]
 run := spec_l22All_L2 n
noncomputable def C_17 : Cx where
 tt := tblTT tt
 T := tblT [(88, E_16)]
 L := tblL [(2, S_17L2 fuel)]
 dep := fun i => 0
 n := 2
noncomputable def B_17L2 : Code := (Try.f68.body.bind (loopBody 2)).getD .skip
noncomputable def D_17 : Code := Try.f68.body.getD .skip
noncomputable def N_17 (_ : outs [.v (.pair .int (.slice (.slice .int))), .v (.slice .int)]) (r : dens [.v .bool]) : Bool := r
noncomputable def E_18 : Entry where
 params := [.v (.slice .int)]
 results := [.mv .int 0]
 B := (List Int)
 run := fun a => spec_l1Own a
 out := fun b => ()
 res := fun b => b
noncomputable def C_18 : Cx where
 tt := tblTT tt
 T := tblT []
 L := tblL []
 dep := fun i => 0
 n := 1
noncomputable def D_18 : Code := Try.f45.body.getD .skip
noncomputable def N_18 (_ : outs [.v (.slice .int)]) (r : dens [.mv .int 0]) : (List Int) := r
noncomputable def E_19 : Entry where
 params := [.v (.pair .int (.slice (.slice .int)))]
 results := [.mv (.slice .int) 0]
 B := (List (List Int))
 run := fun a => spec_l22Prime a
 out := fun b => ()
 res := fun b => b
noncomputable def S_19L7 (n : Nat) : LoopSpec where
 sh := [(1, .bx (.v (.pair .int (.slice (.slice .int))))), (3, .mv (.slice .int) 0), (4, .v (.slice (.slice .int))), (5, .v .int), (6, .v .bool), (7, .v .int)]
 ex := [(.exit 2, [(1, .bx (.v (.pair .int (.slice (.slice .int))))), (3, .mv (.slice .int) 0), (4, .v (.slice (.slice .int))), (5, .v .int), (6, .v .bool)])]
 run := spec_l22Prime_L7 n
noncomputable def S_19L3 (n : Nat) : LoopSpec where
 sh := [(1, .bx (.v (.pair .int (.slice (.slice .int))))), (3, .mv (.slice .int) 0), (4, .v (.slice (.slice .int))), (5, .v .int)]
 ex := [(.exit 0, [(3, .mv (.slice .int) 0)])]
 run := spec_l22Prime_L3 n
noncomputable def C_19 : Cx where
 tt := tblTT tt
 T := tblT [(45, E_18), (67, E_15), (68, E_17)]
 L := tblL [(7, S_19L7 fuel), (3, S_19L3 fuel)]
 dep := fun i => 0
 n := 1
noncomputable def B_19L7 : Code := (Try.f36.body.bind (loopBody 7)).getD .skip
noncomputable def B_19L3 : Code := (Try.f36.body.bind (loopBody 3)).getD .skip
noncomputable def D_19 : Code := Try.f36.body.getD .skip
noncomputable def N_19 (_ : outs [.v (.pair .int (.slice (.slice .int)))]) (r : dens [.mv (.slice .int) 0]) : (List (List Int)) := r
noncomputable def E_20 : Entry where
 params := [.v (.pair .int (.slice (.slice .int)))]
 results := [.mv (.slice .int) 0, .v .bool]
 B := (List (List Int)) × Bool
 run := fun a => spec_PrimeClauses a
 out := fun b => ()
 res := fun b => (b.1, b.2)
noncomputable def C_20 : Cx where
 tt := tblTT tt
 T := tblT [(35, E_12), (36, E_19)]
 L := tblL []
 dep := fun i => 0
 n := 1
noncomputable def D_20 : Code := Try.f8.body.getD .skip
noncomputable def N_20 (_ : outs [.v (.pair .int (.slice (.slice .int)))]) (r : dens [.mv (.slice .int) 0, .v .bool]) : (List (List Int)) × Bool := (r.1, r.2)
noncomputable def E_21 : Entry where
 params := [.v (.slice .int), .v .int]
 results := [.v .bool]
 B := Bool
 run := fun a => impl_inSize a.1 a.2
 out := fun b => ((), ())
 res := fun b => b
noncomputable def S_21L2 (n : Nat) : LoopSpec where
 sh := [(1, .v .int), (7, .v (.slice .int)), (8, .v .int), (9, .v .int)]
 ex := [(.exit 0, []), (.ret, [(4, .v .bool)])]
 run := impl_inSize_L2 n
noncomputable def C_21 : Cx where
 tt := tblTT tt
 T := tblT []
 L := tblL [(2, S_21L2 fuel)]
 dep := fun i => 0
 n := 2
noncomputable def B_21L2 : Code := (Try.f69.body.bind (loopBody 2)).getD .skip
noncomputable def D_21 : Code := Try.f69.body.getD .skip
noncomputable def N_21 (_ : outs [.v (.slice .int), .v .int]) (r : dens [.v .bool]) : Bool := r
noncomputable def E_22 : Entry where
 params := [.v (.slice .int), .v (.slice .int)]
 results := [.v .int]
 B := Int
 run := fun a => impl_compareLists a.1 a.2
 out := fun b => ((), ())
 res := fun b => b
noncomputable def S_22L2 (n : Nat) : LoopSpec where
 sh := [(0, .v (.slice .int)), (1, .v (.slice .int)), (5, .v .int)]
 ex := [(.exit 0, [(0, .v (.slice .int)), (1, .v (.slice .int))]), (.ret, [(4, .v .int)])]
 run := impl_compareLists_L2 n
noncomputable def C_22 : Cx where
 tt := tblTT tt
 T := tblT []
 L := tblL [(2, S_22L2 fuel)]
 dep := fun i => 0
 n := 2
noncomputable def B_22L2 : Code := (Try.f70.body.bind (loopBody 2)).getD .skip
noncomputable def D_22 : Code := Try.f70.body.getD .skip
noncomputable def N_22 (_ : outs [.v (.slice .int), .v (.slice .int)]) (r : dens [.v .int]) : Int := r
noncomputable def E_23 : Entry where
 params := [.v .int, .v (.pair .int (.slice (.slice .int)))]
 results := [.v .bool]
 B := Bool
 run := fun a => impl_isRelation a.1 a.2
 out := fun b => ((), ())
 res := fun b => b
noncomputable def S_23L4 (n : Nat) : LoopSpec where
 sh := [(0, .v .int), (3, .bx (.v (.pair .int (.slice (.slice .int))))), (16, .v (.slice (.slice .int))), (17, .v .int), (18, .v .int)]
 ex := [(.exit 0, []), (.ret, [(4, .v .bool)])]
 run := impl_isRelation_L4 n
noncomputable def C_23 : Cx where
 tt := tblTT tt
 T := tblT [(69, E_21), (70, E_22)]
 L := tblL [(4, S_23L4 fuel)]
 dep := fun i => 0
 n := 2
noncomputable def B_23L4 : Code := (Try.f38.body.bind (loopBody 4)).getD .skip
noncomputable def D_23 : Code := Try.f38.body.getD .skip
noncomputable def N_23 (_ : outs [.v .int, .v (.pair .int (.slice (.slice .int)))]) (r : dens [.v .bool]) : Bool := r
noncomputable def E_24 : Entry where
 params := [.v .int, .v .int]
 results := [.v .int]
 B := Int
 run := fun a => impl_power a.1 a.2
 out := fun b => ((), ())
 res := fun b => b
noncomputable def S_24L2 (n : Nat) : LoopSpec where
 sh := [(0, .v .int), (1, .v .int), (5, .v .int)]
 ex := [(.exit 0, [(5, .v .int)])]
 run := impl_power_L2 n
noncomputable def C_24 : Cx where
 tt := tblTT tt
 T := tblT []
 L := tblL [(2, S_24L2 fuel)]
 dep := fun i => 0
 n := 2
noncomputable def B_24L2 : Code := (Try.f82.body.bind (loopBody 2)).getD .skip
noncomputable def D_24 : Code := Try.f82.body.getD .skip
noncomputable def N_24 (_ : outs [.v .int, .v .int]) (r : dens [.v .int]) : Int := r
noncomputable def E_25 : Entry where
 params := [.v .int, .v .int, .v .int]
 results := [.mv .int 0]
 B := (List Int)
 run := fun a => impl_argsAt a.1 a.2.1 a.2.2
 out := fun b => ((), (), ())
 res := fun b => b
noncomputable def S_25L3 (n : Nat) : LoopSpec where
 sh := [(0, .v .int), (2, .v .int), (7, .mv .int 0), (8, .v .int)]
 ex := [(.exit 0, [(7, .mv .int 0)])]
 run := impl_argsAt_L3 n
noncomputable def C_25 : Cx where
 tt := tblTT tt
 T := tblT []
 L := tblL [(3, S_25L3 fuel)]
 dep := fun i => 0
 n := 3
noncomputable def B_25L3 : Code := (Try.f89.body.bind (loopBody 3)).getD .skip
noncomputable def D_25 : Code := Try.f89.body.getD .skip
noncomputable def N_25 (_ : outs [.v .int, .v .int, .v .int]) (r : dens [.mv .int 0]) : (List Int) := r
noncomputable def E_26 : Entry where
 params := [.io (.slice .int) 1, .v (.fn 91)]
 results := []
 B := List (List Int)
 run := fun a => impl_sortRows_impl_compareTerms a.1 a.2
 out := fun b => (b, ())
 res := fun b => ()
noncomputable def D_26 : Code := Try.f90.body.getD .skip
noncomputable def E_27 : Entry where
 params := [.v .int]
 results := [.mv (.slice .int) 1]
 B := (List (List Int))
 run := fun a => impl_allClauses a
 out := fun b => ()
 res := fun b => b
noncomputable def S_27L7 (n : Nat) : LoopSpec where
 sh := [(0, .v .int), (3, .mv (.slice .int) 1), (4, .v .int), (5, .mv .int 0), (18, .mv .int 0), (19, .v .int), (20, .v .int)]
 ex := [(.exit 2, [(0, .v .int), (3, .mv (.slice .int) 1), (4, .v .int), (5, .mv .int 0)])]
 run := impl_allClauses_L7 n
noncomputable def S_27L3 (n : Nat) : LoopSpec where
 sh := [(0, .v .int), (3, .mv (.slice .int) 1), (4, .v .int)]
 ex := [(.exit 0, [(3, .mv (.slice .int) 1)])]
 run := impl_allClauses_L3 n
noncomputable def C_27 : Cx where
 tt := tblTT tt
 T := tblT [(82, E_24), (89, E_25), (6029402, E_26)]
 L := tblL [(7, S_27L7 fuel), (3, S_27L3 fuel)]
 dep := fun i => match i with
  | 8 => 1
  | 39 => 1
  | 40 => 1
  | _ => 0
 n := 1
noncomputable def B_27L7 : Code := (Try.f71.body.bind (loopBody 7)).getD .skip
noncomputable def B_27L3 : Code := (Try.f71.body.bind (loopBody 3)).getD .skip
noncomputable def D_27 : Code := Try.f71.body.getD .skip
noncomputable def N_27 (_ : outs [.v .int]) (r : dens [.mv (.slice .int) 1]) : (List (List Int)) := r
noncomputable def E_28 : Entry where
 params := [.v (.slice .int), .v (.slice .int)]
 results := [.v .bool]
 B := Bool
 run := fun a => impl_obeysClause a.1 a.2
 out := fun b => ((), ())
 res := fun b => b
noncomputable def S_28L2 (n : Nat) : LoopSpec where
 sh := [(0, .v (.slice .int)), (7, .v (.slice .int)), (8, .v .int), (9, .v .int)]
 ex := [(.exit 0, []), (.ret, [(4, .v .bool)])]
 run := impl_obeysClause_L2 n
noncomputable def C_28 : Cx where
 tt := tblTT tt
 T := tblT []
 L := tblL [(2, S_28L2 fuel)]
 dep := fun i => 0
 n := 2
noncomputable def B_28L2 : Code := (Try.f92.body.bind (loopBody 2)).getD .skip
noncomputable def D_28 : Code := Try.f92.body.getD .skip
noncomputable def N_28 (_ : outs [.v (.slice .int), .v (.slice .int)]) (r : dens [.v .bool]) : Bool := r
noncomputable def E_29 : Entry where
 params := [.v (.slice (.slice .int)), .v (.slice .int)]
 results := [.v .bool]
 B := Bool
 run := fun a => impl_allObey a.1 a.2
 out := fun b => ((), ())
 res := fun b => b
noncomputable def S_29L2 (n : Nat) : LoopSpec where
 sh := [(1, .v (.slice .int)), (7, .v (.slice (.slice .int))), (8, .v .int), (9, .v .int)]
 ex := [(.exit 0, []), (.ret, [(4, .v .bool)])]
 run := impl_allObey_L2 n
noncomputable def C_29 : Cx where
 tt := tblTT tt
 T := tblT [(92, E_28)]
 L := tblL [(2, S_29L2 fuel)]
 dep := fun i => 0
 n := 2
noncomputable def B_29L2 : Code := (Try.f72.body.bind (loopBody 2)).getD .skip
noncomputable def D_29 : Code := Try.f72.body.getD .skip
noncomputable def N_29 (_ : outs [.v (.slice (.slice .int)), .v (.slice .int)]) (r : dens [.v .bool]) : Bool := r
noncomputable def E_30 : Entry where
 params := [.v (.slice .int)]
 results := [.mv .int 0]
 B := (List Int)
 run := fun a => impl_clone a
 out := fun b => ()
 res := fun b => b
noncomputable def C_30 : Cx where
 tt := tblTT tt
 T := tblT []
 L := tblL []
 dep := fun i => 0
 n := 1
noncomputable def D_30 : Code := Try.f60.body.getD .skip
noncomputable def N_30 (_ : outs [.v (.slice .int)]) (r : dens [.mv .int 0]) : (List Int) := r
noncomputable def E_31 : Entry where
 params := [.v (.slice .int), .v .int]
 results := [.mv .int 0]
 B := (List Int)
 run := fun a => impl_without a.1 a.2
 out := fun b => ((), ())
 res := fun b => b
noncomputable def C_31 : Cx where
 tt := tblTT tt
 T := tblT [(60, E_30)]
 L := tblL []
 dep := fun i => 0
 n := 2
noncomputable def D_31 : Code := Try.f73.body.getD .skip
noncomputable def N_31 (_ : outs [.v (.slice .int), .v .int]) (r : dens [.mv .int 0]) : (List Int) := r
noncomputable def E_32 : Entry where
 params := [.v (.pair .int (.slice (.slice .int)))]
 results := [.mv (.slice .int) 0]
 B := (List (List Int))
 run := fun a => impl_primeClauses a
 out := fun b => ()
 res := fun b => b
noncomputable def S_32L7 (n : Nat) : LoopSpec where
 sh := [(1, .bx (.v (.pair .int (.slice (.slice .int))))), (3, .mv (.slice .int) 0), (5, .v (.slice .int)), (6, .v .bool), (11, .v (.slice (.slice .int))), (12, .v .int), (13, .v .int), (22, .v .int), (23, .v .int)]
 ex := [(.exit 2, [(1, .bx (.v (.pair .int (.slice (.slice .int))))), (3, .mv (.slice .int) 0), (5, .v (.slice .int)), (6, .v .bool), (11, .v (.slice (.slice .int))), (12, .v .int), (13, .v .int)])]
 run := impl_primeClauses_L7 n
noncomputable def S_32L3 (n : Nat) : LoopSpec where
 sh := [(1, .bx (.v (.pair .int (.slice (.slice .int))))), (3, .mv (.slice .int) 0), (11, .v (.slice (.slice .int))), (12, .v .int), (13, .v .int)]
 ex := [(.exit 0, [(3, .mv (.slice .int) 0)])]
 run := impl_primeClauses_L3 n
noncomputable def C_32 : Cx where
 tt := tblTT tt
 T := tblT [(71, E_27), (72, E_29), (73, E_31)]
 L := tblL [(7, S_32L7 fuel), (3, S_32L3 fuel)]
 dep := fun i => 0
 n := 1
noncomputable def B_32L7 : Code := (Try.f39.body.bind (loopBody 7)).getD .skip
noncomputable def B_32L3 : Code := (Try.f39.body.bind (loopBody 3)).getD .skip
noncomputable def D_32 : Code := Try.f39.body.getD .skip
noncomputable def N_32 (_ : outs [.v (.pair .int (.slice (.slice .int)))]) (r : dens [.mv (.slice .int) 0]) : (List (List Int)) := r
noncomputable def E_33 : Entry where
 params := [.v (.pair .int (.slice (.slice .int)))]
 results := [.mv (.slice .int) 1]
 B := (List (List Int))
 run := fun a => impl_primeClauses_b a
 out := fun b => ()
 res := fun b => b
noncomputable def S_33L7 (n : Nat) : LoopSpec where
 sh := [(1, .bx (.v (.pair .int (.slice (.slice .int))))), (3, .mv (.slice .int) 1), (5, .mv .int 0), (6, .v .bool), (11, .gs (.slice .int) 1), (12, .v .int), (13, .v .int), (22, .v .int), (23, .v .int)]
 ex := [(.exit 2, [(1, .bx (.v (.pair .int (.slice (.slice .int))))), (3, .mv (.slice .int) 1), (5, .mv .int 0), (6, .v .bool), (11, .gs (.slice .int) 1), (12, .v .int), (13, .v .int)])]
 run := impl_primeClauses_b_L7 n
noncomputable def S_33L3 (n : Nat) : LoopSpec where
 sh := [(1, .bx (.v (.pair .int (.slice (.slice .int))))), (3, .mv (.slice .int) 1), (11, .gs (.slice .int) 1), (12, .v .int), (13, .v .int)]
 ex := [(.exit 0, [(3, .mv (.slice .int) 1)])]
 run := impl_primeClauses_b_L3 n
noncomputable def C_33 : Cx where
 tt := tblTT tt
 T := tblT [(71, E_27), (72, E_29), (73, E_31)]
 L := tblL [(7, S_33L7 fuel), (3, S_33L3 fuel)]
 dep := fun i => match i with
  | 8 => 1
  | 16 => 99
  | 40 => 1
  | 41 => 1
  | _ => 0
 n := 1
noncomputable def B_33L7 : Code := (Try.f39.body.bind (loopBody 7)).getD .skip
noncomputable def B_33L3 : Code := (Try.f39.body.bind (loopBody 3)).getD .skip
noncomputable def D_33 : Code := Try.f39.body.getD .skip
noncomputable def N_33 (_ : outs [.v (.pair .int (.slice (.slice .int)))]) (r : dens [.mv (.slice .int) 1]) : (List (List Int)) := r
noncomputable def E_34 : Entry where
 params := [.v (.pair .int (.slice (.slice .int)))]
 results := [.mv (.slice .int) 1, .v .bool]
 B := (List (List Int)) × Bool
 run := fun a => impl_PrimeClauses a
 out := fun b => ()
 res := fun b => (b.1, b.2)
noncomputable def C_34 : Cx where
 tt := tblTT tt
 T := tblT [(38, E_23), (39, E_33)]
 L := tblL []
 dep := fun i => match i with
  | 7 => 1
  | _ => 0
 n := 1
noncomputable def D_34 : Code := Try.f10.body.getD .skip
noncomputable def N_34 (_ : outs [.v (.pair .int (.slice (.slice .int)))]) (r : dens [.mv (.slice .int) 1, .v .bool]) : (List (List Int)) × Bool := (r.1, r.2)
noncomputable def E_35 : Entry where
 params := [.v (.slice .int), .v (.slice .int)]
 results := [.v .bool]
 B := Bool
 run := fun a => laws_eqIntS a.1 a.2
 out := fun b => ((), ())
 res := fun b => b
noncomputable def S_35L4 (n : Nat) : LoopSpec where
 sh := [(0, .v (.slice .int)), (1, .v (.slice .int)), (5, .v .int)]
 ex := [(.exit 0, []), (.ret, [(4, .v .bool)])]
 run := laws_eqIntS_L4 n
noncomputable def C_35 : Cx where
 tt := tblTT tt
 T := tblT []
 L := tblL [(4, S_35L4 fuel)]
 dep := fun i => 0
 n := 2
noncomputable def B_35L4 : Code := (Try.f40.body.bind (loopBody 4)).getD .skip
noncomputable def D_35 : Code := Try.f40.body.getD .skip
noncomputable def N_35 (_ : outs [.v (.slice .int), .v (.slice .int)]) (r : dens [.v .bool]) : Bool := r
noncomputable def E_36 : Entry where
 params := [.v (.slice (.slice .int)), .v (.slice (.slice .int))]
 results := [.v .bool]
 B := Bool
 run := fun a => laws_eqIntSS a.1 a.2
 out := fun b => ((), ())
 res := fun b => b
noncomputable def S_36L4 (n : Nat) : LoopSpec where
 sh := [(0, .v (.slice (.slice .int))), (1, .v (.slice (.slice .int))), (5, .v .int)]
 ex := [(.exit 0, []), (.ret, [(4, .v .bool)])]
 run := laws_eqIntSS_L4 n
noncomputable def C_36 : Cx where
 tt := tblTT tt
 T := tblT [(40, E_35)]
 L := tblL [(4, S_36L4 fuel)]
 dep := fun i => 0
 n := 2
noncomputable def B_36L4 : Code := (Try.f11.body.bind (loopBody 4)).getD .skip
noncomputable def D_36 : Code := Try.f11.body.getD .skip
noncomputable def N_36 (_ : outs [.v (.slice (.slice .int)), .v (.slice (.slice .int))]) (r : dens [.v .bool]) : Bool := r
noncomputable def E_37 : Entry where
 params := [.v (.pair .int (.slice (.slice .int))), .v (.pair .int (.slice (.slice .int)))]
 results := [.v .bool]
 B := Bool
 run := fun a => laws_eqRelation a.1 a.2
 out := fun b => ((), ())
 res := fun b => b
noncomputable def C_37 : Cx where
 tt := tblTT tt
 T := tblT [(11, E_36)]
 L := tblL []
 dep := fun i => 0
 n := 2
noncomputable def D_37 : Code := Try.f12.body.getD .skip
noncomputable def N_37 (_ : outs [.v (.pair .int (.slice (.slice .int))), .v (.pair .int (.slice (.slice .int)))]) (r : dens [.v .bool]) : Bool := r
noncomputable def E_38 : Entry where
 params := [.io .int 0, .v .int]
 results := [.v .int]
 B := (List Int) × Int
 run := fun a => laws_markIntS a.1 a.2
 out := fun b => (b.1, ())
 res := fun b => b.2
noncomputable def S_38L2 (n : Nat) : LoopSpec where
 sh := [(0, .io .int 0), (1, .v .int), (5, .v .int)]
 ex := [(.exit 0, [(0, .io .int 0), (1, .v .int)])]
 run := laws_markIntS_L2 n
noncomputable def C_38 : Cx where
 tt := tblTT tt
 T := tblT []
 L := tblL [(2, S_38L2 fuel)]
 dep := fun i => 0
 n := 2
noncomputable def B_38L2 : Code := (Try.f41.body.bind (loopBody 2)).getD .skip
noncomputable def D_38 : Code := Try.f41.body.getD .skip
noncomputable def N_38 (o : outs [.io .int 0, .v .int]) (r : dens [.v .int]) : (List Int) × Int := (o.1, r)
noncomputable def E_39 : Entry where
 params := [.io (.slice .int) 1, .v .int]
 results := [.v .int]
 B := (List (List Int)) × Int
 run := fun a => laws_markIntSS a.1 a.2
 out := fun b => (b.1, ())
 res := fun b => b.2
noncomputable def S_39L2 (n : Nat) : LoopSpec where
 sh := [(0, .io (.slice .int) 1), (1, .v .int), (5, .v .int)]
 ex := [(.exit 0, [(0, .io (.slice .int) 1), (1, .v .int)])]
 run := laws_markIntSS_L2 n
noncomputable def C_39 : Cx where
 tt := tblTT tt
 T := tblT [(41, E_38)]
 L := tblL [(2, S_39L2 fuel)]
 dep := fun i => 0
 n := 2
noncomputable def B_39L2 : Code := (Try.f14.body.bind (loopBody 2)).getD .skip
noncomputable def D_39 : Code := Try.f14.body.getD .skip
noncomputable def N_39 (o : outs [.io (.slice .int) 1, .v .int]) (r : dens [.v .int]) : (List (List Int)) × Int := (o.1, r)
noncomputable def E_40 : Entry where
 params := [.pr (.v .int) (.io (.slice .int) 1), .v .int]
 results := [.v .int]
 B := (Unit × (List (List Int))) × Int
 run := fun a => laws_markRelation a.1 a.2
 out := fun b => (b.1, ())
 res := fun b => b.2
noncomputable def C_40 : Cx where
 tt := tblTT tt
 T := tblT [(14, E_39)]
 L := tblL []
 dep := fun i => 0
 n := 2
noncomputable def D_40 : Code := Try.f13.body.getD .skip
noncomputable def N_40 (o : outs [.pr (.v .int) (.io (.slice .int) 1), .v .int]) (r : dens [.v .int]) : (Unit × (List (List Int))) × Int := (o.1, r)
noncomputable def E_41 : Entry where
 params := [.v (.slice .int), .v .int]
 results := [.v .int]
 B := Int
 run := fun a => laws_heldIntS a.1 a.2
 out := fun b => ((), ())
 res := fun b => b
noncomputable def S_41L2 (n : Nat) : LoopSpec where
 sh := [(0, .v (.slice .int)), (1, .v .int), (5, .v .int)]
 ex := [(.exit 0, [(1, .v .int)]), (.ret, [(4, .v .int)])]
 run := laws_heldIntS_L2 n
noncomputable def C_41 : Cx where
 tt := tblTT tt
 T := tblT []
 L := tblL [(2, S_41L2 fuel)]
 dep := fun i => 0
 n := 2
noncomputable def B_41L2 : Code := (Try.f42.body.bind (loopBody 2)).getD .skip
noncomputable def D_41 : Code := Try.f42.body.getD .skip
noncomputable def N_41 (_ : outs [.v (.slice .int), .v .int]) (r : dens [.v .int]) : Int := r
noncomputable def E_42 : Entry where
 params := [.v (.slice (.slice .int)), .v .int]
 results := [.v .int]
 B := Int
 run := fun a => laws_heldIntSS a.1 a.2
 out := fun b => ((), ())
 res := fun b => b
noncomputable def S_42L2 (n : Nat) : LoopSpec where
 sh := [(0, .v (.slice (.slice .int))), (1, .v .int), (5, .v .int)]
 ex := [(.exit 0, [(1, .v .int)]), (.ret, [(4, .v .int)])]
 run := laws_heldIntSS_L2 n
noncomputable def C_42 : Cx where
 tt := tblTT tt
 T := tblT [(42, E_41)]
 L := tblL [(2, S_42L2 fuel)]
 dep := fun i => 0
 n := 2
noncomputable def B_42L2 : Code := (Try.f15.body.bind (loopBody 2)).getD .skip
noncomputable def D_42 : Code := Try.f15.body.getD .skip
noncomputable def N_42 (_ : outs [.v (.slice (.slice .int)), .v .int]) (r : dens [.v .int]) : Int := r
noncomputable def E_43 : Entry where
 params := [.v (.pair .int (.slice (.slice .int)))]
 results := [.v .bool]
 B := Bool
 run := fun a => laws_FnExactPrimeClauses a
 out := fun b => ()
 res := fun b => b
noncomputable def C_43 : Cx where
 tt := tblTT tt
 T := tblT [(7, E_3), (8, E_20), (9, E_6), (10, E_34), (11, E_36), (12, E_37), (13, E_40), (14, E_39), (15, E_42)]
 L := tblL []
 dep := fun i => 0
 n := 1
noncomputable def D_43 : Code := Try.f3.body.getD .skip
noncomputable def N_43 (_ : outs [.v (.pair .int (.slice (.slice .int)))]) (r : dens [.v .bool]) : Bool := r
end T
