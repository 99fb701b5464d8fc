/- Contexts of the typed functions; no conditions. -/
import Derived.Test.YtijifabdaplmfaaV5
import Derived.Test.YtijifabdaplmfaaProg
import Derived.Test.YtijifabdaplmfaaPFnExactLinearSolutions
import Derived.KernelRfl
set_option linter.all false
set_option linter.unusedVariables false
set_option maxRecDepth 10000
open Go Go.Va Go.Proofs
namespace T
noncomputable def tt : List (Nat × TI) := [
 (2, { ty := .int }),
 (3, { ty := .int }),
 (4, { ty := .bool }),
 (22, { ty := (.slice (.slice .int)), elem := 38 }),
 (30, { ty := (.pair .int (.pair .int (.slice (.slice .int)))), fields := [3, 3, 22] }),
 (33, { ty := (.pair .int (.pair .int (.slice (.slice .int)))), fields := [3, 3, 22] }),
 (38, { ty := (.slice .int), elem := 3 }),
 (55, { ty := (.op false) }),
 (65, { ty := (.pair (.slice (.slice .int)) (.pair (.slice .int) (.slice (.slice .int)))), fields := [22, 38, 22] }),
 (96, { ty := (.pair .int (.pair .int (.pair (.slice (.slice .int)) (.pair .int (.slice .int))))), fields := [3, 3, 22, 3, 38] })]
theorem tabT : tabOk Try.prog tt = true := by kernel_rfl
theorem mixT : Try.prog.follows .mixedOrders = true := by kernel_rfl
noncomputable def E_1 : Entry where
 params := [.v (.slice .int), .v .int]
 results := [.v .int]
 B := Int
 run := fun a => laws_szIntS a.1 a.2
 out := fun b => ((), ())
 res := fun b => b
noncomputable def C_1 : Cx where
 tt := tblTT tt
 T := tblT []
 L := tblL []
 dep := fun i => 0
 n := 2
noncomputable def D_1 : Code := Try.f28.body.getD .skip
noncomputable def N_1 (_ : outs [.v (.slice .int), .v .int]) (r : dens [.v .int]) : Int := r
noncomputable def E_2 : Entry where
 params := [.v (.slice (.slice .int)), .v .int]
 results := [.v .int]
 B := Int
 run := fun a => laws_szIntSS a.1 a.2
 out := fun b => ((), ())
 res := fun b => b
noncomputable def S_2L5 (n : Nat) : LoopSpec where
 sh := [(0, .v (.slice (.slice .int))), (1, .v .int), (5, .v .int)]
 ex := [(.exit 0, [(1, .v .int)]), (.ret, [(4, .v .int)])]
 run := laws_szIntSS_L5 n
noncomputable def C_2 : Cx where
 tt := tblTT tt
 T := tblT [(28, E_1)]
 L := tblL [(5, S_2L5 fuel)]
 dep := fun i => 0
 n := 2
noncomputable def B_2L5 : Code := (Try.f7.body.bind (loopBody 5)).getD .skip
noncomputable def D_2 : Code := Try.f7.body.getD .skip
noncomputable def N_2 (_ : outs [.v (.slice (.slice .int)), .v .int]) (r : dens [.v .int]) : Int := r
noncomputable def E_3 : Entry where
 params := [.v (.pair .int (.pair .int (.slice (.slice .int)))), .v .int]
 results := [.v .int]
 B := Int
 run := fun a => laws_szLinear a.1 a.2
 out := fun b => ((), ())
 res := fun b => b
noncomputable def C_3 : Cx where
 tt := tblTT tt
 T := tblT [(7, E_2)]
 L := tblL []
 dep := fun i => 0
 n := 2
noncomputable def D_3 : Code := Try.f16.body.getD .skip
noncomputable def N_3 (_ : outs [.v (.pair .int (.pair .int (.slice (.slice .int)))), .v .int]) (r : dens [.v .int]) : Int := r
noncomputable def E_4 : Entry where
 params := [.v (.slice .int)]
 results := [.mv .int 0]
 B := (List Int)
 run := fun a => laws_toIntS a
 out := fun b => ()
 res := fun b => b
noncomputable def S_4L3 (n : Nat) : LoopSpec where
 sh := [(0, .v (.slice .int)), (3, .mv .int 0), (4, .v .int)]
 ex := [(.exit 0, [(3, .mv .int 0)])]
 run := laws_toIntS_L3 n
noncomputable def C_4 : Cx where
 tt := tblTT tt
 T := tblT []
 L := tblL [(3, S_4L3 fuel)]
 dep := fun i => 0
 n := 1
noncomputable def B_4L3 : Code := (Try.f31.body.bind (loopBody 3)).getD .skip
noncomputable def D_4 : Code := Try.f31.body.getD .skip
noncomputable def N_4 (_ : outs [.v (.slice .int)]) (r : dens [.mv .int 0]) : (List Int) := r
noncomputable def E_5 : Entry where
 params := [.v (.slice (.slice .int))]
 results := [.mv (.slice .int) 1]
 B := (List (List Int))
 run := fun a => laws_toIntSS a
 out := fun b => ()
 res := fun b => b
noncomputable def S_5L3 (n : Nat) : LoopSpec where
 sh := [(0, .v (.slice (.slice .int))), (3, .mv (.slice .int) 1), (4, .v .int)]
 ex := [(.exit 0, [(3, .mv (.slice .int) 1)])]
 run := laws_toIntSS_L3 n
noncomputable def C_5 : Cx where
 tt := tblTT tt
 T := tblT [(31, E_4)]
 L := tblL [(3, S_5L3 fuel)]
 dep := fun i => match i with
  | 7 => 1
  | _ => 0
 n := 1
noncomputable def B_5L3 : Code := (Try.f9.body.bind (loopBody 3)).getD .skip
noncomputable def D_5 : Code := Try.f9.body.getD .skip
noncomputable def N_5 (_ : outs [.v (.slice (.slice .int))]) (r : dens [.mv (.slice .int) 1]) : (List (List Int)) := r
noncomputable def E_6 : Entry where
 params := [.v (.pair .int (.pair .int (.slice (.slice .int))))]
 results := [.pr (.v .int) (.pr (.v .int) (.mv (.slice .int) 1))]
 B := (Int × (Int × (List (List Int))))
 run := fun a => laws_toLinear a
 out := fun b => ()
 res := fun b => b
noncomputable def C_6 : Cx where
 tt := tblTT tt
 T := tblT [(9, E_5)]
 L := tblL []
 dep := fun i => 0
 n := 1
noncomputable def D_6 : Code := Try.f18.body.getD .skip
noncomputable def N_6 (_ : outs [.v (.pair .int (.pair .int (.slice (.slice .int))))]) (r : dens [.pr (.v .int) (.pr (.v .int) (.mv (.slice .int) 1))]) : (Int × (Int × (List (List Int)))) := r
noncomputable def E_7 : Entry where
 params := [.v .int]
 results := [.v .bool]
 B := Bool
 run := fun a => spec_l21Prime a
 out := fun b => ()
 res := fun b => b
noncomputable def C_7 : Cx where
 tt := tblTT tt
 T := tblT []
 L := tblL []
 dep := fun i => 0
 n := 1
noncomputable def D_7 : Code := Try.f95.body.getD .skip
noncomputable def N_7 (_ : outs [.v .int]) (r : dens [.v .bool]) : Bool := r
noncomputable def E_8 : Entry where
 params := [.v .int, .v .int, .v .int]
 results := [.v .bool]
 B := Bool
 run := fun a => spec_l1In a.1 a.2.1 a.2.2
 out := fun b => ((), (), ())
 res := fun b => b
noncomputable def C_8 : Cx where
 tt := tblTT tt
 T := tblT []
 L := tblL []
 dep := fun i => 0
 n := 3
noncomputable def D_8 : Code := Try.f61.body.getD .skip
noncomputable def N_8 (_ : outs [.v .int, .v .int, .v .int]) (r : dens [.v .bool]) : Bool := r
noncomputable def E_9 : Entry where
 params := [.v .int, .v (.slice .int)]
 results := [.v .bool]
 B := Bool
 run := fun a => spec_l2Elements a.1 a.2
 out := fun b => ((), ())
 res := fun b => b
noncomputable def S_9L2 (n : Nat) : LoopSpec where
 sh := [(0, .v .int), (1, .v (.slice .int)), (5, .v .int)]
 ex := [(.exit 0, []), (.ret, [(4, .v .bool)])]
 run := spec_l2Elements_L2 n
noncomputable def C_9 : Cx where
 tt := tblTT tt
 T := tblT [(61, E_8)]
 L := tblL [(2, S_9L2 fuel)]
 dep := fun i => 0
 n := 2
noncomputable def B_9L2 : Code := (Try.f88.body.bind (loopBody 2)).getD .skip
noncomputable def D_9 : Code := Try.f88.body.getD .skip
noncomputable def N_9 (_ : outs [.v .int, .v (.slice .int)]) (r : dens [.v .bool]) : Bool := r
noncomputable def E_10 : Entry where
 params := [.v .int, .v .int, .v (.slice .int)]
 results := [.v .bool]
 B := Bool
 run := fun a => spec_l8Tuple a.1 a.2.1 a.2.2
 out := fun b => ((), (), ())
 res := fun b => b
noncomputable def C_10 : Cx where
 tt := tblTT tt
 T := tblT [(88, E_9)]
 L := tblL []
 dep := fun i => 0
 n := 3
noncomputable def D_10 : Code := Try.f63.body.getD .skip
noncomputable def N_10 (_ : outs [.v .int, .v .int, .v (.slice .int)]) (r : dens [.v .bool]) : Bool := r
noncomputable def E_11 : Entry where
 params := [.v .int, .v .int, .v (.slice (.slice .int))]
 results := [.v .bool]
 B := Bool
 run := fun a => spec_l21Rows a.1 a.2.1 a.2.2
 out := fun b => ((), (), ())
 res := fun b => b
noncomputable def S_11L2 (n : Nat) : LoopSpec where
 sh := [(0, .v .int), (1, .v .int), (2, .v (.slice (.slice .int))), (7, .v .int)]
 ex := [(.exit 0, []), (.ret, [(6, .v .bool)])]
 run := spec_l21Rows_L2 n
noncomputable def C_11 : Cx where
 tt := tblTT tt
 T := tblT [(63, E_10)]
 L := tblL [(2, S_11L2 fuel)]
 dep := fun i => 0
 n := 3
noncomputable def B_11L2 : Code := (Try.f96.body.bind (loopBody 2)).getD .skip
noncomputable def D_11 : Code := Try.f96.body.getD .skip
noncomputable def N_11 (_ : outs [.v .int, .v .int, .v (.slice (.slice .int))]) (r : dens [.v .bool]) : Bool := r
noncomputable def E_12 : Entry where
 params := [.v (.pair .int (.pair .int (.slice (.slice .int))))]
 results := [.v .bool]
 B := Bool
 run := fun a => spec_l21Good a
 out := fun b => ()
 res := fun b => b
noncomputable def C_12 : Cx where
 tt := tblTT tt
 T := tblT [(61, E_8), (95, E_7), (96, E_11)]
 L := tblL []
 dep := fun i => 0
 n := 1
noncomputable def D_12 : Code := Try.f72.body.getD .skip
noncomputable def N_12 (_ : outs [.v (.pair .int (.pair .int (.slice (.slice .int))))]) (r : dens [.v .bool]) : Bool := r
noncomputable def E_13 : Entry where
 params := [.v (.slice .int)]
 results := [.mv .int 0]
 B := (List Int)
 run := fun a => spec_l1Own a
 out := fun b => ()
 res := fun b => b
noncomputable def C_13 : Cx where
 tt := tblTT tt
 T := tblT []
 L := tblL []
 dep := fun i => 0
 n := 1
noncomputable def D_13 : Code := Try.f47.body.getD .skip
noncomputable def N_13 (_ : outs [.v (.slice .int)]) (r : dens [.mv .int 0]) : (List Int) := r
noncomputable def E_14 : Entry where
 params := [.v .int, .v .int]
 results := [.v .int]
 B := Int
 run := fun a => spec_l21Inverse a.1 a.2
 out := fun b => ((), ())
 res := fun b => b
noncomputable def S_14L2 (n : Nat) : LoopSpec where
 sh := [(0, .v .int), (1, .v .int), (5, .v .int)]
 ex := [(.exit 0, [(5, .v .int)])]
 run := spec_l21Inverse_L2 n
noncomputable def C_14 : Cx where
 tt := tblTT tt
 T := tblT []
 L := tblL [(2, S_14L2 fuel)]
 dep := fun i => 0
 n := 2
noncomputable def B_14L2 : Code := (Try.f98.body.bind (loopBody 2)).getD .skip
noncomputable def D_14 : Code := Try.f98.body.getD .skip
noncomputable def N_14 (_ : outs [.v .int, .v .int]) (r : dens [.v .int]) : Int := r
noncomputable def E_15 : Entry where
 params := [.v .int, .v (.slice .int), .v .int]
 results := [.mv .int 0]
 B := (List Int)
 run := fun a => spec_l21Scale a.1 a.2.1 a.2.2
 out := fun b => ((), (), ())
 res := fun b => b
noncomputable def S_15L3 (n : Nat) : LoopSpec where
 sh := [(0, .v .int), (1, .v (.slice .int)), (2, .v .int), (7, .mv .int 0), (8, .v .int)]
 ex := [(.exit 0, [(7, .mv .int 0)])]
 run := spec_l21Scale_L3 n
noncomputable def C_15 : Cx where
 tt := tblTT tt
 T := tblT []
 L := tblL [(3, S_15L3 fuel)]
 dep := fun i => 0
 n := 3
noncomputable def B_15L3 : Code := (Try.f97.body.bind (loopBody 3)).getD .skip
noncomputable def D_15 : Code := Try.f97.body.getD .skip
noncomputable def N_15 (_ : outs [.v .int, .v (.slice .int), .v .int]) (r : dens [.mv .int 0]) : (List Int) := r
noncomputable def E_16 : Entry where
 params := [.v .int, .v (.slice .int), .v (.slice .int), .v .int]
 results := [.mv .int 0]
 B := (List Int)
 run := fun a => spec_l21Less a.1 a.2.1 a.2.2.1 a.2.2.2
 out := fun b => ((), (), (), ())
 res := fun b => b
noncomputable def S_16L3 (n : Nat) : LoopSpec where
 sh := [(0, .v .int), (1, .v (.slice .int)), (2, .v (.slice .int)), (3, .v .int), (9, .mv .int 0), (10, .v .int)]
 ex := [(.exit 0, [(9, .mv .int 0)])]
 run := spec_l21Less_L3 n
noncomputable def C_16 : Cx where
 tt := tblTT tt
 T := tblT []
 L := tblL [(3, S_16L3 fuel)]
 dep := fun i => 0
 n := 4
noncomputable def B_16L3 : Code := (Try.f49.body.bind (loopBody 3)).getD .skip
noncomputable def D_16 : Code := Try.f49.body.getD .skip
noncomputable def N_16 (_ : outs [.v .int, .v (.slice .int), .v (.slice .int), .v .int]) (r : dens [.mv .int 0]) : (List Int) := r
noncomputable def E_17 : Entry where
 params := [.v .int, .v .int, .v (.slice (.slice .int))]
 results := [.pr (.mv (.slice .int) 0) (.pr (.mv .int 0) (.v (.slice (.slice .int))))]
 B := ((List (List Int)) × ((List Int) × (List (List Int))))
 run := fun a => spec_l21Eliminate a.1 a.2.1 a.2.2
 out := fun b => ((), (), ())
 res := fun b => b
noncomputable def S_17L3 (n : Nat) : LoopSpec where
 sh := [(0, .v .int), (1, .v .int), (2, .v (.slice (.slice .int))), (6, .bx (.pr (.mv (.slice .int) 0) (.pr (.mv .int 0) (.mv (.slice .int) 0)))), (7, .bx (.pr (.mv (.slice .int) 0) (.pr (.mv .int 0) (.mv (.slice .int) 0)))), (8, .v .int)]
 ex := [(.exit 0, [(0, .v .int), (1, .v .int), (6, .bx (.pr (.mv (.slice .int) 0) (.pr (.mv .int 0) (.mv (.slice .int) 0)))), (7, .bx (.pr (.mv (.slice .int) 0) (.pr (.mv .int 0) (.mv (.slice .int) 0))))])]
 run := spec_l21Eliminate_L3 n
noncomputable def S_17L10 (n : Nat) : LoopSpec where
 sh := [(0, .v .int), (1, .v .int), (6, .bx (.pr (.mv (.slice .int) 0) (.pr (.mv .int 0) (.v (.slice (.slice .int)))))), (7, .bx (.pr (.mv (.slice .int) 0) (.pr (.mv .int 0) (.v (.slice (.slice .int)))))), (9, .v .int), (10, .v .int)]
 ex := [(.exit 4, [(0, .v .int), (1, .v .int), (6, .bx (.pr (.mv (.slice .int) 0) (.pr (.mv .int 0) (.v (.slice (.slice .int)))))), (7, .bx (.pr (.mv (.slice .int) 0) (.pr (.mv .int 0) (.v (.slice (.slice .int)))))), (9, .v .int), (10, .v .int)])]
 run := spec_l21Eliminate_L10 n
noncomputable def S_17L16 (n : Nat) : LoopSpec where
 sh := [(0, .v .int), (1, .v .int), (6, .bx (.pr (.mv (.slice .int) 0) (.pr (.mv .int 0) (.v (.slice (.slice .int)))))), (7, .bx (.pr (.mv (.slice .int) 0) (.pr (.mv .int 0) (.v (.slice (.slice .int)))))), (9, .v .int), (11, .mv .int 0), (12, .mv (.slice .int) 0), (13, .v .int)]
 ex := [(.exit 6, [(0, .v .int), (1, .v .int), (6, .bx (.pr (.mv (.slice .int) 0) (.pr (.mv .int 0) (.v (.slice (.slice .int)))))), (7, .bx (.pr (.mv (.slice .int) 0) (.pr (.mv .int 0) (.v (.slice (.slice .int)))))), (9, .v .int), (11, .mv .int 0), (12, .mv (.slice .int) 0)])]
 run := spec_l21Eliminate_L16 n
noncomputable def S_17L20 (n : Nat) : LoopSpec where
 sh := [(0, .v .int), (1, .v .int), (6, .bx (.pr (.mv (.slice .int) 0) (.pr (.mv .int 0) (.v (.slice (.slice .int)))))), (7, .bx (.pr (.mv (.slice .int) 0) (.pr (.mv .int 0) (.v (.slice (.slice .int)))))), (9, .v .int), (11, .mv .int 0), (12, .mv (.slice .int) 0), (14, .v .int)]
 ex := [(.exit 8, [(0, .v .int), (1, .v .int), (6, .bx (.pr (.mv (.slice .int) 0) (.pr (.mv .int 0) (.v (.slice (.slice .int)))))), (7, .bx (.pr (.mv (.slice .int) 0) (.pr (.mv .int 0) (.v (.slice (.slice .int)))))), (9, .v .int), (11, .mv .int 0), (12, .mv (.slice .int) 0)])]
 run := spec_l21Eliminate_L20 n
noncomputable def S_17L7 (n : Nat) : LoopSpec where
 sh := [(0, .v .int), (1, .v .int), (6, .bx (.pr (.mv (.slice .int) 0) (.pr (.mv .int 0) (.v (.slice (.slice .int)))))), (7, .bx (.pr (.mv (.slice .int) 0) (.pr (.mv .int 0) (.v (.slice (.slice .int)))))), (9, .v .int)]
 ex := [(.exit 2, [(6, .bx (.pr (.mv (.slice .int) 0) (.pr (.mv .int 0) (.v (.slice (.slice .int)))))), (7, .bx (.pr (.mv (.slice .int) 0) (.pr (.mv .int 0) (.v (.slice (.slice .int))))))])]
 run := spec_l21Eliminate_L7 n
noncomputable def C_17 : Cx where
 tt := tblTT tt
 T := tblT [(47, E_13), (49, E_16), (97, E_15), (98, E_14)]
 L := tblL [(3, S_17L3 fuel), (10, S_17L10 fuel), (16, S_17L16 fuel), (20, S_17L20 fuel), (7, S_17L7 fuel)]
 dep := fun i => 0
 n := 3
noncomputable def B_17L3 : Code := (Try.f74.body.bind (loopBody 3)).getD .skip
noncomputable def B_17L10 : Code := (Try.f74.body.bind (loopBody 10)).getD .skip
noncomputable def B_17L16 : Code := (Try.f74.body.bind (loopBody 16)).getD .skip
noncomputable def B_17L20 : Code := (Try.f74.body.bind (loopBody 20)).getD .skip
noncomputable def B_17L7 : Code := (Try.f74.body.bind (loopBody 7)).getD .skip
noncomputable def D_17 : Code := Try.f74.body.getD .skip
noncomputable def N_17 (_ : outs [.v .int, .v .int, .v (.slice (.slice .int))]) (r : dens [.pr (.mv (.slice .int) 0) (.pr (.mv .int 0) (.v (.slice (.slice .int))))]) : ((List (List Int)) × ((List Int) × (List (List Int)))) := r
noncomputable def E_18 : Entry where
 params := [.v (.pair .int (.pair .int (.slice (.slice .int))))]
 results := [.pr (.mv (.slice .int) 0) (.pr (.mv .int 0) (.v (.slice (.slice .int))))]
 B := ((List (List Int)) × ((List Int) × (List (List Int))))
 run := fun a => spec_l21Of a
 out := fun b => ()
 res := fun b => b
noncomputable def C_18 : Cx where
 tt := tblTT tt
 T := tblT [(74, E_17)]
 L := tblL []
 dep := fun i => 0
 n := 1
noncomputable def D_18 : Code := Try.f46.body.getD .skip
noncomputable def N_18 (_ : outs [.v (.pair .int (.pair .int (.slice (.slice .int))))]) (r : dens [.pr (.mv (.slice .int) 0) (.pr (.mv .int 0) (.v (.slice (.slice .int))))]) : ((List (List Int)) × ((List Int) × (List (List Int)))) := r
noncomputable def E_19 : Entry where
 params := [.v (.pair (.slice (.slice .int)) (.pair (.slice .int) (.slice (.slice .int)))), .v .int]
 results := [.v .bool]
 B := Bool
 run := fun a => spec_l21Empty a.1 a.2
 out := fun b => ((), ())
 res := fun b => b
noncomputable def S_19L2 (n : Nat) : LoopSpec where
 sh := [(1, .v .int), (2, .bx (.v (.pair (.slice (.slice .int)) (.pair (.slice .int) (.slice (.slice .int)))))), (5, .v .int)]
 ex := [(.exit 0, []), (.ret, [(4, .v .bool)])]
 run := spec_l21Empty_L2 n
noncomputable def C_19 : Cx where
 tt := tblTT tt
 T := tblT []
 L := tblL [(2, S_19L2 fuel)]
 dep := fun i => 0
 n := 2
noncomputable def B_19L2 : Code := (Try.f73.body.bind (loopBody 2)).getD .skip
noncomputable def D_19 : Code := Try.f73.body.getD .skip
noncomputable def N_19 (_ : outs [.v (.pair (.slice (.slice .int)) (.pair (.slice .int) (.slice (.slice .int)))), .v .int]) (r : dens [.v .bool]) : Bool := r
noncomputable def E_20 : Entry where
 params := [.v .int, .v .int]
 results := [.v .int]
 B := Int
 run := fun a => spec_l2Pow a.1 a.2
 out := fun b => ((), ())
 res := fun b => b
noncomputable def S_20L2 (n : Nat) : LoopSpec where
 sh := [(0, .v .int), (1, .v .int), (5, .v .int)]
 ex := [(.exit 0, [(5, .v .int)])]
 run := spec_l2Pow_L2 n
noncomputable def C_20 : Cx where
 tt := tblTT tt
 T := tblT []
 L := tblL [(2, S_20L2 fuel)]
 dep := fun i => 0
 n := 2
noncomputable def B_20L2 : Code := (Try.f62.body.bind (loopBody 2)).getD .skip
noncomputable def D_20 : Code := Try.f62.body.getD .skip
noncomputable def N_20 (_ : outs [.v .int, .v .int]) (r : dens [.v .int]) : Int := r
noncomputable def E_21 : Entry where
 params := [.v (.pair .int (.pair .int (.slice (.slice .int))))]
 results := [.v .int, .v .bool]
 B := Int × Bool
 run := fun a => spec_CountLinear a
 out := fun b => ()
 res := fun b => (b.1, b.2)
noncomputable def C_21 : Cx where
 tt := tblTT tt
 T := tblT [(46, E_18), (62, E_20), (72, E_12), (73, E_19)]
 L := tblL []
 dep := fun i => 0
 n := 1
noncomputable def D_21 : Code := Try.f43.body.getD .skip
noncomputable def N_21 (_ : outs [.v (.pair .int (.pair .int (.slice (.slice .int))))]) (r : dens [.v .int, .v .bool]) : Int × Bool := (r.1, r.2)
noncomputable def E_22 : Entry where
 params := [.v .int, .v .int, .v (.slice (.slice .int))]
 results := [.mv .int 0, .v .bool]
 B := (List Int) × Bool
 run := fun a => spec_l21Solve a.1 a.2.1 a.2.2
 out := fun b => ((), (), ())
 res := fun b => (b.1, b.2)
noncomputable def S_22L6 (n : Nat) : LoopSpec where
 sh := [(1, .v .int), (8, .bx (.pr (.mv (.slice .int) 0) (.pr (.mv .int 0) (.v (.slice (.slice .int)))))), (9, .mv .int 0), (10, .v .int)]
 ex := [(.exit 0, [(9, .mv .int 0)])]
 run := spec_l21Solve_L6 n
noncomputable def C_22 : Cx where
 tt := tblTT tt
 T := tblT [(73, E_19), (74, E_17)]
 L := tblL [(6, S_22L6 fuel)]
 dep := fun i => 0
 n := 3
noncomputable def B_22L6 : Code := (Try.f44.body.bind (loopBody 6)).getD .skip
noncomputable def D_22 : Code := Try.f44.body.getD .skip
noncomputable def N_22 (_ : outs [.v .int, .v .int, .v (.slice (.slice .int))]) (r : dens [.mv .int 0, .v .bool]) : (List Int) × Bool := (r.1, r.2)
noncomputable def E_23 : Entry where
 params := [.v (.slice .int), .v .int]
 results := [.v .bool]
 B := Bool
 run := fun a => spec_l1Has a.1 a.2
 out := fun b => ((), ())
 res := fun b => b
noncomputable def S_23L2 (n : Nat) : LoopSpec where
 sh := [(0, .v (.slice .int)), (1, .v .int), (5, .v .int)]
 ex := [(.exit 0, []), (.ret, [(4, .v .bool)])]
 run := spec_l1Has_L2 n
noncomputable def C_23 : Cx where
 tt := tblTT tt
 T := tblT []
 L := tblL [(2, S_23L2 fuel)]
 dep := fun i => 0
 n := 2
noncomputable def B_23L2 : Code := (Try.f83.body.bind (loopBody 2)).getD .skip
noncomputable def D_23 : Code := Try.f83.body.getD .skip
noncomputable def N_23 (_ : outs [.v (.slice .int), .v .int]) (r : dens [.v .bool]) : Bool := r
noncomputable def E_24 : Entry where
 params := [.v (.pair (.slice (.slice .int)) (.pair (.slice .int) (.slice (.slice .int)))), .v .int]
 results := [.mv .int 0]
 B := (List Int)
 run := fun a => spec_l21Free a.1 a.2
 out := fun b => ((), ())
 res := fun b => b
noncomputable def S_24L3 (n : Nat) : LoopSpec where
 sh := [(1, .v .int), (2, .bx (.v (.pair (.slice (.slice .int)) (.pair (.slice .int) (.slice (.slice .int)))))), (5, .mv .int 0), (6, .v .int)]
 ex := [(.exit 0, [(5, .mv .int 0)])]
 run := spec_l21Free_L3 n
noncomputable def C_24 : Cx where
 tt := tblTT tt
 T := tblT [(83, E_23)]
 L := tblL [(3, S_24L3 fuel)]
 dep := fun i => 0
 n := 2
noncomputable def B_24L3 : Code := (Try.f75.body.bind (loopBody 3)).getD .skip
noncomputable def D_24 : Code := Try.f75.body.getD .skip
noncomputable def N_24 (_ : outs [.v (.pair (.slice (.slice .int)) (.pair (.slice .int) (.slice (.slice .int)))), .v .int]) (r : dens [.mv .int 0]) : (List Int) := r
noncomputable def E_25 : Entry where
 params := [.v (.pair (.slice (.slice .int)) (.pair (.slice .int) (.slice (.slice .int)))), .v .int, .v .int]
 results := [.mv (.slice .int) 0]
 B := (List (List Int))
 run := fun a => spec_l21Kernel a.1 a.2.1 a.2.2
 out := fun b => ((), (), ())
 res := fun b => b
noncomputable def S_25L8 (n : Nat) : LoopSpec where
 sh := [(1, .v .int), (2, .v .int), (3, .bx (.v (.pair (.slice (.slice .int)) (.pair (.slice .int) (.slice (.slice .int)))))), (7, .mv (.slice .int) 0), (8, .mv .int 0), (9, .v .int), (10, .mv .int 0), (11, .v .int)]
 ex := [(.exit 2, [(1, .v .int), (2, .v .int), (3, .bx (.v (.pair (.slice (.slice .int)) (.pair (.slice .int) (.slice (.slice .int)))))), (7, .mv (.slice .int) 0), (8, .mv .int 0), (9, .v .int), (10, .mv .int 0)])]
 run := spec_l21Kernel_L8 n
noncomputable def S_25L3 (n : Nat) : LoopSpec where
 sh := [(1, .v .int), (2, .v .int), (3, .bx (.v (.pair (.slice (.slice .int)) (.pair (.slice .int) (.slice (.slice .int)))))), (7, .mv (.slice .int) 0), (8, .mv .int 0), (9, .v .int)]
 ex := [(.exit 0, [(7, .mv (.slice .int) 0)])]
 run := spec_l21Kernel_L3 n
noncomputable def C_25 : Cx where
 tt := tblTT tt
 T := tblT [(75, E_24)]
 L := tblL [(8, S_25L8 fuel), (3, S_25L3 fuel)]
 dep := fun i => 0
 n := 3
noncomputable def B_25L8 : Code := (Try.f45.body.bind (loopBody 8)).getD .skip
noncomputable def B_25L3 : Code := (Try.f45.body.bind (loopBody 3)).getD .skip
noncomputable def D_25 : Code := Try.f45.body.getD .skip
noncomputable def N_25 (_ : outs [.v (.pair (.slice (.slice .int)) (.pair (.slice .int) (.slice (.slice .int)))), .v .int, .v .int]) (r : dens [.mv (.slice .int) 0]) : (List (List Int)) := r
noncomputable def E_26 : Entry where
 params := [.v .int, .v .int, .v .int]
 results := [.mv .int 0]
 B := (List Int)
 run := fun a => spec_l2Args a.1 a.2.1 a.2.2
 out := fun b => ((), (), ())
 res := fun b => b
noncomputable def S_26L3 (n : Nat) : LoopSpec where
 sh := [(0, .v .int), (2, .v .int), (7, .mv .int 0), (8, .v .int)]
 ex := [(.exit 0, [(7, .mv .int 0)])]
 run := spec_l2Args_L3 n
noncomputable def C_26 : Cx where
 tt := tblTT tt
 T := tblT []
 L := tblL [(3, S_26L3 fuel)]
 dep := fun i => 0
 n := 3
noncomputable def B_26L3 : Code := (Try.f48.body.bind (loopBody 3)).getD .skip
noncomputable def D_26 : Code := Try.f48.body.getD .skip
noncomputable def N_26 (_ : outs [.v .int, .v .int, .v .int]) (r : dens [.mv .int 0]) : (List Int) := r
noncomputable def E_27 : Entry where
 params := [.v (.slice .int), .v (.slice .int)]
 results := [.v .bool]
 B := Bool
 run := fun a => spec_l3Less a.1 a.2
 out := fun b => ((), ())
 res := fun b => b
noncomputable def S_27L2 (n : Nat) : LoopSpec where
 sh := [(0, .v (.slice .int)), (1, .v (.slice .int)), (5, .v .int)]
 ex := [(.exit 0, []), (.ret, [(4, .v .bool)])]
 run := spec_l3Less_L2 n
noncomputable def C_27 : Cx where
 tt := tblTT tt
 T := tblT []
 L := tblL [(2, S_27L2 fuel)]
 dep := fun i => 0
 n := 2
noncomputable def B_27L2 : Code := (Try.f64.body.bind (loopBody 2)).getD .skip
noncomputable def D_27 : Code := Try.f64.body.getD .skip
noncomputable def N_27 (_ : outs [.v (.slice .int), .v (.slice .int)]) (r : dens [.v .bool]) : Bool := r
noncomputable def E_28 : Entry where
 params := [.v (.slice .int), .v (.slice .int)]
 results := [.v .bool]
 B := Bool
 run := fun a => spec_l1Same a.1 a.2
 out := fun b => ((), ())
 res := fun b => b
noncomputable def S_28L4 (n : Nat) : LoopSpec where
 sh := [(0, .v (.slice .int)), (1, .v (.slice .int)), (5, .v .int)]
 ex := [(.exit 0, []), (.ret, [(4, .v .bool)])]
 run := spec_l1Same_L4 n
noncomputable def C_28 : Cx where
 tt := tblTT tt
 T := tblT []
 L := tblL [(4, S_28L4 fuel)]
 dep := fun i => 0
 n := 2
noncomputable def B_28L4 : Code := (Try.f89.body.bind (loopBody 4)).getD .skip
noncomputable def D_28 : Code := Try.f89.body.getD .skip
noncomputable def N_28 (_ : outs [.v (.slice .int), .v (.slice .int)]) (r : dens [.v .bool]) : Bool := r
noncomputable def E_29 : Entry where
 params := [.v (.slice (.slice .int)), .v (.slice .int)]
 results := [.v .int, .v .bool]
 B := Int × Bool
 run := fun a => spec_l8Find a.1 a.2
 out := fun b => ((), ())
 res := fun b => (b.1, b.2)
noncomputable def S_29L2 (n : Nat) : LoopSpec where
 sh := [(0, .v (.slice (.slice .int))), (1, .v (.slice .int)), (6, .v .int), (7, .v .int)]
 ex := [(.exit 0, [(0, .v (.slice (.slice .int))), (1, .v (.slice .int)), (6, .v .int)])]
 run := spec_l8Find_L2 n
noncomputable def C_29 : Cx where
 tt := tblTT tt
 T := tblT [(64, E_27), (89, E_28)]
 L := tblL [(2, S_29L2 fuel)]
 dep := fun i => 0
 n := 2
noncomputable def B_29L2 : Code := (Try.f76.body.bind (loopBody 2)).getD .skip
noncomputable def D_29 : Code := Try.f76.body.getD .skip
noncomputable def N_29 (_ : outs [.v (.slice (.slice .int)), .v (.slice .int)]) (r : dens [.v .int, .v .bool]) : Int × Bool := (r.1, r.2)
noncomputable def E_30 : Entry where
 params := [.v (.slice (.slice .int)), .v (.slice .int)]
 results := [.v (.slice (.slice .int))]
 B := (List (List Int))
 run := fun a => spec_l8Put a.1 a.2
 out := fun b => ((), ())
 res := fun b => b
noncomputable def C_30 : Cx where
 tt := tblTT tt
 T := tblT [(76, E_29)]
 L := tblL []
 dep := fun i => 0
 n := 2
noncomputable def D_30 : Code := Try.f50.body.getD .skip
noncomputable def N_30 (_ : outs [.v (.slice (.slice .int)), .v (.slice .int)]) (r : dens [.v (.slice (.slice .int))]) : (List (List Int)) := r
noncomputable def E_31 : Entry where
 params := [.v (.pair .int (.pair .int (.slice (.slice .int))))]
 results := [.v (.slice (.slice .int)), .v .bool]
 B := (List (List Int)) × Bool
 run := fun a => spec_LinearSolutions a
 out := fun b => ()
 res := fun b => (b.1, b.2)
noncomputable def S_31L12 (n : Nat) : LoopSpec where
 sh := [(1, .bx (.v (.pair .int (.pair .int (.slice (.slice .int)))))), (4, .v (.slice (.slice .int))), (5, .v .int), (7, .mv .int 0), (8, .v .bool), (9, .mv (.slice .int) 0), (10, .v .int), (11, .mv .int 0), (12, .mv .int 0), (13, .v .int)]
 ex := [(.exit 2, [(1, .bx (.v (.pair .int (.pair .int (.slice (.slice .int)))))), (4, .v (.slice (.slice .int))), (5, .v .int), (7, .mv .int 0), (8, .v .bool), (9, .mv (.slice .int) 0), (10, .v .int), (11, .mv .int 0)])]
 run := spec_LinearSolutions_L12 n
noncomputable def S_31L8 (n : Nat) : LoopSpec where
 sh := [(1, .bx (.v (.pair .int (.pair .int (.slice (.slice .int)))))), (4, .v (.slice (.slice .int))), (5, .v .int), (7, .mv .int 0), (8, .v .bool), (9, .mv (.slice .int) 0), (10, .v .int)]
 ex := [(.exit 0, [(4, .v (.slice (.slice .int)))])]
 run := spec_LinearSolutions_L8 n
noncomputable def C_31 : Cx where
 tt := tblTT tt
 T := tblT [(43, E_21), (44, E_22), (45, E_25), (46, E_18), (47, E_13), (48, E_26), (49, E_16), (50, E_30)]
 L := tblL [(12, S_31L12 fuel), (8, S_31L8 fuel)]
 dep := fun i => 0
 n := 1
noncomputable def B_31L12 : Code := (Try.f17.body.bind (loopBody 12)).getD .skip
noncomputable def B_31L8 : Code := (Try.f17.body.bind (loopBody 8)).getD .skip
noncomputable def D_31 : Code := Try.f17.body.getD .skip
noncomputable def N_31 (_ : outs [.v (.pair .int (.pair .int (.slice (.slice .int))))]) (r : dens [.v (.slice (.slice .int)), .v .bool]) : (List (List Int)) × Bool := (r.1, r.2)
noncomputable def E_32 : Entry where
 params := [.v .int]
 results := [.v .bool]
 B := Bool
 run := fun a => impl_isPrime a
 out := fun b => ()
 res := fun b => b
noncomputable def C_32 : Cx where
 tt := tblTT tt
 T := tblT []
 L := tblL []
 dep := fun i => 0
 n := 1
noncomputable def D_32 : Code := Try.f99.body.getD .skip
noncomputable def N_32 (_ : outs [.v .int]) (r : dens [.v .bool]) : Bool := r
noncomputable def E_33 : Entry where
 params := [.v (.slice .int), .v .int]
 results := [.v .bool]
 B := Bool
 run := fun a => impl_inSize a.1 a.2
 out := fun b => ((), ())
 res := fun b => b
noncomputable def S_33L2 (n : Nat) : LoopSpec where
 sh := [(1, .v .int), (7, .v (.slice .int)), (8, .v .int), (9, .v .int)]
 ex := [(.exit 0, []), (.ret, [(4, .v .bool)])]
 run := impl_inSize_L2 n
noncomputable def C_33 : Cx where
 tt := tblTT tt
 T := tblT []
 L := tblL [(2, S_33L2 fuel)]
 dep := fun i => 0
 n := 2
noncomputable def B_33L2 : Code := (Try.f67.body.bind (loopBody 2)).getD .skip
noncomputable def D_33 : Code := Try.f67.body.getD .skip
noncomputable def N_33 (_ : outs [.v (.slice .int), .v .int]) (r : dens [.v .bool]) : Bool := r
noncomputable def E_34 : Entry where
 params := [.v (.pair .int (.pair .int (.slice (.slice .int))))]
 results := [.v .bool]
 B := Bool
 run := fun a => impl_IsLinear a
 out := fun b => ()
 res := fun b => b
noncomputable def S_34L4 (n : Nat) : LoopSpec where
 sh := [(1, .bx (.v (.pair .int (.pair .int (.slice (.slice .int)))))), (26, .v (.slice (.slice .int))), (27, .v .int), (28, .v .int)]
 ex := [(.exit 0, []), (.ret, [(2, .v .bool)])]
 run := impl_IsLinear_L4 n
noncomputable def C_34 : Cx where
 tt := tblTT tt
 T := tblT [(67, E_33), (99, E_32)]
 L := tblL [(4, S_34L4 fuel)]
 dep := fun i => 0
 n := 1
noncomputable def B_34L4 : Code := (Try.f77.body.bind (loopBody 4)).getD .skip
noncomputable def D_34 : Code := Try.f77.body.getD .skip
noncomputable def N_34 (_ : outs [.v (.pair .int (.pair .int (.slice (.slice .int))))]) (r : dens [.v .bool]) : Bool := r
noncomputable def E_35 : Entry where
 params := [.v (.slice .int)]
 results := [.mv .int 0]
 B := (List Int)
 run := fun a => impl_clone a
 out := fun b => ()
 res := fun b => b
noncomputable def C_35 : Cx where
 tt := tblTT tt
 T := tblT []
 L := tblL []
 dep := fun i => 0
 n := 1
noncomputable def D_35 : Code := Try.f94.body.getD .skip
noncomputable def N_35 (_ : outs [.v (.slice .int)]) (r : dens [.mv .int 0]) : (List Int) := r
noncomputable def E_36 : Entry where
 params := [.v (.slice (.slice .int))]
 results := [.mv (.slice .int) 1]
 B := (List (List Int))
 run := fun a => impl_cloneRows a
 out := fun b => ()
 res := fun b => b
noncomputable def S_36L3 (n : Nat) : LoopSpec where
 sh := [(3, .mv (.slice .int) 1), (7, .v (.slice (.slice .int))), (8, .v .int), (9, .v .int)]
 ex := [(.exit 0, [(3, .mv (.slice .int) 1)])]
 run := impl_cloneRows_L3 n
noncomputable def C_36 : Cx where
 tt := tblTT tt
 T := tblT [(94, E_35)]
 L := tblL [(3, S_36L3 fuel)]
 dep := fun i => match i with
  | 6 => 1
  | 16 => 1
  | 17 => 1
  | _ => 0
 n := 1
noncomputable def B_36L3 : Code := (Try.f71.body.bind (loopBody 3)).getD .skip
noncomputable def D_36 : Code := Try.f71.body.getD .skip
noncomputable def N_36 (_ : outs [.v (.slice (.slice .int))]) (r : dens [.mv (.slice .int) 1]) : (List (List Int)) := r
noncomputable def E_37 : Entry where
 params := [.v .int]
 results := [.mv .int 0]
 B := (List Int)
 run := fun a => impl_freeTable a
 out := fun b => ()
 res := fun b => b
noncomputable def S_37L3 (n : Nat) : LoopSpec where
 sh := [(3, .mv .int 0), (8, .v .int), (9, .v .int)]
 ex := [(.exit 0, [(3, .mv .int 0)])]
 run := impl_freeTable_L3 n
noncomputable def C_37 : Cx where
 tt := tblTT tt
 T := tblT []
 L := tblL [(3, S_37L3 fuel)]
 dep := fun i => 0
 n := 1
noncomputable def B_37L3 : Code := (Try.f100.body.bind (loopBody 3)).getD .skip
noncomputable def D_37 : Code := Try.f100.body.getD .skip
noncomputable def N_37 (_ : outs [.v .int]) (r : dens [.mv .int 0]) : (List Int) := r
noncomputable def E_38 : Entry where
 params := [.v .int, .v .int]
 results := [.v .int]
 B := Int
 run := fun a => impl_inverseOf a.1 a.2
 out := fun b => ((), ())
 res := fun b => b
noncomputable def S_38L2 (n : Nat) : LoopSpec where
 sh := [(0, .v .int), (1, .v .int), (5, .v .int)]
 ex := [(.exit 0, []), (.ret, [(4, .v .int)])]
 run := impl_inverseOf_L2 n
noncomputable def C_38 : Cx where
 tt := tblTT tt
 T := tblT []
 L := tblL [(2, S_38L2 fuel)]
 dep := fun i => 0
 n := 2
noncomputable def B_38L2 : Code := (Try.f101.body.bind (loopBody 2)).getD .skip
noncomputable def D_38 : Code := Try.f101.body.getD .skip
noncomputable def N_38 (_ : outs [.v .int, .v .int]) (r : dens [.v .int]) : Int := r
noncomputable def E_39 : Entry where
 params := [.v .int, .v .int, .v (.slice (.slice .int))]
 results := [.v (.ptr (.pair .int (.pair .int (.pair (.slice (.slice .int)) (.pair .int (.slice .int))))))]
 B := (Bool × Int × Int × (List (List Int)) × Int × (List Int))
 run := fun a => impl_eliminate a.1 a.2.1 a.2.2
 out := fun b => ((), (), ())
 res := fun b => b
noncomputable def S_39L6 (n : Nat) : LoopSpec where
 sh := [(0, .v .int), (1, .v .int), (7, .bx (.pr (.v .int) (.pr (.v .int) (.pr (.mv (.slice .int) 1) (.pr (.v .int) (.mv .int 0)))))), (8, .v .int), (9, .v .int)]
 ex := [(.exit 2, [(0, .v .int), (1, .v .int), (7, .bx (.pr (.v .int) (.pr (.v .int) (.pr (.mv (.slice .int) 1) (.pr (.v .int) (.mv .int 0)))))), (8, .v .int), (9, .v .int)])]
 run := impl_eliminate_L6 n
noncomputable def S_39L14 (n : Nat) : LoopSpec where
 sh := [(12885426186, .v .int), (0, .v .int), (1, .v .int), (7, .bx (.pr (.v .int) (.pr (.v .int) (.pr (.mv (.slice .int) 1) (.pr (.v .int) (.mv .int 0)))))), (8, .v .int), (11, .v .int), (110, .v .int), (111, .v .int)]
 ex := [(.exit 4, [(12885426186, .v .int), (0, .v .int), (1, .v .int), (7, .bx (.pr (.v .int) (.pr (.v .int) (.pr (.mv (.slice .int) 1) (.pr (.v .int) (.mv .int 0)))))), (8, .v .int)])]
 run := impl_eliminate_L14 n
noncomputable def S_39L24 (n : Nat) : LoopSpec where
 sh := [(12885426186, .v .int), (12885426190, .v .int), (12885426305, .jk 1), (0, .v .int), (1, .v .int), (7, .bx (.pr (.v .int) (.pr (.v .int) (.pr (.mv (.slice .int) 1) (.pr (.v .int) (.mv .int 0)))))), (8, .v .int), (15, .v .int), (130, .v .int), (131, .v .int), (151, .v .int), (152, .v .int)]
 ex := [(.exit 8, [(12885426186, .v .int), (12885426305, .jk 1), (0, .v .int), (1, .v .int), (7, .bx (.pr (.v .int) (.pr (.v .int) (.pr (.mv (.slice .int) 1) (.pr (.v .int) (.mv .int 0)))))), (8, .v .int), (130, .v .int), (131, .v .int)])]
 run := impl_eliminate_L24 n
noncomputable def S_39L19 (n : Nat) : LoopSpec where
 sh := [(12885426186, .v .int), (12885426305, .jk 1), (0, .v .int), (1, .v .int), (7, .bx (.pr (.v .int) (.pr (.v .int) (.pr (.mv (.slice .int) 1) (.pr (.v .int) (.mv .int 0)))))), (8, .v .int), (130, .v .int), (131, .v .int)]
 ex := [(.exit 6, [(0, .v .int), (1, .v .int), (7, .bx (.pr (.v .int) (.pr (.v .int) (.pr (.mv (.slice .int) 1) (.pr (.v .int) (.mv .int 0)))))), (8, .v .int)])]
 run := impl_eliminate_L19 n
noncomputable def S_39L3 (n : Nat) : LoopSpec where
 sh := [(0, .v .int), (1, .v .int), (7, .bx (.pr (.v .int) (.pr (.v .int) (.pr (.mv (.slice .int) 1) (.pr (.v .int) (.mv .int 0)))))), (8, .v .int)]
 ex := [(.exit 0, [(7, .bx (.pr (.v .int) (.pr (.v .int) (.pr (.mv (.slice .int) 1) (.pr (.v .int) (.mv .int 0))))))])]
 run := impl_eliminate_L3 n
noncomputable def C_39 : Cx where
 tt := tblTT tt
 T := tblT [(71, E_36), (100, E_37), (101, E_38)]
 L := tblL [(6, S_39L6 fuel), (14, S_39L14 fuel), (24, S_39L24 fuel), (19, S_39L19 fuel), (3, S_39L3 fuel)]
 dep := fun i => match i with
  | 69 => 99
  | _ => 0
 n := 3
noncomputable def B_39L6 : Code := (Try.f80.body.bind (loopBody 6)).getD .skip
noncomputable def B_39L14 : Code := (Try.f80.body.bind (loopBody 14)).getD .skip
noncomputable def B_39L24 : Code := (Try.f80.body.bind (loopBody 24)).getD .skip
noncomputable def B_39L19 : Code := (Try.f80.body.bind (loopBody 19)).getD .skip
noncomputable def B_39L3 : Code := (Try.f80.body.bind (loopBody 3)).getD .skip
noncomputable def D_39 : Code := Try.f80.body.getD .skip
noncomputable def N_39 (_ : outs [.v .int, .v .int, .v (.slice (.slice .int))]) (r : dens [.v (.ptr (.pair .int (.pair .int (.pair (.slice (.slice .int)) (.pair .int (.slice .int))))))]) : (Bool × Int × Int × (List (List Int)) × Int × (List Int)) := r
noncomputable def E_40 : Entry where
 params := [.v (.pair .int (.pair .int (.slice (.slice .int))))]
 results := [.v (.ptr (.pair .int (.pair .int (.pair (.slice (.slice .int)) (.pair .int (.slice .int))))))]
 B := (Bool × Int × Int × (List (List Int)) × Int × (List Int))
 run := fun a => impl_eliminateLinear a
 out := fun b => ()
 res := fun b => b
noncomputable def C_40 : Cx where
 tt := tblTT tt
 T := tblT [(80, E_39)]
 L := tblL []
 dep := fun i => 0
 n := 1
noncomputable def D_40 : Code := Try.f52.body.getD .skip
noncomputable def N_40 (_ : outs [.v (.pair .int (.pair .int (.slice (.slice .int))))]) (r : dens [.v (.ptr (.pair .int (.pair .int (.pair (.slice (.slice .int)) (.pair .int (.slice .int))))))]) : (Bool × Int × Int × (List (List Int)) × Int × (List Int)) := r
noncomputable def E_41 : Entry where
 params := [.bx (.pr (.v .int) (.pr (.v .int) (.pr (.mv (.slice .int) 1) (.pr (.v .int) (.mv .int 0)))))]
 results := [.mv .int 0]
 B := (Int × (Int × ((List (List Int)) × (Int × (List Int))))) × (List Int)
 run := fun a => impl_eliminated_freeVars a
 out := fun b => b.1
 res := fun b => b.2
noncomputable def S_41L3 (n : Nat) : LoopSpec where
 sh := [(21474902026, .jk 1), (0, .bx (.pr (.v .int) (.pr (.v .int) (.pr (.mv (.slice .int) 1) (.pr (.v .int) (.mv .int 0)))))), (3, .mv .int 0), (11, .v .int), (12, .v .int)]
 ex := [(.exit 0, [(0, .bx (.pr (.v .int) (.pr (.v .int) (.pr (.mv (.slice .int) 1) (.pr (.v .int) (.mv .int 0)))))), (3, .mv .int 0)])]
 run := impl_eliminated_freeVars_L3 n
noncomputable def C_41 : Cx where
 tt := tblTT tt
 T := tblT []
 L := tblL [(3, S_41L3 fuel)]
 dep := fun i => 0
 n := 1
noncomputable def B_41L3 : Code := (Try.f53.body.bind (loopBody 3)).getD .skip
noncomputable def D_41 : Code := Try.f53.body.getD .skip
noncomputable def N_41 (o : outs [.bx (.pr (.v .int) (.pr (.v .int) (.pr (.mv (.slice .int) 1) (.pr (.v .int) (.mv .int 0)))))]) (r : dens [.mv .int 0]) : (Int × (Int × ((List (List Int)) × (Int × (List Int))))) × (List Int) := (o, r)
noncomputable def E_42 : Entry where
 params := [.v .int, .v .int]
 results := [.v .int]
 B := Int
 run := fun a => impl_power a.1 a.2
 out := fun b => ((), ())
 res := fun b => b
noncomputable def S_42L2 (n : Nat) : LoopSpec where
 sh := [(0, .v .int), (1, .v .int), (5, .v .int)]
 ex := [(.exit 0, [(5, .v .int)])]
 run := impl_power_L2 n
noncomputable def C_42 : Cx where
 tt := tblTT tt
 T := tblT []
 L := tblL [(2, S_42L2 fuel)]
 dep := fun i => 0
 n := 2
noncomputable def B_42L2 : Code := (Try.f79.body.bind (loopBody 2)).getD .skip
noncomputable def D_42 : Code := Try.f79.body.getD .skip
noncomputable def N_42 (_ : outs [.v .int, .v .int]) (r : dens [.v .int]) : Int := r
noncomputable def E_43 : Entry where
 params := [.v (.ptr (.pair .int (.pair .int (.pair (.slice (.slice .int)) (.pair .int (.slice .int))))))]
 results := [.v .bool]
 B := Bool
 run := fun a => impl_eliminated_fails_p a
 out := fun b => ()
 res := fun b => b
noncomputable def S_43L2 (n : Nat) : LoopSpec where
 sh := [(0, .v (.ptr (.pair .int (.pair .int (.pair (.slice (.slice .int)) (.pair .int (.slice .int))))))), (13, .v (.slice (.slice .int))), (14, .v .int), (15, .v .int)]
 ex := [(.exit 0, []), (.ret, [(2, .v .bool)])]
 run := impl_eliminated_fails_p_L2 n
noncomputable def C_43 : Cx where
 tt := tblTT tt
 T := tblT []
 L := tblL [(2, S_43L2 fuel)]
 dep := fun i => 0
 n := 1
noncomputable def B_43L2 : Code := (Try.f78.body.bind (loopBody 2)).getD .skip
noncomputable def D_43 : Code := Try.f78.body.getD .skip
noncomputable def N_43 (_ : outs [.v (.ptr (.pair .int (.pair .int (.pair (.slice (.slice .int)) (.pair .int (.slice .int))))))]) (r : dens [.v .bool]) : Bool := r
noncomputable def E_44 : Entry where
 params := [.v (.ptr (.pair .int (.pair .int (.pair (.slice (.slice .int)) (.pair .int (.slice .int))))))]
 results := [.mv .int 0]
 B := (List Int)
 run := fun a => impl_eliminated_freeVars_p a
 out := fun b => ()
 res := fun b => b
noncomputable def S_44L3 (n : Nat) : LoopSpec where
 sh := [(3, .mv .int 0), (10, .v (.slice .int)), (11, .v .int), (12, .v .int)]
 ex := [(.exit 0, [(3, .mv .int 0)])]
 run := impl_eliminated_freeVars_p_L3 n
noncomputable def C_44 : Cx where
 tt := tblTT tt
 T := tblT []
 L := tblL [(3, S_44L3 fuel)]
 dep := fun i => 0
 n := 1
noncomputable def B_44L3 : Code := (Try.f53.body.bind (loopBody 3)).getD .skip
noncomputable def D_44 : Code := Try.f53.body.getD .skip
noncomputable def N_44 (_ : outs [.v (.ptr (.pair .int (.pair .int (.pair (.slice (.slice .int)) (.pair .int (.slice .int))))))]) (r : dens [.mv .int 0]) : (List Int) := r
noncomputable def E_45 : Entry where
 params := [.v (.pair .int (.pair .int (.slice (.slice .int))))]
 results := [.v .int, .v .bool]
 B := Int × Bool
 run := fun a => impl_CountLinear a
 out := fun b => ()
 res := fun b => (b.1, b.2)
noncomputable def C_45 : Cx where
 tt := tblTT tt
 T := tblT [(52, E_40), (53, E_44), (77, E_34), (78, E_43), (79, E_42)]
 L := tblL []
 dep := fun i => 0
 n := 1
noncomputable def D_45 : Code := Try.f51.body.getD .skip
noncomputable def N_45 (_ : outs [.v (.pair .int (.pair .int (.slice (.slice .int))))]) (r : dens [.v .int, .v .bool]) : Int × Bool := (r.1, r.2)
noncomputable def E_46 : Entry where
 params := [.v .int, .v .int, .v .int]
 results := [.mv .int 0]
 B := (List Int)
 run := fun a => impl_argsAt a.1 a.2.1 a.2.2
 out := fun b => ((), (), ())
 res := fun b => b
noncomputable def S_46L3 (n : Nat) : LoopSpec where
 sh := [(0, .v .int), (2, .v .int), (7, .mv .int 0), (8, .v .int)]
 ex := [(.exit 0, [(7, .mv .int 0)])]
 run := impl_argsAt_L3 n
noncomputable def C_46 : Cx where
 tt := tblTT tt
 T := tblT []
 L := tblL [(3, S_46L3 fuel)]
 dep := fun i => 0
 n := 3
noncomputable def B_46L3 : Code := (Try.f55.body.bind (loopBody 3)).getD .skip
noncomputable def D_46 : Code := Try.f55.body.getD .skip
noncomputable def N_46 (_ : outs [.v .int, .v .int, .v .int]) (r : dens [.mv .int 0]) : (List Int) := r
noncomputable def E_47 : Entry where
 params := [.bx (.pr (.v .int) (.pr (.v .int) (.pr (.mv (.slice .int) 1) (.pr (.v .int) (.mv .int 0))))), .v (.slice .int)]
 results := [.mv .int 0]
 B := (Int × (Int × ((List (List Int)) × (Int × (List Int))))) × (List Int)
 run := fun a => impl_eliminated_solution a.1 a.2
 out := fun b => (b.1, ())
 res := fun b => b.2
noncomputable def S_47L4 (n : Nat) : LoopSpec where
 sh := [(458773, .jk 1), (0, .bx (.pr (.v .int) (.pr (.v .int) (.pr (.mv (.slice .int) 1) (.pr (.v .int) (.mv .int 0)))))), (1, .v (.slice .int)), (5, .mv .int 0), (6, .mv .int 0), (22, .v .int), (23, .v .int)]
 ex := [(.exit 0, [(0, .bx (.pr (.v .int) (.pr (.v .int) (.pr (.mv (.slice .int) 1) (.pr (.v .int) (.mv .int 0)))))), (1, .v (.slice .int)), (5, .mv .int 0), (6, .mv .int 0)])]
 run := impl_eliminated_solution_L4 n
noncomputable def S_47L14 (n : Nat) : LoopSpec where
 sh := [(21474902055, .jk 1), (458813, .jk 1), (0, .bx (.pr (.v .int) (.pr (.v .int) (.pr (.mv (.slice .int) 1) (.pr (.v .int) (.mv .int 0)))))), (1, .v (.slice .int)), (5, .mv .int 0), (6, .mv .int 0), (9, .v .int), (10, .v .int), (11, .v .int), (40, .v .int), (41, .v .int), (62, .v .int), (63, .v .int)]
 ex := [(.exit 4, [(21474902055, .jk 1), (0, .bx (.pr (.v .int) (.pr (.v .int) (.pr (.mv (.slice .int) 1) (.pr (.v .int) (.mv .int 0)))))), (1, .v (.slice .int)), (5, .mv .int 0), (6, .mv .int 0), (9, .v .int), (11, .v .int), (40, .v .int), (41, .v .int)])]
 run := impl_eliminated_solution_L14 n
noncomputable def S_47L9 (n : Nat) : LoopSpec where
 sh := [(21474902055, .jk 1), (0, .bx (.pr (.v .int) (.pr (.v .int) (.pr (.mv (.slice .int) 1) (.pr (.v .int) (.mv .int 0)))))), (1, .v (.slice .int)), (5, .mv .int 0), (6, .mv .int 0), (40, .v .int), (41, .v .int)]
 ex := [(.exit 2, [(0, .bx (.pr (.v .int) (.pr (.v .int) (.pr (.mv (.slice .int) 1) (.pr (.v .int) (.mv .int 0)))))), (5, .mv .int 0)])]
 run := impl_eliminated_solution_L9 n
noncomputable def C_47 : Cx where
 tt := tblTT tt
 T := tblT [(53, E_41)]
 L := tblL [(4, S_47L4 fuel), (14, S_47L14 fuel), (9, S_47L9 fuel)]
 dep := fun i => 0
 n := 2
noncomputable def B_47L4 : Code := (Try.f54.body.bind (loopBody 4)).getD .skip
noncomputable def B_47L14 : Code := (Try.f54.body.bind (loopBody 14)).getD .skip
noncomputable def B_47L9 : Code := (Try.f54.body.bind (loopBody 9)).getD .skip
noncomputable def D_47 : Code := Try.f54.body.getD .skip
noncomputable def N_47 (o : outs [.bx (.pr (.v .int) (.pr (.v .int) (.pr (.mv (.slice .int) 1) (.pr (.v .int) (.mv .int 0))))), .v (.slice .int)]) (r : dens [.mv .int 0]) : (Int × (Int × ((List (List Int)) × (Int × (List Int))))) × (List Int) := (o.1, r)
noncomputable def E_48 : Entry where
 params := [.v (.ptr (.pair .int (.pair .int (.pair (.slice (.slice .int)) (.pair .int (.slice .int)))))), .v (.slice .int)]
 results := [.mv .int 0]
 B := (List Int)
 run := fun a => impl_eliminated_solution_p a.1 a.2
 out := fun b => ((), ())
 res := fun b => b
noncomputable def S_48L4 (n : Nat) : LoopSpec where
 sh := [(458773, .jk 1), (0, .v (.ptr (.pair .int (.pair .int (.pair (.slice (.slice .int)) (.pair .int (.slice .int))))))), (1, .v (.slice .int)), (5, .mv .int 0), (6, .mv .int 0), (22, .v .int), (23, .v .int)]
 ex := [(.exit 0, [(0, .v (.ptr (.pair .int (.pair .int (.pair (.slice (.slice .int)) (.pair .int (.slice .int))))))), (1, .v (.slice .int)), (5, .mv .int 0), (6, .mv .int 0)])]
 run := impl_eliminated_solution_p_L4 n
noncomputable def S_48L14 (n : Nat) : LoopSpec where
 sh := [(458813, .jk 1), (0, .v (.ptr (.pair .int (.pair .int (.pair (.slice (.slice .int)) (.pair .int (.slice .int))))))), (1, .v (.slice .int)), (5, .mv .int 0), (6, .mv .int 0), (9, .v .int), (10, .v .int), (11, .v .int), (39, .v (.slice .int)), (40, .v .int), (41, .v .int), (62, .v .int), (63, .v .int)]
 ex := [(.exit 4, [(0, .v (.ptr (.pair .int (.pair .int (.pair (.slice (.slice .int)) (.pair .int (.slice .int))))))), (1, .v (.slice .int)), (5, .mv .int 0), (6, .mv .int 0), (9, .v .int), (11, .v .int), (39, .v (.slice .int)), (40, .v .int), (41, .v .int)])]
 run := impl_eliminated_solution_p_L14 n
noncomputable def S_48L9 (n : Nat) : LoopSpec where
 sh := [(0, .v (.ptr (.pair .int (.pair .int (.pair (.slice (.slice .int)) (.pair .int (.slice .int))))))), (1, .v (.slice .int)), (5, .mv .int 0), (6, .mv .int 0), (39, .v (.slice .int)), (40, .v .int), (41, .v .int)]
 ex := [(.exit 2, [(5, .mv .int 0)])]
 run := impl_eliminated_solution_p_L9 n
noncomputable def C_48 : Cx where
 tt := tblTT tt
 T := tblT [(53, E_44)]
 L := tblL [(4, S_48L4 fuel), (14, S_48L14 fuel), (9, S_48L9 fuel)]
 dep := fun i => 0
 n := 2
noncomputable def B_48L4 : Code := (Try.f54.body.bind (loopBody 4)).getD .skip
noncomputable def B_48L14 : Code := (Try.f54.body.bind (loopBody 14)).getD .skip
noncomputable def B_48L9 : Code := (Try.f54.body.bind (loopBody 9)).getD .skip
noncomputable def D_48 : Code := Try.f54.body.getD .skip
noncomputable def N_48 (_ : outs [.v (.ptr (.pair .int (.pair .int (.pair (.slice (.slice .int)) (.pair .int (.slice .int)))))), .v (.slice .int)]) (r : dens [.mv .int 0]) : (List Int) := r
noncomputable def E_49 : Entry where
 params := [.io (.slice .int) 1, .v (.fn 36)]
 results := []
 B := List (List Int)
 run := fun a => impl_sortRows_impl_compareLists a.1 a.2
 out := fun b => (b, ())
 res := fun b => ()
noncomputable def D_49 : Code := Try.f35.body.getD .skip
noncomputable def E_50 : Entry where
 params := [.v (.pair .int (.pair .int (.slice (.slice .int))))]
 results := [.mv (.slice .int) 1, .v .bool]
 B := (List (List Int)) × Bool
 run := fun a => impl_LinearSolutions a
 out := fun b => ()
 res := fun b => (b.1, b.2)
noncomputable def S_50L8 (n : Nat) : LoopSpec where
 sh := [(1, .bx (.v (.pair .int (.pair .int (.slice (.slice .int)))))), (4, .v .int), (6, .v (.ptr (.pair .int (.pair .int (.pair (.slice (.slice .int)) (.pair .int (.slice .int))))))), (7, .v .int), (8, .mv (.slice .int) 1), (9, .v .int)]
 ex := [(.exit 0, [(8, .mv (.slice .int) 1)])]
 run := impl_LinearSolutions_L8 n
noncomputable def C_50 : Cx where
 tt := tblTT tt
 T := tblT [(51, E_45), (52, E_40), (53, E_44), (54, E_48), (55, E_46), (2424867, E_49)]
 L := tblL [(8, S_50L8 fuel)]
 dep := fun i => match i with
  | 21 => 1
  | 27 => 1
  | 41 => 1
  | 42 => 1
  | _ => 0
 n := 1
noncomputable def B_50L8 : Code := (Try.f19.body.bind (loopBody 8)).getD .skip
noncomputable def D_50 : Code := Try.f19.body.getD .skip
noncomputable def N_50 (_ : outs [.v (.pair .int (.pair .int (.slice (.slice .int))))]) (r : dens [.mv (.slice .int) 1, .v .bool]) : (List (List Int)) × Bool := (r.1, r.2)
noncomputable def E_51 : Entry where
 params := [.v (.slice .int), .v (.slice .int)]
 results := [.v .bool]
 B := Bool
 run := fun a => laws_eqIntS a.1 a.2
 out := fun b => ((), ())
 res := fun b => b
noncomputable def S_51L4 (n : Nat) : LoopSpec where
 sh := [(0, .v (.slice .int)), (1, .v (.slice .int)), (5, .v .int)]
 ex := [(.exit 0, []), (.ret, [(4, .v .bool)])]
 run := laws_eqIntS_L4 n
noncomputable def C_51 : Cx where
 tt := tblTT tt
 T := tblT []
 L := tblL [(4, S_51L4 fuel)]
 dep := fun i => 0
 n := 2
noncomputable def B_51L4 : Code := (Try.f38.body.bind (loopBody 4)).getD .skip
noncomputable def D_51 : Code := Try.f38.body.getD .skip
noncomputable def N_51 (_ : outs [.v (.slice .int), .v (.slice .int)]) (r : dens [.v .bool]) : Bool := r
noncomputable def E_52 : Entry where
 params := [.v (.slice (.slice .int)), .v (.slice (.slice .int))]
 results := [.v .bool]
 B := Bool
 run := fun a => laws_eqIntSS a.1 a.2
 out := fun b => ((), ())
 res := fun b => b
noncomputable def S_52L4 (n : Nat) : LoopSpec where
 sh := [(0, .v (.slice (.slice .int))), (1, .v (.slice (.slice .int))), (5, .v .int)]
 ex := [(.exit 0, []), (.ret, [(4, .v .bool)])]
 run := laws_eqIntSS_L4 n
noncomputable def C_52 : Cx where
 tt := tblTT tt
 T := tblT [(38, E_51)]
 L := tblL [(4, S_52L4 fuel)]
 dep := fun i => 0
 n := 2
noncomputable def B_52L4 : Code := (Try.f11.body.bind (loopBody 4)).getD .skip
noncomputable def D_52 : Code := Try.f11.body.getD .skip
noncomputable def N_52 (_ : outs [.v (.slice (.slice .int)), .v (.slice (.slice .int))]) (r : dens [.v .bool]) : Bool := r
noncomputable def E_53 : Entry where
 params := [.v (.pair .int (.pair .int (.slice (.slice .int)))), .v (.pair .int (.pair .int (.slice (.slice .int))))]
 results := [.v .bool]
 B := Bool
 run := fun a => laws_eqLinear a.1 a.2
 out := fun b => ((), ())
 res := fun b => b
noncomputable def C_53 : Cx where
 tt := tblTT tt
 T := tblT [(11, E_52)]
 L := tblL []
 dep := fun i => 0
 n := 2
noncomputable def D_53 : Code := Try.f20.body.getD .skip
noncomputable def N_53 (_ : outs [.v (.pair .int (.pair .int (.slice (.slice .int)))), .v (.pair .int (.pair .int (.slice (.slice .int))))]) (r : dens [.v .bool]) : Bool := r
noncomputable def E_54 : Entry where
 params := [.io .int 0, .v .int]
 results := [.v .int]
 B := (List Int) × Int
 run := fun a => laws_markIntS a.1 a.2
 out := fun b => (b.1, ())
 res := fun b => b.2
noncomputable def S_54L2 (n : Nat) : LoopSpec where
 sh := [(0, .io .int 0), (1, .v .int), (5, .v .int)]
 ex := [(.exit 0, [(0, .io .int 0), (1, .v .int)])]
 run := laws_markIntS_L2 n
noncomputable def C_54 : Cx where
 tt := tblTT tt
 T := tblT []
 L := tblL [(2, S_54L2 fuel)]
 dep := fun i => 0
 n := 2
noncomputable def B_54L2 : Code := (Try.f39.body.bind (loopBody 2)).getD .skip
noncomputable def D_54 : Code := Try.f39.body.getD .skip
noncomputable def N_54 (o : outs [.io .int 0, .v .int]) (r : dens [.v .int]) : (List Int) × Int := (o.1, r)
noncomputable def E_55 : Entry where
 params := [.io (.slice .int) 1, .v .int]
 results := [.v .int]
 B := (List (List Int)) × Int
 run := fun a => laws_markIntSS a.1 a.2
 out := fun b => (b.1, ())
 res := fun b => b.2
noncomputable def S_55L2 (n : Nat) : LoopSpec where
 sh := [(0, .io (.slice .int) 1), (1, .v .int), (5, .v .int)]
 ex := [(.exit 0, [(0, .io (.slice .int) 1), (1, .v .int)])]
 run := laws_markIntSS_L2 n
noncomputable def C_55 : Cx where
 tt := tblTT tt
 T := tblT [(39, E_54)]
 L := tblL [(2, S_55L2 fuel)]
 dep := fun i => 0
 n := 2
noncomputable def B_55L2 : Code := (Try.f12.body.bind (loopBody 2)).getD .skip
noncomputable def D_55 : Code := Try.f12.body.getD .skip
noncomputable def N_55 (o : outs [.io (.slice .int) 1, .v .int]) (r : dens [.v .int]) : (List (List Int)) × Int := (o.1, r)
noncomputable def E_56 : Entry where
 params := [.pr (.v .int) (.pr (.v .int) (.io (.slice .int) 1)), .v .int]
 results := [.v .int]
 B := (Unit × (Unit × (List (List Int)))) × Int
 run := fun a => laws_markLinear a.1 a.2
 out := fun b => (b.1, ())
 res := fun b => b.2
noncomputable def C_56 : Cx where
 tt := tblTT tt
 T := tblT [(12, E_55)]
 L := tblL []
 dep := fun i => 0
 n := 2
noncomputable def D_56 : Code := Try.f21.body.getD .skip
noncomputable def N_56 (o : outs [.pr (.v .int) (.pr (.v .int) (.io (.slice .int) 1)), .v .int]) (r : dens [.v .int]) : (Unit × (Unit × (List (List Int)))) × Int := (o.1, r)
noncomputable def E_57 : Entry where
 params := [.v (.slice .int), .v .int]
 results := [.v .int]
 B := Int
 run := fun a => laws_heldIntS a.1 a.2
 out := fun b => ((), ())
 res := fun b => b
noncomputable def S_57L2 (n : Nat) : LoopSpec where
 sh := [(0, .v (.slice .int)), (1, .v .int), (5, .v .int)]
 ex := [(.exit 0, [(1, .v .int)]), (.ret, [(4, .v .int)])]
 run := laws_heldIntS_L2 n
noncomputable def C_57 : Cx where
 tt := tblTT tt
 T := tblT []
 L := tblL [(2, S_57L2 fuel)]
 dep := fun i => 0
 n := 2
noncomputable def B_57L2 : Code := (Try.f40.body.bind (loopBody 2)).getD .skip
noncomputable def D_57 : Code := Try.f40.body.getD .skip
noncomputable def N_57 (_ : outs [.v (.slice .int), .v .int]) (r : dens [.v .int]) : Int := r
noncomputable def E_58 : Entry where
 params := [.v (.slice (.slice .int)), .v .int]
 results := [.v .int]
 B := Int
 run := fun a => laws_heldIntSS a.1 a.2
 out := fun b => ((), ())
 res := fun b => b
noncomputable def S_58L2 (n : Nat) : LoopSpec where
 sh := [(0, .v (.slice (.slice .int))), (1, .v .int), (5, .v .int)]
 ex := [(.exit 0, [(1, .v .int)]), (.ret, [(4, .v .int)])]
 run := laws_heldIntSS_L2 n
noncomputable def C_58 : Cx where
 tt := tblTT tt
 T := tblT [(40, E_57)]
 L := tblL [(2, S_58L2 fuel)]
 dep := fun i => 0
 n := 2
noncomputable def B_58L2 : Code := (Try.f13.body.bind (loopBody 2)).getD .skip
noncomputable def D_58 : Code := Try.f13.body.getD .skip
noncomputable def N_58 (_ : outs [.v (.slice (.slice .int)), .v .int]) (r : dens [.v .int]) : Int := r
noncomputable def E_59 : Entry where
 params := [.v (.pair .int (.pair .int (.slice (.slice .int))))]
 results := [.v .bool]
 B := Bool
 run := fun a => laws_FnExactLinearSolutions a
 out := fun b => ()
 res := fun b => b
noncomputable def C_59 : Cx where
 tt := tblTT tt
 T := tblT [(11, E_52), (12, E_55), (13, E_58), (16, E_3), (17, E_31), (18, E_6), (19, E_50), (20, E_53), (21, E_56)]
 L := tblL []
 dep := fun i => 0
 n := 1
noncomputable def D_59 : Code := Try.f5.body.getD .skip
noncomputable def N_59 (_ : outs [.v (.pair .int (.pair .int (.slice (.slice .int))))]) (r : dens [.v .bool]) : Bool := r
end T
