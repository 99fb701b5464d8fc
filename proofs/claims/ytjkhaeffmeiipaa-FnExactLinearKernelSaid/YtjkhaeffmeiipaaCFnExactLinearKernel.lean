/- Contexts of the typed functions; no conditions. -/
import Derived.Test.YtjkhaeffmeiipaaV5
import Derived.Test.YtjkhaeffmeiipaaProg
import Derived.Test.YtjkhaeffmeiipaaPFnExactLinearKernel
import Derived.KernelRfl
set_option linter.all false
set_option linter.unusedVariables false
set_option maxRecDepth 10000
open Go Go.Va Go.Proofs
namespace T
noncomputable def tt : List (Nat × TI) := [
  (2, { ty := .int }),
  (3, { ty := .int }),
  (4, { ty := .bool }),
  (22, { ty := (.slice (.slice .int)), elem := 32 }),
  (24, { ty := (.pair .int (.pair .int (.slice (.slice .int)))), fields := [3, 3, 22] }),
  (28, { ty := (.pair .int (.pair .int (.slice (.slice .int)))), fields := [3, 3, 22] }),
  (32, { ty := (.slice .int), elem := 3 }),
  (46, { ty := (.pair (.slice (.slice .int)) (.pair (.slice .int) (.slice (.slice .int)))), fields := [22, 32, 22] }),
  (69, { ty := (.pair .int (.pair .int (.pair (.slice (.slice .int)) (.pair .int (.slice .int))))), fields := [3, 3, 22, 3, 32] })]
theorem tabT : tabOk Try.prog tt = true := by kernel_rfl
theorem mixT : Try.prog.follows .mixedOrders = true := by kernel_rfl

-- laws.szIntS
noncomputable def E_laws_szIntS : Entry where
  params := [.v (.slice .int), .v .int]
  results := [.v .int]
  B := Int
  run := fun a => laws_szIntS a.1 a.2
  out := fun b => ((), ())
  res := fun b => b

noncomputable def C_laws_szIntS : Cx where
  tt := tblTT tt
  T := tblT []
  L := tblL []
  dep := fun i => 0
  n := 2

noncomputable def D_laws_szIntS : Code := Try.f50.body.getD .skip
noncomputable def N_laws_szIntS (_ : outs [.v (.slice .int), .v .int]) (r : dens [.v .int]) : Int := r

-- laws.szIntSS
noncomputable def E_laws_szIntSS : Entry where
  params := [.v (.slice (.slice .int)), .v .int]
  results := [.v .int]
  B := Int
  run := fun a => laws_szIntSS a.1 a.2
  out := fun b => ((), ())
  res := fun b => b

noncomputable def S_laws_szIntSS_L5 (n : Nat) : LoopSpec where
  sh := [(0, .v (.slice (.slice .int))), (1, .v .int), (5, .v .int)]
  ex := [(.exit 0, [(1, .v .int)]), (.ret, [(4, .v .int)])]
  run := laws_szIntSS_L5 n

noncomputable def C_laws_szIntSS : Cx where
  tt := tblTT tt
  T := tblT [(50, E_laws_szIntS)]
  L := tblL [(5, S_laws_szIntSS_L5 fuel)]
  dep := fun i => 0
  n := 2

noncomputable def B_laws_szIntSS_L5 : Code := (Try.f32.body.bind (loopBody 5)).getD .skip
noncomputable def D_laws_szIntSS : Code := Try.f32.body.getD .skip
noncomputable def N_laws_szIntSS (_ : outs [.v (.slice (.slice .int)), .v .int]) (r : dens [.v .int]) : Int := r

-- laws.szLinear
noncomputable def E_laws_szLinear : Entry where
  params := [.v (.pair .int (.pair .int (.slice (.slice .int)))), .v .int]
  results := [.v .int]
  B := Int
  run := fun a => laws_szLinear a.1 a.2
  out := fun b => ((), ())
  res := fun b => b

noncomputable def C_laws_szLinear : Cx where
  tt := tblTT tt
  T := tblT [(32, E_laws_szIntSS)]
  L := tblL []
  dep := fun i => 0
  n := 2

noncomputable def D_laws_szLinear : Code := Try.f9.body.getD .skip
noncomputable def N_laws_szLinear (_ : outs [.v (.pair .int (.pair .int (.slice (.slice .int)))), .v .int]) (r : dens [.v .int]) : Int := r

-- laws.toIntS
noncomputable def E_laws_toIntS : Entry where
  params := [.v (.slice .int)]
  results := [.mv .int 0]
  B := (List Int)
  run := fun a => laws_toIntS a
  out := fun b => ()
  res := fun b => b

noncomputable def S_laws_toIntS_L3 (n : Nat) : LoopSpec where
  sh := [(0, .v (.slice .int)), (3, .mv .int 0), (4, .v .int)]
  ex := [(.exit 0, [(3, .mv .int 0)])]
  run := laws_toIntS_L3 n

noncomputable def C_laws_toIntS : Cx where
  tt := tblTT tt
  T := tblT []
  L := tblL [(3, S_laws_toIntS_L3 fuel)]
  dep := fun i => 0
  n := 1

noncomputable def B_laws_toIntS_L3 : Code := (Try.f55.body.bind (loopBody 3)).getD .skip
noncomputable def D_laws_toIntS : Code := Try.f55.body.getD .skip
noncomputable def N_laws_toIntS (_ : outs [.v (.slice .int)]) (r : dens [.mv .int 0]) : (List Int) := r

-- laws.toIntSS
noncomputable def E_laws_toIntSS : Entry where
  params := [.v (.slice (.slice .int))]
  results := [.mv (.slice .int) 1]
  B := (List (List Int))
  run := fun a => laws_toIntSS a
  out := fun b => ()
  res := fun b => b

noncomputable def S_laws_toIntSS_L3 (n : Nat) : LoopSpec where
  sh := [(0, .v (.slice (.slice .int))), (3, .mv (.slice .int) 1), (4, .v .int)]
  ex := [(.exit 0, [(3, .mv (.slice .int) 1)])]
  run := laws_toIntSS_L3 n

noncomputable def C_laws_toIntSS : Cx where
  tt := tblTT tt
  T := tblT [(55, E_laws_toIntS)]
  L := tblL [(3, S_laws_toIntSS_L3 fuel)]
  dep := fun i => match i with
    | 7 => 1
    | _ => 0
  n := 1

noncomputable def B_laws_toIntSS_L3 : Code := (Try.f37.body.bind (loopBody 3)).getD .skip
noncomputable def D_laws_toIntSS : Code := Try.f37.body.getD .skip
noncomputable def N_laws_toIntSS (_ : outs [.v (.slice (.slice .int))]) (r : dens [.mv (.slice .int) 1]) : (List (List Int)) := r

-- laws.toLinear
noncomputable def E_laws_toLinear : Entry where
  params := [.v (.pair .int (.pair .int (.slice (.slice .int))))]
  results := [.pr (.v .int) (.pr (.v .int) (.mv (.slice .int) 1))]
  B := (Int × (Int × (List (List Int))))
  run := fun a => laws_toLinear a
  out := fun b => ()
  res := fun b => b

noncomputable def C_laws_toLinear : Cx where
  tt := tblTT tt
  T := tblT [(37, E_laws_toIntSS)]
  L := tblL []
  dep := fun i => 0
  n := 1

noncomputable def D_laws_toLinear : Code := Try.f11.body.getD .skip
noncomputable def N_laws_toLinear (_ : outs [.v (.pair .int (.pair .int (.slice (.slice .int))))]) (r : dens [.pr (.v .int) (.pr (.v .int) (.mv (.slice .int) 1))]) : (Int × (Int × (List (List Int)))) := r

-- spec.l21Prime
noncomputable def E_spec_l21Prime : Entry where
  params := [.v .int]
  results := [.v .bool]
  B := Bool
  run := fun a => spec_l21Prime a
  out := fun b => ()
  res := fun b => b

noncomputable def C_spec_l21Prime : Cx where
  tt := tblTT tt
  T := tblT []
  L := tblL []
  dep := fun i => 0
  n := 1

noncomputable def D_spec_l21Prime : Code := Try.f51.body.getD .skip
noncomputable def N_spec_l21Prime (_ : outs [.v .int]) (r : dens [.v .bool]) : Bool := r

-- spec.l1In
noncomputable def E_spec_l1In : Entry where
  params := [.v .int, .v .int, .v .int]
  results := [.v .bool]
  B := Bool
  run := fun a => spec_l1In a.1 a.2.1 a.2.2
  out := fun b => ((), (), ())
  res := fun b => b

noncomputable def C_spec_l1In : Cx where
  tt := tblTT tt
  T := tblT []
  L := tblL []
  dep := fun i => 0
  n := 3

noncomputable def D_spec_l1In : Code := Try.f52.body.getD .skip
noncomputable def N_spec_l1In (_ : outs [.v .int, .v .int, .v .int]) (r : dens [.v .bool]) : Bool := r

-- spec.l2Elements
noncomputable def E_spec_l2Elements : Entry where
  params := [.v .int, .v (.slice .int)]
  results := [.v .bool]
  B := Bool
  run := fun a => spec_l2Elements a.1 a.2
  out := fun b => ((), ())
  res := fun b => b

noncomputable def S_spec_l2Elements_L2 (n : Nat) : LoopSpec where
  sh := [(0, .v .int), (1, .v (.slice .int)), (5, .v .int)]
  ex := [(.exit 0, []), (.ret, [(4, .v .bool)])]
  run := spec_l2Elements_L2 n

noncomputable def C_spec_l2Elements : Cx where
  tt := tblTT tt
  T := tblT [(52, E_spec_l1In)]
  L := tblL [(2, S_spec_l2Elements_L2 fuel)]
  dep := fun i => 0
  n := 2

noncomputable def B_spec_l2Elements_L2 : Code := (Try.f69.body.bind (loopBody 2)).getD .skip
noncomputable def D_spec_l2Elements : Code := Try.f69.body.getD .skip
noncomputable def N_spec_l2Elements (_ : outs [.v .int, .v (.slice .int)]) (r : dens [.v .bool]) : Bool := r

-- spec.l8Tuple
noncomputable def E_spec_l8Tuple : Entry where
  params := [.v .int, .v .int, .v (.slice .int)]
  results := [.v .bool]
  B := Bool
  run := fun a => spec_l8Tuple a.1 a.2.1 a.2.2
  out := fun b => ((), (), ())
  res := fun b => b

noncomputable def C_spec_l8Tuple : Cx where
  tt := tblTT tt
  T := tblT [(69, E_spec_l2Elements)]
  L := tblL []
  dep := fun i => 0
  n := 3

noncomputable def D_spec_l8Tuple : Code := Try.f64.body.getD .skip
noncomputable def N_spec_l8Tuple (_ : outs [.v .int, .v .int, .v (.slice .int)]) (r : dens [.v .bool]) : Bool := r

-- spec.l21Rows
noncomputable def E_spec_l21Rows : Entry where
  params := [.v .int, .v .int, .v (.slice (.slice .int))]
  results := [.v .bool]
  B := Bool
  run := fun a => spec_l21Rows a.1 a.2.1 a.2.2
  out := fun b => ((), (), ())
  res := fun b => b

noncomputable def S_spec_l21Rows_L2 (n : Nat) : LoopSpec where
  sh := [(0, .v .int), (1, .v .int), (2, .v (.slice (.slice .int))), (7, .v .int)]
  ex := [(.exit 0, []), (.ret, [(6, .v .bool)])]
  run := spec_l21Rows_L2 n

noncomputable def C_spec_l21Rows : Cx where
  tt := tblTT tt
  T := tblT [(64, E_spec_l8Tuple)]
  L := tblL [(2, S_spec_l21Rows_L2 fuel)]
  dep := fun i => 0
  n := 3

noncomputable def B_spec_l21Rows_L2 : Code := (Try.f53.body.bind (loopBody 2)).getD .skip
noncomputable def D_spec_l21Rows : Code := Try.f53.body.getD .skip
noncomputable def N_spec_l21Rows (_ : outs [.v .int, .v .int, .v (.slice (.slice .int))]) (r : dens [.v .bool]) : Bool := r

-- spec.l21Good
noncomputable def E_spec_l21Good : Entry where
  params := [.v (.pair .int (.pair .int (.slice (.slice .int))))]
  results := [.v .bool]
  B := Bool
  run := fun a => spec_l21Good a
  out := fun b => ()
  res := fun b => b

noncomputable def C_spec_l21Good : Cx where
  tt := tblTT tt
  T := tblT [(51, E_spec_l21Prime), (52, E_spec_l1In), (53, E_spec_l21Rows)]
  L := tblL []
  dep := fun i => 0
  n := 1

noncomputable def D_spec_l21Good : Code := Try.f33.body.getD .skip
noncomputable def N_spec_l21Good (_ : outs [.v (.pair .int (.pair .int (.slice (.slice .int))))]) (r : dens [.v .bool]) : Bool := r

-- spec.l1Own
noncomputable def E_spec_l1Own : Entry where
  params := [.v (.slice .int)]
  results := [.mv .int 0]
  B := (List Int)
  run := fun a => spec_l1Own a
  out := fun b => ()
  res := fun b => b

noncomputable def C_spec_l1Own : Cx where
  tt := tblTT tt
  T := tblT []
  L := tblL []
  dep := fun i => 0
  n := 1

noncomputable def D_spec_l1Own : Code := Try.f65.body.getD .skip
noncomputable def N_spec_l1Own (_ : outs [.v (.slice .int)]) (r : dens [.mv .int 0]) : (List Int) := r

-- spec.l21Inverse
noncomputable def E_spec_l21Inverse : Entry where
  params := [.v .int, .v .int]
  results := [.v .int]
  B := Int
  run := fun a => spec_l21Inverse a.1 a.2
  out := fun b => ((), ())
  res := fun b => b

noncomputable def S_spec_l21Inverse_L2 (n : Nat) : LoopSpec where
  sh := [(0, .v .int), (1, .v .int), (5, .v .int)]
  ex := [(.exit 0, [(5, .v .int)])]
  run := spec_l21Inverse_L2 n

noncomputable def C_spec_l21Inverse : Cx where
  tt := tblTT tt
  T := tblT []
  L := tblL [(2, S_spec_l21Inverse_L2 fuel)]
  dep := fun i => 0
  n := 2

noncomputable def B_spec_l21Inverse_L2 : Code := (Try.f67.body.bind (loopBody 2)).getD .skip
noncomputable def D_spec_l21Inverse : Code := Try.f67.body.getD .skip
noncomputable def N_spec_l21Inverse (_ : outs [.v .int, .v .int]) (r : dens [.v .int]) : Int := r

-- spec.l21Scale
noncomputable def E_spec_l21Scale : Entry where
  params := [.v .int, .v (.slice .int), .v .int]
  results := [.mv .int 0]
  B := (List Int)
  run := fun a => spec_l21Scale a.1 a.2.1 a.2.2
  out := fun b => ((), (), ())
  res := fun b => b

noncomputable def S_spec_l21Scale_L3 (n : Nat) : LoopSpec where
  sh := [(0, .v .int), (1, .v (.slice .int)), (2, .v .int), (7, .mv .int 0), (8, .v .int)]
  ex := [(.exit 0, [(7, .mv .int 0)])]
  run := spec_l21Scale_L3 n

noncomputable def C_spec_l21Scale : Cx where
  tt := tblTT tt
  T := tblT []
  L := tblL [(3, S_spec_l21Scale_L3 fuel)]
  dep := fun i => 0
  n := 3

noncomputable def B_spec_l21Scale_L3 : Code := (Try.f66.body.bind (loopBody 3)).getD .skip
noncomputable def D_spec_l21Scale : Code := Try.f66.body.getD .skip
noncomputable def N_spec_l21Scale (_ : outs [.v .int, .v (.slice .int), .v .int]) (r : dens [.mv .int 0]) : (List Int) := r

-- spec.l21Less
noncomputable def E_spec_l21Less : Entry where
  params := [.v .int, .v (.slice .int), .v (.slice .int), .v .int]
  results := [.mv .int 0]
  B := (List Int)
  run := fun a => spec_l21Less a.1 a.2.1 a.2.2.1 a.2.2.2
  out := fun b => ((), (), (), ())
  res := fun b => b

noncomputable def S_spec_l21Less_L3 (n : Nat) : LoopSpec where
  sh := [(0, .v .int), (1, .v (.slice .int)), (2, .v (.slice .int)), (3, .v .int), (9, .mv .int 0), (10, .v .int)]
  ex := [(.exit 0, [(9, .mv .int 0)])]
  run := spec_l21Less_L3 n

noncomputable def C_spec_l21Less : Cx where
  tt := tblTT tt
  T := tblT []
  L := tblL [(3, S_spec_l21Less_L3 fuel)]
  dep := fun i => 0
  n := 4

noncomputable def B_spec_l21Less_L3 : Code := (Try.f68.body.bind (loopBody 3)).getD .skip
noncomputable def D_spec_l21Less : Code := Try.f68.body.getD .skip
noncomputable def N_spec_l21Less (_ : outs [.v .int, .v (.slice .int), .v (.slice .int), .v .int]) (r : dens [.mv .int 0]) : (List Int) := r

-- spec.l21Eliminate
noncomputable def E_spec_l21Eliminate : Entry where
  params := [.v .int, .v .int, .v (.slice (.slice .int))]
  results := [.pr (.mv (.slice .int) 0) (.pr (.mv .int 0) (.v (.slice (.slice .int))))]
  B := ((List (List Int)) × ((List Int) × (List (List Int))))
  run := fun a => spec_l21Eliminate a.1 a.2.1 a.2.2
  out := fun b => ((), (), ())
  res := fun b => b

noncomputable def S_spec_l21Eliminate_L3 (n : Nat) : LoopSpec where
  sh := [(0, .v .int), (1, .v .int), (2, .v (.slice (.slice .int))), (6, .bx (.pr (.mv (.slice .int) 0) (.pr (.mv .int 0) (.mv (.slice .int) 0)))), (7, .bx (.pr (.mv (.slice .int) 0) (.pr (.mv .int 0) (.mv (.slice .int) 0)))), (8, .v .int)]
  ex := [(.exit 0, [(0, .v .int), (1, .v .int), (6, .bx (.pr (.mv (.slice .int) 0) (.pr (.mv .int 0) (.mv (.slice .int) 0)))), (7, .bx (.pr (.mv (.slice .int) 0) (.pr (.mv .int 0) (.mv (.slice .int) 0))))])]
  run := spec_l21Eliminate_L3 n

noncomputable def S_spec_l21Eliminate_L10 (n : Nat) : LoopSpec where
  sh := [(0, .v .int), (1, .v .int), (6, .bx (.pr (.mv (.slice .int) 0) (.pr (.mv .int 0) (.v (.slice (.slice .int)))))), (7, .bx (.pr (.mv (.slice .int) 0) (.pr (.mv .int 0) (.v (.slice (.slice .int)))))), (9, .v .int), (10, .v .int)]
  ex := [(.exit 4, [(0, .v .int), (1, .v .int), (6, .bx (.pr (.mv (.slice .int) 0) (.pr (.mv .int 0) (.v (.slice (.slice .int)))))), (7, .bx (.pr (.mv (.slice .int) 0) (.pr (.mv .int 0) (.v (.slice (.slice .int)))))), (9, .v .int), (10, .v .int)])]
  run := spec_l21Eliminate_L10 n

noncomputable def S_spec_l21Eliminate_L16 (n : Nat) : LoopSpec where
  sh := [(0, .v .int), (1, .v .int), (6, .bx (.pr (.mv (.slice .int) 0) (.pr (.mv .int 0) (.v (.slice (.slice .int)))))), (7, .bx (.pr (.mv (.slice .int) 0) (.pr (.mv .int 0) (.v (.slice (.slice .int)))))), (9, .v .int), (11, .mv .int 0), (12, .mv (.slice .int) 0), (13, .v .int)]
  ex := [(.exit 6, [(0, .v .int), (1, .v .int), (6, .bx (.pr (.mv (.slice .int) 0) (.pr (.mv .int 0) (.v (.slice (.slice .int)))))), (7, .bx (.pr (.mv (.slice .int) 0) (.pr (.mv .int 0) (.v (.slice (.slice .int)))))), (9, .v .int), (11, .mv .int 0), (12, .mv (.slice .int) 0)])]
  run := spec_l21Eliminate_L16 n

noncomputable def S_spec_l21Eliminate_L20 (n : Nat) : LoopSpec where
  sh := [(0, .v .int), (1, .v .int), (6, .bx (.pr (.mv (.slice .int) 0) (.pr (.mv .int 0) (.v (.slice (.slice .int)))))), (7, .bx (.pr (.mv (.slice .int) 0) (.pr (.mv .int 0) (.v (.slice (.slice .int)))))), (9, .v .int), (11, .mv .int 0), (12, .mv (.slice .int) 0), (14, .v .int)]
  ex := [(.exit 8, [(0, .v .int), (1, .v .int), (6, .bx (.pr (.mv (.slice .int) 0) (.pr (.mv .int 0) (.v (.slice (.slice .int)))))), (7, .bx (.pr (.mv (.slice .int) 0) (.pr (.mv .int 0) (.v (.slice (.slice .int)))))), (9, .v .int), (11, .mv .int 0), (12, .mv (.slice .int) 0)])]
  run := spec_l21Eliminate_L20 n

noncomputable def S_spec_l21Eliminate_L7 (n : Nat) : LoopSpec where
  sh := [(0, .v .int), (1, .v .int), (6, .bx (.pr (.mv (.slice .int) 0) (.pr (.mv .int 0) (.v (.slice (.slice .int)))))), (7, .bx (.pr (.mv (.slice .int) 0) (.pr (.mv .int 0) (.v (.slice (.slice .int)))))), (9, .v .int)]
  ex := [(.exit 2, [(6, .bx (.pr (.mv (.slice .int) 0) (.pr (.mv .int 0) (.v (.slice (.slice .int)))))), (7, .bx (.pr (.mv (.slice .int) 0) (.pr (.mv .int 0) (.v (.slice (.slice .int))))))])]
  run := spec_l21Eliminate_L7 n

noncomputable def C_spec_l21Eliminate : Cx where
  tt := tblTT tt
  T := tblT [(65, E_spec_l1Own), (66, E_spec_l21Scale), (67, E_spec_l21Inverse), (68, E_spec_l21Less)]
  L := tblL [(3, S_spec_l21Eliminate_L3 fuel), (10, S_spec_l21Eliminate_L10 fuel), (16, S_spec_l21Eliminate_L16 fuel), (20, S_spec_l21Eliminate_L20 fuel), (7, S_spec_l21Eliminate_L7 fuel)]
  dep := fun i => 0
  n := 3

noncomputable def B_spec_l21Eliminate_L3 : Code := (Try.f54.body.bind (loopBody 3)).getD .skip
noncomputable def B_spec_l21Eliminate_L10 : Code := (Try.f54.body.bind (loopBody 10)).getD .skip
noncomputable def B_spec_l21Eliminate_L16 : Code := (Try.f54.body.bind (loopBody 16)).getD .skip
noncomputable def B_spec_l21Eliminate_L20 : Code := (Try.f54.body.bind (loopBody 20)).getD .skip
noncomputable def B_spec_l21Eliminate_L7 : Code := (Try.f54.body.bind (loopBody 7)).getD .skip
noncomputable def D_spec_l21Eliminate : Code := Try.f54.body.getD .skip
noncomputable def N_spec_l21Eliminate (_ : outs [.v .int, .v .int, .v (.slice (.slice .int))]) (r : dens [.pr (.mv (.slice .int) 0) (.pr (.mv .int 0) (.v (.slice (.slice .int))))]) : ((List (List Int)) × ((List Int) × (List (List Int)))) := r

-- spec.l21Of
noncomputable def E_spec_l21Of : Entry where
  params := [.v (.pair .int (.pair .int (.slice (.slice .int))))]
  results := [.pr (.mv (.slice .int) 0) (.pr (.mv .int 0) (.v (.slice (.slice .int))))]
  B := ((List (List Int)) × ((List Int) × (List (List Int))))
  run := fun a => spec_l21Of a
  out := fun b => ()
  res := fun b => b

noncomputable def C_spec_l21Of : Cx where
  tt := tblTT tt
  T := tblT [(54, E_spec_l21Eliminate)]
  L := tblL []
  dep := fun i => 0
  n := 1

noncomputable def D_spec_l21Of : Code := Try.f34.body.getD .skip
noncomputable def N_spec_l21Of (_ : outs [.v (.pair .int (.pair .int (.slice (.slice .int))))]) (r : dens [.pr (.mv (.slice .int) 0) (.pr (.mv .int 0) (.v (.slice (.slice .int))))]) : ((List (List Int)) × ((List Int) × (List (List Int)))) := r

-- spec.l1Has
noncomputable def E_spec_l1Has : Entry where
  params := [.v (.slice .int), .v .int]
  results := [.v .bool]
  B := Bool
  run := fun a => spec_l1Has a.1 a.2
  out := fun b => ((), ())
  res := fun b => b

noncomputable def S_spec_l1Has_L2 (n : Nat) : LoopSpec where
  sh := [(0, .v (.slice .int)), (1, .v .int), (5, .v .int)]
  ex := [(.exit 0, []), (.ret, [(4, .v .bool)])]
  run := spec_l1Has_L2 n

noncomputable def C_spec_l1Has : Cx where
  tt := tblTT tt
  T := tblT []
  L := tblL [(2, S_spec_l1Has_L2 fuel)]
  dep := fun i => 0
  n := 2

noncomputable def B_spec_l1Has_L2 : Code := (Try.f58.body.bind (loopBody 2)).getD .skip
noncomputable def D_spec_l1Has : Code := Try.f58.body.getD .skip
noncomputable def N_spec_l1Has (_ : outs [.v (.slice .int), .v .int]) (r : dens [.v .bool]) : Bool := r

-- spec.l21Free
noncomputable def E_spec_l21Free : Entry where
  params := [.v (.pair (.slice (.slice .int)) (.pair (.slice .int) (.slice (.slice .int)))), .v .int]
  results := [.mv .int 0]
  B := (List Int)
  run := fun a => spec_l21Free a.1 a.2
  out := fun b => ((), ())
  res := fun b => b

noncomputable def S_spec_l21Free_L3 (n : Nat) : LoopSpec where
  sh := [(1, .v .int), (2, .bx (.v (.pair (.slice (.slice .int)) (.pair (.slice .int) (.slice (.slice .int)))))), (5, .mv .int 0), (6, .v .int)]
  ex := [(.exit 0, [(5, .mv .int 0)])]
  run := spec_l21Free_L3 n

noncomputable def C_spec_l21Free : Cx where
  tt := tblTT tt
  T := tblT [(58, E_spec_l1Has)]
  L := tblL [(3, S_spec_l21Free_L3 fuel)]
  dep := fun i => 0
  n := 2

noncomputable def B_spec_l21Free_L3 : Code := (Try.f43.body.bind (loopBody 3)).getD .skip
noncomputable def D_spec_l21Free : Code := Try.f43.body.getD .skip
noncomputable def N_spec_l21Free (_ : outs [.v (.pair (.slice (.slice .int)) (.pair (.slice .int) (.slice (.slice .int)))), .v .int]) (r : dens [.mv .int 0]) : (List Int) := r

-- spec.l21Kernel
noncomputable def E_spec_l21Kernel : Entry where
  params := [.v (.pair (.slice (.slice .int)) (.pair (.slice .int) (.slice (.slice .int)))), .v .int, .v .int]
  results := [.mv (.slice .int) 0]
  B := (List (List Int))
  run := fun a => spec_l21Kernel a.1 a.2.1 a.2.2
  out := fun b => ((), (), ())
  res := fun b => b

noncomputable def S_spec_l21Kernel_L8 (n : Nat) : LoopSpec where
  sh := [(1, .v .int), (2, .v .int), (3, .bx (.v (.pair (.slice (.slice .int)) (.pair (.slice .int) (.slice (.slice .int)))))), (7, .mv (.slice .int) 0), (8, .mv .int 0), (9, .v .int), (10, .mv .int 0), (11, .v .int)]
  ex := [(.exit 2, [(1, .v .int), (2, .v .int), (3, .bx (.v (.pair (.slice (.slice .int)) (.pair (.slice .int) (.slice (.slice .int)))))), (7, .mv (.slice .int) 0), (8, .mv .int 0), (9, .v .int), (10, .mv .int 0)])]
  run := spec_l21Kernel_L8 n

noncomputable def S_spec_l21Kernel_L3 (n : Nat) : LoopSpec where
  sh := [(1, .v .int), (2, .v .int), (3, .bx (.v (.pair (.slice (.slice .int)) (.pair (.slice .int) (.slice (.slice .int)))))), (7, .mv (.slice .int) 0), (8, .mv .int 0), (9, .v .int)]
  ex := [(.exit 0, [(7, .mv (.slice .int) 0)])]
  run := spec_l21Kernel_L3 n

noncomputable def C_spec_l21Kernel : Cx where
  tt := tblTT tt
  T := tblT [(43, E_spec_l21Free)]
  L := tblL [(8, S_spec_l21Kernel_L8 fuel), (3, S_spec_l21Kernel_L3 fuel)]
  dep := fun i => 0
  n := 3

noncomputable def B_spec_l21Kernel_L8 : Code := (Try.f47.body.bind (loopBody 8)).getD .skip
noncomputable def B_spec_l21Kernel_L3 : Code := (Try.f47.body.bind (loopBody 3)).getD .skip
noncomputable def D_spec_l21Kernel : Code := Try.f47.body.getD .skip
noncomputable def N_spec_l21Kernel (_ : outs [.v (.pair (.slice (.slice .int)) (.pair (.slice .int) (.slice (.slice .int)))), .v .int, .v .int]) (r : dens [.mv (.slice .int) 0]) : (List (List Int)) := r

-- spec.LinearKernel
noncomputable def E_spec_LinearKernel : Entry where
  params := [.v (.pair .int (.pair .int (.slice (.slice .int))))]
  results := [.mv (.slice .int) 0, .v .bool]
  B := (List (List Int)) × Bool
  run := fun a => spec_LinearKernel a
  out := fun b => ()
  res := fun b => (b.1, b.2)

noncomputable def C_spec_LinearKernel : Cx where
  tt := tblTT tt
  T := tblT [(33, E_spec_l21Good), (34, E_spec_l21Of), (47, E_spec_l21Kernel)]
  L := tblL []
  dep := fun i => 0
  n := 1

noncomputable def D_spec_LinearKernel : Code := Try.f25.body.getD .skip
noncomputable def N_spec_LinearKernel (_ : outs [.v (.pair .int (.pair .int (.slice (.slice .int))))]) (r : dens [.mv (.slice .int) 0, .v .bool]) : (List (List Int)) × Bool := (r.1, r.2)

-- impl.isPrime
noncomputable def E_impl_isPrime : Entry where
  params := [.v .int]
  results := [.v .bool]
  B := Bool
  run := fun a => impl_isPrime a
  out := fun b => ()
  res := fun b => b

noncomputable def C_impl_isPrime : Cx where
  tt := tblTT tt
  T := tblT []
  L := tblL []
  dep := fun i => 0
  n := 1

noncomputable def D_impl_isPrime : Code := Try.f56.body.getD .skip
noncomputable def N_impl_isPrime (_ : outs [.v .int]) (r : dens [.v .bool]) : Bool := r

-- impl.inSize
noncomputable def E_impl_inSize : Entry where
  params := [.v (.slice .int), .v .int]
  results := [.v .bool]
  B := Bool
  run := fun a => impl_inSize a.1 a.2
  out := fun b => ((), ())
  res := fun b => b

noncomputable def S_impl_inSize_L2 (n : Nat) : LoopSpec where
  sh := [(1, .v .int), (7, .v (.slice .int)), (8, .v .int), (9, .v .int)]
  ex := [(.exit 0, []), (.ret, [(4, .v .bool)])]
  run := impl_inSize_L2 n

noncomputable def C_impl_inSize : Cx where
  tt := tblTT tt
  T := tblT []
  L := tblL [(2, S_impl_inSize_L2 fuel)]
  dep := fun i => 0
  n := 2

noncomputable def B_impl_inSize_L2 : Code := (Try.f57.body.bind (loopBody 2)).getD .skip
noncomputable def D_impl_inSize : Code := Try.f57.body.getD .skip
noncomputable def N_impl_inSize (_ : outs [.v (.slice .int), .v .int]) (r : dens [.v .bool]) : Bool := r

-- impl.IsLinear
noncomputable def E_impl_IsLinear : Entry where
  params := [.v (.pair .int (.pair .int (.slice (.slice .int))))]
  results := [.v .bool]
  B := Bool
  run := fun a => impl_IsLinear a
  out := fun b => ()
  res := fun b => b

noncomputable def S_impl_IsLinear_L4 (n : Nat) : LoopSpec where
  sh := [(1, .bx (.v (.pair .int (.pair .int (.slice (.slice .int)))))), (26, .v (.slice (.slice .int))), (27, .v .int), (28, .v .int)]
  ex := [(.exit 0, []), (.ret, [(2, .v .bool)])]
  run := impl_IsLinear_L4 n

noncomputable def C_impl_IsLinear : Cx where
  tt := tblTT tt
  T := tblT [(56, E_impl_isPrime), (57, E_impl_inSize)]
  L := tblL [(4, S_impl_IsLinear_L4 fuel)]
  dep := fun i => 0
  n := 1

noncomputable def B_impl_IsLinear_L4 : Code := (Try.f38.body.bind (loopBody 4)).getD .skip
noncomputable def D_impl_IsLinear : Code := Try.f38.body.getD .skip
noncomputable def N_impl_IsLinear (_ : outs [.v (.pair .int (.pair .int (.slice (.slice .int))))]) (r : dens [.v .bool]) : Bool := r

-- impl.clone
noncomputable def E_impl_clone : Entry where
  params := [.v (.slice .int)]
  results := [.mv .int 0]
  B := (List Int)
  run := fun a => impl_clone a
  out := fun b => ()
  res := fun b => b

noncomputable def C_impl_clone : Cx where
  tt := tblTT tt
  T := tblT []
  L := tblL []
  dep := fun i => 0
  n := 1

noncomputable def D_impl_clone : Code := Try.f60.body.getD .skip
noncomputable def N_impl_clone (_ : outs [.v (.slice .int)]) (r : dens [.mv .int 0]) : (List Int) := r

-- impl.cloneRows
noncomputable def E_impl_cloneRows : Entry where
  params := [.v (.slice (.slice .int))]
  results := [.mv (.slice .int) 1]
  B := (List (List Int))
  run := fun a => impl_cloneRows a
  out := fun b => ()
  res := fun b => b

noncomputable def S_impl_cloneRows_L3 (n : Nat) : LoopSpec where
  sh := [(3, .mv (.slice .int) 1), (7, .v (.slice (.slice .int))), (8, .v .int), (9, .v .int)]
  ex := [(.exit 0, [(3, .mv (.slice .int) 1)])]
  run := impl_cloneRows_L3 n

noncomputable def C_impl_cloneRows : Cx where
  tt := tblTT tt
  T := tblT [(60, E_impl_clone)]
  L := tblL [(3, S_impl_cloneRows_L3 fuel)]
  dep := fun i => match i with
    | 6 => 1
    | 16 => 1
    | 17 => 1
    | _ => 0
  n := 1

noncomputable def B_impl_cloneRows_L3 : Code := (Try.f59.body.bind (loopBody 3)).getD .skip
noncomputable def D_impl_cloneRows : Code := Try.f59.body.getD .skip
noncomputable def N_impl_cloneRows (_ : outs [.v (.slice (.slice .int))]) (r : dens [.mv (.slice .int) 1]) : (List (List Int)) := r

-- impl.freeTable
noncomputable def E_impl_freeTable : Entry where
  params := [.v .int]
  results := [.mv .int 0]
  B := (List Int)
  run := fun a => impl_freeTable a
  out := fun b => ()
  res := fun b => b

noncomputable def S_impl_freeTable_L3 (n : Nat) : LoopSpec where
  sh := [(3, .mv .int 0), (8, .v .int), (9, .v .int)]
  ex := [(.exit 0, [(3, .mv .int 0)])]
  run := impl_freeTable_L3 n

noncomputable def C_impl_freeTable : Cx where
  tt := tblTT tt
  T := tblT []
  L := tblL [(3, S_impl_freeTable_L3 fuel)]
  dep := fun i => 0
  n := 1

noncomputable def B_impl_freeTable_L3 : Code := (Try.f62.body.bind (loopBody 3)).getD .skip
noncomputable def D_impl_freeTable : Code := Try.f62.body.getD .skip
noncomputable def N_impl_freeTable (_ : outs [.v .int]) (r : dens [.mv .int 0]) : (List Int) := r

-- impl.inverseOf
noncomputable def E_impl_inverseOf : Entry where
  params := [.v .int, .v .int]
  results := [.v .int]
  B := Int
  run := fun a => impl_inverseOf a.1 a.2
  out := fun b => ((), ())
  res := fun b => b

noncomputable def S_impl_inverseOf_L2 (n : Nat) : LoopSpec where
  sh := [(0, .v .int), (1, .v .int), (5, .v .int)]
  ex := [(.exit 0, []), (.ret, [(4, .v .int)])]
  run := impl_inverseOf_L2 n

noncomputable def C_impl_inverseOf : Cx where
  tt := tblTT tt
  T := tblT []
  L := tblL [(2, S_impl_inverseOf_L2 fuel)]
  dep := fun i => 0
  n := 2

noncomputable def B_impl_inverseOf_L2 : Code := (Try.f63.body.bind (loopBody 2)).getD .skip
noncomputable def D_impl_inverseOf : Code := Try.f63.body.getD .skip
noncomputable def N_impl_inverseOf (_ : outs [.v .int, .v .int]) (r : dens [.v .int]) : Int := r

-- impl.eliminate
noncomputable def E_impl_eliminate_b : Entry where
  params := [.v .int, .v .int, .v (.slice (.slice .int))]
  results := [.bx (.pr (.v .int) (.pr (.v .int) (.pr (.mv (.slice .int) 1) (.pr (.v .int) (.mv .int 0)))))]
  B := (Int × (Int × ((List (List Int)) × (Int × (List Int)))))
  run := fun a => impl_eliminate_b a.1 a.2.1 a.2.2
  out := fun b => ((), (), ())
  res := fun b => b

noncomputable def S_impl_eliminate_b_L6 (n : Nat) : LoopSpec where
  sh := [(0, .v .int), (1, .v .int), (7, .bx (.pr (.v .int) (.pr (.v .int) (.pr (.mv (.slice .int) 1) (.pr (.v .int) (.mv .int 0)))))), (8, .v .int), (9, .v .int)]
  ex := [(.exit 2, [(0, .v .int), (1, .v .int), (7, .bx (.pr (.v .int) (.pr (.v .int) (.pr (.mv (.slice .int) 1) (.pr (.v .int) (.mv .int 0)))))), (8, .v .int), (9, .v .int)])]
  run := impl_eliminate_b_L6 n

noncomputable def S_impl_eliminate_b_L14 (n : Nat) : LoopSpec where
  sh := [(12885426186, .v .int), (0, .v .int), (1, .v .int), (7, .bx (.pr (.v .int) (.pr (.v .int) (.pr (.mv (.slice .int) 1) (.pr (.v .int) (.mv .int 0)))))), (8, .v .int), (11, .v .int), (110, .v .int), (111, .v .int)]
  ex := [(.exit 4, [(12885426186, .v .int), (0, .v .int), (1, .v .int), (7, .bx (.pr (.v .int) (.pr (.v .int) (.pr (.mv (.slice .int) 1) (.pr (.v .int) (.mv .int 0)))))), (8, .v .int)])]
  run := impl_eliminate_b_L14 n

noncomputable def S_impl_eliminate_b_L24 (n : Nat) : LoopSpec where
  sh := [(12885426186, .v .int), (12885426190, .v .int), (12885426305, .jk 1), (0, .v .int), (1, .v .int), (7, .bx (.pr (.v .int) (.pr (.v .int) (.pr (.mv (.slice .int) 1) (.pr (.v .int) (.mv .int 0)))))), (8, .v .int), (15, .v .int), (130, .v .int), (131, .v .int), (151, .v .int), (152, .v .int)]
  ex := [(.exit 8, [(12885426186, .v .int), (12885426305, .jk 1), (0, .v .int), (1, .v .int), (7, .bx (.pr (.v .int) (.pr (.v .int) (.pr (.mv (.slice .int) 1) (.pr (.v .int) (.mv .int 0)))))), (8, .v .int), (130, .v .int), (131, .v .int)])]
  run := impl_eliminate_b_L24 n

noncomputable def S_impl_eliminate_b_L19 (n : Nat) : LoopSpec where
  sh := [(12885426186, .v .int), (12885426305, .jk 1), (0, .v .int), (1, .v .int), (7, .bx (.pr (.v .int) (.pr (.v .int) (.pr (.mv (.slice .int) 1) (.pr (.v .int) (.mv .int 0)))))), (8, .v .int), (130, .v .int), (131, .v .int)]
  ex := [(.exit 6, [(0, .v .int), (1, .v .int), (7, .bx (.pr (.v .int) (.pr (.v .int) (.pr (.mv (.slice .int) 1) (.pr (.v .int) (.mv .int 0)))))), (8, .v .int)])]
  run := impl_eliminate_b_L19 n

noncomputable def S_impl_eliminate_b_L3 (n : Nat) : LoopSpec where
  sh := [(0, .v .int), (1, .v .int), (7, .bx (.pr (.v .int) (.pr (.v .int) (.pr (.mv (.slice .int) 1) (.pr (.v .int) (.mv .int 0)))))), (8, .v .int)]
  ex := [(.exit 0, [(7, .bx (.pr (.v .int) (.pr (.v .int) (.pr (.mv (.slice .int) 1) (.pr (.v .int) (.mv .int 0))))))])]
  run := impl_eliminate_b_L3 n

noncomputable def C_impl_eliminate_b : Cx where
  tt := tblTT tt
  T := tblT [(59, E_impl_cloneRows), (62, E_impl_freeTable), (63, E_impl_inverseOf)]
  L := tblL [(6, S_impl_eliminate_b_L6 fuel), (14, S_impl_eliminate_b_L14 fuel), (24, S_impl_eliminate_b_L24 fuel), (19, S_impl_eliminate_b_L19 fuel), (3, S_impl_eliminate_b_L3 fuel)]
  dep := fun i => match i with
    | 69 => 99
    | _ => 0
  n := 3

noncomputable def B_impl_eliminate_b_L6 : Code := (Try.f49.body.bind (loopBody 6)).getD .skip
noncomputable def B_impl_eliminate_b_L14 : Code := (Try.f49.body.bind (loopBody 14)).getD .skip
noncomputable def B_impl_eliminate_b_L24 : Code := (Try.f49.body.bind (loopBody 24)).getD .skip
noncomputable def B_impl_eliminate_b_L19 : Code := (Try.f49.body.bind (loopBody 19)).getD .skip
noncomputable def B_impl_eliminate_b_L3 : Code := (Try.f49.body.bind (loopBody 3)).getD .skip
noncomputable def D_impl_eliminate_b : Code := Try.f49.body.getD .skip
noncomputable def N_impl_eliminate_b (_ : outs [.v .int, .v .int, .v (.slice (.slice .int))]) (r : dens [.bx (.pr (.v .int) (.pr (.v .int) (.pr (.mv (.slice .int) 1) (.pr (.v .int) (.mv .int 0)))))]) : (Int × (Int × ((List (List Int)) × (Int × (List Int))))) := r

-- impl.eliminateLinear
noncomputable def E_impl_eliminateLinear_b : Entry where
  params := [.v (.pair .int (.pair .int (.slice (.slice .int))))]
  results := [.bx (.pr (.v .int) (.pr (.v .int) (.pr (.mv (.slice .int) 1) (.pr (.v .int) (.mv .int 0)))))]
  B := (Int × (Int × ((List (List Int)) × (Int × (List Int)))))
  run := fun a => impl_eliminateLinear_b a
  out := fun b => ()
  res := fun b => b

noncomputable def C_impl_eliminateLinear_b : Cx where
  tt := tblTT tt
  T := tblT [(49, E_impl_eliminate_b)]
  L := tblL []
  dep := fun i => 0
  n := 1

noncomputable def D_impl_eliminateLinear_b : Code := Try.f39.body.getD .skip
noncomputable def N_impl_eliminateLinear_b (_ : outs [.v (.pair .int (.pair .int (.slice (.slice .int))))]) (r : dens [.bx (.pr (.v .int) (.pr (.v .int) (.pr (.mv (.slice .int) 1) (.pr (.v .int) (.mv .int 0)))))]) : (Int × (Int × ((List (List Int)) × (Int × (List Int))))) := r

-- impl.eliminated).freeVars
noncomputable def E_impl_eliminated_freeVars : Entry where
  params := [.bx (.pr (.v .int) (.pr (.v .int) (.pr (.mv (.slice .int) 1) (.pr (.v .int) (.mv .int 0)))))]
  results := [.mv .int 0]
  B := (Int × (Int × ((List (List Int)) × (Int × (List Int))))) × (List Int)
  run := fun a => impl_eliminated_freeVars a
  out := fun b => b.1
  res := fun b => b.2

noncomputable def S_impl_eliminated_freeVars_L3 (n : Nat) : LoopSpec where
  sh := [(21474902026, .jk 1), (0, .bx (.pr (.v .int) (.pr (.v .int) (.pr (.mv (.slice .int) 1) (.pr (.v .int) (.mv .int 0)))))), (3, .mv .int 0), (11, .v .int), (12, .v .int)]
  ex := [(.exit 0, [(0, .bx (.pr (.v .int) (.pr (.v .int) (.pr (.mv (.slice .int) 1) (.pr (.v .int) (.mv .int 0)))))), (3, .mv .int 0)])]
  run := impl_eliminated_freeVars_L3 n

noncomputable def C_impl_eliminated_freeVars : Cx where
  tt := tblTT tt
  T := tblT []
  L := tblL [(3, S_impl_eliminated_freeVars_L3 fuel)]
  dep := fun i => 0
  n := 1

noncomputable def B_impl_eliminated_freeVars_L3 : Code := (Try.f42.body.bind (loopBody 3)).getD .skip
noncomputable def D_impl_eliminated_freeVars : Code := Try.f42.body.getD .skip
noncomputable def N_impl_eliminated_freeVars (o : outs [.bx (.pr (.v .int) (.pr (.v .int) (.pr (.mv (.slice .int) 1) (.pr (.v .int) (.mv .int 0)))))]) (r : dens [.mv .int 0]) : (Int × (Int × ((List (List Int)) × (Int × (List Int))))) × (List Int) := (o, r)

-- impl.eliminated).solution
noncomputable def E_impl_eliminated_solution : Entry where
  params := [.bx (.pr (.v .int) (.pr (.v .int) (.pr (.mv (.slice .int) 1) (.pr (.v .int) (.mv .int 0))))), .v (.slice .int)]
  results := [.mv .int 0]
  B := (Int × (Int × ((List (List Int)) × (Int × (List Int))))) × (List Int)
  run := fun a => impl_eliminated_solution a.1 a.2
  out := fun b => (b.1, ())
  res := fun b => b.2

noncomputable def S_impl_eliminated_solution_L4 (n : Nat) : LoopSpec where
  sh := [(458773, .jk 1), (0, .bx (.pr (.v .int) (.pr (.v .int) (.pr (.mv (.slice .int) 1) (.pr (.v .int) (.mv .int 0)))))), (1, .v (.slice .int)), (5, .mv .int 0), (6, .mv .int 0), (22, .v .int), (23, .v .int)]
  ex := [(.exit 0, [(0, .bx (.pr (.v .int) (.pr (.v .int) (.pr (.mv (.slice .int) 1) (.pr (.v .int) (.mv .int 0)))))), (1, .v (.slice .int)), (5, .mv .int 0), (6, .mv .int 0)])]
  run := impl_eliminated_solution_L4 n

noncomputable def S_impl_eliminated_solution_L14 (n : Nat) : LoopSpec where
  sh := [(21474902055, .jk 1), (458813, .jk 1), (0, .bx (.pr (.v .int) (.pr (.v .int) (.pr (.mv (.slice .int) 1) (.pr (.v .int) (.mv .int 0)))))), (1, .v (.slice .int)), (5, .mv .int 0), (6, .mv .int 0), (9, .v .int), (10, .v .int), (11, .v .int), (40, .v .int), (41, .v .int), (62, .v .int), (63, .v .int)]
  ex := [(.exit 4, [(21474902055, .jk 1), (0, .bx (.pr (.v .int) (.pr (.v .int) (.pr (.mv (.slice .int) 1) (.pr (.v .int) (.mv .int 0)))))), (1, .v (.slice .int)), (5, .mv .int 0), (6, .mv .int 0), (9, .v .int), (11, .v .int), (40, .v .int), (41, .v .int)])]
  run := impl_eliminated_solution_L14 n

noncomputable def S_impl_eliminated_solution_L9 (n : Nat) : LoopSpec where
  sh := [(21474902055, .jk 1), (0, .bx (.pr (.v .int) (.pr (.v .int) (.pr (.mv (.slice .int) 1) (.pr (.v .int) (.mv .int 0)))))), (1, .v (.slice .int)), (5, .mv .int 0), (6, .mv .int 0), (40, .v .int), (41, .v .int)]
  ex := [(.exit 2, [(0, .bx (.pr (.v .int) (.pr (.v .int) (.pr (.mv (.slice .int) 1) (.pr (.v .int) (.mv .int 0)))))), (5, .mv .int 0)])]
  run := impl_eliminated_solution_L9 n

noncomputable def C_impl_eliminated_solution : Cx where
  tt := tblTT tt
  T := tblT [(42, E_impl_eliminated_freeVars)]
  L := tblL [(4, S_impl_eliminated_solution_L4 fuel), (14, S_impl_eliminated_solution_L14 fuel), (9, S_impl_eliminated_solution_L9 fuel)]
  dep := fun i => 0
  n := 2

noncomputable def B_impl_eliminated_solution_L4 : Code := (Try.f61.body.bind (loopBody 4)).getD .skip
noncomputable def B_impl_eliminated_solution_L14 : Code := (Try.f61.body.bind (loopBody 14)).getD .skip
noncomputable def B_impl_eliminated_solution_L9 : Code := (Try.f61.body.bind (loopBody 9)).getD .skip
noncomputable def D_impl_eliminated_solution : Code := Try.f61.body.getD .skip
noncomputable def N_impl_eliminated_solution (o : outs [.bx (.pr (.v .int) (.pr (.v .int) (.pr (.mv (.slice .int) 1) (.pr (.v .int) (.mv .int 0))))), .v (.slice .int)]) (r : dens [.mv .int 0]) : (Int × (Int × ((List (List Int)) × (Int × (List Int))))) × (List Int) := (o.1, r)

-- impl.eliminated).kernel
noncomputable def E_impl_eliminated_kernel : Entry where
  params := [.bx (.pr (.v .int) (.pr (.v .int) (.pr (.mv (.slice .int) 1) (.pr (.v .int) (.mv .int 0)))))]
  results := [.mv (.slice .int) 1]
  B := (Int × (Int × ((List (List Int)) × (Int × (List Int))))) × (List (List Int))
  run := fun a => impl_eliminated_kernel a
  out := fun b => b.1
  res := fun b => b.2

noncomputable def S_impl_eliminated_kernel_L2 (n : Nat) : LoopSpec where
  sh := [(12884967436, .jk 1), (0, .bx (.pr (.v .int) (.pr (.v .int) (.pr (.mv (.slice .int) 1) (.pr (.v .int) (.mv .int 0)))))), (13, .v .int), (14, .v .int)]
  ex := [(.exit 0, [(0, .bx (.pr (.v .int) (.pr (.v .int) (.pr (.mv (.slice .int) 1) (.pr (.v .int) (.mv .int 0))))))])]
  run := impl_eliminated_kernel_L2 n

noncomputable def S_impl_eliminated_kernel_L9 (n : Nat) : LoopSpec where
  sh := [(0, .bx (.pr (.v .int) (.pr (.v .int) (.pr (.mv (.slice .int) 1) (.pr (.v .int) (.mv .int 0)))))), (5, .mv (.slice .int) 1), (6, .mv .int 0), (29, .v .int), (30, .v .int)]
  ex := [(.exit 2, [(0, .bx (.pr (.v .int) (.pr (.v .int) (.pr (.mv (.slice .int) 1) (.pr (.v .int) (.mv .int 0)))))), (5, .mv (.slice .int) 1)])]
  run := impl_eliminated_kernel_L9 n

noncomputable def C_impl_eliminated_kernel : Cx where
  tt := tblTT tt
  T := tblT [(42, E_impl_eliminated_freeVars), (61, E_impl_eliminated_solution)]
  L := tblL [(2, S_impl_eliminated_kernel_L2 fuel), (9, S_impl_eliminated_kernel_L9 fuel)]
  dep := fun i => match i with
    | 25 => 1
    | 43 => 1
    | 44 => 1
    | _ => 0
  n := 1

noncomputable def B_impl_eliminated_kernel_L2 : Code := (Try.f48.body.bind (loopBody 2)).getD .skip
noncomputable def B_impl_eliminated_kernel_L9 : Code := (Try.f48.body.bind (loopBody 9)).getD .skip
noncomputable def D_impl_eliminated_kernel : Code := Try.f48.body.getD .skip
noncomputable def N_impl_eliminated_kernel (o : outs [.bx (.pr (.v .int) (.pr (.v .int) (.pr (.mv (.slice .int) 1) (.pr (.v .int) (.mv .int 0)))))]) (r : dens [.mv (.slice .int) 1]) : (Int × (Int × ((List (List Int)) × (Int × (List Int))))) × (List (List Int)) := (o, r)

-- impl.LinearKernel
noncomputable def E_impl_LinearKernel : Entry where
  params := [.v (.pair .int (.pair .int (.slice (.slice .int))))]
  results := [.mv (.slice .int) 1, .v .bool]
  B := (List (List Int)) × Bool
  run := fun a => impl_LinearKernel a
  out := fun b => ()
  res := fun b => (b.1, b.2)

noncomputable def C_impl_LinearKernel : Cx where
  tt := tblTT tt
  T := tblT [(38, E_impl_IsLinear), (39, E_impl_eliminateLinear_b), (48, E_impl_eliminated_kernel)]
  L := tblL []
  dep := fun i => match i with
    | 7 => 1
    | _ => 0
  n := 1

noncomputable def D_impl_LinearKernel : Code := Try.f26.body.getD .skip
noncomputable def N_impl_LinearKernel (_ : outs [.v (.pair .int (.pair .int (.slice (.slice .int))))]) (r : dens [.mv (.slice .int) 1, .v .bool]) : (List (List Int)) × Bool := (r.1, r.2)

-- laws.eqIntS
noncomputable def E_laws_eqIntS : Entry where
  params := [.v (.slice .int), .v (.slice .int)]
  results := [.v .bool]
  B := Bool
  run := fun a => laws_eqIntS a.1 a.2
  out := fun b => ((), ())
  res := fun b => b

noncomputable def S_laws_eqIntS_L4 (n : Nat) : LoopSpec where
  sh := [(0, .v (.slice .int)), (1, .v (.slice .int)), (5, .v .int)]
  ex := [(.exit 0, []), (.ret, [(4, .v .bool)])]
  run := laws_eqIntS_L4 n

noncomputable def C_laws_eqIntS : Cx where
  tt := tblTT tt
  T := tblT []
  L := tblL [(4, S_laws_eqIntS_L4 fuel)]
  dep := fun i => 0
  n := 2

noncomputable def B_laws_eqIntS_L4 : Code := (Try.f16.body.bind (loopBody 4)).getD .skip
noncomputable def D_laws_eqIntS : Code := Try.f16.body.getD .skip
noncomputable def N_laws_eqIntS (_ : outs [.v (.slice .int), .v (.slice .int)]) (r : dens [.v .bool]) : Bool := r

-- laws.eqIntSS
noncomputable def E_laws_eqIntSS : Entry where
  params := [.v (.slice (.slice .int)), .v (.slice (.slice .int))]
  results := [.v .bool]
  B := Bool
  run := fun a => laws_eqIntSS a.1 a.2
  out := fun b => ((), ())
  res := fun b => b

noncomputable def S_laws_eqIntSS_L4 (n : Nat) : LoopSpec where
  sh := [(0, .v (.slice (.slice .int))), (1, .v (.slice (.slice .int))), (5, .v .int)]
  ex := [(.exit 0, []), (.ret, [(4, .v .bool)])]
  run := laws_eqIntSS_L4 n

noncomputable def C_laws_eqIntSS : Cx where
  tt := tblTT tt
  T := tblT [(16, E_laws_eqIntS)]
  L := tblL [(4, S_laws_eqIntSS_L4 fuel)]
  dep := fun i => 0
  n := 2

noncomputable def B_laws_eqIntSS_L4 : Code := (Try.f27.body.bind (loopBody 4)).getD .skip
noncomputable def D_laws_eqIntSS : Code := Try.f27.body.getD .skip
noncomputable def N_laws_eqIntSS (_ : outs [.v (.slice (.slice .int)), .v (.slice (.slice .int))]) (r : dens [.v .bool]) : Bool := r

-- laws.eqLinear
noncomputable def E_laws_eqLinear : Entry where
  params := [.v (.pair .int (.pair .int (.slice (.slice .int)))), .v (.pair .int (.pair .int (.slice (.slice .int))))]
  results := [.v .bool]
  B := Bool
  run := fun a => laws_eqLinear a.1 a.2
  out := fun b => ((), ())
  res := fun b => b

noncomputable def C_laws_eqLinear : Cx where
  tt := tblTT tt
  T := tblT [(27, E_laws_eqIntSS)]
  L := tblL []
  dep := fun i => 0
  n := 2

noncomputable def D_laws_eqLinear : Code := Try.f13.body.getD .skip
noncomputable def N_laws_eqLinear (_ : outs [.v (.pair .int (.pair .int (.slice (.slice .int)))), .v (.pair .int (.pair .int (.slice (.slice .int))))]) (r : dens [.v .bool]) : Bool := r

-- laws.markIntS
noncomputable def E_laws_markIntS : Entry where
  params := [.io .int 0, .v .int]
  results := [.v .int]
  B := (List Int) × Int
  run := fun a => laws_markIntS a.1 a.2
  out := fun b => (b.1, ())
  res := fun b => b.2

noncomputable def S_laws_markIntS_L2 (n : Nat) : LoopSpec where
  sh := [(0, .io .int 0), (1, .v .int), (5, .v .int)]
  ex := [(.exit 0, [(0, .io .int 0), (1, .v .int)])]
  run := laws_markIntS_L2 n

noncomputable def C_laws_markIntS : Cx where
  tt := tblTT tt
  T := tblT []
  L := tblL [(2, S_laws_markIntS_L2 fuel)]
  dep := fun i => 0
  n := 2

noncomputable def B_laws_markIntS_L2 : Code := (Try.f18.body.bind (loopBody 2)).getD .skip
noncomputable def D_laws_markIntS : Code := Try.f18.body.getD .skip
noncomputable def N_laws_markIntS (o : outs [.io .int 0, .v .int]) (r : dens [.v .int]) : (List Int) × Int := (o.1, r)

-- laws.markIntSS
noncomputable def E_laws_markIntSS : Entry where
  params := [.io (.slice .int) 1, .v .int]
  results := [.v .int]
  B := (List (List Int)) × Int
  run := fun a => laws_markIntSS a.1 a.2
  out := fun b => (b.1, ())
  res := fun b => b.2

noncomputable def S_laws_markIntSS_L2 (n : Nat) : LoopSpec where
  sh := [(0, .io (.slice .int) 1), (1, .v .int), (5, .v .int)]
  ex := [(.exit 0, [(0, .io (.slice .int) 1), (1, .v .int)])]
  run := laws_markIntSS_L2 n

noncomputable def C_laws_markIntSS : Cx where
  tt := tblTT tt
  T := tblT [(18, E_laws_markIntS)]
  L := tblL [(2, S_laws_markIntSS_L2 fuel)]
  dep := fun i => 0
  n := 2

noncomputable def B_laws_markIntSS_L2 : Code := (Try.f28.body.bind (loopBody 2)).getD .skip
noncomputable def D_laws_markIntSS : Code := Try.f28.body.getD .skip
noncomputable def N_laws_markIntSS (o : outs [.io (.slice .int) 1, .v .int]) (r : dens [.v .int]) : (List (List Int)) × Int := (o.1, r)

-- laws.markLinear
noncomputable def E_laws_markLinear : Entry where
  params := [.pr (.v .int) (.pr (.v .int) (.io (.slice .int) 1)), .v .int]
  results := [.v .int]
  B := (Unit × (Unit × (List (List Int)))) × Int
  run := fun a => laws_markLinear a.1 a.2
  out := fun b => (b.1, ())
  res := fun b => b.2

noncomputable def C_laws_markLinear : Cx where
  tt := tblTT tt
  T := tblT [(28, E_laws_markIntSS)]
  L := tblL []
  dep := fun i => 0
  n := 2

noncomputable def D_laws_markLinear : Code := Try.f17.body.getD .skip
noncomputable def N_laws_markLinear (o : outs [.pr (.v .int) (.pr (.v .int) (.io (.slice .int) 1)), .v .int]) (r : dens [.v .int]) : (Unit × (Unit × (List (List Int)))) × Int := (o.1, r)

-- laws.heldIntS
noncomputable def E_laws_heldIntS : Entry where
  params := [.v (.slice .int), .v .int]
  results := [.v .int]
  B := Int
  run := fun a => laws_heldIntS a.1 a.2
  out := fun b => ((), ())
  res := fun b => b

noncomputable def S_laws_heldIntS_L2 (n : Nat) : LoopSpec where
  sh := [(0, .v (.slice .int)), (1, .v .int), (5, .v .int)]
  ex := [(.exit 0, [(1, .v .int)]), (.ret, [(4, .v .int)])]
  run := laws_heldIntS_L2 n

noncomputable def C_laws_heldIntS : Cx where
  tt := tblTT tt
  T := tblT []
  L := tblL [(2, S_laws_heldIntS_L2 fuel)]
  dep := fun i => 0
  n := 2

noncomputable def B_laws_heldIntS_L2 : Code := (Try.f19.body.bind (loopBody 2)).getD .skip
noncomputable def D_laws_heldIntS : Code := Try.f19.body.getD .skip
noncomputable def N_laws_heldIntS (_ : outs [.v (.slice .int), .v .int]) (r : dens [.v .int]) : Int := r

-- laws.heldIntSS
noncomputable def E_laws_heldIntSS : Entry where
  params := [.v (.slice (.slice .int)), .v .int]
  results := [.v .int]
  B := Int
  run := fun a => laws_heldIntSS a.1 a.2
  out := fun b => ((), ())
  res := fun b => b

noncomputable def S_laws_heldIntSS_L2 (n : Nat) : LoopSpec where
  sh := [(0, .v (.slice (.slice .int))), (1, .v .int), (5, .v .int)]
  ex := [(.exit 0, [(1, .v .int)]), (.ret, [(4, .v .int)])]
  run := laws_heldIntSS_L2 n

noncomputable def C_laws_heldIntSS : Cx where
  tt := tblTT tt
  T := tblT [(19, E_laws_heldIntS)]
  L := tblL [(2, S_laws_heldIntSS_L2 fuel)]
  dep := fun i => 0
  n := 2

noncomputable def B_laws_heldIntSS_L2 : Code := (Try.f29.body.bind (loopBody 2)).getD .skip
noncomputable def D_laws_heldIntSS : Code := Try.f29.body.getD .skip
noncomputable def N_laws_heldIntSS (_ : outs [.v (.slice (.slice .int)), .v .int]) (r : dens [.v .int]) : Int := r

-- laws.FnExactLinearKernel
noncomputable def E_laws_FnExactLinearKernel : Entry where
  params := [.v (.pair .int (.pair .int (.slice (.slice .int))))]
  results := [.v .bool]
  B := Bool
  run := fun a => laws_FnExactLinearKernel a
  out := fun b => ()
  res := fun b => b

noncomputable def C_laws_FnExactLinearKernel : Cx where
  tt := tblTT tt
  T := tblT [(9, E_laws_szLinear), (11, E_laws_toLinear), (13, E_laws_eqLinear), (17, E_laws_markLinear), (25, E_spec_LinearKernel), (26, E_impl_LinearKernel), (27, E_laws_eqIntSS), (28, E_laws_markIntSS), (29, E_laws_heldIntSS)]
  L := tblL []
  dep := fun i => 0
  n := 1

noncomputable def D_laws_FnExactLinearKernel : Code := Try.f7.body.getD .skip
noncomputable def N_laws_FnExactLinearKernel (_ : outs [.v (.pair .int (.pair .int (.slice (.slice .int))))]) (r : dens [.v .bool]) : Bool := r
end T
