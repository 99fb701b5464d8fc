/- Contexts of the typed functions; no conditions. -/
import Derived.Test.YtomjicgdecgapaaV5
import Derived.Test.YtomjicgdecgapaaProg
import Derived.Test.YtomjicgdecgapaaPFnExactEquationsOf
import Derived.KernelRfl
set_option linter.all false
set_option linter.unusedVariables false
set_option maxRecDepth 10000
open Go Go.Va Go.Proofs
namespace T
noncomputable def tt : List (Nat × TI) := [
  (2, { ty := .int }),
  (3, { ty := .int }),
  (4, { ty := .bool }),
  (22, { ty := (.slice (.slice .int)), elem := 37 }),
  (25, { ty := (.pair .int (.pair .int (.slice (.slice .int)))), fields := [3, 3, 22] }),
  (37, { ty := (.slice .int), elem := 3 }),
  (52, { ty := (.pair (.slice (.slice .int)) (.pair (.slice .int) (.slice (.slice .int)))), fields := [22, 37, 22] }),
  (91, { ty := (.slice .bool), elem := 4 }),
  (95, { ty := (.pair .int (.pair .int (.pair (.slice (.slice .int)) (.pair .int (.slice .int))))), fields := [3, 3, 22, 3, 37] })]
theorem tabT : tabOk Try.prog tt = true := by kernel_rfl
theorem mixT : Try.prog.follows .mixedOrders = true := by kernel_rfl

-- laws.szIntS
noncomputable def E_laws_szIntS : Entry where
  params := [.v (.slice .int), .v .int]
  results := [.v .int]
  B := Int
  run := fun a => laws_szIntS a.1 a.2
  out := fun b => ((), ())
  res := fun b => b

noncomputable def C_laws_szIntS : Cx where
  tt := tblTT tt
  T := tblT []
  L := tblL []
  dep := fun i => 0
  n := 2

noncomputable def D_laws_szIntS : Code := Try.f23.body.getD .skip
noncomputable def N_laws_szIntS (_ : outs [.v (.slice .int), .v .int]) (r : dens [.v .int]) : Int := r

-- laws.szIntSS
noncomputable def E_laws_szIntSS : Entry where
  params := [.v (.slice (.slice .int)), .v .int]
  results := [.v .int]
  B := Int
  run := fun a => laws_szIntSS a.1 a.2
  out := fun b => ((), ())
  res := fun b => b

noncomputable def S_laws_szIntSS_L5 (n : Nat) : LoopSpec where
  sh := [(0, .v (.slice (.slice .int))), (1, .v .int), (5, .v .int)]
  ex := [(.exit 0, [(1, .v .int)]), (.ret, [(4, .v .int)])]
  run := laws_szIntSS_L5 n

noncomputable def C_laws_szIntSS : Cx where
  tt := tblTT tt
  T := tblT [(23, E_laws_szIntS)]
  L := tblL [(5, S_laws_szIntSS_L5 fuel)]
  dep := fun i => 0
  n := 2

noncomputable def B_laws_szIntSS_L5 : Code := (Try.f5.body.bind (loopBody 5)).getD .skip
noncomputable def D_laws_szIntSS : Code := Try.f5.body.getD .skip
noncomputable def N_laws_szIntSS (_ : outs [.v (.slice (.slice .int)), .v .int]) (r : dens [.v .int]) : Int := r

-- laws.toIntS
noncomputable def E_laws_toIntS : Entry where
  params := [.v (.slice .int)]
  results := [.mv .int 0]
  B := (List Int)
  run := fun a => laws_toIntS a
  out := fun b => ()
  res := fun b => b

noncomputable def S_laws_toIntS_L3 (n : Nat) : LoopSpec where
  sh := [(0, .v (.slice .int)), (3, .mv .int 0), (4, .v .int)]
  ex := [(.exit 0, [(3, .mv .int 0)])]
  run := laws_toIntS_L3 n

noncomputable def C_laws_toIntS : Cx where
  tt := tblTT tt
  T := tblT []
  L := tblL [(3, S_laws_toIntS_L3 fuel)]
  dep := fun i => 0
  n := 1

noncomputable def B_laws_toIntS_L3 : Code := (Try.f31.body.bind (loopBody 3)).getD .skip
noncomputable def D_laws_toIntS : Code := Try.f31.body.getD .skip
noncomputable def N_laws_toIntS (_ : outs [.v (.slice .int)]) (r : dens [.mv .int 0]) : (List Int) := r

-- laws.toIntSS
noncomputable def E_laws_toIntSS : Entry where
  params := [.v (.slice (.slice .int))]
  results := [.mv (.slice .int) 1]
  B := (List (List Int))
  run := fun a => laws_toIntSS a
  out := fun b => ()
  res := fun b => b

noncomputable def S_laws_toIntSS_L3 (n : Nat) : LoopSpec where
  sh := [(0, .v (.slice (.slice .int))), (3, .mv (.slice .int) 1), (4, .v .int)]
  ex := [(.exit 0, [(3, .mv (.slice .int) 1)])]
  run := laws_toIntSS_L3 n

noncomputable def C_laws_toIntSS : Cx where
  tt := tblTT tt
  T := tblT [(31, E_laws_toIntS)]
  L := tblL [(3, S_laws_toIntSS_L3 fuel)]
  dep := fun i => match i with
    | 7 => 1
    | _ => 0
  n := 1

noncomputable def B_laws_toIntSS_L3 : Code := (Try.f7.body.bind (loopBody 3)).getD .skip
noncomputable def D_laws_toIntSS : Code := Try.f7.body.getD .skip
noncomputable def N_laws_toIntSS (_ : outs [.v (.slice (.slice .int))]) (r : dens [.mv (.slice .int) 1]) : (List (List Int)) := r

-- spec.l21Prime
noncomputable def E_spec_l21Prime : Entry where
  params := [.v .int]
  results := [.v .bool]
  B := Bool
  run := fun a => spec_l21Prime a
  out := fun b => ()
  res := fun b => b

noncomputable def C_spec_l21Prime : Cx where
  tt := tblTT tt
  T := tblT []
  L := tblL []
  dep := fun i => 0
  n := 1

noncomputable def D_spec_l21Prime : Code := Try.f24.body.getD .skip
noncomputable def N_spec_l21Prime (_ : outs [.v .int]) (r : dens [.v .bool]) : Bool := r

-- spec.l1In
noncomputable def E_spec_l1In : Entry where
  params := [.v .int, .v .int, .v .int]
  results := [.v .bool]
  B := Bool
  run := fun a => spec_l1In a.1 a.2.1 a.2.2
  out := fun b => ((), (), ())
  res := fun b => b

noncomputable def C_spec_l1In : Cx where
  tt := tblTT tt
  T := tblT []
  L := tblL []
  dep := fun i => 0
  n := 3

noncomputable def D_spec_l1In : Code := Try.f46.body.getD .skip
noncomputable def N_spec_l1In (_ : outs [.v .int, .v .int, .v .int]) (r : dens [.v .bool]) : Bool := r

-- spec.l6Size
noncomputable def E_spec_l6Size : Entry where
  params := [.v .int]
  results := [.v .bool]
  B := Bool
  run := fun a => spec_l6Size a
  out := fun b => ()
  res := fun b => b

noncomputable def C_spec_l6Size : Cx where
  tt := tblTT tt
  T := tblT [(46, E_spec_l1In)]
  L := tblL []
  dep := fun i => 0
  n := 1

noncomputable def D_spec_l6Size : Code := Try.f45.body.getD .skip
noncomputable def N_spec_l6Size (_ : outs [.v .int]) (r : dens [.v .bool]) : Bool := r

-- spec.l2Pow
noncomputable def E_spec_l2Pow : Entry where
  params := [.v .int, .v .int]
  results := [.v .int]
  B := Int
  run := fun a => spec_l2Pow a.1 a.2
  out := fun b => ((), ())
  res := fun b => b

noncomputable def S_spec_l2Pow_L2 (n : Nat) : LoopSpec where
  sh := [(0, .v .int), (1, .v .int), (5, .v .int)]
  ex := [(.exit 0, [(5, .v .int)])]
  run := spec_l2Pow_L2 n

noncomputable def C_spec_l2Pow : Cx where
  tt := tblTT tt
  T := tblT []
  L := tblL [(2, S_spec_l2Pow_L2 fuel)]
  dep := fun i => 0
  n := 2

noncomputable def B_spec_l2Pow_L2 : Code := (Try.f47.body.bind (loopBody 2)).getD .skip
noncomputable def D_spec_l2Pow : Code := Try.f47.body.getD .skip
noncomputable def N_spec_l2Pow (_ : outs [.v .int, .v .int]) (r : dens [.v .int]) : Int := r

-- spec.l2Elements
noncomputable def E_spec_l2Elements : Entry where
  params := [.v .int, .v (.slice .int)]
  results := [.v .bool]
  B := Bool
  run := fun a => spec_l2Elements a.1 a.2
  out := fun b => ((), ())
  res := fun b => b

noncomputable def S_spec_l2Elements_L2 (n : Nat) : LoopSpec where
  sh := [(0, .v .int), (1, .v (.slice .int)), (5, .v .int)]
  ex := [(.exit 0, []), (.ret, [(4, .v .bool)])]
  run := spec_l2Elements_L2 n

noncomputable def C_spec_l2Elements : Cx where
  tt := tblTT tt
  T := tblT [(46, E_spec_l1In)]
  L := tblL [(2, S_spec_l2Elements_L2 fuel)]
  dep := fun i => 0
  n := 2

noncomputable def B_spec_l2Elements_L2 : Code := (Try.f72.body.bind (loopBody 2)).getD .skip
noncomputable def D_spec_l2Elements : Code := Try.f72.body.getD .skip
noncomputable def N_spec_l2Elements (_ : outs [.v .int, .v (.slice .int)]) (r : dens [.v .bool]) : Bool := r

-- spec.l8Tuple
noncomputable def E_spec_l8Tuple : Entry where
  params := [.v .int, .v .int, .v (.slice .int)]
  results := [.v .bool]
  B := Bool
  run := fun a => spec_l8Tuple a.1 a.2.1 a.2.2
  out := fun b => ((), (), ())
  res := fun b => b

noncomputable def C_spec_l8Tuple : Cx where
  tt := tblTT tt
  T := tblT [(72, E_spec_l2Elements)]
  L := tblL []
  dep := fun i => 0
  n := 3

noncomputable def D_spec_l8Tuple : Code := Try.f48.body.getD .skip
noncomputable def N_spec_l8Tuple (_ : outs [.v .int, .v .int, .v (.slice .int)]) (r : dens [.v .bool]) : Bool := r

-- spec.l3Less
noncomputable def E_spec_l3Less : Entry where
  params := [.v (.slice .int), .v (.slice .int)]
  results := [.v .bool]
  B := Bool
  run := fun a => spec_l3Less a.1 a.2
  out := fun b => ((), ())
  res := fun b => b

noncomputable def S_spec_l3Less_L2 (n : Nat) : LoopSpec where
  sh := [(0, .v (.slice .int)), (1, .v (.slice .int)), (5, .v .int)]
  ex := [(.exit 0, []), (.ret, [(4, .v .bool)])]
  run := spec_l3Less_L2 n

noncomputable def C_spec_l3Less : Cx where
  tt := tblTT tt
  T := tblT []
  L := tblL [(2, S_spec_l3Less_L2 fuel)]
  dep := fun i => 0
  n := 2

noncomputable def B_spec_l3Less_L2 : Code := (Try.f49.body.bind (loopBody 2)).getD .skip
noncomputable def D_spec_l3Less : Code := Try.f49.body.getD .skip
noncomputable def N_spec_l3Less (_ : outs [.v (.slice .int), .v (.slice .int)]) (r : dens [.v .bool]) : Bool := r

-- spec.l21Set
noncomputable def E_spec_l21Set : Entry where
  params := [.v .int, .v .int, .v (.slice (.slice .int))]
  results := [.v .bool]
  B := Bool
  run := fun a => spec_l21Set a.1 a.2.1 a.2.2
  out := fun b => ((), (), ())
  res := fun b => b

noncomputable def S_spec_l21Set_L4 (n : Nat) : LoopSpec where
  sh := [(0, .v .int), (1, .v .int), (2, .v (.slice (.slice .int))), (7, .v .int)]
  ex := [(.exit 0, []), (.ret, [(6, .v .bool)])]
  run := spec_l21Set_L4 n

noncomputable def C_spec_l21Set : Cx where
  tt := tblTT tt
  T := tblT [(45, E_spec_l6Size), (46, E_spec_l1In), (47, E_spec_l2Pow), (48, E_spec_l8Tuple), (49, E_spec_l3Less)]
  L := tblL [(4, S_spec_l21Set_L4 fuel)]
  dep := fun i => 0
  n := 3

noncomputable def B_spec_l21Set_L4 : Code := (Try.f25.body.bind (loopBody 4)).getD .skip
noncomputable def D_spec_l21Set : Code := Try.f25.body.getD .skip
noncomputable def N_spec_l21Set (_ : outs [.v .int, .v .int, .v (.slice (.slice .int))]) (r : dens [.v .bool]) : Bool := r

-- spec.l21Less
noncomputable def E_spec_l21Less : Entry where
  params := [.v .int, .v (.slice .int), .v (.slice .int), .v .int]
  results := [.mv .int 0]
  B := (List Int)
  run := fun a => spec_l21Less a.1 a.2.1 a.2.2.1 a.2.2.2
  out := fun b => ((), (), (), ())
  res := fun b => b

noncomputable def S_spec_l21Less_L3 (n : Nat) : LoopSpec where
  sh := [(0, .v .int), (1, .v (.slice .int)), (2, .v (.slice .int)), (3, .v .int), (9, .mv .int 0), (10, .v .int)]
  ex := [(.exit 0, [(9, .mv .int 0)])]
  run := spec_l21Less_L3 n

noncomputable def C_spec_l21Less : Cx where
  tt := tblTT tt
  T := tblT []
  L := tblL [(3, S_spec_l21Less_L3 fuel)]
  dep := fun i => 0
  n := 4

noncomputable def B_spec_l21Less_L3 : Code := (Try.f28.body.bind (loopBody 3)).getD .skip
noncomputable def D_spec_l21Less : Code := Try.f28.body.getD .skip
noncomputable def N_spec_l21Less (_ : outs [.v .int, .v (.slice .int), .v (.slice .int), .v .int]) (r : dens [.mv .int 0]) : (List Int) := r

-- spec.l1Same
noncomputable def E_spec_l1Same : Entry where
  params := [.v (.slice .int), .v (.slice .int)]
  results := [.v .bool]
  B := Bool
  run := fun a => spec_l1Same a.1 a.2
  out := fun b => ((), ())
  res := fun b => b

noncomputable def S_spec_l1Same_L4 (n : Nat) : LoopSpec where
  sh := [(0, .v (.slice .int)), (1, .v (.slice .int)), (5, .v .int)]
  ex := [(.exit 0, []), (.ret, [(4, .v .bool)])]
  run := spec_l1Same_L4 n

noncomputable def C_spec_l1Same : Cx where
  tt := tblTT tt
  T := tblT []
  L := tblL [(4, S_spec_l1Same_L4 fuel)]
  dep := fun i => 0
  n := 2

noncomputable def B_spec_l1Same_L4 : Code := (Try.f73.body.bind (loopBody 4)).getD .skip
noncomputable def D_spec_l1Same : Code := Try.f73.body.getD .skip
noncomputable def N_spec_l1Same (_ : outs [.v (.slice .int), .v (.slice .int)]) (r : dens [.v .bool]) : Bool := r

-- spec.l8Find
noncomputable def E_spec_l8Find : Entry where
  params := [.v (.slice (.slice .int)), .v (.slice .int)]
  results := [.v .int, .v .bool]
  B := Int × Bool
  run := fun a => spec_l8Find a.1 a.2
  out := fun b => ((), ())
  res := fun b => (b.1, b.2)

noncomputable def S_spec_l8Find_L2 (n : Nat) : LoopSpec where
  sh := [(0, .v (.slice (.slice .int))), (1, .v (.slice .int)), (6, .v .int), (7, .v .int)]
  ex := [(.exit 0, [(0, .v (.slice (.slice .int))), (1, .v (.slice .int)), (6, .v .int)])]
  run := spec_l8Find_L2 n

noncomputable def C_spec_l8Find : Cx where
  tt := tblTT tt
  T := tblT [(49, E_spec_l3Less), (73, E_spec_l1Same)]
  L := tblL [(2, S_spec_l8Find_L2 fuel)]
  dep := fun i => 0
  n := 2

noncomputable def B_spec_l8Find_L2 : Code := (Try.f50.body.bind (loopBody 2)).getD .skip
noncomputable def D_spec_l8Find : Code := Try.f50.body.getD .skip
noncomputable def N_spec_l8Find (_ : outs [.v (.slice (.slice .int)), .v (.slice .int)]) (r : dens [.v .int, .v .bool]) : Int × Bool := (r.1, r.2)

-- spec.l21Affine
noncomputable def E_spec_l21Affine : Entry where
  params := [.v .int, .v (.slice (.slice .int))]
  results := [.v .bool]
  B := Bool
  run := fun a => spec_l21Affine a.1 a.2
  out := fun b => ((), ())
  res := fun b => b

noncomputable def S_spec_l21Affine_L9 (n : Nat) : LoopSpec where
  sh := [(0, .v .int), (1, .v (.slice (.slice .int))), (5, .v .int), (6, .v .int), (7, .mv .int 0), (8, .v .int)]
  ex := [(.exit 4, [(0, .v .int), (1, .v (.slice (.slice .int))), (5, .v .int), (6, .v .int), (7, .mv .int 0)])]
  run := spec_l21Affine_L9 n

noncomputable def S_spec_l21Affine_L5 (n : Nat) : LoopSpec where
  sh := [(0, .v .int), (1, .v (.slice (.slice .int))), (5, .v .int), (6, .v .int)]
  ex := [(.exit 2, [(0, .v .int), (1, .v (.slice (.slice .int))), (5, .v .int)]), (.ret, [(4, .v .bool)])]
  run := spec_l21Affine_L5 n

noncomputable def S_spec_l21Affine_L2 (n : Nat) : LoopSpec where
  sh := [(0, .v .int), (1, .v (.slice (.slice .int))), (5, .v .int)]
  ex := [(.exit 0, []), (.ret, [(4, .v .bool)])]
  run := spec_l21Affine_L2 n

noncomputable def C_spec_l21Affine : Cx where
  tt := tblTT tt
  T := tblT [(28, E_spec_l21Less), (50, E_spec_l8Find)]
  L := tblL [(9, S_spec_l21Affine_L9 fuel), (5, S_spec_l21Affine_L5 fuel), (2, S_spec_l21Affine_L2 fuel)]
  dep := fun i => 0
  n := 2

noncomputable def B_spec_l21Affine_L9 : Code := (Try.f26.body.bind (loopBody 9)).getD .skip
noncomputable def B_spec_l21Affine_L5 : Code := (Try.f26.body.bind (loopBody 5)).getD .skip
noncomputable def B_spec_l21Affine_L2 : Code := (Try.f26.body.bind (loopBody 2)).getD .skip
noncomputable def D_spec_l21Affine : Code := Try.f26.body.getD .skip
noncomputable def N_spec_l21Affine (_ : outs [.v .int, .v (.slice (.slice .int))]) (r : dens [.v .bool]) : Bool := r

-- spec.l1Own
noncomputable def E_spec_l1Own : Entry where
  params := [.v (.slice .int)]
  results := [.mv .int 0]
  B := (List Int)
  run := fun a => spec_l1Own a
  out := fun b => ()
  res := fun b => b

noncomputable def C_spec_l1Own : Cx where
  tt := tblTT tt
  T := tblT []
  L := tblL []
  dep := fun i => 0
  n := 1

noncomputable def D_spec_l1Own : Code := Try.f30.body.getD .skip
noncomputable def N_spec_l1Own (_ : outs [.v (.slice .int)]) (r : dens [.mv .int 0]) : (List Int) := r

-- spec.l21Inverse
noncomputable def E_spec_l21Inverse : Entry where
  params := [.v .int, .v .int]
  results := [.v .int]
  B := Int
  run := fun a => spec_l21Inverse a.1 a.2
  out := fun b => ((), ())
  res := fun b => b

noncomputable def S_spec_l21Inverse_L2 (n : Nat) : LoopSpec where
  sh := [(0, .v .int), (1, .v .int), (5, .v .int)]
  ex := [(.exit 0, [(5, .v .int)])]
  run := spec_l21Inverse_L2 n

noncomputable def C_spec_l21Inverse : Cx where
  tt := tblTT tt
  T := tblT []
  L := tblL [(2, S_spec_l21Inverse_L2 fuel)]
  dep := fun i => 0
  n := 2

noncomputable def B_spec_l21Inverse_L2 : Code := (Try.f52.body.bind (loopBody 2)).getD .skip
noncomputable def D_spec_l21Inverse : Code := Try.f52.body.getD .skip
noncomputable def N_spec_l21Inverse (_ : outs [.v .int, .v .int]) (r : dens [.v .int]) : Int := r

-- spec.l21Scale
noncomputable def E_spec_l21Scale : Entry where
  params := [.v .int, .v (.slice .int), .v .int]
  results := [.mv .int 0]
  B := (List Int)
  run := fun a => spec_l21Scale a.1 a.2.1 a.2.2
  out := fun b => ((), (), ())
  res := fun b => b

noncomputable def S_spec_l21Scale_L3 (n : Nat) : LoopSpec where
  sh := [(0, .v .int), (1, .v (.slice .int)), (2, .v .int), (7, .mv .int 0), (8, .v .int)]
  ex := [(.exit 0, [(7, .mv .int 0)])]
  run := spec_l21Scale_L3 n

noncomputable def C_spec_l21Scale : Cx where
  tt := tblTT tt
  T := tblT []
  L := tblL [(3, S_spec_l21Scale_L3 fuel)]
  dep := fun i => 0
  n := 3

noncomputable def B_spec_l21Scale_L3 : Code := (Try.f51.body.bind (loopBody 3)).getD .skip
noncomputable def D_spec_l21Scale : Code := Try.f51.body.getD .skip
noncomputable def N_spec_l21Scale (_ : outs [.v .int, .v (.slice .int), .v .int]) (r : dens [.mv .int 0]) : (List Int) := r

-- spec.l21Eliminate
noncomputable def E_spec_l21Eliminate : Entry where
  params := [.v .int, .v .int, .v (.slice (.slice .int))]
  results := [.pr (.mv (.slice .int) 0) (.pr (.mv .int 0) (.v (.slice (.slice .int))))]
  B := ((List (List Int)) × ((List Int) × (List (List Int))))
  run := fun a => spec_l21Eliminate a.1 a.2.1 a.2.2
  out := fun b => ((), (), ())
  res := fun b => b

noncomputable def S_spec_l21Eliminate_L3 (n : Nat) : LoopSpec where
  sh := [(0, .v .int), (1, .v .int), (2, .v (.slice (.slice .int))), (6, .bx (.pr (.mv (.slice .int) 0) (.pr (.mv .int 0) (.mv (.slice .int) 0)))), (7, .bx (.pr (.mv (.slice .int) 0) (.pr (.mv .int 0) (.mv (.slice .int) 0)))), (8, .v .int)]
  ex := [(.exit 0, [(0, .v .int), (1, .v .int), (6, .bx (.pr (.mv (.slice .int) 0) (.pr (.mv .int 0) (.mv (.slice .int) 0)))), (7, .bx (.pr (.mv (.slice .int) 0) (.pr (.mv .int 0) (.mv (.slice .int) 0))))])]
  run := spec_l21Eliminate_L3 n

noncomputable def S_spec_l21Eliminate_L10 (n : Nat) : LoopSpec where
  sh := [(0, .v .int), (1, .v .int), (6, .bx (.pr (.mv (.slice .int) 0) (.pr (.mv .int 0) (.v (.slice (.slice .int)))))), (7, .bx (.pr (.mv (.slice .int) 0) (.pr (.mv .int 0) (.v (.slice (.slice .int)))))), (9, .v .int), (10, .v .int)]
  ex := [(.exit 4, [(0, .v .int), (1, .v .int), (6, .bx (.pr (.mv (.slice .int) 0) (.pr (.mv .int 0) (.v (.slice (.slice .int)))))), (7, .bx (.pr (.mv (.slice .int) 0) (.pr (.mv .int 0) (.v (.slice (.slice .int)))))), (9, .v .int), (10, .v .int)])]
  run := spec_l21Eliminate_L10 n

noncomputable def S_spec_l21Eliminate_L16 (n : Nat) : LoopSpec where
  sh := [(0, .v .int), (1, .v .int), (6, .bx (.pr (.mv (.slice .int) 0) (.pr (.mv .int 0) (.v (.slice (.slice .int)))))), (7, .bx (.pr (.mv (.slice .int) 0) (.pr (.mv .int 0) (.v (.slice (.slice .int)))))), (9, .v .int), (11, .mv .int 0), (12, .mv (.slice .int) 0), (13, .v .int)]
  ex := [(.exit 6, [(0, .v .int), (1, .v .int), (6, .bx (.pr (.mv (.slice .int) 0) (.pr (.mv .int 0) (.v (.slice (.slice .int)))))), (7, .bx (.pr (.mv (.slice .int) 0) (.pr (.mv .int 0) (.v (.slice (.slice .int)))))), (9, .v .int), (11, .mv .int 0), (12, .mv (.slice .int) 0)])]
  run := spec_l21Eliminate_L16 n

noncomputable def S_spec_l21Eliminate_L20 (n : Nat) : LoopSpec where
  sh := [(0, .v .int), (1, .v .int), (6, .bx (.pr (.mv (.slice .int) 0) (.pr (.mv .int 0) (.v (.slice (.slice .int)))))), (7, .bx (.pr (.mv (.slice .int) 0) (.pr (.mv .int 0) (.v (.slice (.slice .int)))))), (9, .v .int), (11, .mv .int 0), (12, .mv (.slice .int) 0), (14, .v .int)]
  ex := [(.exit 8, [(0, .v .int), (1, .v .int), (6, .bx (.pr (.mv (.slice .int) 0) (.pr (.mv .int 0) (.v (.slice (.slice .int)))))), (7, .bx (.pr (.mv (.slice .int) 0) (.pr (.mv .int 0) (.v (.slice (.slice .int)))))), (9, .v .int), (11, .mv .int 0), (12, .mv (.slice .int) 0)])]
  run := spec_l21Eliminate_L20 n

noncomputable def S_spec_l21Eliminate_L7 (n : Nat) : LoopSpec where
  sh := [(0, .v .int), (1, .v .int), (6, .bx (.pr (.mv (.slice .int) 0) (.pr (.mv .int 0) (.v (.slice (.slice .int)))))), (7, .bx (.pr (.mv (.slice .int) 0) (.pr (.mv .int 0) (.v (.slice (.slice .int)))))), (9, .v .int)]
  ex := [(.exit 2, [(6, .bx (.pr (.mv (.slice .int) 0) (.pr (.mv .int 0) (.v (.slice (.slice .int)))))), (7, .bx (.pr (.mv (.slice .int) 0) (.pr (.mv .int 0) (.v (.slice (.slice .int))))))])]
  run := spec_l21Eliminate_L7 n

noncomputable def C_spec_l21Eliminate : Cx where
  tt := tblTT tt
  T := tblT [(28, E_spec_l21Less), (30, E_spec_l1Own), (51, E_spec_l21Scale), (52, E_spec_l21Inverse)]
  L := tblL [(3, S_spec_l21Eliminate_L3 fuel), (10, S_spec_l21Eliminate_L10 fuel), (16, S_spec_l21Eliminate_L16 fuel), (20, S_spec_l21Eliminate_L20 fuel), (7, S_spec_l21Eliminate_L7 fuel)]
  dep := fun i => 0
  n := 3

noncomputable def B_spec_l21Eliminate_L3 : Code := (Try.f27.body.bind (loopBody 3)).getD .skip
noncomputable def B_spec_l21Eliminate_L10 : Code := (Try.f27.body.bind (loopBody 10)).getD .skip
noncomputable def B_spec_l21Eliminate_L16 : Code := (Try.f27.body.bind (loopBody 16)).getD .skip
noncomputable def B_spec_l21Eliminate_L20 : Code := (Try.f27.body.bind (loopBody 20)).getD .skip
noncomputable def B_spec_l21Eliminate_L7 : Code := (Try.f27.body.bind (loopBody 7)).getD .skip
noncomputable def D_spec_l21Eliminate : Code := Try.f27.body.getD .skip
noncomputable def N_spec_l21Eliminate (_ : outs [.v .int, .v .int, .v (.slice (.slice .int))]) (r : dens [.pr (.mv (.slice .int) 0) (.pr (.mv .int 0) (.v (.slice (.slice .int))))]) : ((List (List Int)) × ((List Int) × (List (List Int)))) := r

-- spec.l1Has
noncomputable def E_spec_l1Has : Entry where
  params := [.v (.slice .int), .v .int]
  results := [.v .bool]
  B := Bool
  run := fun a => spec_l1Has a.1 a.2
  out := fun b => ((), ())
  res := fun b => b

noncomputable def S_spec_l1Has_L2 (n : Nat) : LoopSpec where
  sh := [(0, .v (.slice .int)), (1, .v .int), (5, .v .int)]
  ex := [(.exit 0, []), (.ret, [(4, .v .bool)])]
  run := spec_l1Has_L2 n

noncomputable def C_spec_l1Has : Cx where
  tt := tblTT tt
  T := tblT []
  L := tblL [(2, S_spec_l1Has_L2 fuel)]
  dep := fun i => 0
  n := 2

noncomputable def B_spec_l1Has_L2 : Code := (Try.f74.body.bind (loopBody 2)).getD .skip
noncomputable def D_spec_l1Has : Code := Try.f74.body.getD .skip
noncomputable def N_spec_l1Has (_ : outs [.v (.slice .int), .v .int]) (r : dens [.v .bool]) : Bool := r

-- spec.l21Free
noncomputable def E_spec_l21Free : Entry where
  params := [.v (.pair (.slice (.slice .int)) (.pair (.slice .int) (.slice (.slice .int)))), .v .int]
  results := [.mv .int 0]
  B := (List Int)
  run := fun a => spec_l21Free a.1 a.2
  out := fun b => ((), ())
  res := fun b => b

noncomputable def S_spec_l21Free_L3 (n : Nat) : LoopSpec where
  sh := [(1, .v .int), (2, .bx (.v (.pair (.slice (.slice .int)) (.pair (.slice .int) (.slice (.slice .int)))))), (5, .mv .int 0), (6, .v .int)]
  ex := [(.exit 0, [(5, .mv .int 0)])]
  run := spec_l21Free_L3 n

noncomputable def C_spec_l21Free : Cx where
  tt := tblTT tt
  T := tblT [(74, E_spec_l1Has)]
  L := tblL [(3, S_spec_l21Free_L3 fuel)]
  dep := fun i => 0
  n := 2

noncomputable def B_spec_l21Free_L3 : Code := (Try.f53.body.bind (loopBody 3)).getD .skip
noncomputable def D_spec_l21Free : Code := Try.f53.body.getD .skip
noncomputable def N_spec_l21Free (_ : outs [.v (.pair (.slice (.slice .int)) (.pair (.slice .int) (.slice (.slice .int)))), .v .int]) (r : dens [.mv .int 0]) : (List Int) := r

-- spec.l21Kernel
noncomputable def E_spec_l21Kernel : Entry where
  params := [.v (.pair (.slice (.slice .int)) (.pair (.slice .int) (.slice (.slice .int)))), .v .int, .v .int]
  results := [.mv (.slice .int) 0]
  B := (List (List Int))
  run := fun a => spec_l21Kernel a.1 a.2.1 a.2.2
  out := fun b => ((), (), ())
  res := fun b => b

noncomputable def S_spec_l21Kernel_L8 (n : Nat) : LoopSpec where
  sh := [(1, .v .int), (2, .v .int), (3, .bx (.v (.pair (.slice (.slice .int)) (.pair (.slice .int) (.slice (.slice .int)))))), (7, .mv (.slice .int) 0), (8, .mv .int 0), (9, .v .int), (10, .mv .int 0), (11, .v .int)]
  ex := [(.exit 2, [(1, .v .int), (2, .v .int), (3, .bx (.v (.pair (.slice (.slice .int)) (.pair (.slice .int) (.slice (.slice .int)))))), (7, .mv (.slice .int) 0), (8, .mv .int 0), (9, .v .int), (10, .mv .int 0)])]
  run := spec_l21Kernel_L8 n

noncomputable def S_spec_l21Kernel_L3 (n : Nat) : LoopSpec where
  sh := [(1, .v .int), (2, .v .int), (3, .bx (.v (.pair (.slice (.slice .int)) (.pair (.slice .int) (.slice (.slice .int)))))), (7, .mv (.slice .int) 0), (8, .mv .int 0), (9, .v .int)]
  ex := [(.exit 0, [(7, .mv (.slice .int) 0)])]
  run := spec_l21Kernel_L3 n

noncomputable def C_spec_l21Kernel : Cx where
  tt := tblTT tt
  T := tblT [(53, E_spec_l21Free)]
  L := tblL [(8, S_spec_l21Kernel_L8 fuel), (3, S_spec_l21Kernel_L3 fuel)]
  dep := fun i => 0
  n := 3

noncomputable def B_spec_l21Kernel_L8 : Code := (Try.f29.body.bind (loopBody 8)).getD .skip
noncomputable def B_spec_l21Kernel_L3 : Code := (Try.f29.body.bind (loopBody 3)).getD .skip
noncomputable def D_spec_l21Kernel : Code := Try.f29.body.getD .skip
noncomputable def N_spec_l21Kernel (_ : outs [.v (.pair (.slice (.slice .int)) (.pair (.slice .int) (.slice (.slice .int)))), .v .int, .v .int]) (r : dens [.mv (.slice .int) 0]) : (List (List Int)) := r

-- spec.EquationsOf
noncomputable def E_spec_EquationsOf : Entry where
  params := [.v .int, .v .int, .v (.slice (.slice .int))]
  results := [.pr (.v .int) (.pr (.v .int) (.mv (.slice .int) 0)), .v .bool]
  B := (Int × (Int × (List (List Int)))) × Bool
  run := fun a => spec_EquationsOf a.1 a.2.1 a.2.2
  out := fun b => ((), (), ())
  res := fun b => (b.1, b.2)

noncomputable def S_spec_EquationsOf_L5 (n : Nat) : LoopSpec where
  sh := [(0, .v .int), (1, .v .int), (2, .v (.slice (.slice .int))), (6, .bx (.pr (.v .int) (.pr (.v .int) (.mv (.slice .int) 0)))), (8, .mv (.slice .int) 0), (9, .v .int)]
  ex := [(.exit 0, [(0, .v .int), (1, .v .int), (2, .v (.slice (.slice .int))), (6, .bx (.pr (.v .int) (.pr (.v .int) (.mv (.slice .int) 0)))), (8, .mv (.slice .int) 0)])]
  run := spec_EquationsOf_L5 n

noncomputable def S_spec_EquationsOf_L15 (n : Nat) : LoopSpec where
  sh := [(0, .v .int), (1, .v .int), (2, .v (.slice (.slice .int))), (6, .bx (.pr (.v .int) (.pr (.v .int) (.mv (.slice .int) 0)))), (10, .mv (.slice .int) 0), (11, .mv (.slice .int) 0), (12, .v .int), (13, .v .int), (14, .v .int)]
  ex := [(.exit 4, [(0, .v .int), (1, .v .int), (2, .v (.slice (.slice .int))), (6, .bx (.pr (.v .int) (.pr (.v .int) (.mv (.slice .int) 0)))), (10, .mv (.slice .int) 0), (11, .mv (.slice .int) 0), (12, .v .int), (13, .v .int)])]
  run := spec_EquationsOf_L15 n

noncomputable def S_spec_EquationsOf_L11 (n : Nat) : LoopSpec where
  sh := [(0, .v .int), (1, .v .int), (2, .v (.slice (.slice .int))), (6, .bx (.pr (.v .int) (.pr (.v .int) (.mv (.slice .int) 0)))), (10, .mv (.slice .int) 0), (11, .mv (.slice .int) 0), (12, .v .int)]
  ex := [(.exit 2, [(0, .v .int), (1, .v .int), (6, .bx (.pr (.v .int) (.pr (.v .int) (.mv (.slice .int) 0)))), (11, .mv (.slice .int) 0)])]
  run := spec_EquationsOf_L11 n

noncomputable def C_spec_EquationsOf : Cx where
  tt := tblTT tt
  T := tblT [(24, E_spec_l21Prime), (25, E_spec_l21Set), (26, E_spec_l21Affine), (27, E_spec_l21Eliminate), (28, E_spec_l21Less), (29, E_spec_l21Kernel), (30, E_spec_l1Own)]
  L := tblL [(5, S_spec_EquationsOf_L5 fuel), (15, S_spec_EquationsOf_L15 fuel), (11, S_spec_EquationsOf_L11 fuel)]
  dep := fun i => 0
  n := 3

noncomputable def B_spec_EquationsOf_L5 : Code := (Try.f6.body.bind (loopBody 5)).getD .skip
noncomputable def B_spec_EquationsOf_L15 : Code := (Try.f6.body.bind (loopBody 15)).getD .skip
noncomputable def B_spec_EquationsOf_L11 : Code := (Try.f6.body.bind (loopBody 11)).getD .skip
noncomputable def D_spec_EquationsOf : Code := Try.f6.body.getD .skip
noncomputable def N_spec_EquationsOf (_ : outs [.v .int, .v .int, .v (.slice (.slice .int))]) (r : dens [.pr (.v .int) (.pr (.v .int) (.mv (.slice .int) 0)), .v .bool]) : (Int × (Int × (List (List Int)))) × Bool := (r.1, r.2)

-- impl.isPrime
noncomputable def E_impl_isPrime : Entry where
  params := [.v .int]
  results := [.v .bool]
  B := Bool
  run := fun a => impl_isPrime a
  out := fun b => ()
  res := fun b => b

noncomputable def C_impl_isPrime : Cx where
  tt := tblTT tt
  T := tblT []
  L := tblL []
  dep := fun i => 0
  n := 1

noncomputable def D_impl_isPrime : Code := Try.f54.body.getD .skip
noncomputable def N_impl_isPrime (_ : outs [.v .int]) (r : dens [.v .bool]) : Bool := r

-- impl.isSize
noncomputable def E_impl_isSize : Entry where
  params := [.v .int]
  results := [.v .bool]
  B := Bool
  run := fun a => impl_isSize a
  out := fun b => ()
  res := fun b => b

noncomputable def C_impl_isSize : Cx where
  tt := tblTT tt
  T := tblT []
  L := tblL []
  dep := fun i => 0
  n := 1

noncomputable def D_impl_isSize : Code := Try.f75.body.getD .skip
noncomputable def N_impl_isSize (_ : outs [.v .int]) (r : dens [.v .bool]) : Bool := r

-- impl.inSize
noncomputable def E_impl_inSize : Entry where
  params := [.v (.slice .int), .v .int]
  results := [.v .bool]
  B := Bool
  run := fun a => impl_inSize a.1 a.2
  out := fun b => ((), ())
  res := fun b => b

noncomputable def S_impl_inSize_L2 (n : Nat) : LoopSpec where
  sh := [(1, .v .int), (7, .v (.slice .int)), (8, .v .int), (9, .v .int)]
  ex := [(.exit 0, []), (.ret, [(4, .v .bool)])]
  run := impl_inSize_L2 n

noncomputable def C_impl_inSize : Cx where
  tt := tblTT tt
  T := tblT []
  L := tblL [(2, S_impl_inSize_L2 fuel)]
  dep := fun i => 0
  n := 2

noncomputable def B_impl_inSize_L2 : Code := (Try.f76.body.bind (loopBody 2)).getD .skip
noncomputable def D_impl_inSize : Code := Try.f76.body.getD .skip
noncomputable def N_impl_inSize (_ : outs [.v (.slice .int), .v .int]) (r : dens [.v .bool]) : Bool := r

-- impl.compareLists
noncomputable def E_impl_compareLists : Entry where
  params := [.v (.slice .int), .v (.slice .int)]
  results := [.v .int]
  B := Int
  run := fun a => impl_compareLists a.1 a.2
  out := fun b => ((), ())
  res := fun b => b

noncomputable def S_impl_compareLists_L2 (n : Nat) : LoopSpec where
  sh := [(0, .v (.slice .int)), (1, .v (.slice .int)), (5, .v .int)]
  ex := [(.exit 0, [(0, .v (.slice .int)), (1, .v (.slice .int))]), (.ret, [(4, .v .int)])]
  run := impl_compareLists_L2 n

noncomputable def C_impl_compareLists : Cx where
  tt := tblTT tt
  T := tblT []
  L := tblL [(2, S_impl_compareLists_L2 fuel)]
  dep := fun i => 0
  n := 2

noncomputable def B_impl_compareLists_L2 : Code := (Try.f77.body.bind (loopBody 2)).getD .skip
noncomputable def D_impl_compareLists : Code := Try.f77.body.getD .skip
noncomputable def N_impl_compareLists (_ : outs [.v (.slice .int), .v (.slice .int)]) (r : dens [.v .int]) : Int := r

-- impl.isTupleSet
noncomputable def E_impl_isTupleSet : Entry where
  params := [.v .int, .v .int, .v (.slice (.slice .int))]
  results := [.v .bool]
  B := Bool
  run := fun a => impl_isTupleSet a.1 a.2.1 a.2.2
  out := fun b => ((), (), ())
  res := fun b => b

noncomputable def S_impl_isTupleSet_L4 (n : Nat) : LoopSpec where
  sh := [(0, .v .int), (1, .v .int), (2, .v (.slice (.slice .int))), (20, .v (.slice (.slice .int))), (21, .v .int), (22, .v .int)]
  ex := [(.exit 0, []), (.ret, [(6, .v .bool)])]
  run := impl_isTupleSet_L4 n

noncomputable def C_impl_isTupleSet : Cx where
  tt := tblTT tt
  T := tblT [(75, E_impl_isSize), (76, E_impl_inSize), (77, E_impl_compareLists)]
  L := tblL [(4, S_impl_isTupleSet_L4 fuel)]
  dep := fun i => 0
  n := 3

noncomputable def B_impl_isTupleSet_L4 : Code := (Try.f55.body.bind (loopBody 4)).getD .skip
noncomputable def D_impl_isTupleSet : Code := Try.f55.body.getD .skip
noncomputable def N_impl_isTupleSet (_ : outs [.v .int, .v .int, .v (.slice (.slice .int))]) (r : dens [.v .bool]) : Bool := r

-- impl.power
noncomputable def E_impl_power : Entry where
  params := [.v .int, .v .int]
  results := [.v .int]
  B := Int
  run := fun a => impl_power a.1 a.2
  out := fun b => ((), ())
  res := fun b => b

noncomputable def S_impl_power_L2 (n : Nat) : LoopSpec where
  sh := [(0, .v .int), (1, .v .int), (5, .v .int)]
  ex := [(.exit 0, [(5, .v .int)])]
  run := impl_power_L2 n

noncomputable def C_impl_power : Cx where
  tt := tblTT tt
  T := tblT []
  L := tblL [(2, S_impl_power_L2 fuel)]
  dep := fun i => 0
  n := 2

noncomputable def B_impl_power_L2 : Code := (Try.f78.body.bind (loopBody 2)).getD .skip
noncomputable def D_impl_power : Code := Try.f78.body.getD .skip
noncomputable def N_impl_power (_ : outs [.v .int, .v .int]) (r : dens [.v .int]) : Int := r

-- impl.indexOf
noncomputable def E_impl_indexOf : Entry where
  params := [.v (.slice .int), .v .int]
  results := [.v .int]
  B := Int
  run := fun a => impl_indexOf a.1 a.2
  out := fun b => ((), ())
  res := fun b => b

noncomputable def S_impl_indexOf_L3 (n : Nat) : LoopSpec where
  sh := [(1, .v .int), (5, .v .int), (8, .v (.slice .int)), (9, .v .int), (10, .v .int)]
  ex := [(.exit 0, [(5, .v .int)])]
  run := impl_indexOf_L3 n

noncomputable def C_impl_indexOf : Cx where
  tt := tblTT tt
  T := tblT []
  L := tblL [(3, S_impl_indexOf_L3 fuel)]
  dep := fun i => 0
  n := 2

noncomputable def B_impl_indexOf_L3 : Code := (Try.f79.body.bind (loopBody 3)).getD .skip
noncomputable def D_impl_indexOf : Code := Try.f79.body.getD .skip
noncomputable def N_impl_indexOf (_ : outs [.v (.slice .int), .v .int]) (r : dens [.v .int]) : Int := r

-- impl.isAffine
noncomputable def E_impl_isAffine : Entry where
  params := [.v .int, .v (.slice (.slice .int))]
  results := [.v .bool]
  B := Bool
  run := fun a => impl_isAffine a.1 a.2
  out := fun b => ((), ())
  res := fun b => b

noncomputable def S_impl_isAffine_L6 (n : Nat) : LoopSpec where
  sh := [(0, .v .int), (1, .v (.slice (.slice .int))), (5, .v (.slice .int)), (6, .mv .bool 0), (27, .v (.slice (.slice .int))), (28, .v .int), (29, .v .int)]
  ex := [(.exit 0, [(0, .v .int), (1, .v (.slice (.slice .int))), (5, .v (.slice .int)), (6, .mv .bool 0)])]
  run := impl_isAffine_L6 n

noncomputable def S_impl_isAffine_L18 (n : Nat) : LoopSpec where
  sh := [(0, .v .int), (1, .v (.slice (.slice .int))), (5, .v (.slice .int)), (6, .mv .bool 0), (10, .v (.slice .int)), (12, .v (.slice .int)), (13, .v .int), (39, .v (.slice (.slice .int))), (40, .v .int), (41, .v .int), (45, .v (.slice (.slice .int))), (46, .v .int), (47, .v .int), (51, .v (.slice .int)), (52, .v .int), (53, .v .int)]
  ex := [(.exit 6, [(0, .v .int), (1, .v (.slice (.slice .int))), (5, .v (.slice .int)), (6, .mv .bool 0), (10, .v (.slice .int)), (13, .v .int), (39, .v (.slice (.slice .int))), (40, .v .int), (41, .v .int), (45, .v (.slice (.slice .int))), (46, .v .int), (47, .v .int)])]
  run := impl_isAffine_L18 n

noncomputable def S_impl_isAffine_L14 (n : Nat) : LoopSpec where
  sh := [(0, .v .int), (1, .v (.slice (.slice .int))), (5, .v (.slice .int)), (6, .mv .bool 0), (10, .v (.slice .int)), (39, .v (.slice (.slice .int))), (40, .v .int), (41, .v .int), (45, .v (.slice (.slice .int))), (46, .v .int), (47, .v .int)]
  ex := [(.exit 4, [(0, .v .int), (1, .v (.slice (.slice .int))), (5, .v (.slice .int)), (6, .mv .bool 0), (39, .v (.slice (.slice .int))), (40, .v .int), (41, .v .int)]), (.ret, [(4, .v .bool)])]
  run := impl_isAffine_L14 n

noncomputable def S_impl_isAffine_L11 (n : Nat) : LoopSpec where
  sh := [(0, .v .int), (1, .v (.slice (.slice .int))), (5, .v (.slice .int)), (6, .mv .bool 0), (39, .v (.slice (.slice .int))), (40, .v .int), (41, .v .int)]
  ex := [(.exit 2, []), (.ret, [(4, .v .bool)])]
  run := impl_isAffine_L11 n

noncomputable def C_impl_isAffine : Cx where
  tt := tblTT tt
  T := tblT [(78, E_impl_power), (79, E_impl_indexOf)]
  L := tblL [(6, S_impl_isAffine_L6 fuel), (18, S_impl_isAffine_L18 fuel), (14, S_impl_isAffine_L14 fuel), (11, S_impl_isAffine_L11 fuel)]
  dep := fun i => 0
  n := 2

noncomputable def B_impl_isAffine_L6 : Code := (Try.f56.body.bind (loopBody 6)).getD .skip
noncomputable def B_impl_isAffine_L18 : Code := (Try.f56.body.bind (loopBody 18)).getD .skip
noncomputable def B_impl_isAffine_L14 : Code := (Try.f56.body.bind (loopBody 14)).getD .skip
noncomputable def B_impl_isAffine_L11 : Code := (Try.f56.body.bind (loopBody 11)).getD .skip
noncomputable def D_impl_isAffine : Code := Try.f56.body.getD .skip
noncomputable def N_impl_isAffine (_ : outs [.v .int, .v (.slice (.slice .int))]) (r : dens [.v .bool]) : Bool := r

-- impl.IsAffineSet
noncomputable def E_impl_IsAffineSet : Entry where
  params := [.v .int, .v .int, .v (.slice (.slice .int))]
  results := [.v .bool, .v .bool]
  B := Bool × Bool
  run := fun a => impl_IsAffineSet a.1 a.2.1 a.2.2
  out := fun b => ((), (), ())
  res := fun b => (b.1, b.2)

noncomputable def C_impl_IsAffineSet : Cx where
  tt := tblTT tt
  T := tblT [(54, E_impl_isPrime), (55, E_impl_isTupleSet), (56, E_impl_isAffine)]
  L := tblL []
  dep := fun i => 0
  n := 3

noncomputable def D_impl_IsAffineSet : Code := Try.f32.body.getD .skip
noncomputable def N_impl_IsAffineSet (_ : outs [.v .int, .v .int, .v (.slice (.slice .int))]) (r : dens [.v .bool, .v .bool]) : Bool × Bool := (r.1, r.2)

-- impl.clone
noncomputable def E_impl_clone : Entry where
  params := [.v (.slice .int)]
  results := [.mv .int 0]
  B := (List Int)
  run := fun a => impl_clone a
  out := fun b => ()
  res := fun b => b

noncomputable def C_impl_clone : Cx where
  tt := tblTT tt
  T := tblT []
  L := tblL []
  dep := fun i => 0
  n := 1

noncomputable def D_impl_clone : Code := Try.f81.body.getD .skip
noncomputable def N_impl_clone (_ : outs [.v (.slice .int)]) (r : dens [.mv .int 0]) : (List Int) := r

-- impl.cloneRows
noncomputable def E_impl_cloneRows : Entry where
  params := [.v (.slice (.slice .int))]
  results := [.mv (.slice .int) 1]
  B := (List (List Int))
  run := fun a => impl_cloneRows a
  out := fun b => ()
  res := fun b => b

noncomputable def S_impl_cloneRows_L3 (n : Nat) : LoopSpec where
  sh := [(3, .mv (.slice .int) 1), (7, .v (.slice (.slice .int))), (8, .v .int), (9, .v .int)]
  ex := [(.exit 0, [(3, .mv (.slice .int) 1)])]
  run := impl_cloneRows_L3 n

noncomputable def C_impl_cloneRows : Cx where
  tt := tblTT tt
  T := tblT [(81, E_impl_clone)]
  L := tblL [(3, S_impl_cloneRows_L3 fuel)]
  dep := fun i => match i with
    | 6 => 1
    | 16 => 1
    | 17 => 1
    | _ => 0
  n := 1

noncomputable def B_impl_cloneRows_L3 : Code := (Try.f66.body.bind (loopBody 3)).getD .skip
noncomputable def D_impl_cloneRows : Code := Try.f66.body.getD .skip
noncomputable def N_impl_cloneRows (_ : outs [.v (.slice (.slice .int))]) (r : dens [.mv (.slice .int) 1]) : (List (List Int)) := r

-- impl.freeTable
noncomputable def E_impl_freeTable : Entry where
  params := [.v .int]
  results := [.mv .int 0]
  B := (List Int)
  run := fun a => impl_freeTable a
  out := fun b => ()
  res := fun b => b

noncomputable def S_impl_freeTable_L3 (n : Nat) : LoopSpec where
  sh := [(3, .mv .int 0), (8, .v .int), (9, .v .int)]
  ex := [(.exit 0, [(3, .mv .int 0)])]
  run := impl_freeTable_L3 n

noncomputable def C_impl_freeTable : Cx where
  tt := tblTT tt
  T := tblT []
  L := tblL [(3, S_impl_freeTable_L3 fuel)]
  dep := fun i => 0
  n := 1

noncomputable def B_impl_freeTable_L3 : Code := (Try.f67.body.bind (loopBody 3)).getD .skip
noncomputable def D_impl_freeTable : Code := Try.f67.body.getD .skip
noncomputable def N_impl_freeTable (_ : outs [.v .int]) (r : dens [.mv .int 0]) : (List Int) := r

-- impl.inverseOf
noncomputable def E_impl_inverseOf : Entry where
  params := [.v .int, .v .int]
  results := [.v .int]
  B := Int
  run := fun a => impl_inverseOf a.1 a.2
  out := fun b => ((), ())
  res := fun b => b

noncomputable def S_impl_inverseOf_L2 (n : Nat) : LoopSpec where
  sh := [(0, .v .int), (1, .v .int), (5, .v .int)]
  ex := [(.exit 0, []), (.ret, [(4, .v .int)])]
  run := impl_inverseOf_L2 n

noncomputable def C_impl_inverseOf : Cx where
  tt := tblTT tt
  T := tblT []
  L := tblL [(2, S_impl_inverseOf_L2 fuel)]
  dep := fun i => 0
  n := 2

noncomputable def B_impl_inverseOf_L2 : Code := (Try.f68.body.bind (loopBody 2)).getD .skip
noncomputable def D_impl_inverseOf : Code := Try.f68.body.getD .skip
noncomputable def N_impl_inverseOf (_ : outs [.v .int, .v .int]) (r : dens [.v .int]) : Int := r

-- impl.eliminate
noncomputable def E_impl_eliminate : Entry where
  params := [.v .int, .v .int, .v (.slice (.slice .int))]
  results := [.v (.ptr (.pair .int (.pair .int (.pair (.slice (.slice .int)) (.pair .int (.slice .int))))))]
  B := (Bool × Int × Int × (List (List Int)) × Int × (List Int))
  run := fun a => impl_eliminate a.1 a.2.1 a.2.2
  out := fun b => ((), (), ())
  res := fun b => b

noncomputable def S_impl_eliminate_L6 (n : Nat) : LoopSpec where
  sh := [(0, .v .int), (1, .v .int), (7, .bx (.pr (.v .int) (.pr (.v .int) (.pr (.mv (.slice .int) 1) (.pr (.v .int) (.mv .int 0)))))), (8, .v .int), (9, .v .int)]
  ex := [(.exit 2, [(0, .v .int), (1, .v .int), (7, .bx (.pr (.v .int) (.pr (.v .int) (.pr (.mv (.slice .int) 1) (.pr (.v .int) (.mv .int 0)))))), (8, .v .int), (9, .v .int)])]
  run := impl_eliminate_L6 n

noncomputable def S_impl_eliminate_L14 (n : Nat) : LoopSpec where
  sh := [(12885426186, .v .int), (0, .v .int), (1, .v .int), (7, .bx (.pr (.v .int) (.pr (.v .int) (.pr (.mv (.slice .int) 1) (.pr (.v .int) (.mv .int 0)))))), (8, .v .int), (11, .v .int), (110, .v .int), (111, .v .int)]
  ex := [(.exit 4, [(12885426186, .v .int), (0, .v .int), (1, .v .int), (7, .bx (.pr (.v .int) (.pr (.v .int) (.pr (.mv (.slice .int) 1) (.pr (.v .int) (.mv .int 0)))))), (8, .v .int)])]
  run := impl_eliminate_L14 n

noncomputable def S_impl_eliminate_L24 (n : Nat) : LoopSpec where
  sh := [(12885426186, .v .int), (12885426190, .v .int), (12885426305, .jk 1), (0, .v .int), (1, .v .int), (7, .bx (.pr (.v .int) (.pr (.v .int) (.pr (.mv (.slice .int) 1) (.pr (.v .int) (.mv .int 0)))))), (8, .v .int), (15, .v .int), (130, .v .int), (131, .v .int), (151, .v .int), (152, .v .int)]
  ex := [(.exit 8, [(12885426186, .v .int), (12885426305, .jk 1), (0, .v .int), (1, .v .int), (7, .bx (.pr (.v .int) (.pr (.v .int) (.pr (.mv (.slice .int) 1) (.pr (.v .int) (.mv .int 0)))))), (8, .v .int), (130, .v .int), (131, .v .int)])]
  run := impl_eliminate_L24 n

noncomputable def S_impl_eliminate_L19 (n : Nat) : LoopSpec where
  sh := [(12885426186, .v .int), (12885426305, .jk 1), (0, .v .int), (1, .v .int), (7, .bx (.pr (.v .int) (.pr (.v .int) (.pr (.mv (.slice .int) 1) (.pr (.v .int) (.mv .int 0)))))), (8, .v .int), (130, .v .int), (131, .v .int)]
  ex := [(.exit 6, [(0, .v .int), (1, .v .int), (7, .bx (.pr (.v .int) (.pr (.v .int) (.pr (.mv (.slice .int) 1) (.pr (.v .int) (.mv .int 0)))))), (8, .v .int)])]
  run := impl_eliminate_L19 n

noncomputable def S_impl_eliminate_L3 (n : Nat) : LoopSpec where
  sh := [(0, .v .int), (1, .v .int), (7, .bx (.pr (.v .int) (.pr (.v .int) (.pr (.mv (.slice .int) 1) (.pr (.v .int) (.mv .int 0)))))), (8, .v .int)]
  ex := [(.exit 0, [(7, .bx (.pr (.v .int) (.pr (.v .int) (.pr (.mv (.slice .int) 1) (.pr (.v .int) (.mv .int 0))))))])]
  run := impl_eliminate_L3 n

noncomputable def C_impl_eliminate : Cx where
  tt := tblTT tt
  T := tblT [(66, E_impl_cloneRows), (67, E_impl_freeTable), (68, E_impl_inverseOf)]
  L := tblL [(6, S_impl_eliminate_L6 fuel), (14, S_impl_eliminate_L14 fuel), (24, S_impl_eliminate_L24 fuel), (19, S_impl_eliminate_L19 fuel), (3, S_impl_eliminate_L3 fuel)]
  dep := fun i => match i with
    | 69 => 99
    | _ => 0
  n := 3

noncomputable def B_impl_eliminate_L6 : Code := (Try.f41.body.bind (loopBody 6)).getD .skip
noncomputable def B_impl_eliminate_L14 : Code := (Try.f41.body.bind (loopBody 14)).getD .skip
noncomputable def B_impl_eliminate_L24 : Code := (Try.f41.body.bind (loopBody 24)).getD .skip
noncomputable def B_impl_eliminate_L19 : Code := (Try.f41.body.bind (loopBody 19)).getD .skip
noncomputable def B_impl_eliminate_L3 : Code := (Try.f41.body.bind (loopBody 3)).getD .skip
noncomputable def D_impl_eliminate : Code := Try.f41.body.getD .skip
noncomputable def N_impl_eliminate (_ : outs [.v .int, .v .int, .v (.slice (.slice .int))]) (r : dens [.v (.ptr (.pair .int (.pair .int (.pair (.slice (.slice .int)) (.pair .int (.slice .int))))))]) : (Bool × Int × Int × (List (List Int)) × Int × (List Int)) := r

-- impl.eliminated).freeVars
noncomputable def E_impl_eliminated_freeVars : Entry where
  params := [.bx (.pr (.v .int) (.pr (.v .int) (.pr (.mv (.slice .int) 1) (.pr (.v .int) (.mv .int 0)))))]
  results := [.mv .int 0]
  B := (Int × (Int × ((List (List Int)) × (Int × (List Int))))) × (List Int)
  run := fun a => impl_eliminated_freeVars a
  out := fun b => b.1
  res := fun b => b.2

noncomputable def S_impl_eliminated_freeVars_L3 (n : Nat) : LoopSpec where
  sh := [(21474902026, .jk 1), (0, .bx (.pr (.v .int) (.pr (.v .int) (.pr (.mv (.slice .int) 1) (.pr (.v .int) (.mv .int 0)))))), (3, .mv .int 0), (11, .v .int), (12, .v .int)]
  ex := [(.exit 0, [(0, .bx (.pr (.v .int) (.pr (.v .int) (.pr (.mv (.slice .int) 1) (.pr (.v .int) (.mv .int 0)))))), (3, .mv .int 0)])]
  run := impl_eliminated_freeVars_L3 n

noncomputable def C_impl_eliminated_freeVars : Cx where
  tt := tblTT tt
  T := tblT []
  L := tblL [(3, S_impl_eliminated_freeVars_L3 fuel)]
  dep := fun i => 0
  n := 1

noncomputable def B_impl_eliminated_freeVars_L3 : Code := (Try.f80.body.bind (loopBody 3)).getD .skip
noncomputable def D_impl_eliminated_freeVars : Code := Try.f80.body.getD .skip
noncomputable def N_impl_eliminated_freeVars (o : outs [.bx (.pr (.v .int) (.pr (.v .int) (.pr (.mv (.slice .int) 1) (.pr (.v .int) (.mv .int 0)))))]) (r : dens [.mv .int 0]) : (Int × (Int × ((List (List Int)) × (Int × (List Int))))) × (List Int) := (o, r)

-- impl.eliminated).solution
noncomputable def E_impl_eliminated_solution : Entry where
  params := [.bx (.pr (.v .int) (.pr (.v .int) (.pr (.mv (.slice .int) 1) (.pr (.v .int) (.mv .int 0))))), .v (.slice .int)]
  results := [.mv .int 0]
  B := (Int × (Int × ((List (List Int)) × (Int × (List Int))))) × (List Int)
  run := fun a => impl_eliminated_solution a.1 a.2
  out := fun b => (b.1, ())
  res := fun b => b.2

noncomputable def S_impl_eliminated_solution_L4 (n : Nat) : LoopSpec where
  sh := [(458773, .jk 1), (0, .bx (.pr (.v .int) (.pr (.v .int) (.pr (.mv (.slice .int) 1) (.pr (.v .int) (.mv .int 0)))))), (1, .v (.slice .int)), (5, .mv .int 0), (6, .mv .int 0), (22, .v .int), (23, .v .int)]
  ex := [(.exit 0, [(0, .bx (.pr (.v .int) (.pr (.v .int) (.pr (.mv (.slice .int) 1) (.pr (.v .int) (.mv .int 0)))))), (1, .v (.slice .int)), (5, .mv .int 0), (6, .mv .int 0)])]
  run := impl_eliminated_solution_L4 n

noncomputable def S_impl_eliminated_solution_L14 (n : Nat) : LoopSpec where
  sh := [(21474902055, .jk 1), (458813, .jk 1), (0, .bx (.pr (.v .int) (.pr (.v .int) (.pr (.mv (.slice .int) 1) (.pr (.v .int) (.mv .int 0)))))), (1, .v (.slice .int)), (5, .mv .int 0), (6, .mv .int 0), (9, .v .int), (10, .v .int), (11, .v .int), (40, .v .int), (41, .v .int), (62, .v .int), (63, .v .int)]
  ex := [(.exit 4, [(21474902055, .jk 1), (0, .bx (.pr (.v .int) (.pr (.v .int) (.pr (.mv (.slice .int) 1) (.pr (.v .int) (.mv .int 0)))))), (1, .v (.slice .int)), (5, .mv .int 0), (6, .mv .int 0), (9, .v .int), (11, .v .int), (40, .v .int), (41, .v .int)])]
  run := impl_eliminated_solution_L14 n

noncomputable def S_impl_eliminated_solution_L9 (n : Nat) : LoopSpec where
  sh := [(21474902055, .jk 1), (0, .bx (.pr (.v .int) (.pr (.v .int) (.pr (.mv (.slice .int) 1) (.pr (.v .int) (.mv .int 0)))))), (1, .v (.slice .int)), (5, .mv .int 0), (6, .mv .int 0), (40, .v .int), (41, .v .int)]
  ex := [(.exit 2, [(0, .bx (.pr (.v .int) (.pr (.v .int) (.pr (.mv (.slice .int) 1) (.pr (.v .int) (.mv .int 0)))))), (5, .mv .int 0)])]
  run := impl_eliminated_solution_L9 n

noncomputable def C_impl_eliminated_solution : Cx where
  tt := tblTT tt
  T := tblT [(80, E_impl_eliminated_freeVars)]
  L := tblL [(4, S_impl_eliminated_solution_L4 fuel), (14, S_impl_eliminated_solution_L14 fuel), (9, S_impl_eliminated_solution_L9 fuel)]
  dep := fun i => 0
  n := 2

noncomputable def B_impl_eliminated_solution_L4 : Code := (Try.f70.body.bind (loopBody 4)).getD .skip
noncomputable def B_impl_eliminated_solution_L14 : Code := (Try.f70.body.bind (loopBody 14)).getD .skip
noncomputable def B_impl_eliminated_solution_L9 : Code := (Try.f70.body.bind (loopBody 9)).getD .skip
noncomputable def D_impl_eliminated_solution : Code := Try.f70.body.getD .skip
noncomputable def N_impl_eliminated_solution (o : outs [.bx (.pr (.v .int) (.pr (.v .int) (.pr (.mv (.slice .int) 1) (.pr (.v .int) (.mv .int 0))))), .v (.slice .int)]) (r : dens [.mv .int 0]) : (Int × (Int × ((List (List Int)) × (Int × (List Int))))) × (List Int) := (o.1, r)

-- impl.eliminated).kernel
noncomputable def E_impl_eliminated_kernel : Entry where
  params := [.bx (.pr (.v .int) (.pr (.v .int) (.pr (.mv (.slice .int) 1) (.pr (.v .int) (.mv .int 0)))))]
  results := [.mv (.slice .int) 1]
  B := (Int × (Int × ((List (List Int)) × (Int × (List Int))))) × (List (List Int))
  run := fun a => impl_eliminated_kernel a
  out := fun b => b.1
  res := fun b => b.2

noncomputable def S_impl_eliminated_kernel_L2 (n : Nat) : LoopSpec where
  sh := [(12884967436, .jk 1), (0, .bx (.pr (.v .int) (.pr (.v .int) (.pr (.mv (.slice .int) 1) (.pr (.v .int) (.mv .int 0)))))), (13, .v .int), (14, .v .int)]
  ex := [(.exit 0, [(0, .bx (.pr (.v .int) (.pr (.v .int) (.pr (.mv (.slice .int) 1) (.pr (.v .int) (.mv .int 0))))))])]
  run := impl_eliminated_kernel_L2 n

noncomputable def S_impl_eliminated_kernel_L9 (n : Nat) : LoopSpec where
  sh := [(0, .bx (.pr (.v .int) (.pr (.v .int) (.pr (.mv (.slice .int) 1) (.pr (.v .int) (.mv .int 0)))))), (5, .mv (.slice .int) 1), (6, .mv .int 0), (29, .v .int), (30, .v .int)]
  ex := [(.exit 2, [(0, .bx (.pr (.v .int) (.pr (.v .int) (.pr (.mv (.slice .int) 1) (.pr (.v .int) (.mv .int 0)))))), (5, .mv (.slice .int) 1)])]
  run := impl_eliminated_kernel_L9 n

noncomputable def C_impl_eliminated_kernel : Cx where
  tt := tblTT tt
  T := tblT [(70, E_impl_eliminated_solution), (80, E_impl_eliminated_freeVars)]
  L := tblL [(2, S_impl_eliminated_kernel_L2 fuel), (9, S_impl_eliminated_kernel_L9 fuel)]
  dep := fun i => match i with
    | 25 => 1
    | 43 => 1
    | 44 => 1
    | _ => 0
  n := 1

noncomputable def B_impl_eliminated_kernel_L2 : Code := (Try.f57.body.bind (loopBody 2)).getD .skip
noncomputable def B_impl_eliminated_kernel_L9 : Code := (Try.f57.body.bind (loopBody 9)).getD .skip
noncomputable def D_impl_eliminated_kernel : Code := Try.f57.body.getD .skip
noncomputable def N_impl_eliminated_kernel (o : outs [.bx (.pr (.v .int) (.pr (.v .int) (.pr (.mv (.slice .int) 1) (.pr (.v .int) (.mv .int 0)))))]) (r : dens [.mv (.slice .int) 1]) : (Int × (Int × ((List (List Int)) × (Int × (List Int))))) × (List (List Int)) := (o, r)

-- impl.eliminate
noncomputable def E_impl_eliminate_b : Entry where
  params := [.v .int, .v .int, .v (.slice (.slice .int))]
  results := [.bx (.pr (.v .int) (.pr (.v .int) (.pr (.mv (.slice .int) 1) (.pr (.v .int) (.mv .int 0)))))]
  B := (Int × (Int × ((List (List Int)) × (Int × (List Int)))))
  run := fun a => impl_eliminate_b a.1 a.2.1 a.2.2
  out := fun b => ((), (), ())
  res := fun b => b

noncomputable def S_impl_eliminate_b_L6 (n : Nat) : LoopSpec where
  sh := [(0, .v .int), (1, .v .int), (7, .bx (.pr (.v .int) (.pr (.v .int) (.pr (.mv (.slice .int) 1) (.pr (.v .int) (.mv .int 0)))))), (8, .v .int), (9, .v .int)]
  ex := [(.exit 2, [(0, .v .int), (1, .v .int), (7, .bx (.pr (.v .int) (.pr (.v .int) (.pr (.mv (.slice .int) 1) (.pr (.v .int) (.mv .int 0)))))), (8, .v .int), (9, .v .int)])]
  run := impl_eliminate_b_L6 n

noncomputable def S_impl_eliminate_b_L14 (n : Nat) : LoopSpec where
  sh := [(12885426186, .v .int), (0, .v .int), (1, .v .int), (7, .bx (.pr (.v .int) (.pr (.v .int) (.pr (.mv (.slice .int) 1) (.pr (.v .int) (.mv .int 0)))))), (8, .v .int), (11, .v .int), (110, .v .int), (111, .v .int)]
  ex := [(.exit 4, [(12885426186, .v .int), (0, .v .int), (1, .v .int), (7, .bx (.pr (.v .int) (.pr (.v .int) (.pr (.mv (.slice .int) 1) (.pr (.v .int) (.mv .int 0)))))), (8, .v .int)])]
  run := impl_eliminate_b_L14 n

noncomputable def S_impl_eliminate_b_L24 (n : Nat) : LoopSpec where
  sh := [(12885426186, .v .int), (12885426190, .v .int), (12885426305, .jk 1), (0, .v .int), (1, .v .int), (7, .bx (.pr (.v .int) (.pr (.v .int) (.pr (.mv (.slice .int) 1) (.pr (.v .int) (.mv .int 0)))))), (8, .v .int), (15, .v .int), (130, .v .int), (131, .v .int), (151, .v .int), (152, .v .int)]
  ex := [(.exit 8, [(12885426186, .v .int), (12885426305, .jk 1), (0, .v .int), (1, .v .int), (7, .bx (.pr (.v .int) (.pr (.v .int) (.pr (.mv (.slice .int) 1) (.pr (.v .int) (.mv .int 0)))))), (8, .v .int), (130, .v .int), (131, .v .int)])]
  run := impl_eliminate_b_L24 n

noncomputable def S_impl_eliminate_b_L19 (n : Nat) : LoopSpec where
  sh := [(12885426186, .v .int), (12885426305, .jk 1), (0, .v .int), (1, .v .int), (7, .bx (.pr (.v .int) (.pr (.v .int) (.pr (.mv (.slice .int) 1) (.pr (.v .int) (.mv .int 0)))))), (8, .v .int), (130, .v .int), (131, .v .int)]
  ex := [(.exit 6, [(0, .v .int), (1, .v .int), (7, .bx (.pr (.v .int) (.pr (.v .int) (.pr (.mv (.slice .int) 1) (.pr (.v .int) (.mv .int 0)))))), (8, .v .int)])]
  run := impl_eliminate_b_L19 n

noncomputable def S_impl_eliminate_b_L3 (n : Nat) : LoopSpec where
  sh := [(0, .v .int), (1, .v .int), (7, .bx (.pr (.v .int) (.pr (.v .int) (.pr (.mv (.slice .int) 1) (.pr (.v .int) (.mv .int 0)))))), (8, .v .int)]
  ex := [(.exit 0, [(7, .bx (.pr (.v .int) (.pr (.v .int) (.pr (.mv (.slice .int) 1) (.pr (.v .int) (.mv .int 0))))))])]
  run := impl_eliminate_b_L3 n

noncomputable def C_impl_eliminate_b : Cx where
  tt := tblTT tt
  T := tblT [(66, E_impl_cloneRows), (67, E_impl_freeTable), (68, E_impl_inverseOf)]
  L := tblL [(6, S_impl_eliminate_b_L6 fuel), (14, S_impl_eliminate_b_L14 fuel), (24, S_impl_eliminate_b_L24 fuel), (19, S_impl_eliminate_b_L19 fuel), (3, S_impl_eliminate_b_L3 fuel)]
  dep := fun i => match i with
    | 69 => 99
    | _ => 0
  n := 3

noncomputable def B_impl_eliminate_b_L6 : Code := (Try.f41.body.bind (loopBody 6)).getD .skip
noncomputable def B_impl_eliminate_b_L14 : Code := (Try.f41.body.bind (loopBody 14)).getD .skip
noncomputable def B_impl_eliminate_b_L24 : Code := (Try.f41.body.bind (loopBody 24)).getD .skip
noncomputable def B_impl_eliminate_b_L19 : Code := (Try.f41.body.bind (loopBody 19)).getD .skip
noncomputable def B_impl_eliminate_b_L3 : Code := (Try.f41.body.bind (loopBody 3)).getD .skip
noncomputable def D_impl_eliminate_b : Code := Try.f41.body.getD .skip
noncomputable def N_impl_eliminate_b (_ : outs [.v .int, .v .int, .v (.slice (.slice .int))]) (r : dens [.bx (.pr (.v .int) (.pr (.v .int) (.pr (.mv (.slice .int) 1) (.pr (.v .int) (.mv .int 0)))))]) : (Int × (Int × ((List (List Int)) × (Int × (List Int))))) := r

-- impl.linearOf
noncomputable def E_impl_linearOf_b : Entry where
  params := [.bx (.pr (.v .int) (.pr (.v .int) (.pr (.v (.slice (.slice .int))) (.pr (.v .int) (.v (.slice .int))))))]
  results := [.pr (.v .int) (.pr (.v .int) (.mv (.slice .int) 1))]
  B := (Int × (Int × ((List (List Int)) × (Int × (List Int))))) × (Int × (Int × (List (List Int))))
  run := fun a => impl_linearOf_b a
  out := fun b => b.1
  res := fun b => b.2

noncomputable def S_impl_linearOf_b_L3 (n : Nat) : LoopSpec where
  sh := [(0, .bx (.v (.pair .int (.pair .int (.pair (.slice (.slice .int)) (.pair .int (.slice .int))))))), (2, .bx (.pr (.v .int) (.pr (.v .int) (.mv (.slice .int) 1)))), (3, .bx (.pr (.v .int) (.pr (.v .int) (.mv (.slice .int) 1)))), (33, .v (.slice (.slice .int))), (34, .v .int), (35, .v .int)]
  ex := [(.exit 0, [(0, .bx (.v (.pair .int (.pair .int (.pair (.slice (.slice .int)) (.pair .int (.slice .int))))))), (2, .bx (.pr (.v .int) (.pr (.v .int) (.mv (.slice .int) 1)))), (3, .bx (.pr (.v .int) (.pr (.v .int) (.mv (.slice .int) 1))))])]
  run := impl_linearOf_b_L3 n

noncomputable def C_impl_linearOf_b : Cx where
  tt := tblTT tt
  T := tblT [(66, E_impl_cloneRows), (81, E_impl_clone)]
  L := tblL [(3, S_impl_linearOf_b_L3 fuel)]
  dep := fun i => match i with
    | 51 => 1
    | 52 => 1
    | _ => 0
  n := 1

noncomputable def B_impl_linearOf_b_L3 : Code := (Try.f58.body.bind (loopBody 3)).getD .skip
noncomputable def D_impl_linearOf_b : Code := Try.f58.body.getD .skip
noncomputable def N_impl_linearOf_b (o : outs [.bx (.pr (.v .int) (.pr (.v .int) (.pr (.v (.slice (.slice .int))) (.pr (.v .int) (.v (.slice .int))))))]) (r : dens [.pr (.v .int) (.pr (.v .int) (.mv (.slice .int) 1))]) : (Int × (Int × ((List (List Int)) × (Int × (List Int))))) × (Int × (Int × (List (List Int)))) := (o, r)

-- impl.equationsOf
noncomputable def E_impl_equationsOf : Entry where
  params := [.v .int, .v .int, .v (.slice (.slice .int))]
  results := [.pr (.v .int) (.pr (.v .int) (.mv (.slice .int) 1))]
  B := (Int × (Int × (List (List Int))))
  run := fun a => impl_equationsOf a.1 a.2.1 a.2.2
  out := fun b => ((), (), ())
  res := fun b => b

noncomputable def S_impl_equationsOf_L8 (n : Nat) : LoopSpec where
  sh := [(0, .v .int), (1, .v .int), (6, .bx (.pr (.v .int) (.pr (.v .int) (.mv (.slice .int) 1)))), (7, .v (.slice .int)), (8, .mv (.slice .int) 1), (11, .mv .int 0), (24, .v (.slice (.slice .int))), (25, .v .int), (26, .v .int), (33, .v (.slice .int)), (34, .v .int), (35, .v .int)]
  ex := [(.exit 2, [(0, .v .int), (1, .v .int), (6, .bx (.pr (.v .int) (.pr (.v .int) (.mv (.slice .int) 1)))), (7, .v (.slice .int)), (8, .mv (.slice .int) 1), (11, .mv .int 0), (24, .v (.slice (.slice .int))), (25, .v .int), (26, .v .int)])]
  run := impl_equationsOf_L8 n

noncomputable def S_impl_equationsOf_L4 (n : Nat) : LoopSpec where
  sh := [(0, .v .int), (1, .v .int), (6, .bx (.pr (.v .int) (.pr (.v .int) (.mv (.slice .int) 1)))), (7, .v (.slice .int)), (8, .mv (.slice .int) 1), (24, .v (.slice (.slice .int))), (25, .v .int), (26, .v .int)]
  ex := [(.exit 0, [(0, .v .int), (1, .v .int), (6, .bx (.pr (.v .int) (.pr (.v .int) (.mv (.slice .int) 1)))), (7, .v (.slice .int)), (8, .mv (.slice .int) 1)])]
  run := impl_equationsOf_L4 n

noncomputable def S_impl_equationsOf_L20 (n : Nat) : LoopSpec where
  sh := [(1114182, .jk 1), (0, .v .int), (1, .v .int), (6, .bx (.pr (.v .int) (.pr (.v .int) (.mv (.slice .int) 1)))), (7, .v (.slice .int)), (14, .mv (.slice .int) 1), (16, .mv .int 0), (17, .v .int), (64, .gs (.slice .int) 1), (65, .v .int), (66, .v .int), (71, .v .int), (72, .v .int)]
  ex := [(.exit 6, [(0, .v .int), (1, .v .int), (6, .bx (.pr (.v .int) (.pr (.v .int) (.mv (.slice .int) 1)))), (7, .v (.slice .int)), (14, .mv (.slice .int) 1), (16, .mv .int 0), (17, .v .int), (64, .gs (.slice .int) 1), (65, .v .int), (66, .v .int)])]
  run := impl_equationsOf_L20 n

noncomputable def S_impl_equationsOf_L16 (n : Nat) : LoopSpec where
  sh := [(0, .v .int), (1, .v .int), (6, .bx (.pr (.v .int) (.pr (.v .int) (.mv (.slice .int) 1)))), (7, .v (.slice .int)), (14, .mv (.slice .int) 1), (64, .gs (.slice .int) 1), (65, .v .int), (66, .v .int)]
  ex := [(.exit 4, [(0, .v .int), (1, .v .int), (6, .bx (.pr (.v .int) (.pr (.v .int) (.mv (.slice .int) 1)))), (14, .mv (.slice .int) 1)])]
  run := impl_equationsOf_L16 n

noncomputable def C_impl_equationsOf : Cx where
  tt := tblTT tt
  T := tblT [(41, E_impl_eliminate_b), (57, E_impl_eliminated_kernel), (58, E_impl_linearOf_b)]
  L := tblL [(8, S_impl_equationsOf_L8 fuel), (4, S_impl_equationsOf_L4 fuel), (20, S_impl_equationsOf_L20 fuel), (16, S_impl_equationsOf_L16 fuel)]
  dep := fun i => match i with
    | 23 => 1
    | 56 => 1
    | 57 => 1
    | 59 => 1
    | 69 => 99
    | 93 => 1
    | 94 => 1
    | _ => 0
  n := 3

noncomputable def B_impl_equationsOf_L8 : Code := (Try.f33.body.bind (loopBody 8)).getD .skip
noncomputable def B_impl_equationsOf_L4 : Code := (Try.f33.body.bind (loopBody 4)).getD .skip
noncomputable def B_impl_equationsOf_L20 : Code := (Try.f33.body.bind (loopBody 20)).getD .skip
noncomputable def B_impl_equationsOf_L16 : Code := (Try.f33.body.bind (loopBody 16)).getD .skip
noncomputable def D_impl_equationsOf : Code := Try.f33.body.getD .skip
noncomputable def N_impl_equationsOf (_ : outs [.v .int, .v .int, .v (.slice (.slice .int))]) (r : dens [.pr (.v .int) (.pr (.v .int) (.mv (.slice .int) 1))]) : (Int × (Int × (List (List Int)))) := r

-- impl.EquationsOf
noncomputable def E_impl_EquationsOf : Entry where
  params := [.v .int, .v .int, .v (.slice (.slice .int))]
  results := [.pr (.v .int) (.pr (.v .int) (.mv (.slice .int) 1)), .v .bool]
  B := (Int × (Int × (List (List Int)))) × Bool
  run := fun a => impl_EquationsOf a.1 a.2.1 a.2.2
  out := fun b => ((), (), ())
  res := fun b => (b.1, b.2)

noncomputable def C_impl_EquationsOf : Cx where
  tt := tblTT tt
  T := tblT [(32, E_impl_IsAffineSet), (33, E_impl_equationsOf)]
  L := tblL []
  dep := fun i => 0
  n := 3

noncomputable def D_impl_EquationsOf : Code := Try.f8.body.getD .skip
noncomputable def N_impl_EquationsOf (_ : outs [.v .int, .v .int, .v (.slice (.slice .int))]) (r : dens [.pr (.v .int) (.pr (.v .int) (.mv (.slice .int) 1)), .v .bool]) : (Int × (Int × (List (List Int)))) × Bool := (r.1, r.2)

-- laws.eqIntS
noncomputable def E_laws_eqIntS : Entry where
  params := [.v (.slice .int), .v (.slice .int)]
  results := [.v .bool]
  B := Bool
  run := fun a => laws_eqIntS a.1 a.2
  out := fun b => ((), ())
  res := fun b => b

noncomputable def S_laws_eqIntS_L4 (n : Nat) : LoopSpec where
  sh := [(0, .v (.slice .int)), (1, .v (.slice .int)), (5, .v .int)]
  ex := [(.exit 0, []), (.ret, [(4, .v .bool)])]
  run := laws_eqIntS_L4 n

noncomputable def C_laws_eqIntS : Cx where
  tt := tblTT tt
  T := tblT []
  L := tblL [(4, S_laws_eqIntS_L4 fuel)]
  dep := fun i => 0
  n := 2

noncomputable def B_laws_eqIntS_L4 : Code := (Try.f18.body.bind (loopBody 4)).getD .skip
noncomputable def D_laws_eqIntS : Code := Try.f18.body.getD .skip
noncomputable def N_laws_eqIntS (_ : outs [.v (.slice .int), .v (.slice .int)]) (r : dens [.v .bool]) : Bool := r

-- laws.eqIntSS
noncomputable def E_laws_eqIntSS : Entry where
  params := [.v (.slice (.slice .int)), .v (.slice (.slice .int))]
  results := [.v .bool]
  B := Bool
  run := fun a => laws_eqIntSS a.1 a.2
  out := fun b => ((), ())
  res := fun b => b

noncomputable def S_laws_eqIntSS_L4 (n : Nat) : LoopSpec where
  sh := [(0, .v (.slice (.slice .int))), (1, .v (.slice (.slice .int))), (5, .v .int)]
  ex := [(.exit 0, []), (.ret, [(4, .v .bool)])]
  run := laws_eqIntSS_L4 n

noncomputable def C_laws_eqIntSS : Cx where
  tt := tblTT tt
  T := tblT [(18, E_laws_eqIntS)]
  L := tblL [(4, S_laws_eqIntSS_L4 fuel)]
  dep := fun i => 0
  n := 2

noncomputable def B_laws_eqIntSS_L4 : Code := (Try.f10.body.bind (loopBody 4)).getD .skip
noncomputable def D_laws_eqIntSS : Code := Try.f10.body.getD .skip
noncomputable def N_laws_eqIntSS (_ : outs [.v (.slice (.slice .int)), .v (.slice (.slice .int))]) (r : dens [.v .bool]) : Bool := r

-- laws.eqLinear
noncomputable def E_laws_eqLinear : Entry where
  params := [.v (.pair .int (.pair .int (.slice (.slice .int)))), .v (.pair .int (.pair .int (.slice (.slice .int))))]
  results := [.v .bool]
  B := Bool
  run := fun a => laws_eqLinear a.1 a.2
  out := fun b => ((), ())
  res := fun b => b

noncomputable def C_laws_eqLinear : Cx where
  tt := tblTT tt
  T := tblT [(10, E_laws_eqIntSS)]
  L := tblL []
  dep := fun i => 0
  n := 2

noncomputable def D_laws_eqLinear : Code := Try.f9.body.getD .skip
noncomputable def N_laws_eqLinear (_ : outs [.v (.pair .int (.pair .int (.slice (.slice .int)))), .v (.pair .int (.pair .int (.slice (.slice .int))))]) (r : dens [.v .bool]) : Bool := r

-- laws.markIntS
noncomputable def E_laws_markIntS : Entry where
  params := [.io .int 0, .v .int]
  results := [.v .int]
  B := (List Int) × Int
  run := fun a => laws_markIntS a.1 a.2
  out := fun b => (b.1, ())
  res := fun b => b.2

noncomputable def S_laws_markIntS_L2 (n : Nat) : LoopSpec where
  sh := [(0, .io .int 0), (1, .v .int), (5, .v .int)]
  ex := [(.exit 0, [(0, .io .int 0), (1, .v .int)])]
  run := laws_markIntS_L2 n

noncomputable def C_laws_markIntS : Cx where
  tt := tblTT tt
  T := tblT []
  L := tblL [(2, S_laws_markIntS_L2 fuel)]
  dep := fun i => 0
  n := 2

noncomputable def B_laws_markIntS_L2 : Code := (Try.f21.body.bind (loopBody 2)).getD .skip
noncomputable def D_laws_markIntS : Code := Try.f21.body.getD .skip
noncomputable def N_laws_markIntS (o : outs [.io .int 0, .v .int]) (r : dens [.v .int]) : (List Int) × Int := (o.1, r)

-- laws.markIntSS
noncomputable def E_laws_markIntSS : Entry where
  params := [.io (.slice .int) 1, .v .int]
  results := [.v .int]
  B := (List (List Int)) × Int
  run := fun a => laws_markIntSS a.1 a.2
  out := fun b => (b.1, ())
  res := fun b => b.2

noncomputable def S_laws_markIntSS_L2 (n : Nat) : LoopSpec where
  sh := [(0, .io (.slice .int) 1), (1, .v .int), (5, .v .int)]
  ex := [(.exit 0, [(0, .io (.slice .int) 1), (1, .v .int)])]
  run := laws_markIntSS_L2 n

noncomputable def C_laws_markIntSS : Cx where
  tt := tblTT tt
  T := tblT [(21, E_laws_markIntS)]
  L := tblL [(2, S_laws_markIntSS_L2 fuel)]
  dep := fun i => 0
  n := 2

noncomputable def B_laws_markIntSS_L2 : Code := (Try.f11.body.bind (loopBody 2)).getD .skip
noncomputable def D_laws_markIntSS : Code := Try.f11.body.getD .skip
noncomputable def N_laws_markIntSS (o : outs [.io (.slice .int) 1, .v .int]) (r : dens [.v .int]) : (List (List Int)) × Int := (o.1, r)

-- laws.markLinear
noncomputable def E_laws_markLinear : Entry where
  params := [.pr (.v .int) (.pr (.v .int) (.io (.slice .int) 1)), .v .int]
  results := [.v .int]
  B := (Unit × (Unit × (List (List Int)))) × Int
  run := fun a => laws_markLinear a.1 a.2
  out := fun b => (b.1, ())
  res := fun b => b.2

noncomputable def C_laws_markLinear : Cx where
  tt := tblTT tt
  T := tblT [(11, E_laws_markIntSS)]
  L := tblL []
  dep := fun i => 0
  n := 2

noncomputable def D_laws_markLinear : Code := Try.f12.body.getD .skip
noncomputable def N_laws_markLinear (o : outs [.pr (.v .int) (.pr (.v .int) (.io (.slice .int) 1)), .v .int]) (r : dens [.v .int]) : (Unit × (Unit × (List (List Int)))) × Int := (o.1, r)

-- laws.heldIntS
noncomputable def E_laws_heldIntS : Entry where
  params := [.v (.slice .int), .v .int]
  results := [.v .int]
  B := Int
  run := fun a => laws_heldIntS a.1 a.2
  out := fun b => ((), ())
  res := fun b => b

noncomputable def S_laws_heldIntS_L2 (n : Nat) : LoopSpec where
  sh := [(0, .v (.slice .int)), (1, .v .int), (5, .v .int)]
  ex := [(.exit 0, [(1, .v .int)]), (.ret, [(4, .v .int)])]
  run := laws_heldIntS_L2 n

noncomputable def C_laws_heldIntS : Cx where
  tt := tblTT tt
  T := tblT []
  L := tblL [(2, S_laws_heldIntS_L2 fuel)]
  dep := fun i => 0
  n := 2

noncomputable def B_laws_heldIntS_L2 : Code := (Try.f22.body.bind (loopBody 2)).getD .skip
noncomputable def D_laws_heldIntS : Code := Try.f22.body.getD .skip
noncomputable def N_laws_heldIntS (_ : outs [.v (.slice .int), .v .int]) (r : dens [.v .int]) : Int := r

-- laws.heldIntSS
noncomputable def E_laws_heldIntSS : Entry where
  params := [.v (.slice (.slice .int)), .v .int]
  results := [.v .int]
  B := Int
  run := fun a => laws_heldIntSS a.1 a.2
  out := fun b => ((), ())
  res := fun b => b

noncomputable def S_laws_heldIntSS_L2 (n : Nat) : LoopSpec where
  sh := [(0, .v (.slice (.slice .int))), (1, .v .int), (5, .v .int)]
  ex := [(.exit 0, [(1, .v .int)]), (.ret, [(4, .v .int)])]
  run := laws_heldIntSS_L2 n

noncomputable def C_laws_heldIntSS : Cx where
  tt := tblTT tt
  T := tblT [(22, E_laws_heldIntS)]
  L := tblL [(2, S_laws_heldIntSS_L2 fuel)]
  dep := fun i => 0
  n := 2

noncomputable def B_laws_heldIntSS_L2 : Code := (Try.f34.body.bind (loopBody 2)).getD .skip
noncomputable def D_laws_heldIntSS : Code := Try.f34.body.getD .skip
noncomputable def N_laws_heldIntSS (_ : outs [.v (.slice (.slice .int)), .v .int]) (r : dens [.v .int]) : Int := r

-- laws.heldLinear
noncomputable def E_laws_heldLinear : Entry where
  params := [.v (.pair .int (.pair .int (.slice (.slice .int)))), .v .int]
  results := [.v .int]
  B := Int
  run := fun a => laws_heldLinear a.1 a.2
  out := fun b => ((), ())
  res := fun b => b

noncomputable def C_laws_heldLinear : Cx where
  tt := tblTT tt
  T := tblT [(34, E_laws_heldIntSS)]
  L := tblL []
  dep := fun i => 0
  n := 2

noncomputable def D_laws_heldLinear : Code := Try.f13.body.getD .skip
noncomputable def N_laws_heldLinear (_ : outs [.v (.pair .int (.pair .int (.slice (.slice .int)))), .v .int]) (r : dens [.v .int]) : Int := r

-- laws.FnExactEquationsOf
noncomputable def E_laws_FnExactEquationsOf : Entry where
  params := [.v .int, .v .int, .v (.slice (.slice .int))]
  results := [.v .bool]
  B := Bool
  run := fun a => laws_FnExactEquationsOf a.1 a.2.1 a.2.2
  out := fun b => ((), (), ())
  res := fun b => b

noncomputable def C_laws_FnExactEquationsOf : Cx where
  tt := tblTT tt
  T := tblT [(5, E_laws_szIntSS), (6, E_spec_EquationsOf), (7, E_laws_toIntSS), (8, E_impl_EquationsOf), (9, E_laws_eqLinear), (10, E_laws_eqIntSS), (11, E_laws_markIntSS), (12, E_laws_markLinear), (13, E_laws_heldLinear)]
  L := tblL []
  dep := fun i => 0
  n := 3

noncomputable def D_laws_FnExactEquationsOf : Code := Try.f3.body.getD .skip
noncomputable def N_laws_FnExactEquationsOf (_ : outs [.v .int, .v .int, .v (.slice (.slice .int))]) (r : dens [.v .bool]) : Bool := r
end T
