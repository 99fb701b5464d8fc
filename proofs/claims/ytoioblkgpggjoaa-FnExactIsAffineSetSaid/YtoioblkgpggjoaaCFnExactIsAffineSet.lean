/- Contexts of the typed functions; no conditions. -/
import Derived.Test.YtoioblkgpggjoaaV5
import Derived.Test.YtoioblkgpggjoaaProg
import Derived.Test.YtoioblkgpggjoaaPFnExactIsAffineSet
import Derived.KernelRfl
set_option linter.all false
set_option linter.unusedVariables false
set_option maxRecDepth 10000
open Go Go.Va Go.Proofs
namespace T
noncomputable def tt : List (Nat × TI) := [
  (3, { ty := .int }),
  (4, { ty := .bool }),
  (22, { ty := (.slice .int), elem := 3 }),
  (30, { ty := (.slice (.slice .int)), elem := 22 }),
  (71, { ty := (.slice .bool), elem := 4 })]
theorem tabT : tabOk Try.prog tt = true := by kernel_rfl
theorem mixT : Try.prog.follows .mixedOrders = true := by kernel_rfl

-- laws.szIntS
noncomputable def E_laws_szIntS : Entry where
  params := [.v (.slice .int), .v .int]
  results := [.v .int]
  B := Int
  run := fun a => laws_szIntS a.1 a.2
  out := fun b => ((), ())
  res := fun b => b

noncomputable def C_laws_szIntS : Cx where
  tt := tblTT tt
  T := tblT []
  L := tblL []
  dep := fun i => 0
  n := 2

noncomputable def D_laws_szIntS : Code := Try.f44.body.getD .skip
noncomputable def N_laws_szIntS (_ : outs E_laws_szIntS.params) (r : dens E_laws_szIntS.results) : E_laws_szIntS.B := r

-- laws.szIntSS
noncomputable def E_laws_szIntSS : Entry where
  params := [.v (.slice (.slice .int)), .v .int]
  results := [.v .int]
  B := Int
  run := fun a => laws_szIntSS a.1 a.2
  out := fun b => ((), ())
  res := fun b => b

noncomputable def S_laws_szIntSS_L5 (n : Nat) : LoopSpec where
  sh := [(0, .v (.slice (.slice .int))), (1, .v .int), (5, .v .int)]
  ex := [(.exit 0, [(1, .v .int)]), (.ret, [(4, .v .int)])]
  run := laws_szIntSS_L5 n

noncomputable def C_laws_szIntSS : Cx where
  tt := tblTT tt
  T := tblT [(44, E_laws_szIntS)]
  L := tblL [(5, S_laws_szIntSS_L5 fuel)]
  dep := fun i => 0
  n := 2

noncomputable def B_laws_szIntSS_L5 : Code := (Try.f22.body.bind (loopBody 5)).getD .skip
noncomputable def D_laws_szIntSS : Code := Try.f22.body.getD .skip
noncomputable def N_laws_szIntSS (_ : outs E_laws_szIntSS.params) (r : dens E_laws_szIntSS.results) : E_laws_szIntSS.B := r

-- laws.toIntS
noncomputable def E_laws_toIntS : Entry where
  params := [.v (.slice .int)]
  results := [.mv .int 0]
  B := (List Int)
  run := fun a => laws_toIntS a
  out := fun b => ()
  res := fun b => b

noncomputable def S_laws_toIntS_L3 (n : Nat) : LoopSpec where
  sh := [(0, .v (.slice .int)), (3, .mv .int 0), (4, .v .int)]
  ex := [(.exit 0, [(3, .mv .int 0)])]
  run := laws_toIntS_L3 n

noncomputable def C_laws_toIntS : Cx where
  tt := tblTT tt
  T := tblT []
  L := tblL [(3, S_laws_toIntS_L3 fuel)]
  dep := fun i => 0
  n := 1

noncomputable def B_laws_toIntS_L3 : Code := (Try.f19.body.bind (loopBody 3)).getD .skip
noncomputable def D_laws_toIntS : Code := Try.f19.body.getD .skip
noncomputable def N_laws_toIntS (_ : outs E_laws_toIntS.params) (r : dens E_laws_toIntS.results) : E_laws_toIntS.B := r

-- laws.toIntSS
noncomputable def E_laws_toIntSS : Entry where
  params := [.v (.slice (.slice .int))]
  results := [.mv (.slice .int) 1]
  B := (List (List Int))
  run := fun a => laws_toIntSS a
  out := fun b => ()
  res := fun b => b

noncomputable def S_laws_toIntSS_L3 (n : Nat) : LoopSpec where
  sh := [(0, .v (.slice (.slice .int))), (3, .mv (.slice .int) 1), (4, .v .int)]
  ex := [(.exit 0, [(3, .mv (.slice .int) 1)])]
  run := laws_toIntSS_L3 n

noncomputable def C_laws_toIntSS : Cx where
  tt := tblTT tt
  T := tblT [(19, E_laws_toIntS)]
  L := tblL [(3, S_laws_toIntSS_L3 fuel)]
  dep := fun i => match i with
    | 7 => 1
    | _ => 0
  n := 1

noncomputable def B_laws_toIntSS_L3 : Code := (Try.f24.body.bind (loopBody 3)).getD .skip
noncomputable def D_laws_toIntSS : Code := Try.f24.body.getD .skip
noncomputable def N_laws_toIntSS (_ : outs E_laws_toIntSS.params) (r : dens E_laws_toIntSS.results) : E_laws_toIntSS.B := r

-- spec.l21Prime
noncomputable def E_spec_l21Prime : Entry where
  params := [.v .int]
  results := [.v .bool]
  B := Bool
  run := fun a => spec_l21Prime a
  out := fun b => ()
  res := fun b => b

noncomputable def C_spec_l21Prime : Cx where
  tt := tblTT tt
  T := tblT []
  L := tblL []
  dep := fun i => 0
  n := 1

noncomputable def D_spec_l21Prime : Code := Try.f45.body.getD .skip
noncomputable def N_spec_l21Prime (_ : outs E_spec_l21Prime.params) (r : dens E_spec_l21Prime.results) : E_spec_l21Prime.B := r

-- spec.l1In
noncomputable def E_spec_l1In : Entry where
  params := [.v .int, .v .int, .v .int]
  results := [.v .bool]
  B := Bool
  run := fun a => spec_l1In a.1 a.2.1 a.2.2
  out := fun b => ((), (), ())
  res := fun b => b

noncomputable def C_spec_l1In : Cx where
  tt := tblTT tt
  T := tblT []
  L := tblL []
  dep := fun i => 0
  n := 3

noncomputable def D_spec_l1In : Code := Try.f50.body.getD .skip
noncomputable def N_spec_l1In (_ : outs E_spec_l1In.params) (r : dens E_spec_l1In.results) : E_spec_l1In.B := r

-- spec.l6Size
noncomputable def E_spec_l6Size : Entry where
  params := [.v .int]
  results := [.v .bool]
  B := Bool
  run := fun a => spec_l6Size a
  out := fun b => ()
  res := fun b => b

noncomputable def C_spec_l6Size : Cx where
  tt := tblTT tt
  T := tblT [(50, E_spec_l1In)]
  L := tblL []
  dep := fun i => 0
  n := 1

noncomputable def D_spec_l6Size : Code := Try.f33.body.getD .skip
noncomputable def N_spec_l6Size (_ : outs E_spec_l6Size.params) (r : dens E_spec_l6Size.results) : E_spec_l6Size.B := r

-- spec.l2Pow
noncomputable def E_spec_l2Pow : Entry where
  params := [.v .int, .v .int]
  results := [.v .int]
  B := Int
  run := fun a => spec_l2Pow a.1 a.2
  out := fun b => ((), ())
  res := fun b => b

noncomputable def S_spec_l2Pow_L2 (n : Nat) : LoopSpec where
  sh := [(0, .v .int), (1, .v .int), (5, .v .int)]
  ex := [(.exit 0, [(5, .v .int)])]
  run := spec_l2Pow_L2 n

noncomputable def C_spec_l2Pow : Cx where
  tt := tblTT tt
  T := tblT []
  L := tblL [(2, S_spec_l2Pow_L2 fuel)]
  dep := fun i => 0
  n := 2

noncomputable def B_spec_l2Pow_L2 : Code := (Try.f52.body.bind (loopBody 2)).getD .skip
noncomputable def D_spec_l2Pow : Code := Try.f52.body.getD .skip
noncomputable def N_spec_l2Pow (_ : outs E_spec_l2Pow.params) (r : dens E_spec_l2Pow.results) : E_spec_l2Pow.B := r

-- spec.l2Elements
noncomputable def E_spec_l2Elements : Entry where
  params := [.v .int, .v (.slice .int)]
  results := [.v .bool]
  B := Bool
  run := fun a => spec_l2Elements a.1 a.2
  out := fun b => ((), ())
  res := fun b => b

noncomputable def S_spec_l2Elements_L2 (n : Nat) : LoopSpec where
  sh := [(0, .v .int), (1, .v (.slice .int)), (5, .v .int)]
  ex := [(.exit 0, []), (.ret, [(4, .v .bool)])]
  run := spec_l2Elements_L2 n

noncomputable def C_spec_l2Elements : Cx where
  tt := tblTT tt
  T := tblT [(50, E_spec_l1In)]
  L := tblL [(2, S_spec_l2Elements_L2 fuel)]
  dep := fun i => 0
  n := 2

noncomputable def B_spec_l2Elements_L2 : Code := (Try.f60.body.bind (loopBody 2)).getD .skip
noncomputable def D_spec_l2Elements : Code := Try.f60.body.getD .skip
noncomputable def N_spec_l2Elements (_ : outs E_spec_l2Elements.params) (r : dens E_spec_l2Elements.results) : E_spec_l2Elements.B := r

-- spec.l8Tuple
noncomputable def E_spec_l8Tuple : Entry where
  params := [.v .int, .v .int, .v (.slice .int)]
  results := [.v .bool]
  B := Bool
  run := fun a => spec_l8Tuple a.1 a.2.1 a.2.2
  out := fun b => ((), (), ())
  res := fun b => b

noncomputable def C_spec_l8Tuple : Cx where
  tt := tblTT tt
  T := tblT [(60, E_spec_l2Elements)]
  L := tblL []
  dep := fun i => 0
  n := 3

noncomputable def D_spec_l8Tuple : Code := Try.f43.body.getD .skip
noncomputable def N_spec_l8Tuple (_ : outs E_spec_l8Tuple.params) (r : dens E_spec_l8Tuple.results) : E_spec_l8Tuple.B := r

-- spec.l3Less
noncomputable def E_spec_l3Less : Entry where
  params := [.v (.slice .int), .v (.slice .int)]
  results := [.v .bool]
  B := Bool
  run := fun a => spec_l3Less a.1 a.2
  out := fun b => ((), ())
  res := fun b => b

noncomputable def S_spec_l3Less_L2 (n : Nat) : LoopSpec where
  sh := [(0, .v (.slice .int)), (1, .v (.slice .int)), (5, .v .int)]
  ex := [(.exit 0, []), (.ret, [(4, .v .bool)])]
  run := spec_l3Less_L2 n

noncomputable def C_spec_l3Less : Cx where
  tt := tblTT tt
  T := tblT []
  L := tblL [(2, S_spec_l3Less_L2 fuel)]
  dep := fun i => 0
  n := 2

noncomputable def B_spec_l3Less_L2 : Code := (Try.f61.body.bind (loopBody 2)).getD .skip
noncomputable def D_spec_l3Less : Code := Try.f61.body.getD .skip
noncomputable def N_spec_l3Less (_ : outs E_spec_l3Less.params) (r : dens E_spec_l3Less.results) : E_spec_l3Less.B := r

-- spec.l21Set
noncomputable def E_spec_l21Set : Entry where
  params := [.v .int, .v .int, .v (.slice (.slice .int))]
  results := [.v .bool]
  B := Bool
  run := fun a => spec_l21Set a.1 a.2.1 a.2.2
  out := fun b => ((), (), ())
  res := fun b => b

noncomputable def S_spec_l21Set_L4 (n : Nat) : LoopSpec where
  sh := [(0, .v .int), (1, .v .int), (2, .v (.slice (.slice .int))), (7, .v .int)]
  ex := [(.exit 0, []), (.ret, [(6, .v .bool)])]
  run := spec_l21Set_L4 n

noncomputable def C_spec_l21Set : Cx where
  tt := tblTT tt
  T := tblT [(33, E_spec_l6Size), (43, E_spec_l8Tuple), (50, E_spec_l1In), (52, E_spec_l2Pow), (61, E_spec_l3Less)]
  L := tblL [(4, S_spec_l21Set_L4 fuel)]
  dep := fun i => 0
  n := 3

noncomputable def B_spec_l21Set_L4 : Code := (Try.f46.body.bind (loopBody 4)).getD .skip
noncomputable def D_spec_l21Set : Code := Try.f46.body.getD .skip
noncomputable def N_spec_l21Set (_ : outs E_spec_l21Set.params) (r : dens E_spec_l21Set.results) : E_spec_l21Set.B := r

-- spec.l21Less
noncomputable def E_spec_l21Less : Entry where
  params := [.v .int, .v (.slice .int), .v (.slice .int), .v .int]
  results := [.mv .int 0]
  B := (List Int)
  run := fun a => spec_l21Less a.1 a.2.1 a.2.2.1 a.2.2.2
  out := fun b => ((), (), (), ())
  res := fun b => b

noncomputable def S_spec_l21Less_L3 (n : Nat) : LoopSpec where
  sh := [(0, .v .int), (1, .v (.slice .int)), (2, .v (.slice .int)), (3, .v .int), (9, .mv .int 0), (10, .v .int)]
  ex := [(.exit 0, [(9, .mv .int 0)])]
  run := spec_l21Less_L3 n

noncomputable def C_spec_l21Less : Cx where
  tt := tblTT tt
  T := tblT []
  L := tblL [(3, S_spec_l21Less_L3 fuel)]
  dep := fun i => 0
  n := 4

noncomputable def B_spec_l21Less_L3 : Code := (Try.f62.body.bind (loopBody 3)).getD .skip
noncomputable def D_spec_l21Less : Code := Try.f62.body.getD .skip
noncomputable def N_spec_l21Less (_ : outs E_spec_l21Less.params) (r : dens E_spec_l21Less.results) : E_spec_l21Less.B := r

-- spec.l1Same
noncomputable def E_spec_l1Same : Entry where
  params := [.v (.slice .int), .v (.slice .int)]
  results := [.v .bool]
  B := Bool
  run := fun a => spec_l1Same a.1 a.2
  out := fun b => ((), ())
  res := fun b => b

noncomputable def S_spec_l1Same_L4 (n : Nat) : LoopSpec where
  sh := [(0, .v (.slice .int)), (1, .v (.slice .int)), (5, .v .int)]
  ex := [(.exit 0, []), (.ret, [(4, .v .bool)])]
  run := spec_l1Same_L4 n

noncomputable def C_spec_l1Same : Cx where
  tt := tblTT tt
  T := tblT []
  L := tblL [(4, S_spec_l1Same_L4 fuel)]
  dep := fun i => 0
  n := 2

noncomputable def B_spec_l1Same_L4 : Code := (Try.f69.body.bind (loopBody 4)).getD .skip
noncomputable def D_spec_l1Same : Code := Try.f69.body.getD .skip
noncomputable def N_spec_l1Same (_ : outs E_spec_l1Same.params) (r : dens E_spec_l1Same.results) : E_spec_l1Same.B := r

-- spec.l8Find
noncomputable def E_spec_l8Find : Entry where
  params := [.v (.slice (.slice .int)), .v (.slice .int)]
  results := [.v .int, .v .bool]
  B := Int × Bool
  run := fun a => spec_l8Find a.1 a.2
  out := fun b => ((), ())
  res := fun b => (b.1, b.2)

noncomputable def S_spec_l8Find_L2 (n : Nat) : LoopSpec where
  sh := [(0, .v (.slice (.slice .int))), (1, .v (.slice .int)), (6, .v .int), (7, .v .int)]
  ex := [(.exit 0, [(0, .v (.slice (.slice .int))), (1, .v (.slice .int)), (6, .v .int)])]
  run := spec_l8Find_L2 n

noncomputable def C_spec_l8Find : Cx where
  tt := tblTT tt
  T := tblT [(61, E_spec_l3Less), (69, E_spec_l1Same)]
  L := tblL [(2, S_spec_l8Find_L2 fuel)]
  dep := fun i => 0
  n := 2

noncomputable def B_spec_l8Find_L2 : Code := (Try.f63.body.bind (loopBody 2)).getD .skip
noncomputable def D_spec_l8Find : Code := Try.f63.body.getD .skip
noncomputable def N_spec_l8Find (_ : outs E_spec_l8Find.params) (r : dens E_spec_l8Find.results) : E_spec_l8Find.B := (r.1, r.2)

-- spec.l21Affine
noncomputable def E_spec_l21Affine : Entry where
  params := [.v .int, .v (.slice (.slice .int))]
  results := [.v .bool]
  B := Bool
  run := fun a => spec_l21Affine a.1 a.2
  out := fun b => ((), ())
  res := fun b => b

noncomputable def S_spec_l21Affine_L9 (n : Nat) : LoopSpec where
  sh := [(0, .v .int), (1, .v (.slice (.slice .int))), (5, .v .int), (6, .v .int), (7, .mv .int 0), (8, .v .int)]
  ex := [(.exit 4, [(0, .v .int), (1, .v (.slice (.slice .int))), (5, .v .int), (6, .v .int), (7, .mv .int 0)])]
  run := spec_l21Affine_L9 n

noncomputable def S_spec_l21Affine_L5 (n : Nat) : LoopSpec where
  sh := [(0, .v .int), (1, .v (.slice (.slice .int))), (5, .v .int), (6, .v .int)]
  ex := [(.exit 2, [(0, .v .int), (1, .v (.slice (.slice .int))), (5, .v .int)]), (.ret, [(4, .v .bool)])]
  run := spec_l21Affine_L5 n

noncomputable def S_spec_l21Affine_L2 (n : Nat) : LoopSpec where
  sh := [(0, .v .int), (1, .v (.slice (.slice .int))), (5, .v .int)]
  ex := [(.exit 0, []), (.ret, [(4, .v .bool)])]
  run := spec_l21Affine_L2 n

noncomputable def C_spec_l21Affine : Cx where
  tt := tblTT tt
  T := tblT [(62, E_spec_l21Less), (63, E_spec_l8Find)]
  L := tblL [(9, S_spec_l21Affine_L9 fuel), (5, S_spec_l21Affine_L5 fuel), (2, S_spec_l21Affine_L2 fuel)]
  dep := fun i => 0
  n := 2

noncomputable def B_spec_l21Affine_L9 : Code := (Try.f47.body.bind (loopBody 9)).getD .skip
noncomputable def B_spec_l21Affine_L5 : Code := (Try.f47.body.bind (loopBody 5)).getD .skip
noncomputable def B_spec_l21Affine_L2 : Code := (Try.f47.body.bind (loopBody 2)).getD .skip
noncomputable def D_spec_l21Affine : Code := Try.f47.body.getD .skip
noncomputable def N_spec_l21Affine (_ : outs E_spec_l21Affine.params) (r : dens E_spec_l21Affine.results) : E_spec_l21Affine.B := r

-- spec.IsAffineSet
noncomputable def E_spec_IsAffineSet : Entry where
  params := [.v .int, .v .int, .v (.slice (.slice .int))]
  results := [.v .bool, .v .bool]
  B := Bool × Bool
  run := fun a => spec_IsAffineSet a.1 a.2.1 a.2.2
  out := fun b => ((), (), ())
  res := fun b => (b.1, b.2)

noncomputable def C_spec_IsAffineSet : Cx where
  tt := tblTT tt
  T := tblT [(45, E_spec_l21Prime), (46, E_spec_l21Set), (47, E_spec_l21Affine)]
  L := tblL []
  dep := fun i => 0
  n := 3

noncomputable def D_spec_IsAffineSet : Code := Try.f23.body.getD .skip
noncomputable def N_spec_IsAffineSet (_ : outs E_spec_IsAffineSet.params) (r : dens E_spec_IsAffineSet.results) : E_spec_IsAffineSet.B := (r.1, r.2)

-- impl.isPrime
noncomputable def E_impl_isPrime : Entry where
  params := [.v .int]
  results := [.v .bool]
  B := Bool
  run := fun a => impl_isPrime a
  out := fun b => ()
  res := fun b => b

noncomputable def C_impl_isPrime : Cx where
  tt := tblTT tt
  T := tblT []
  L := tblL []
  dep := fun i => 0
  n := 1

noncomputable def D_impl_isPrime : Code := Try.f41.body.getD .skip
noncomputable def N_impl_isPrime (_ : outs E_impl_isPrime.params) (r : dens E_impl_isPrime.results) : E_impl_isPrime.B := r

-- impl.isSize
noncomputable def E_impl_isSize : Entry where
  params := [.v .int]
  results := [.v .bool]
  B := Bool
  run := fun a => impl_isSize a
  out := fun b => ()
  res := fun b => b

noncomputable def C_impl_isSize : Cx where
  tt := tblTT tt
  T := tblT []
  L := tblL []
  dep := fun i => 0
  n := 1

noncomputable def D_impl_isSize : Code := Try.f35.body.getD .skip
noncomputable def N_impl_isSize (_ : outs E_impl_isSize.params) (r : dens E_impl_isSize.results) : E_impl_isSize.B := r

-- impl.inSize
noncomputable def E_impl_inSize : Entry where
  params := [.v (.slice .int), .v .int]
  results := [.v .bool]
  B := Bool
  run := fun a => impl_inSize a.1 a.2
  out := fun b => ((), ())
  res := fun b => b

noncomputable def S_impl_inSize_L2 (n : Nat) : LoopSpec where
  sh := [(1, .v .int), (7, .v (.slice .int)), (8, .v .int), (9, .v .int)]
  ex := [(.exit 0, []), (.ret, [(4, .v .bool)])]
  run := impl_inSize_L2 n

noncomputable def C_impl_inSize : Cx where
  tt := tblTT tt
  T := tblT []
  L := tblL [(2, S_impl_inSize_L2 fuel)]
  dep := fun i => 0
  n := 2

noncomputable def B_impl_inSize_L2 : Code := (Try.f42.body.bind (loopBody 2)).getD .skip
noncomputable def D_impl_inSize : Code := Try.f42.body.getD .skip
noncomputable def N_impl_inSize (_ : outs E_impl_inSize.params) (r : dens E_impl_inSize.results) : E_impl_inSize.B := r

-- impl.compareLists
noncomputable def E_impl_compareLists : Entry where
  params := [.v (.slice .int), .v (.slice .int)]
  results := [.v .int]
  B := Int
  run := fun a => impl_compareLists a.1 a.2
  out := fun b => ((), ())
  res := fun b => b

noncomputable def S_impl_compareLists_L2 (n : Nat) : LoopSpec where
  sh := [(0, .v (.slice .int)), (1, .v (.slice .int)), (5, .v .int)]
  ex := [(.exit 0, [(0, .v (.slice .int)), (1, .v (.slice .int))]), (.ret, [(4, .v .int)])]
  run := impl_compareLists_L2 n

noncomputable def C_impl_compareLists : Cx where
  tt := tblTT tt
  T := tblT []
  L := tblL [(2, S_impl_compareLists_L2 fuel)]
  dep := fun i => 0
  n := 2

noncomputable def B_impl_compareLists_L2 : Code := (Try.f64.body.bind (loopBody 2)).getD .skip
noncomputable def D_impl_compareLists : Code := Try.f64.body.getD .skip
noncomputable def N_impl_compareLists (_ : outs E_impl_compareLists.params) (r : dens E_impl_compareLists.results) : E_impl_compareLists.B := r

-- impl.isTupleSet
noncomputable def E_impl_isTupleSet : Entry where
  params := [.v .int, .v .int, .v (.slice (.slice .int))]
  results := [.v .bool]
  B := Bool
  run := fun a => impl_isTupleSet a.1 a.2.1 a.2.2
  out := fun b => ((), (), ())
  res := fun b => b

noncomputable def S_impl_isTupleSet_L4 (n : Nat) : LoopSpec where
  sh := [(0, .v .int), (1, .v .int), (2, .v (.slice (.slice .int))), (20, .v (.slice (.slice .int))), (21, .v .int), (22, .v .int)]
  ex := [(.exit 0, []), (.ret, [(6, .v .bool)])]
  run := impl_isTupleSet_L4 n

noncomputable def C_impl_isTupleSet : Cx where
  tt := tblTT tt
  T := tblT [(35, E_impl_isSize), (42, E_impl_inSize), (64, E_impl_compareLists)]
  L := tblL [(4, S_impl_isTupleSet_L4 fuel)]
  dep := fun i => 0
  n := 3

noncomputable def B_impl_isTupleSet_L4 : Code := (Try.f48.body.bind (loopBody 4)).getD .skip
noncomputable def D_impl_isTupleSet : Code := Try.f48.body.getD .skip
noncomputable def N_impl_isTupleSet (_ : outs E_impl_isTupleSet.params) (r : dens E_impl_isTupleSet.results) : E_impl_isTupleSet.B := r

-- impl.power
noncomputable def E_impl_power : Entry where
  params := [.v .int, .v .int]
  results := [.v .int]
  B := Int
  run := fun a => impl_power a.1 a.2
  out := fun b => ((), ())
  res := fun b => b

noncomputable def S_impl_power_L2 (n : Nat) : LoopSpec where
  sh := [(0, .v .int), (1, .v .int), (5, .v .int)]
  ex := [(.exit 0, [(5, .v .int)])]
  run := impl_power_L2 n

noncomputable def C_impl_power : Cx where
  tt := tblTT tt
  T := tblT []
  L := tblL [(2, S_impl_power_L2 fuel)]
  dep := fun i => 0
  n := 2

noncomputable def B_impl_power_L2 : Code := (Try.f65.body.bind (loopBody 2)).getD .skip
noncomputable def D_impl_power : Code := Try.f65.body.getD .skip
noncomputable def N_impl_power (_ : outs E_impl_power.params) (r : dens E_impl_power.results) : E_impl_power.B := r

-- impl.indexOf
noncomputable def E_impl_indexOf : Entry where
  params := [.v (.slice .int), .v .int]
  results := [.v .int]
  B := Int
  run := fun a => impl_indexOf a.1 a.2
  out := fun b => ((), ())
  res := fun b => b

noncomputable def S_impl_indexOf_L3 (n : Nat) : LoopSpec where
  sh := [(1, .v .int), (5, .v .int), (8, .v (.slice .int)), (9, .v .int), (10, .v .int)]
  ex := [(.exit 0, [(5, .v .int)])]
  run := impl_indexOf_L3 n

noncomputable def C_impl_indexOf : Cx where
  tt := tblTT tt
  T := tblT []
  L := tblL [(3, S_impl_indexOf_L3 fuel)]
  dep := fun i => 0
  n := 2

noncomputable def B_impl_indexOf_L3 : Code := (Try.f66.body.bind (loopBody 3)).getD .skip
noncomputable def D_impl_indexOf : Code := Try.f66.body.getD .skip
noncomputable def N_impl_indexOf (_ : outs E_impl_indexOf.params) (r : dens E_impl_indexOf.results) : E_impl_indexOf.B := r

-- impl.isAffine
noncomputable def E_impl_isAffine : Entry where
  params := [.v .int, .v (.slice (.slice .int))]
  results := [.v .bool]
  B := Bool
  run := fun a => impl_isAffine a.1 a.2
  out := fun b => ((), ())
  res := fun b => b

noncomputable def S_impl_isAffine_L6 (n : Nat) : LoopSpec where
  sh := [(0, .v .int), (1, .v (.slice (.slice .int))), (5, .v (.slice .int)), (6, .mv .bool 0), (27, .v (.slice (.slice .int))), (28, .v .int), (29, .v .int)]
  ex := [(.exit 0, [(0, .v .int), (1, .v (.slice (.slice .int))), (5, .v (.slice .int)), (6, .mv .bool 0)])]
  run := impl_isAffine_L6 n

noncomputable def S_impl_isAffine_L18 (n : Nat) : LoopSpec where
  sh := [(0, .v .int), (1, .v (.slice (.slice .int))), (5, .v (.slice .int)), (6, .mv .bool 0), (10, .v (.slice .int)), (12, .v (.slice .int)), (13, .v .int), (39, .v (.slice (.slice .int))), (40, .v .int), (41, .v .int), (45, .v (.slice (.slice .int))), (46, .v .int), (47, .v .int), (51, .v (.slice .int)), (52, .v .int), (53, .v .int)]
  ex := [(.exit 6, [(0, .v .int), (1, .v (.slice (.slice .int))), (5, .v (.slice .int)), (6, .mv .bool 0), (10, .v (.slice .int)), (13, .v .int), (39, .v (.slice (.slice .int))), (40, .v .int), (41, .v .int), (45, .v (.slice (.slice .int))), (46, .v .int), (47, .v .int)])]
  run := impl_isAffine_L18 n

noncomputable def S_impl_isAffine_L14 (n : Nat) : LoopSpec where
  sh := [(0, .v .int), (1, .v (.slice (.slice .int))), (5, .v (.slice .int)), (6, .mv .bool 0), (10, .v (.slice .int)), (39, .v (.slice (.slice .int))), (40, .v .int), (41, .v .int), (45, .v (.slice (.slice .int))), (46, .v .int), (47, .v .int)]
  ex := [(.exit 4, [(0, .v .int), (1, .v (.slice (.slice .int))), (5, .v (.slice .int)), (6, .mv .bool 0), (39, .v (.slice (.slice .int))), (40, .v .int), (41, .v .int)]), (.ret, [(4, .v .bool)])]
  run := impl_isAffine_L14 n

noncomputable def S_impl_isAffine_L11 (n : Nat) : LoopSpec where
  sh := [(0, .v .int), (1, .v (.slice (.slice .int))), (5, .v (.slice .int)), (6, .mv .bool 0), (39, .v (.slice (.slice .int))), (40, .v .int), (41, .v .int)]
  ex := [(.exit 2, []), (.ret, [(4, .v .bool)])]
  run := impl_isAffine_L11 n

noncomputable def C_impl_isAffine : Cx where
  tt := tblTT tt
  T := tblT [(65, E_impl_power), (66, E_impl_indexOf)]
  L := tblL [(6, S_impl_isAffine_L6 fuel), (18, S_impl_isAffine_L18 fuel), (14, S_impl_isAffine_L14 fuel), (11, S_impl_isAffine_L11 fuel)]
  dep := fun i => 0
  n := 2

noncomputable def B_impl_isAffine_L6 : Code := (Try.f49.body.bind (loopBody 6)).getD .skip
noncomputable def B_impl_isAffine_L18 : Code := (Try.f49.body.bind (loopBody 18)).getD .skip
noncomputable def B_impl_isAffine_L14 : Code := (Try.f49.body.bind (loopBody 14)).getD .skip
noncomputable def B_impl_isAffine_L11 : Code := (Try.f49.body.bind (loopBody 11)).getD .skip
noncomputable def D_impl_isAffine : Code := Try.f49.body.getD .skip
noncomputable def N_impl_isAffine (_ : outs E_impl_isAffine.params) (r : dens E_impl_isAffine.results) : E_impl_isAffine.B := r

-- impl.IsAffineSet
noncomputable def E_impl_IsAffineSet : Entry where
  params := [.v .int, .v .int, .v (.slice (.slice .int))]
  results := [.v .bool, .v .bool]
  B := Bool × Bool
  run := fun a => impl_IsAffineSet a.1 a.2.1 a.2.2
  out := fun b => ((), (), ())
  res := fun b => (b.1, b.2)

noncomputable def C_impl_IsAffineSet : Cx where
  tt := tblTT tt
  T := tblT [(41, E_impl_isPrime), (48, E_impl_isTupleSet), (49, E_impl_isAffine)]
  L := tblL []
  dep := fun i => 0
  n := 3

noncomputable def D_impl_IsAffineSet : Code := Try.f25.body.getD .skip
noncomputable def N_impl_IsAffineSet (_ : outs E_impl_IsAffineSet.params) (r : dens E_impl_IsAffineSet.results) : E_impl_IsAffineSet.B := (r.1, r.2)

-- laws.eqIntS
noncomputable def E_laws_eqIntS : Entry where
  params := [.v (.slice .int), .v (.slice .int)]
  results := [.v .bool]
  B := Bool
  run := fun a => laws_eqIntS a.1 a.2
  out := fun b => ((), ())
  res := fun b => b

noncomputable def S_laws_eqIntS_L4 (n : Nat) : LoopSpec where
  sh := [(0, .v (.slice .int)), (1, .v (.slice .int)), (5, .v .int)]
  ex := [(.exit 0, []), (.ret, [(4, .v .bool)])]
  run := laws_eqIntS_L4 n

noncomputable def C_laws_eqIntS : Cx where
  tt := tblTT tt
  T := tblT []
  L := tblL [(4, S_laws_eqIntS_L4 fuel)]
  dep := fun i => 0
  n := 2

noncomputable def B_laws_eqIntS_L4 : Code := (Try.f21.body.bind (loopBody 4)).getD .skip
noncomputable def D_laws_eqIntS : Code := Try.f21.body.getD .skip
noncomputable def N_laws_eqIntS (_ : outs E_laws_eqIntS.params) (r : dens E_laws_eqIntS.results) : E_laws_eqIntS.B := r

-- laws.eqIntSS
noncomputable def E_laws_eqIntSS : Entry where
  params := [.v (.slice (.slice .int)), .v (.slice (.slice .int))]
  results := [.v .bool]
  B := Bool
  run := fun a => laws_eqIntSS a.1 a.2
  out := fun b => ((), ())
  res := fun b => b

noncomputable def S_laws_eqIntSS_L4 (n : Nat) : LoopSpec where
  sh := [(0, .v (.slice (.slice .int))), (1, .v (.slice (.slice .int))), (5, .v .int)]
  ex := [(.exit 0, []), (.ret, [(4, .v .bool)])]
  run := laws_eqIntSS_L4 n

noncomputable def C_laws_eqIntSS : Cx where
  tt := tblTT tt
  T := tblT [(21, E_laws_eqIntS)]
  L := tblL [(4, S_laws_eqIntSS_L4 fuel)]
  dep := fun i => 0
  n := 2

noncomputable def B_laws_eqIntSS_L4 : Code := (Try.f26.body.bind (loopBody 4)).getD .skip
noncomputable def D_laws_eqIntSS : Code := Try.f26.body.getD .skip
noncomputable def N_laws_eqIntSS (_ : outs E_laws_eqIntSS.params) (r : dens E_laws_eqIntSS.results) : E_laws_eqIntSS.B := r

-- laws.FnExactIsAffineSet
noncomputable def E_laws_FnExactIsAffineSet : Entry where
  params := [.v .int, .v .int, .v (.slice (.slice .int))]
  results := [.v .bool]
  B := Bool
  run := fun a => laws_FnExactIsAffineSet a.1 a.2.1 a.2.2
  out := fun b => ((), (), ())
  res := fun b => b

noncomputable def C_laws_FnExactIsAffineSet : Cx where
  tt := tblTT tt
  T := tblT [(22, E_laws_szIntSS), (23, E_spec_IsAffineSet), (24, E_laws_toIntSS), (25, E_impl_IsAffineSet), (26, E_laws_eqIntSS)]
  L := tblL []
  dep := fun i => 0
  n := 3

noncomputable def D_laws_FnExactIsAffineSet : Code := Try.f6.body.getD .skip
noncomputable def N_laws_FnExactIsAffineSet (_ : outs E_laws_FnExactIsAffineSet.params) (r : dens E_laws_FnExactIsAffineSet.results) : E_laws_FnExactIsAffineSet.B := r
end T
