/- Contexts of the typed functions; no conditions. -/
import Derived.Test.YtoioblkgpggjoaaV5
import Derived.Test.YtoioblkgpggjoaaProg
import Derived.Test.YtoioblkgpggjoaaPFnExactIsLinearRefutation
import Derived.KernelRfl
set_option linter.all false
set_option linter.unusedVariables false
set_option maxRecDepth 10000
open Go Go.Va Go.Proofs
namespace T
noncomputable def tt : List (Nat × TI) := [
  (2, { ty := .int }),
  (3, { ty := .int }),
  (4, { ty := .bool }),
  (22, { ty := (.slice .int), elem := 3 }),
  (30, { ty := (.slice (.slice .int)), elem := 22 }),
  (32, { ty := (.pair .int (.pair .int (.slice (.slice .int)))), fields := [3, 3, 30] }),
  (35, { ty := (.pair .int (.pair .int (.slice (.slice .int)))), fields := [3, 3, 30] })]
theorem tabT : tabOk Try.prog tt = true := by kernel_rfl
theorem mixT : Try.prog.follows .mixedOrders = true := by kernel_rfl

-- laws.szIntS
noncomputable def E_laws_szIntS : Entry where
  params := [.v (.slice .int), .v .int]
  results := [.v .int]
  B := Int
  run := fun a => laws_szIntS a.1 a.2
  out := fun b => ((), ())
  res := fun b => b

noncomputable def C_laws_szIntS : Cx where
  tt := tblTT tt
  T := tblT []
  L := tblL []
  dep := fun i => 0
  n := 2

noncomputable def D_laws_szIntS : Code := Try.f44.body.getD .skip
noncomputable def N_laws_szIntS (_ : outs E_laws_szIntS.params) (r : dens E_laws_szIntS.results) : E_laws_szIntS.B := r

-- laws.szIntSS
noncomputable def E_laws_szIntSS : Entry where
  params := [.v (.slice (.slice .int)), .v .int]
  results := [.v .int]
  B := Int
  run := fun a => laws_szIntSS a.1 a.2
  out := fun b => ((), ())
  res := fun b => b

noncomputable def S_laws_szIntSS_L5 (n : Nat) : LoopSpec where
  sh := [(0, .v (.slice (.slice .int))), (1, .v .int), (5, .v .int)]
  ex := [(.exit 0, [(1, .v .int)]), (.ret, [(4, .v .int)])]
  run := laws_szIntSS_L5 n

noncomputable def C_laws_szIntSS : Cx where
  tt := tblTT tt
  T := tblT [(44, E_laws_szIntS)]
  L := tblL [(5, S_laws_szIntSS_L5 fuel)]
  dep := fun i => 0
  n := 2

noncomputable def B_laws_szIntSS_L5 : Code := (Try.f22.body.bind (loopBody 5)).getD .skip
noncomputable def D_laws_szIntSS : Code := Try.f22.body.getD .skip
noncomputable def N_laws_szIntSS (_ : outs E_laws_szIntSS.params) (r : dens E_laws_szIntSS.results) : E_laws_szIntSS.B := r

-- laws.szLinear
noncomputable def E_laws_szLinear : Entry where
  params := [.v (.pair .int (.pair .int (.slice (.slice .int)))), .v .int]
  results := [.v .int]
  B := Int
  run := fun a => laws_szLinear a.1 a.2
  out := fun b => ((), ())
  res := fun b => b

noncomputable def C_laws_szLinear : Cx where
  tt := tblTT tt
  T := tblT [(22, E_laws_szIntSS)]
  L := tblL []
  dep := fun i => 0
  n := 2

noncomputable def D_laws_szLinear : Code := Try.f13.body.getD .skip
noncomputable def N_laws_szLinear (_ : outs E_laws_szLinear.params) (r : dens E_laws_szLinear.results) : E_laws_szLinear.B := r

-- laws.toIntS
noncomputable def E_laws_toIntS : Entry where
  params := [.v (.slice .int)]
  results := [.mv .int 0]
  B := (List Int)
  run := fun a => laws_toIntS a
  out := fun b => ()
  res := fun b => b

noncomputable def S_laws_toIntS_L3 (n : Nat) : LoopSpec where
  sh := [(0, .v (.slice .int)), (3, .mv .int 0), (4, .v .int)]
  ex := [(.exit 0, [(3, .mv .int 0)])]
  run := laws_toIntS_L3 n

noncomputable def C_laws_toIntS : Cx where
  tt := tblTT tt
  T := tblT []
  L := tblL [(3, S_laws_toIntS_L3 fuel)]
  dep := fun i => 0
  n := 1

noncomputable def B_laws_toIntS_L3 : Code := (Try.f19.body.bind (loopBody 3)).getD .skip
noncomputable def D_laws_toIntS : Code := Try.f19.body.getD .skip
noncomputable def N_laws_toIntS (_ : outs E_laws_toIntS.params) (r : dens E_laws_toIntS.results) : E_laws_toIntS.B := r

-- laws.toIntSS
noncomputable def E_laws_toIntSS : Entry where
  params := [.v (.slice (.slice .int))]
  results := [.mv (.slice .int) 1]
  B := (List (List Int))
  run := fun a => laws_toIntSS a
  out := fun b => ()
  res := fun b => b

noncomputable def S_laws_toIntSS_L3 (n : Nat) : LoopSpec where
  sh := [(0, .v (.slice (.slice .int))), (3, .mv (.slice .int) 1), (4, .v .int)]
  ex := [(.exit 0, [(3, .mv (.slice .int) 1)])]
  run := laws_toIntSS_L3 n

noncomputable def C_laws_toIntSS : Cx where
  tt := tblTT tt
  T := tblT [(19, E_laws_toIntS)]
  L := tblL [(3, S_laws_toIntSS_L3 fuel)]
  dep := fun i => match i with
    | 7 => 1
    | _ => 0
  n := 1

noncomputable def B_laws_toIntSS_L3 : Code := (Try.f24.body.bind (loopBody 3)).getD .skip
noncomputable def D_laws_toIntSS : Code := Try.f24.body.getD .skip
noncomputable def N_laws_toIntSS (_ : outs E_laws_toIntSS.params) (r : dens E_laws_toIntSS.results) : E_laws_toIntSS.B := r

-- laws.toLinear
noncomputable def E_laws_toLinear : Entry where
  params := [.v (.pair .int (.pair .int (.slice (.slice .int))))]
  results := [.pr (.v .int) (.pr (.v .int) (.mv (.slice .int) 1))]
  B := (Int × (Int × (List (List Int))))
  run := fun a => laws_toLinear a
  out := fun b => ()
  res := fun b => b

noncomputable def C_laws_toLinear : Cx where
  tt := tblTT tt
  T := tblT [(24, E_laws_toIntSS)]
  L := tblL []
  dep := fun i => 0
  n := 1

noncomputable def D_laws_toLinear : Code := Try.f15.body.getD .skip
noncomputable def N_laws_toLinear (_ : outs E_laws_toLinear.params) (r : dens E_laws_toLinear.results) : E_laws_toLinear.B := r

-- spec.l21Prime
noncomputable def E_spec_l21Prime : Entry where
  params := [.v .int]
  results := [.v .bool]
  B := Bool
  run := fun a => spec_l21Prime a
  out := fun b => ()
  res := fun b => b

noncomputable def C_spec_l21Prime : Cx where
  tt := tblTT tt
  T := tblT []
  L := tblL []
  dep := fun i => 0
  n := 1

noncomputable def D_spec_l21Prime : Code := Try.f45.body.getD .skip
noncomputable def N_spec_l21Prime (_ : outs E_spec_l21Prime.params) (r : dens E_spec_l21Prime.results) : E_spec_l21Prime.B := r

-- spec.l1In
noncomputable def E_spec_l1In : Entry where
  params := [.v .int, .v .int, .v .int]
  results := [.v .bool]
  B := Bool
  run := fun a => spec_l1In a.1 a.2.1 a.2.2
  out := fun b => ((), (), ())
  res := fun b => b

noncomputable def C_spec_l1In : Cx where
  tt := tblTT tt
  T := tblT []
  L := tblL []
  dep := fun i => 0
  n := 3

noncomputable def D_spec_l1In : Code := Try.f50.body.getD .skip
noncomputable def N_spec_l1In (_ : outs E_spec_l1In.params) (r : dens E_spec_l1In.results) : E_spec_l1In.B := r

-- spec.l2Elements
noncomputable def E_spec_l2Elements : Entry where
  params := [.v .int, .v (.slice .int)]
  results := [.v .bool]
  B := Bool
  run := fun a => spec_l2Elements a.1 a.2
  out := fun b => ((), ())
  res := fun b => b

noncomputable def S_spec_l2Elements_L2 (n : Nat) : LoopSpec where
  sh := [(0, .v .int), (1, .v (.slice .int)), (5, .v .int)]
  ex := [(.exit 0, []), (.ret, [(4, .v .bool)])]
  run := spec_l2Elements_L2 n

noncomputable def C_spec_l2Elements : Cx where
  tt := tblTT tt
  T := tblT [(50, E_spec_l1In)]
  L := tblL [(2, S_spec_l2Elements_L2 fuel)]
  dep := fun i => 0
  n := 2

noncomputable def B_spec_l2Elements_L2 : Code := (Try.f60.body.bind (loopBody 2)).getD .skip
noncomputable def D_spec_l2Elements : Code := Try.f60.body.getD .skip
noncomputable def N_spec_l2Elements (_ : outs E_spec_l2Elements.params) (r : dens E_spec_l2Elements.results) : E_spec_l2Elements.B := r

-- spec.l8Tuple
noncomputable def E_spec_l8Tuple : Entry where
  params := [.v .int, .v .int, .v (.slice .int)]
  results := [.v .bool]
  B := Bool
  run := fun a => spec_l8Tuple a.1 a.2.1 a.2.2
  out := fun b => ((), (), ())
  res := fun b => b

noncomputable def C_spec_l8Tuple : Cx where
  tt := tblTT tt
  T := tblT [(60, E_spec_l2Elements)]
  L := tblL []
  dep := fun i => 0
  n := 3

noncomputable def D_spec_l8Tuple : Code := Try.f43.body.getD .skip
noncomputable def N_spec_l8Tuple (_ : outs E_spec_l8Tuple.params) (r : dens E_spec_l8Tuple.results) : E_spec_l8Tuple.B := r

-- spec.l21Rows
noncomputable def E_spec_l21Rows : Entry where
  params := [.v .int, .v .int, .v (.slice (.slice .int))]
  results := [.v .bool]
  B := Bool
  run := fun a => spec_l21Rows a.1 a.2.1 a.2.2
  out := fun b => ((), (), ())
  res := fun b => b

noncomputable def S_spec_l21Rows_L2 (n : Nat) : LoopSpec where
  sh := [(0, .v .int), (1, .v .int), (2, .v (.slice (.slice .int))), (7, .v .int)]
  ex := [(.exit 0, []), (.ret, [(6, .v .bool)])]
  run := spec_l21Rows_L2 n

noncomputable def C_spec_l21Rows : Cx where
  tt := tblTT tt
  T := tblT [(43, E_spec_l8Tuple)]
  L := tblL [(2, S_spec_l21Rows_L2 fuel)]
  dep := fun i => 0
  n := 3

noncomputable def B_spec_l21Rows_L2 : Code := (Try.f59.body.bind (loopBody 2)).getD .skip
noncomputable def D_spec_l21Rows : Code := Try.f59.body.getD .skip
noncomputable def N_spec_l21Rows (_ : outs E_spec_l21Rows.params) (r : dens E_spec_l21Rows.results) : E_spec_l21Rows.B := r

-- spec.l21Good
noncomputable def E_spec_l21Good : Entry where
  params := [.v (.pair .int (.pair .int (.slice (.slice .int))))]
  results := [.v .bool]
  B := Bool
  run := fun a => spec_l21Good a
  out := fun b => ()
  res := fun b => b

noncomputable def C_spec_l21Good : Cx where
  tt := tblTT tt
  T := tblT [(45, E_spec_l21Prime), (50, E_spec_l1In), (59, E_spec_l21Rows)]
  L := tblL []
  dep := fun i => 0
  n := 1

noncomputable def D_spec_l21Good : Code := Try.f40.body.getD .skip
noncomputable def N_spec_l21Good (_ : outs E_spec_l21Good.params) (r : dens E_spec_l21Good.results) : E_spec_l21Good.B := r

-- spec.IsLinearRefutation
noncomputable def E_spec_IsLinearRefutation : Entry where
  params := [.v (.pair .int (.pair .int (.slice (.slice .int)))), .v (.slice .int)]
  results := [.v .bool, .v .bool]
  B := Bool × Bool
  run := fun a => spec_IsLinearRefutation a.1 a.2
  out := fun b => ((), ())
  res := fun b => (b.1, b.2)

noncomputable def S_spec_IsLinearRefutation_L10 (n : Nat) : LoopSpec where
  sh := [(1, .v (.slice .int)), (2, .bx (.v (.pair .int (.pair .int (.slice (.slice .int)))))), (6, .v .int), (7, .v .int), (8, .v .int)]
  ex := [(.exit 2, [(1, .v (.slice .int)), (2, .bx (.v (.pair .int (.pair .int (.slice (.slice .int)))))), (6, .v .int), (7, .v .int)])]
  run := spec_IsLinearRefutation_L10 n

noncomputable def S_spec_IsLinearRefutation_L6 (n : Nat) : LoopSpec where
  sh := [(1, .v (.slice .int)), (2, .bx (.v (.pair .int (.pair .int (.slice (.slice .int)))))), (6, .v .int)]
  ex := [(.exit 0, []), (.ret, [(4, .v .bool), (5, .v .bool)])]
  run := spec_IsLinearRefutation_L6 n

noncomputable def C_spec_IsLinearRefutation : Cx where
  tt := tblTT tt
  T := tblT [(40, E_spec_l21Good), (43, E_spec_l8Tuple)]
  L := tblL [(10, S_spec_IsLinearRefutation_L10 fuel), (6, S_spec_IsLinearRefutation_L6 fuel)]
  dep := fun i => 0
  n := 2

noncomputable def B_spec_IsLinearRefutation_L10 : Code := (Try.f18.body.bind (loopBody 10)).getD .skip
noncomputable def B_spec_IsLinearRefutation_L6 : Code := (Try.f18.body.bind (loopBody 6)).getD .skip
noncomputable def D_spec_IsLinearRefutation : Code := Try.f18.body.getD .skip
noncomputable def N_spec_IsLinearRefutation (_ : outs E_spec_IsLinearRefutation.params) (r : dens E_spec_IsLinearRefutation.results) : E_spec_IsLinearRefutation.B := (r.1, r.2)

-- impl.isPrime
noncomputable def E_impl_isPrime : Entry where
  params := [.v .int]
  results := [.v .bool]
  B := Bool
  run := fun a => impl_isPrime a
  out := fun b => ()
  res := fun b => b

noncomputable def C_impl_isPrime : Cx where
  tt := tblTT tt
  T := tblT []
  L := tblL []
  dep := fun i => 0
  n := 1

noncomputable def D_impl_isPrime : Code := Try.f41.body.getD .skip
noncomputable def N_impl_isPrime (_ : outs E_impl_isPrime.params) (r : dens E_impl_isPrime.results) : E_impl_isPrime.B := r

-- impl.inSize
noncomputable def E_impl_inSize : Entry where
  params := [.v (.slice .int), .v .int]
  results := [.v .bool]
  B := Bool
  run := fun a => impl_inSize a.1 a.2
  out := fun b => ((), ())
  res := fun b => b

noncomputable def S_impl_inSize_L2 (n : Nat) : LoopSpec where
  sh := [(1, .v .int), (7, .v (.slice .int)), (8, .v .int), (9, .v .int)]
  ex := [(.exit 0, []), (.ret, [(4, .v .bool)])]
  run := impl_inSize_L2 n

noncomputable def C_impl_inSize : Cx where
  tt := tblTT tt
  T := tblT []
  L := tblL [(2, S_impl_inSize_L2 fuel)]
  dep := fun i => 0
  n := 2

noncomputable def B_impl_inSize_L2 : Code := (Try.f42.body.bind (loopBody 2)).getD .skip
noncomputable def D_impl_inSize : Code := Try.f42.body.getD .skip
noncomputable def N_impl_inSize (_ : outs E_impl_inSize.params) (r : dens E_impl_inSize.results) : E_impl_inSize.B := r

-- impl.IsLinear
noncomputable def E_impl_IsLinear : Entry where
  params := [.v (.pair .int (.pair .int (.slice (.slice .int))))]
  results := [.v .bool]
  B := Bool
  run := fun a => impl_IsLinear a
  out := fun b => ()
  res := fun b => b

noncomputable def S_impl_IsLinear_L4 (n : Nat) : LoopSpec where
  sh := [(1, .bx (.v (.pair .int (.pair .int (.slice (.slice .int)))))), (26, .v (.slice (.slice .int))), (27, .v .int), (28, .v .int)]
  ex := [(.exit 0, []), (.ret, [(2, .v .bool)])]
  run := impl_IsLinear_L4 n

noncomputable def C_impl_IsLinear : Cx where
  tt := tblTT tt
  T := tblT [(41, E_impl_isPrime), (42, E_impl_inSize)]
  L := tblL [(4, S_impl_IsLinear_L4 fuel)]
  dep := fun i => 0
  n := 1

noncomputable def B_impl_IsLinear_L4 : Code := (Try.f16.body.bind (loopBody 4)).getD .skip
noncomputable def D_impl_IsLinear : Code := Try.f16.body.getD .skip
noncomputable def N_impl_IsLinear (_ : outs E_impl_IsLinear.params) (r : dens E_impl_IsLinear.results) : E_impl_IsLinear.B := r

-- impl.IsLinearRefutation
noncomputable def E_impl_IsLinearRefutation : Entry where
  params := [.v (.pair .int (.pair .int (.slice (.slice .int)))), .v (.slice .int)]
  results := [.v .bool, .v .bool]
  B := Bool × Bool
  run := fun a => impl_IsLinearRefutation a.1 a.2
  out := fun b => ((), ())
  res := fun b => (b.1, b.2)

noncomputable def S_impl_IsLinearRefutation_L10 (n : Nat) : LoopSpec where
  sh := [(1, .v (.slice .int)), (2, .bx (.v (.pair .int (.pair .int (.slice (.slice .int)))))), (6, .v .int), (7, .v .int), (34, .v (.slice (.slice .int))), (35, .v .int), (36, .v .int)]
  ex := [(.exit 2, [(1, .v (.slice .int)), (2, .bx (.v (.pair .int (.pair .int (.slice (.slice .int)))))), (6, .v .int), (7, .v .int)])]
  run := impl_IsLinearRefutation_L10 n

noncomputable def S_impl_IsLinearRefutation_L6 (n : Nat) : LoopSpec where
  sh := [(1, .v (.slice .int)), (2, .bx (.v (.pair .int (.pair .int (.slice (.slice .int)))))), (6, .v .int)]
  ex := [(.exit 0, []), (.ret, [(4, .v .bool), (5, .v .bool)])]
  run := impl_IsLinearRefutation_L6 n

noncomputable def C_impl_IsLinearRefutation : Cx where
  tt := tblTT tt
  T := tblT [(16, E_impl_IsLinear), (42, E_impl_inSize)]
  L := tblL [(10, S_impl_IsLinearRefutation_L10 fuel), (6, S_impl_IsLinearRefutation_L6 fuel)]
  dep := fun i => 0
  n := 2

noncomputable def B_impl_IsLinearRefutation_L10 : Code := (Try.f20.body.bind (loopBody 10)).getD .skip
noncomputable def B_impl_IsLinearRefutation_L6 : Code := (Try.f20.body.bind (loopBody 6)).getD .skip
noncomputable def D_impl_IsLinearRefutation : Code := Try.f20.body.getD .skip
noncomputable def N_impl_IsLinearRefutation (_ : outs E_impl_IsLinearRefutation.params) (r : dens E_impl_IsLinearRefutation.results) : E_impl_IsLinearRefutation.B := (r.1, r.2)

-- laws.eqIntS
noncomputable def E_laws_eqIntS : Entry where
  params := [.v (.slice .int), .v (.slice .int)]
  results := [.v .bool]
  B := Bool
  run := fun a => laws_eqIntS a.1 a.2
  out := fun b => ((), ())
  res := fun b => b

noncomputable def S_laws_eqIntS_L4 (n : Nat) : LoopSpec where
  sh := [(0, .v (.slice .int)), (1, .v (.slice .int)), (5, .v .int)]
  ex := [(.exit 0, []), (.ret, [(4, .v .bool)])]
  run := laws_eqIntS_L4 n

noncomputable def C_laws_eqIntS : Cx where
  tt := tblTT tt
  T := tblT []
  L := tblL [(4, S_laws_eqIntS_L4 fuel)]
  dep := fun i => 0
  n := 2

noncomputable def B_laws_eqIntS_L4 : Code := (Try.f21.body.bind (loopBody 4)).getD .skip
noncomputable def D_laws_eqIntS : Code := Try.f21.body.getD .skip
noncomputable def N_laws_eqIntS (_ : outs E_laws_eqIntS.params) (r : dens E_laws_eqIntS.results) : E_laws_eqIntS.B := r

-- laws.eqIntSS
noncomputable def E_laws_eqIntSS : Entry where
  params := [.v (.slice (.slice .int)), .v (.slice (.slice .int))]
  results := [.v .bool]
  B := Bool
  run := fun a => laws_eqIntSS a.1 a.2
  out := fun b => ((), ())
  res := fun b => b

noncomputable def S_laws_eqIntSS_L4 (n : Nat) : LoopSpec where
  sh := [(0, .v (.slice (.slice .int))), (1, .v (.slice (.slice .int))), (5, .v .int)]
  ex := [(.exit 0, []), (.ret, [(4, .v .bool)])]
  run := laws_eqIntSS_L4 n

noncomputable def C_laws_eqIntSS : Cx where
  tt := tblTT tt
  T := tblT [(21, E_laws_eqIntS)]
  L := tblL [(4, S_laws_eqIntSS_L4 fuel)]
  dep := fun i => 0
  n := 2

noncomputable def B_laws_eqIntSS_L4 : Code := (Try.f26.body.bind (loopBody 4)).getD .skip
noncomputable def D_laws_eqIntSS : Code := Try.f26.body.getD .skip
noncomputable def N_laws_eqIntSS (_ : outs E_laws_eqIntSS.params) (r : dens E_laws_eqIntSS.results) : E_laws_eqIntSS.B := r

-- laws.eqLinear
noncomputable def E_laws_eqLinear : Entry where
  params := [.v (.pair .int (.pair .int (.slice (.slice .int)))), .v (.pair .int (.pair .int (.slice (.slice .int))))]
  results := [.v .bool]
  B := Bool
  run := fun a => laws_eqLinear a.1 a.2
  out := fun b => ((), ())
  res := fun b => b

noncomputable def C_laws_eqLinear : Cx where
  tt := tblTT tt
  T := tblT [(26, E_laws_eqIntSS)]
  L := tblL []
  dep := fun i => 0
  n := 2

noncomputable def D_laws_eqLinear : Code := Try.f17.body.getD .skip
noncomputable def N_laws_eqLinear (_ : outs E_laws_eqLinear.params) (r : dens E_laws_eqLinear.results) : E_laws_eqLinear.B := r

-- laws.FnExactIsLinearRefutation
noncomputable def E_laws_FnExactIsLinearRefutation : Entry where
  params := [.v (.pair .int (.pair .int (.slice (.slice .int)))), .v (.slice .int)]
  results := [.v .bool]
  B := Bool
  run := fun a => laws_FnExactIsLinearRefutation a.1 a.2
  out := fun b => ((), ())
  res := fun b => b

noncomputable def C_laws_FnExactIsLinearRefutation : Cx where
  tt := tblTT tt
  T := tblT [(13, E_laws_szLinear), (15, E_laws_toLinear), (17, E_laws_eqLinear), (18, E_spec_IsLinearRefutation), (19, E_laws_toIntS), (20, E_impl_IsLinearRefutation), (21, E_laws_eqIntS)]
  L := tblL []
  dep := fun i => 0
  n := 2

noncomputable def D_laws_FnExactIsLinearRefutation : Code := Try.f5.body.getD .skip
noncomputable def N_laws_FnExactIsLinearRefutation (_ : outs E_laws_FnExactIsLinearRefutation.params) (r : dens E_laws_FnExactIsLinearRefutation.results) : E_laws_FnExactIsLinearRefutation.B := r
end T
