/- Contexts of the typed functions; no conditions. -/
import Derived.Test.YtlakmpeigjbcnaaV5
import Derived.Test.YtlakmpeigjbcnaaProg
import Derived.Test.YtlakmpeigjbcnaaPFnExactRelationOfClauses
import Derived.KernelRfl
set_option linter.all false
set_option linter.unusedVariables false
set_option maxRecDepth 10000
open Go Go.Va Go.Proofs
namespace T
noncomputable def tt : List (Nat × TI) := [
  (3, { ty := .int }),
  (4, { ty := .bool }),
  (22, { ty := (.slice (.slice .int)), elem := 34 }),
  (25, { ty := (.pair .int (.slice (.slice .int))), fields := [3, 22] }),
  (34, { ty := (.slice .int), elem := 3 })]
theorem tabT : tabOk Try.prog tt = true := by kernel_rfl
theorem mixT : Try.prog.follows .mixedOrders = true := by kernel_rfl

-- laws.szIntS
noncomputable def E_laws_szIntS : Entry where
  params := [.v (.slice .int), .v .int]
  results := [.v .int]
  B := Int
  run := fun a => laws_szIntS a.1 a.2
  out := fun b => ((), ())
  res := fun b => b

noncomputable def C_laws_szIntS : Cx where
  tt := tblTT tt
  T := tblT []
  L := tblL []
  dep := fun i => 0
  n := 2

noncomputable def D_laws_szIntS : Code := Try.f13.body.getD .skip
noncomputable def N_laws_szIntS (_ : outs [.v (.slice .int), .v .int]) (r : dens [.v .int]) : Int := r

-- laws.szIntSS
noncomputable def E_laws_szIntSS : Entry where
  params := [.v (.slice (.slice .int)), .v .int]
  results := [.v .int]
  B := Int
  run := fun a => laws_szIntSS a.1 a.2
  out := fun b => ((), ())
  res := fun b => b

noncomputable def S_laws_szIntSS_L5 (n : Nat) : LoopSpec where
  sh := [(0, .v (.slice (.slice .int))), (1, .v .int), (5, .v .int)]
  ex := [(.exit 0, [(1, .v .int)]), (.ret, [(4, .v .int)])]
  run := laws_szIntSS_L5 n

noncomputable def C_laws_szIntSS : Cx where
  tt := tblTT tt
  T := tblT [(13, E_laws_szIntS)]
  L := tblL [(5, S_laws_szIntSS_L5 fuel)]
  dep := fun i => 0
  n := 2

noncomputable def B_laws_szIntSS_L5 : Code := (Try.f4.body.bind (loopBody 5)).getD .skip
noncomputable def D_laws_szIntSS : Code := Try.f4.body.getD .skip
noncomputable def N_laws_szIntSS (_ : outs [.v (.slice (.slice .int)), .v .int]) (r : dens [.v .int]) : Int := r

-- laws.toIntS
noncomputable def E_laws_toIntS : Entry where
  params := [.v (.slice .int)]
  results := [.mv .int 0]
  B := (List Int)
  run := fun a => laws_toIntS a
  out := fun b => ()
  res := fun b => b

noncomputable def S_laws_toIntS_L3 (n : Nat) : LoopSpec where
  sh := [(0, .v (.slice .int)), (3, .mv .int 0), (4, .v .int)]
  ex := [(.exit 0, [(3, .mv .int 0)])]
  run := laws_toIntS_L3 n

noncomputable def C_laws_toIntS : Cx where
  tt := tblTT tt
  T := tblT []
  L := tblL [(3, S_laws_toIntS_L3 fuel)]
  dep := fun i => 0
  n := 1

noncomputable def B_laws_toIntS_L3 : Code := (Try.f19.body.bind (loopBody 3)).getD .skip
noncomputable def D_laws_toIntS : Code := Try.f19.body.getD .skip
noncomputable def N_laws_toIntS (_ : outs [.v (.slice .int)]) (r : dens [.mv .int 0]) : (List Int) := r

-- laws.toIntSS
noncomputable def E_laws_toIntSS : Entry where
  params := [.v (.slice (.slice .int))]
  results := [.mv (.slice .int) 1]
  B := (List (List Int))
  run := fun a => laws_toIntSS a
  out := fun b => ()
  res := fun b => b

noncomputable def S_laws_toIntSS_L3 (n : Nat) : LoopSpec where
  sh := [(0, .v (.slice (.slice .int))), (3, .mv (.slice .int) 1), (4, .v .int)]
  ex := [(.exit 0, [(3, .mv (.slice .int) 1)])]
  run := laws_toIntSS_L3 n

noncomputable def C_laws_toIntSS : Cx where
  tt := tblTT tt
  T := tblT [(19, E_laws_toIntS)]
  L := tblL [(3, S_laws_toIntSS_L3 fuel)]
  dep := fun i => match i with
    | 7 => 1
    | _ => 0
  n := 1

noncomputable def B_laws_toIntSS_L3 : Code := (Try.f6.body.bind (loopBody 3)).getD .skip
noncomputable def D_laws_toIntSS : Code := Try.f6.body.getD .skip
noncomputable def N_laws_toIntSS (_ : outs [.v (.slice (.slice .int))]) (r : dens [.mv (.slice .int) 1]) : (List (List Int)) := r

-- spec.l1In
noncomputable def E_spec_l1In : Entry where
  params := [.v .int, .v .int, .v .int]
  results := [.v .bool]
  B := Bool
  run := fun a => spec_l1In a.1 a.2.1 a.2.2
  out := fun b => ((), (), ())
  res := fun b => b

noncomputable def C_spec_l1In : Cx where
  tt := tblTT tt
  T := tblT []
  L := tblL []
  dep := fun i => 0
  n := 3

noncomputable def D_spec_l1In : Code := Try.f14.body.getD .skip
noncomputable def N_spec_l1In (_ : outs [.v .int, .v .int, .v .int]) (r : dens [.v .bool]) : Bool := r

-- spec.l1Most
noncomputable def E_spec_l1Most : Entry where
  params := [.v .int, .v .int]
  results := [.v .int]
  B := Int
  run := fun a => spec_l1Most a.1 a.2
  out := fun b => ((), ())
  res := fun b => b

noncomputable def C_spec_l1Most : Cx where
  tt := tblTT tt
  T := tblT []
  L := tblL []
  dep := fun i => 0
  n := 2

noncomputable def D_spec_l1Most : Code := Try.f26.body.getD .skip
noncomputable def N_spec_l1Most (_ : outs [.v .int, .v .int]) (r : dens [.v .int]) : Int := r

-- spec.l22Clause
noncomputable def E_spec_l22Clause : Entry where
  params := [.v .int, .v (.slice .int)]
  results := [.v .bool]
  B := Bool
  run := fun a => spec_l22Clause a.1 a.2
  out := fun b => ((), ())
  res := fun b => b

noncomputable def S_spec_l22Clause_L3 (n : Nat) : LoopSpec where
  sh := [(0, .v .int), (1, .v (.slice .int)), (5, .v .int), (6, .v .int)]
  ex := [(.exit 0, []), (.ret, [(4, .v .bool)])]
  run := spec_l22Clause_L3 n

noncomputable def C_spec_l22Clause : Cx where
  tt := tblTT tt
  T := tblT [(14, E_spec_l1In), (26, E_spec_l1Most)]
  L := tblL [(3, S_spec_l22Clause_L3 fuel)]
  dep := fun i => 0
  n := 2

noncomputable def B_spec_l22Clause_L3 : Code := (Try.f15.body.bind (loopBody 3)).getD .skip
noncomputable def D_spec_l22Clause : Code := Try.f15.body.getD .skip
noncomputable def N_spec_l22Clause (_ : outs [.v .int, .v (.slice .int)]) (r : dens [.v .bool]) : Bool := r

-- spec.l2Pow
noncomputable def E_spec_l2Pow : Entry where
  params := [.v .int, .v .int]
  results := [.v .int]
  B := Int
  run := fun a => spec_l2Pow a.1 a.2
  out := fun b => ((), ())
  res := fun b => b

noncomputable def S_spec_l2Pow_L2 (n : Nat) : LoopSpec where
  sh := [(0, .v .int), (1, .v .int), (5, .v .int)]
  ex := [(.exit 0, [(5, .v .int)])]
  run := spec_l2Pow_L2 n

noncomputable def C_spec_l2Pow : Cx where
  tt := tblTT tt
  T := tblT []
  L := tblL [(2, S_spec_l2Pow_L2 fuel)]
  dep := fun i => 0
  n := 2

noncomputable def B_spec_l2Pow_L2 : Code := (Try.f16.body.bind (loopBody 2)).getD .skip
noncomputable def D_spec_l2Pow : Code := Try.f16.body.getD .skip
noncomputable def N_spec_l2Pow (_ : outs [.v .int, .v .int]) (r : dens [.v .int]) : Int := r

-- spec.l2Args
noncomputable def E_spec_l2Args : Entry where
  params := [.v .int, .v .int, .v .int]
  results := [.mv .int 0]
  B := (List Int)
  run := fun a => spec_l2Args a.1 a.2.1 a.2.2
  out := fun b => ((), (), ())
  res := fun b => b

noncomputable def S_spec_l2Args_L3 (n : Nat) : LoopSpec where
  sh := [(0, .v .int), (2, .v .int), (7, .mv .int 0), (8, .v .int)]
  ex := [(.exit 0, [(7, .mv .int 0)])]
  run := spec_l2Args_L3 n

noncomputable def C_spec_l2Args : Cx where
  tt := tblTT tt
  T := tblT []
  L := tblL [(3, S_spec_l2Args_L3 fuel)]
  dep := fun i => 0
  n := 3

noncomputable def B_spec_l2Args_L3 : Code := (Try.f17.body.bind (loopBody 3)).getD .skip
noncomputable def D_spec_l2Args : Code := Try.f17.body.getD .skip
noncomputable def N_spec_l2Args (_ : outs [.v .int, .v .int, .v .int]) (r : dens [.mv .int 0]) : (List Int) := r

-- spec.l22Obeys
noncomputable def E_spec_l22Obeys : Entry where
  params := [.v (.slice .int), .v (.slice .int)]
  results := [.v .bool]
  B := Bool
  run := fun a => spec_l22Obeys a.1 a.2
  out := fun b => ((), ())
  res := fun b => b

noncomputable def S_spec_l22Obeys_L2 (n : Nat) : LoopSpec where
  sh := [(0, .v (.slice .int)), (1, .v (.slice .int)), (5, .v .int)]
  ex := [(.exit 0, []), (.ret, [(4, .v .bool)])]
  run := spec_l22Obeys_L2 n

noncomputable def C_spec_l22Obeys : Cx where
  tt := tblTT tt
  T := tblT []
  L := tblL [(2, S_spec_l22Obeys_L2 fuel)]
  dep := fun i => 0
  n := 2

noncomputable def B_spec_l22Obeys_L2 : Code := (Try.f18.body.bind (loopBody 2)).getD .skip
noncomputable def D_spec_l22Obeys : Code := Try.f18.body.getD .skip
noncomputable def N_spec_l22Obeys (_ : outs [.v (.slice .int), .v (.slice .int)]) (r : dens [.v .bool]) : Bool := r

-- spec.RelationOfClauses
noncomputable def E_spec_RelationOfClauses : Entry where
  params := [.v .int, .v (.slice (.slice .int))]
  results := [.v (.pair .int (.slice (.slice .int))), .v .bool]
  B := (Int × (List (List Int))) × Bool
  run := fun a => spec_RelationOfClauses a.1 a.2
  out := fun b => ((), ())
  res := fun b => (b.1, b.2)

noncomputable def S_spec_RelationOfClauses_L4 (n : Nat) : LoopSpec where
  sh := [(0, .v .int), (1, .v (.slice (.slice .int))), (4, .bx (.pr (.v .int) (.mv (.slice .int) 0))), (6, .v .int)]
  ex := [(.exit 0, [(0, .v .int), (1, .v (.slice (.slice .int))), (4, .bx (.pr (.v .int) (.mv (.slice .int) 0)))]), (.ret, [(4, .bx (.v (.pair .int (.slice (.slice .int))))), (5, .v .bool)])]
  run := spec_RelationOfClauses_L4 n

noncomputable def S_spec_RelationOfClauses_L14 (n : Nat) : LoopSpec where
  sh := [(0, .v .int), (1, .v (.slice (.slice .int))), (4, .bx (.pr (.v .int) (.mv (.slice .int) 0))), (7, .bx (.pr (.v .int) (.mv (.slice .int) 0))), (8, .v .int), (9, .mv .int 0), (10, .v .bool), (11, .v .int)]
  ex := [(.exit 4, [(0, .v .int), (1, .v (.slice (.slice .int))), (4, .bx (.pr (.v .int) (.mv (.slice .int) 0))), (7, .bx (.pr (.v .int) (.mv (.slice .int) 0))), (8, .v .int), (9, .mv .int 0), (10, .v .bool)])]
  run := spec_RelationOfClauses_L14 n

noncomputable def S_spec_RelationOfClauses_L10 (n : Nat) : LoopSpec where
  sh := [(0, .v .int), (1, .v (.slice (.slice .int))), (4, .bx (.pr (.v .int) (.mv (.slice .int) 0))), (7, .bx (.pr (.v .int) (.mv (.slice .int) 0))), (8, .v .int)]
  ex := [(.exit 2, [(4, .bx (.pr (.v .int) (.mv (.slice .int) 0))), (7, .bx (.pr (.v .int) (.mv (.slice .int) 0)))])]
  run := spec_RelationOfClauses_L10 n

noncomputable def C_spec_RelationOfClauses : Cx where
  tt := tblTT tt
  T := tblT [(14, E_spec_l1In), (15, E_spec_l22Clause), (16, E_spec_l2Pow), (17, E_spec_l2Args), (18, E_spec_l22Obeys)]
  L := tblL [(4, S_spec_RelationOfClauses_L4 fuel), (14, S_spec_RelationOfClauses_L14 fuel), (10, S_spec_RelationOfClauses_L10 fuel)]
  dep := fun i => 0
  n := 2

noncomputable def B_spec_RelationOfClauses_L4 : Code := (Try.f5.body.bind (loopBody 4)).getD .skip
noncomputable def B_spec_RelationOfClauses_L14 : Code := (Try.f5.body.bind (loopBody 14)).getD .skip
noncomputable def B_spec_RelationOfClauses_L10 : Code := (Try.f5.body.bind (loopBody 10)).getD .skip
noncomputable def D_spec_RelationOfClauses : Code := Try.f5.body.getD .skip
noncomputable def N_spec_RelationOfClauses (_ : outs [.v .int, .v (.slice (.slice .int))]) (r : dens [.v (.pair .int (.slice (.slice .int))), .v .bool]) : (Int × (List (List Int))) × Bool := (r.1, r.2)

-- impl.isSize
noncomputable def E_impl_isSize : Entry where
  params := [.v .int]
  results := [.v .bool]
  B := Bool
  run := fun a => impl_isSize a
  out := fun b => ()
  res := fun b => b

noncomputable def C_impl_isSize : Cx where
  tt := tblTT tt
  T := tblT []
  L := tblL []
  dep := fun i => 0
  n := 1

noncomputable def D_impl_isSize : Code := Try.f27.body.getD .skip
noncomputable def N_impl_isSize (_ : outs [.v .int]) (r : dens [.v .bool]) : Bool := r

-- impl.power
noncomputable def E_impl_power : Entry where
  params := [.v .int, .v .int]
  results := [.v .int]
  B := Int
  run := fun a => impl_power a.1 a.2
  out := fun b => ((), ())
  res := fun b => b

noncomputable def S_impl_power_L2 (n : Nat) : LoopSpec where
  sh := [(0, .v .int), (1, .v .int), (5, .v .int)]
  ex := [(.exit 0, [(5, .v .int)])]
  run := impl_power_L2 n

noncomputable def C_impl_power : Cx where
  tt := tblTT tt
  T := tblT []
  L := tblL [(2, S_impl_power_L2 fuel)]
  dep := fun i => 0
  n := 2

noncomputable def B_impl_power_L2 : Code := (Try.f28.body.bind (loopBody 2)).getD .skip
noncomputable def D_impl_power : Code := Try.f28.body.getD .skip
noncomputable def N_impl_power (_ : outs [.v .int, .v .int]) (r : dens [.v .int]) : Int := r

-- impl.argsAt
noncomputable def E_impl_argsAt : Entry where
  params := [.v .int, .v .int, .v .int]
  results := [.mv .int 0]
  B := (List Int)
  run := fun a => impl_argsAt a.1 a.2.1 a.2.2
  out := fun b => ((), (), ())
  res := fun b => b

noncomputable def S_impl_argsAt_L3 (n : Nat) : LoopSpec where
  sh := [(0, .v .int), (2, .v .int), (7, .mv .int 0), (8, .v .int)]
  ex := [(.exit 0, [(7, .mv .int 0)])]
  run := impl_argsAt_L3 n

noncomputable def C_impl_argsAt : Cx where
  tt := tblTT tt
  T := tblT []
  L := tblL [(3, S_impl_argsAt_L3 fuel)]
  dep := fun i => 0
  n := 3

noncomputable def B_impl_argsAt_L3 : Code := (Try.f29.body.bind (loopBody 3)).getD .skip
noncomputable def D_impl_argsAt : Code := Try.f29.body.getD .skip
noncomputable def N_impl_argsAt (_ : outs [.v .int, .v .int, .v .int]) (r : dens [.mv .int 0]) : (List Int) := r

-- impl.FullRelation
noncomputable def E_impl_FullRelation : Entry where
  params := [.v .int, .v .int]
  results := [.pr (.v .int) (.mv (.slice .int) 1), .v .bool]
  B := (Int × (List (List Int))) × Bool
  run := fun a => impl_FullRelation a.1 a.2
  out := fun b => ((), ())
  res := fun b => (b.1, b.2)

noncomputable def S_impl_FullRelation_L5 (n : Nat) : LoopSpec where
  sh := [(0, .v .int), (1, .v .int), (4, .bx (.pr (.v .int) (.mv (.slice .int) 1))), (6, .bx (.pr (.v .int) (.mv (.slice .int) 1))), (7, .v .int)]
  ex := [(.exit 0, [(4, .bx (.pr (.v .int) (.mv (.slice .int) 1))), (6, .bx (.pr (.v .int) (.mv (.slice .int) 1)))])]
  run := impl_FullRelation_L5 n

noncomputable def C_impl_FullRelation : Cx where
  tt := tblTT tt
  T := tblT [(27, E_impl_isSize), (28, E_impl_power), (29, E_impl_argsAt)]
  L := tblL [(5, S_impl_FullRelation_L5 fuel)]
  dep := fun i => match i with
    | 35 => 1
    | 36 => 1
    | _ => 0
  n := 2

noncomputable def B_impl_FullRelation_L5 : Code := (Try.f20.body.bind (loopBody 5)).getD .skip
noncomputable def D_impl_FullRelation : Code := Try.f20.body.getD .skip
noncomputable def N_impl_FullRelation (_ : outs [.v .int, .v .int]) (r : dens [.pr (.v .int) (.mv (.slice .int) 1), .v .bool]) : (Int × (List (List Int))) × Bool := (r.1, r.2)

-- impl.isClause
noncomputable def E_impl_isClause : Entry where
  params := [.v .int, .v (.slice .int)]
  results := [.v .bool]
  B := Bool
  run := fun a => impl_isClause a.1 a.2
  out := fun b => ((), ())
  res := fun b => b

noncomputable def S_impl_isClause_L3 (n : Nat) : LoopSpec where
  sh := [(0, .v .int), (5, .v .int), (9, .v (.slice .int)), (10, .v .int), (11, .v .int)]
  ex := [(.exit 0, []), (.ret, [(4, .v .bool)])]
  run := impl_isClause_L3 n

noncomputable def C_impl_isClause : Cx where
  tt := tblTT tt
  T := tblT []
  L := tblL [(3, S_impl_isClause_L3 fuel)]
  dep := fun i => 0
  n := 2

noncomputable def B_impl_isClause_L3 : Code := (Try.f21.body.bind (loopBody 3)).getD .skip
noncomputable def D_impl_isClause : Code := Try.f21.body.getD .skip
noncomputable def N_impl_isClause (_ : outs [.v .int, .v (.slice .int)]) (r : dens [.v .bool]) : Bool := r

-- impl.obeysClause
noncomputable def E_impl_obeysClause : Entry where
  params := [.v (.slice .int), .v (.slice .int)]
  results := [.v .bool]
  B := Bool
  run := fun a => impl_obeysClause a.1 a.2
  out := fun b => ((), ())
  res := fun b => b

noncomputable def S_impl_obeysClause_L2 (n : Nat) : LoopSpec where
  sh := [(0, .v (.slice .int)), (7, .v (.slice .int)), (8, .v .int), (9, .v .int)]
  ex := [(.exit 0, []), (.ret, [(4, .v .bool)])]
  run := impl_obeysClause_L2 n

noncomputable def C_impl_obeysClause : Cx where
  tt := tblTT tt
  T := tblT []
  L := tblL [(2, S_impl_obeysClause_L2 fuel)]
  dep := fun i => 0
  n := 2

noncomputable def B_impl_obeysClause_L2 : Code := (Try.f22.body.bind (loopBody 2)).getD .skip
noncomputable def D_impl_obeysClause : Code := Try.f22.body.getD .skip
noncomputable def N_impl_obeysClause (_ : outs [.v (.slice .int), .v (.slice .int)]) (r : dens [.v .bool]) : Bool := r

-- impl.RelationOfClauses
noncomputable def E_impl_RelationOfClauses : Entry where
  params := [.v .int, .v (.slice (.slice .int))]
  results := [.pr (.v .int) (.mv (.slice .int) 1), .v .bool]
  B := (Int × (List (List Int))) × Bool
  run := fun a => impl_RelationOfClauses a.1 a.2
  out := fun b => ((), ())
  res := fun b => (b.1, b.2)

noncomputable def S_impl_RelationOfClauses_L6 (n : Nat) : LoopSpec where
  sh := [(0, .v .int), (1, .v (.slice (.slice .int))), (4, .bx (.pr (.v .int) (.mv (.slice .int) 1))), (6, .bx (.pr (.v .int) (.mv (.slice .int) 1))), (8, .bx (.pr (.v .int) (.mv (.slice .int) 1))), (31, .v (.slice (.slice .int))), (32, .v .int), (33, .v .int)]
  ex := [(.exit 0, [(1, .v (.slice (.slice .int))), (4, .bx (.pr (.v .int) (.mv (.slice .int) 1))), (6, .bx (.pr (.v .int) (.mv (.slice .int) 1))), (8, .bx (.pr (.v .int) (.mv (.slice .int) 1)))]), (.ret, [(4, .bx (.pr (.v .int) (.mv (.slice .int) 1))), (5, .v .bool)])]
  run := impl_RelationOfClauses_L6 n

noncomputable def S_impl_RelationOfClauses_L16 (n : Nat) : LoopSpec where
  sh := [(1, .v (.slice (.slice .int))), (4, .bx (.pr (.v .int) (.mv (.slice .int) 1))), (8, .bx (.pr (.v .int) (.mv (.slice .int) 1))), (12, .mv .int 0), (13, .v .bool), (44, .gs (.slice .int) 1), (45, .v .int), (46, .v .int), (50, .v (.slice (.slice .int))), (51, .v .int), (52, .v .int)]
  ex := [(.exit 4, [(1, .v (.slice (.slice .int))), (4, .bx (.pr (.v .int) (.mv (.slice .int) 1))), (8, .bx (.pr (.v .int) (.mv (.slice .int) 1))), (12, .mv .int 0), (13, .v .bool), (44, .gs (.slice .int) 1), (45, .v .int), (46, .v .int)])]
  run := impl_RelationOfClauses_L16 n

noncomputable def S_impl_RelationOfClauses_L12 (n : Nat) : LoopSpec where
  sh := [(1, .v (.slice (.slice .int))), (4, .bx (.pr (.v .int) (.mv (.slice .int) 1))), (8, .bx (.pr (.v .int) (.mv (.slice .int) 1))), (44, .gs (.slice .int) 1), (45, .v .int), (46, .v .int)]
  ex := [(.exit 2, [(4, .bx (.pr (.v .int) (.mv (.slice .int) 1))), (8, .bx (.pr (.v .int) (.mv (.slice .int) 1)))])]
  run := impl_RelationOfClauses_L12 n

noncomputable def C_impl_RelationOfClauses : Cx where
  tt := tblTT tt
  T := tblT [(20, E_impl_FullRelation), (21, E_impl_isClause), (22, E_impl_obeysClause)]
  L := tblL [(6, S_impl_RelationOfClauses_L6 fuel), (16, S_impl_RelationOfClauses_L16 fuel), (12, S_impl_RelationOfClauses_L12 fuel)]
  dep := fun i => match i with
    | 49 => 99
    | 67 => 1
    | 68 => 1
    | _ => 0
  n := 2

noncomputable def B_impl_RelationOfClauses_L6 : Code := (Try.f7.body.bind (loopBody 6)).getD .skip
noncomputable def B_impl_RelationOfClauses_L16 : Code := (Try.f7.body.bind (loopBody 16)).getD .skip
noncomputable def B_impl_RelationOfClauses_L12 : Code := (Try.f7.body.bind (loopBody 12)).getD .skip
noncomputable def D_impl_RelationOfClauses : Code := Try.f7.body.getD .skip
noncomputable def N_impl_RelationOfClauses (_ : outs [.v .int, .v (.slice (.slice .int))]) (r : dens [.pr (.v .int) (.mv (.slice .int) 1), .v .bool]) : (Int × (List (List Int))) × Bool := (r.1, r.2)

-- laws.eqIntS
noncomputable def E_laws_eqIntS : Entry where
  params := [.v (.slice .int), .v (.slice .int)]
  results := [.v .bool]
  B := Bool
  run := fun a => laws_eqIntS a.1 a.2
  out := fun b => ((), ())
  res := fun b => b

noncomputable def S_laws_eqIntS_L4 (n : Nat) : LoopSpec where
  sh := [(0, .v (.slice .int)), (1, .v (.slice .int)), (5, .v .int)]
  ex := [(.exit 0, []), (.ret, [(4, .v .bool)])]
  run := laws_eqIntS_L4 n

noncomputable def C_laws_eqIntS : Cx where
  tt := tblTT tt
  T := tblT []
  L := tblL [(4, S_laws_eqIntS_L4 fuel)]
  dep := fun i => 0
  n := 2

noncomputable def B_laws_eqIntS_L4 : Code := (Try.f23.body.bind (loopBody 4)).getD .skip
noncomputable def D_laws_eqIntS : Code := Try.f23.body.getD .skip
noncomputable def N_laws_eqIntS (_ : outs [.v (.slice .int), .v (.slice .int)]) (r : dens [.v .bool]) : Bool := r

-- laws.eqIntSS
noncomputable def E_laws_eqIntSS : Entry where
  params := [.v (.slice (.slice .int)), .v (.slice (.slice .int))]
  results := [.v .bool]
  B := Bool
  run := fun a => laws_eqIntSS a.1 a.2
  out := fun b => ((), ())
  res := fun b => b

noncomputable def S_laws_eqIntSS_L4 (n : Nat) : LoopSpec where
  sh := [(0, .v (.slice (.slice .int))), (1, .v (.slice (.slice .int))), (5, .v .int)]
  ex := [(.exit 0, []), (.ret, [(4, .v .bool)])]
  run := laws_eqIntSS_L4 n

noncomputable def C_laws_eqIntSS : Cx where
  tt := tblTT tt
  T := tblT [(23, E_laws_eqIntS)]
  L := tblL [(4, S_laws_eqIntSS_L4 fuel)]
  dep := fun i => 0
  n := 2

noncomputable def B_laws_eqIntSS_L4 : Code := (Try.f9.body.bind (loopBody 4)).getD .skip
noncomputable def D_laws_eqIntSS : Code := Try.f9.body.getD .skip
noncomputable def N_laws_eqIntSS (_ : outs [.v (.slice (.slice .int)), .v (.slice (.slice .int))]) (r : dens [.v .bool]) : Bool := r

-- laws.eqRelation
noncomputable def E_laws_eqRelation : Entry where
  params := [.v (.pair .int (.slice (.slice .int))), .v (.pair .int (.slice (.slice .int)))]
  results := [.v .bool]
  B := Bool
  run := fun a => laws_eqRelation a.1 a.2
  out := fun b => ((), ())
  res := fun b => b

noncomputable def C_laws_eqRelation : Cx where
  tt := tblTT tt
  T := tblT [(9, E_laws_eqIntSS)]
  L := tblL []
  dep := fun i => 0
  n := 2

noncomputable def D_laws_eqRelation : Code := Try.f8.body.getD .skip
noncomputable def N_laws_eqRelation (_ : outs [.v (.pair .int (.slice (.slice .int))), .v (.pair .int (.slice (.slice .int)))]) (r : dens [.v .bool]) : Bool := r

-- laws.markIntS
noncomputable def E_laws_markIntS : Entry where
  params := [.io .int 0, .v .int]
  results := [.v .int]
  B := (List Int) × Int
  run := fun a => laws_markIntS a.1 a.2
  out := fun b => (b.1, ())
  res := fun b => b.2

noncomputable def S_laws_markIntS_L2 (n : Nat) : LoopSpec where
  sh := [(0, .io .int 0), (1, .v .int), (5, .v .int)]
  ex := [(.exit 0, [(0, .io .int 0), (1, .v .int)])]
  run := laws_markIntS_L2 n

noncomputable def C_laws_markIntS : Cx where
  tt := tblTT tt
  T := tblT []
  L := tblL [(2, S_laws_markIntS_L2 fuel)]
  dep := fun i => 0
  n := 2

noncomputable def B_laws_markIntS_L2 : Code := (Try.f24.body.bind (loopBody 2)).getD .skip
noncomputable def D_laws_markIntS : Code := Try.f24.body.getD .skip
noncomputable def N_laws_markIntS (o : outs [.io .int 0, .v .int]) (r : dens [.v .int]) : (List Int) × Int := (o.1, r)

-- laws.markIntSS
noncomputable def E_laws_markIntSS : Entry where
  params := [.io (.slice .int) 1, .v .int]
  results := [.v .int]
  B := (List (List Int)) × Int
  run := fun a => laws_markIntSS a.1 a.2
  out := fun b => (b.1, ())
  res := fun b => b.2

noncomputable def S_laws_markIntSS_L2 (n : Nat) : LoopSpec where
  sh := [(0, .io (.slice .int) 1), (1, .v .int), (5, .v .int)]
  ex := [(.exit 0, [(0, .io (.slice .int) 1), (1, .v .int)])]
  run := laws_markIntSS_L2 n

noncomputable def C_laws_markIntSS : Cx where
  tt := tblTT tt
  T := tblT [(24, E_laws_markIntS)]
  L := tblL [(2, S_laws_markIntSS_L2 fuel)]
  dep := fun i => 0
  n := 2

noncomputable def B_laws_markIntSS_L2 : Code := (Try.f10.body.bind (loopBody 2)).getD .skip
noncomputable def D_laws_markIntSS : Code := Try.f10.body.getD .skip
noncomputable def N_laws_markIntSS (o : outs [.io (.slice .int) 1, .v .int]) (r : dens [.v .int]) : (List (List Int)) × Int := (o.1, r)

-- laws.markRelation
noncomputable def E_laws_markRelation : Entry where
  params := [.pr (.v .int) (.io (.slice .int) 1), .v .int]
  results := [.v .int]
  B := (Unit × (List (List Int))) × Int
  run := fun a => laws_markRelation a.1 a.2
  out := fun b => (b.1, ())
  res := fun b => b.2

noncomputable def C_laws_markRelation : Cx where
  tt := tblTT tt
  T := tblT [(10, E_laws_markIntSS)]
  L := tblL []
  dep := fun i => 0
  n := 2

noncomputable def D_laws_markRelation : Code := Try.f11.body.getD .skip
noncomputable def N_laws_markRelation (o : outs [.pr (.v .int) (.io (.slice .int) 1), .v .int]) (r : dens [.v .int]) : (Unit × (List (List Int))) × Int := (o.1, r)

-- laws.heldIntS
noncomputable def E_laws_heldIntS : Entry where
  params := [.v (.slice .int), .v .int]
  results := [.v .int]
  B := Int
  run := fun a => laws_heldIntS a.1 a.2
  out := fun b => ((), ())
  res := fun b => b

noncomputable def S_laws_heldIntS_L2 (n : Nat) : LoopSpec where
  sh := [(0, .v (.slice .int)), (1, .v .int), (5, .v .int)]
  ex := [(.exit 0, [(1, .v .int)]), (.ret, [(4, .v .int)])]
  run := laws_heldIntS_L2 n

noncomputable def C_laws_heldIntS : Cx where
  tt := tblTT tt
  T := tblT []
  L := tblL [(2, S_laws_heldIntS_L2 fuel)]
  dep := fun i => 0
  n := 2

noncomputable def B_laws_heldIntS_L2 : Code := (Try.f30.body.bind (loopBody 2)).getD .skip
noncomputable def D_laws_heldIntS : Code := Try.f30.body.getD .skip
noncomputable def N_laws_heldIntS (_ : outs [.v (.slice .int), .v .int]) (r : dens [.v .int]) : Int := r

-- laws.heldIntSS
noncomputable def E_laws_heldIntSS : Entry where
  params := [.v (.slice (.slice .int)), .v .int]
  results := [.v .int]
  B := Int
  run := fun a => laws_heldIntSS a.1 a.2
  out := fun b => ((), ())
  res := fun b => b

noncomputable def S_laws_heldIntSS_L2 (n : Nat) : LoopSpec where
  sh := [(0, .v (.slice (.slice .int))), (1, .v .int), (5, .v .int)]
  ex := [(.exit 0, [(1, .v .int)]), (.ret, [(4, .v .int)])]
  run := laws_heldIntSS_L2 n

noncomputable def C_laws_heldIntSS : Cx where
  tt := tblTT tt
  T := tblT [(30, E_laws_heldIntS)]
  L := tblL [(2, S_laws_heldIntSS_L2 fuel)]
  dep := fun i => 0
  n := 2

noncomputable def B_laws_heldIntSS_L2 : Code := (Try.f25.body.bind (loopBody 2)).getD .skip
noncomputable def D_laws_heldIntSS : Code := Try.f25.body.getD .skip
noncomputable def N_laws_heldIntSS (_ : outs [.v (.slice (.slice .int)), .v .int]) (r : dens [.v .int]) : Int := r

-- laws.heldRelation
noncomputable def E_laws_heldRelation : Entry where
  params := [.v (.pair .int (.slice (.slice .int))), .v .int]
  results := [.v .int]
  B := Int
  run := fun a => laws_heldRelation a.1 a.2
  out := fun b => ((), ())
  res := fun b => b

noncomputable def C_laws_heldRelation : Cx where
  tt := tblTT tt
  T := tblT [(25, E_laws_heldIntSS)]
  L := tblL []
  dep := fun i => 0
  n := 2

noncomputable def D_laws_heldRelation : Code := Try.f12.body.getD .skip
noncomputable def N_laws_heldRelation (_ : outs [.v (.pair .int (.slice (.slice .int))), .v .int]) (r : dens [.v .int]) : Int := r

-- laws.FnExactRelationOfClauses
noncomputable def E_laws_FnExactRelationOfClauses : Entry where
  params := [.v .int, .v (.slice (.slice .int))]
  results := [.v .bool]
  B := Bool
  run := fun a => laws_FnExactRelationOfClauses a.1 a.2
  out := fun b => ((), ())
  res := fun b => b

noncomputable def C_laws_FnExactRelationOfClauses : Cx where
  tt := tblTT tt
  T := tblT [(4, E_laws_szIntSS), (5, E_spec_RelationOfClauses), (6, E_laws_toIntSS), (7, E_impl_RelationOfClauses), (8, E_laws_eqRelation), (9, E_laws_eqIntSS), (10, E_laws_markIntSS), (11, E_laws_markRelation), (12, E_laws_heldRelation)]
  L := tblL []
  dep := fun i => 0
  n := 2

noncomputable def D_laws_FnExactRelationOfClauses : Code := Try.f3.body.getD .skip
noncomputable def N_laws_FnExactRelationOfClauses (_ : outs [.v .int, .v (.slice (.slice .int))]) (r : dens [.v .bool]) : Bool := r
end T
