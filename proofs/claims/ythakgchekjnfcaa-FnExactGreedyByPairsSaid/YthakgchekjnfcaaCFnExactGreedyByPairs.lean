/- Contexts of the typed functions; no conditions. -/
import Derived.Test.YthakgchekjnfcaaV5
import Derived.Test.YthakgchekjnfcaaProg
import Derived.Test.YthakgchekjnfcaaPFnExactGreedyByPairs
import Derived.KernelRfl
set_option linter.all false
set_option linter.unusedVariables false
set_option maxRecDepth 10000
open Go Go.Va Go.Proofs
namespace T
noncomputable def tt : List (Nat × TI) := [
  (2, { ty := .int }),
  (3, { ty := .int }),
  (4, { ty := .bool }),
  (22, { ty := (.slice (.pair (.slice .int) (.pair .int (.slice (.slice .int))))), elem := 69 }),
  (24, { ty := (.pair .int (.pair .int (.slice (.pair (.slice .int) (.pair .int (.slice (.slice .int))))))), fields := [3, 3, 22] }),
  (28, { ty := (.slice (.pair (.slice .int) (.pair .int (.slice (.slice .int))))), elem := 74 }),
  (30, { ty := (.pair .int (.pair .int (.slice (.pair (.slice .int) (.pair .int (.slice (.slice .int))))))), fields := [3, 3, 28] }),
  (34, { ty := (.slice .int), elem := 3 }),
  (47, { ty := (.slice (.slice (.slice .bool))), elem := 52 }),
  (51, { ty := (.slice .bool), elem := 4 }),
  (52, { ty := (.slice (.slice .bool)), elem := 51 }),
  (58, { ty := (.slice (.slice (.slice (.slice .bool)))), elem := 47 }),
  (65, { ty := (.slice (.slice .int)), elem := 34 }),
  (67, { ty := (.pair .int (.slice (.slice .int))), fields := [3, 65] }),
  (69, { ty := (.pair (.slice .int) (.pair .int (.slice (.slice .int)))), fields := [34, 67] }),
  (72, { ty := (.pair .int (.slice (.slice .int))), fields := [3, 65] }),
  (74, { ty := (.pair (.slice .int) (.pair .int (.slice (.slice .int)))), fields := [34, 72] })]
theorem tabT : tabOk Try.prog tt = true := by kernel_rfl
theorem mixT : Try.prog.follows .mixedOrders = true := by kernel_rfl

-- laws.szIntS
noncomputable def E_laws_szIntS : Entry where
  params := [.v (.slice .int), .v .int]
  results := [.v .int]
  B := Int
  run := fun a => laws_szIntS a.1 a.2
  out := fun b => ((), ())
  res := fun b => b

noncomputable def C_laws_szIntS : Cx where
  tt := tblTT tt
  T := tblT []
  L := tblL []
  dep := fun i => 0
  n := 2

noncomputable def D_laws_szIntS : Code := Try.f52.body.getD .skip
noncomputable def N_laws_szIntS (_ : outs E_laws_szIntS.params) (r : dens E_laws_szIntS.results) : E_laws_szIntS.B := r

-- laws.szIntSS
noncomputable def E_laws_szIntSS : Entry where
  params := [.v (.slice (.slice .int)), .v .int]
  results := [.v .int]
  B := Int
  run := fun a => laws_szIntSS a.1 a.2
  out := fun b => ((), ())
  res := fun b => b

noncomputable def S_laws_szIntSS_L5 (n : Nat) : LoopSpec where
  sh := [(0, .v (.slice (.slice .int))), (1, .v .int), (5, .v .int)]
  ex := [(.exit 0, [(1, .v .int)]), (.ret, [(4, .v .int)])]
  run := laws_szIntSS_L5 n

noncomputable def C_laws_szIntSS : Cx where
  tt := tblTT tt
  T := tblT [(52, E_laws_szIntS)]
  L := tblL [(5, S_laws_szIntSS_L5 fuel)]
  dep := fun i => 0
  n := 2

noncomputable def B_laws_szIntSS_L5 : Code := (Try.f65.body.bind (loopBody 5)).getD .skip
noncomputable def D_laws_szIntSS : Code := Try.f65.body.getD .skip
noncomputable def N_laws_szIntSS (_ : outs E_laws_szIntSS.params) (r : dens E_laws_szIntSS.results) : E_laws_szIntSS.B := r

-- laws.szRelation
noncomputable def E_laws_szRelation : Entry where
  params := [.v (.pair .int (.slice (.slice .int))), .v .int]
  results := [.v .int]
  B := Int
  run := fun a => laws_szRelation a.1 a.2
  out := fun b => ((), ())
  res := fun b => b

noncomputable def C_laws_szRelation : Cx where
  tt := tblTT tt
  T := tblT [(65, E_laws_szIntSS)]
  L := tblL []
  dep := fun i => 0
  n := 2

noncomputable def D_laws_szRelation : Code := Try.f53.body.getD .skip
noncomputable def N_laws_szRelation (_ : outs E_laws_szRelation.params) (r : dens E_laws_szRelation.results) : E_laws_szRelation.B := r

-- laws.szConstraint
noncomputable def E_laws_szConstraint : Entry where
  params := [.v (.pair (.slice .int) (.pair .int (.slice (.slice .int)))), .v .int]
  results := [.v .int]
  B := Int
  run := fun a => laws_szConstraint a.1 a.2
  out := fun b => ((), ())
  res := fun b => b

noncomputable def C_laws_szConstraint : Cx where
  tt := tblTT tt
  T := tblT [(52, E_laws_szIntS), (53, E_laws_szRelation)]
  L := tblL []
  dep := fun i => 0
  n := 2

noncomputable def D_laws_szConstraint : Code := Try.f37.body.getD .skip
noncomputable def N_laws_szConstraint (_ : outs E_laws_szConstraint.params) (r : dens E_laws_szConstraint.results) : E_laws_szConstraint.B := r

-- laws.szConstraintS
noncomputable def E_laws_szConstraintS : Entry where
  params := [.v (.slice (.pair (.slice .int) (.pair .int (.slice (.slice .int))))), .v .int]
  results := [.v .int]
  B := Int
  run := fun a => laws_szConstraintS a.1 a.2
  out := fun b => ((), ())
  res := fun b => b

noncomputable def S_laws_szConstraintS_L5 (n : Nat) : LoopSpec where
  sh := [(0, .v (.slice (.pair (.slice .int) (.pair .int (.slice (.slice .int)))))), (1, .v .int), (5, .v .int)]
  ex := [(.exit 0, [(1, .v .int)]), (.ret, [(4, .v .int)])]
  run := laws_szConstraintS_L5 n

noncomputable def C_laws_szConstraintS : Cx where
  tt := tblTT tt
  T := tblT [(37, E_laws_szConstraint)]
  L := tblL [(5, S_laws_szConstraintS_L5 fuel)]
  dep := fun i => 0
  n := 2

noncomputable def B_laws_szConstraintS_L5 : Code := (Try.f22.body.bind (loopBody 5)).getD .skip
noncomputable def D_laws_szConstraintS : Code := Try.f22.body.getD .skip
noncomputable def N_laws_szConstraintS (_ : outs E_laws_szConstraintS.params) (r : dens E_laws_szConstraintS.results) : E_laws_szConstraintS.B := r

-- laws.szNetwork
noncomputable def E_laws_szNetwork : Entry where
  params := [.v (.pair .int (.pair .int (.slice (.pair (.slice .int) (.pair .int (.slice (.slice .int))))))), .v .int]
  results := [.v .int]
  B := Int
  run := fun a => laws_szNetwork a.1 a.2
  out := fun b => ((), ())
  res := fun b => b

noncomputable def C_laws_szNetwork : Cx where
  tt := tblTT tt
  T := tblT [(22, E_laws_szConstraintS)]
  L := tblL []
  dep := fun i => 0
  n := 2

noncomputable def D_laws_szNetwork : Code := Try.f6.body.getD .skip
noncomputable def N_laws_szNetwork (_ : outs E_laws_szNetwork.params) (r : dens E_laws_szNetwork.results) : E_laws_szNetwork.B := r

-- laws.toIntS
noncomputable def E_laws_toIntS : Entry where
  params := [.v (.slice .int)]
  results := [.mv .int 0]
  B := (List Int)
  run := fun a => laws_toIntS a
  out := fun b => ()
  res := fun b => b

noncomputable def S_laws_toIntS_L3 (n : Nat) : LoopSpec where
  sh := [(0, .v (.slice .int)), (3, .mv .int 0), (4, .v .int)]
  ex := [(.exit 0, [(3, .mv .int 0)])]
  run := laws_toIntS_L3 n

noncomputable def C_laws_toIntS : Cx where
  tt := tblTT tt
  T := tblT []
  L := tblL [(3, S_laws_toIntS_L3 fuel)]
  dep := fun i => 0
  n := 1

noncomputable def B_laws_toIntS_L3 : Code := (Try.f58.body.bind (loopBody 3)).getD .skip
noncomputable def D_laws_toIntS : Code := Try.f58.body.getD .skip
noncomputable def N_laws_toIntS (_ : outs E_laws_toIntS.params) (r : dens E_laws_toIntS.results) : E_laws_toIntS.B := r

-- laws.toIntSS
noncomputable def E_laws_toIntSS : Entry where
  params := [.v (.slice (.slice .int))]
  results := [.mv (.slice .int) 1]
  B := (List (List Int))
  run := fun a => laws_toIntSS a
  out := fun b => ()
  res := fun b => b

noncomputable def S_laws_toIntSS_L3 (n : Nat) : LoopSpec where
  sh := [(0, .v (.slice (.slice .int))), (3, .mv (.slice .int) 1), (4, .v .int)]
  ex := [(.exit 0, [(3, .mv (.slice .int) 1)])]
  run := laws_toIntSS_L3 n

noncomputable def C_laws_toIntSS : Cx where
  tt := tblTT tt
  T := tblT [(58, E_laws_toIntS)]
  L := tblL [(3, S_laws_toIntSS_L3 fuel)]
  dep := fun i => match i with
    | 7 => 1
    | _ => 0
  n := 1

noncomputable def B_laws_toIntSS_L3 : Code := (Try.f70.body.bind (loopBody 3)).getD .skip
noncomputable def D_laws_toIntSS : Code := Try.f70.body.getD .skip
noncomputable def N_laws_toIntSS (_ : outs E_laws_toIntSS.params) (r : dens E_laws_toIntSS.results) : E_laws_toIntSS.B := r

-- laws.toRelation
noncomputable def E_laws_toRelation : Entry where
  params := [.v (.pair .int (.slice (.slice .int)))]
  results := [.pr (.v .int) (.mv (.slice .int) 1)]
  B := (Int × (List (List Int)))
  run := fun a => laws_toRelation a
  out := fun b => ()
  res := fun b => b

noncomputable def C_laws_toRelation : Cx where
  tt := tblTT tt
  T := tblT [(70, E_laws_toIntSS)]
  L := tblL []
  dep := fun i => 0
  n := 1

noncomputable def D_laws_toRelation : Code := Try.f59.body.getD .skip
noncomputable def N_laws_toRelation (_ : outs E_laws_toRelation.params) (r : dens E_laws_toRelation.results) : E_laws_toRelation.B := r

-- laws.toConstraint
noncomputable def E_laws_toConstraint : Entry where
  params := [.v (.pair (.slice .int) (.pair .int (.slice (.slice .int))))]
  results := [.pr (.mv .int 0) (.pr (.v .int) (.mv (.slice .int) 1))]
  B := ((List Int) × (Int × (List (List Int))))
  run := fun a => laws_toConstraint a
  out := fun b => ()
  res := fun b => b

noncomputable def C_laws_toConstraint : Cx where
  tt := tblTT tt
  T := tblT [(58, E_laws_toIntS), (59, E_laws_toRelation)]
  L := tblL []
  dep := fun i => 0
  n := 1

noncomputable def D_laws_toConstraint : Code := Try.f43.body.getD .skip
noncomputable def N_laws_toConstraint (_ : outs E_laws_toConstraint.params) (r : dens E_laws_toConstraint.results) : E_laws_toConstraint.B := r

-- laws.toConstraintS
noncomputable def E_laws_toConstraintS : Entry where
  params := [.v (.slice (.pair (.slice .int) (.pair .int (.slice (.slice .int)))))]
  results := [.mv (.pair (.slice .int) (.pair .int (.slice (.slice .int)))) 2]
  B := (List ((List Int) × Int × (List (List Int))))
  run := fun a => laws_toConstraintS a
  out := fun b => ()
  res := fun b => b

noncomputable def S_laws_toConstraintS_L3 (n : Nat) : LoopSpec where
  sh := [(0, .v (.slice (.pair (.slice .int) (.pair .int (.slice (.slice .int)))))), (3, .mv (.pair (.slice .int) (.pair .int (.slice (.slice .int)))) 2), (4, .v .int)]
  ex := [(.exit 0, [(3, .mv (.pair (.slice .int) (.pair .int (.slice (.slice .int)))) 2)])]
  run := laws_toConstraintS_L3 n

noncomputable def C_laws_toConstraintS : Cx where
  tt := tblTT tt
  T := tblT [(43, E_laws_toConstraint)]
  L := tblL [(3, S_laws_toConstraintS_L3 fuel)]
  dep := fun i => match i with
    | 7 => 2
    | _ => 0
  n := 1

noncomputable def B_laws_toConstraintS_L3 : Code := (Try.f26.body.bind (loopBody 3)).getD .skip
noncomputable def D_laws_toConstraintS : Code := Try.f26.body.getD .skip
noncomputable def N_laws_toConstraintS (_ : outs E_laws_toConstraintS.params) (r : dens E_laws_toConstraintS.results) : E_laws_toConstraintS.B := r

-- laws.toNetwork
noncomputable def E_laws_toNetwork : Entry where
  params := [.v (.pair .int (.pair .int (.slice (.pair (.slice .int) (.pair .int (.slice (.slice .int)))))))]
  results := [.pr (.v .int) (.pr (.v .int) (.mv (.pair (.slice .int) (.pair .int (.slice (.slice .int)))) 2))]
  B := (Int × (Int × (List ((List Int) × Int × (List (List Int))))))
  run := fun a => laws_toNetwork a
  out := fun b => ()
  res := fun b => b

noncomputable def C_laws_toNetwork : Cx where
  tt := tblTT tt
  T := tblT [(26, E_laws_toConstraintS)]
  L := tblL []
  dep := fun i => 0
  n := 1

noncomputable def D_laws_toNetwork : Code := Try.f8.body.getD .skip
noncomputable def N_laws_toNetwork (_ : outs E_laws_toNetwork.params) (r : dens E_laws_toNetwork.results) : E_laws_toNetwork.B := r

-- spec.l1In
noncomputable def E_spec_l1In : Entry where
  params := [.v .int, .v .int, .v .int]
  results := [.v .bool]
  B := Bool
  run := fun a => spec_l1In a.1 a.2.1 a.2.2
  out := fun b => ((), (), ())
  res := fun b => b

noncomputable def C_spec_l1In : Cx where
  tt := tblTT tt
  T := tblT []
  L := tblL []
  dep := fun i => 0
  n := 3

noncomputable def D_spec_l1In : Code := Try.f38.body.getD .skip
noncomputable def N_spec_l1In (_ : outs E_spec_l1In.params) (r : dens E_spec_l1In.results) : E_spec_l1In.B := r

-- spec.l2Pow
noncomputable def E_spec_l2Pow : Entry where
  params := [.v .int, .v .int]
  results := [.v .int]
  B := Int
  run := fun a => spec_l2Pow a.1 a.2
  out := fun b => ((), ())
  res := fun b => b

noncomputable def S_spec_l2Pow_L2 (n : Nat) : LoopSpec where
  sh := [(0, .v .int), (1, .v .int), (5, .v .int)]
  ex := [(.exit 0, [(5, .v .int)])]
  run := spec_l2Pow_L2 n

noncomputable def C_spec_l2Pow : Cx where
  tt := tblTT tt
  T := tblT []
  L := tblL [(2, S_spec_l2Pow_L2 fuel)]
  dep := fun i => 0
  n := 2

noncomputable def B_spec_l2Pow_L2 : Code := (Try.f66.body.bind (loopBody 2)).getD .skip
noncomputable def D_spec_l2Pow : Code := Try.f66.body.getD .skip
noncomputable def N_spec_l2Pow (_ : outs E_spec_l2Pow.params) (r : dens E_spec_l2Pow.results) : E_spec_l2Pow.B := r

-- spec.l2Elements
noncomputable def E_spec_l2Elements : Entry where
  params := [.v .int, .v (.slice .int)]
  results := [.v .bool]
  B := Bool
  run := fun a => spec_l2Elements a.1 a.2
  out := fun b => ((), ())
  res := fun b => b

noncomputable def S_spec_l2Elements_L2 (n : Nat) : LoopSpec where
  sh := [(0, .v .int), (1, .v (.slice .int)), (5, .v .int)]
  ex := [(.exit 0, []), (.ret, [(4, .v .bool)])]
  run := spec_l2Elements_L2 n

noncomputable def C_spec_l2Elements : Cx where
  tt := tblTT tt
  T := tblT [(38, E_spec_l1In)]
  L := tblL [(2, S_spec_l2Elements_L2 fuel)]
  dep := fun i => 0
  n := 2

noncomputable def B_spec_l2Elements_L2 : Code := (Try.f55.body.bind (loopBody 2)).getD .skip
noncomputable def D_spec_l2Elements : Code := Try.f55.body.getD .skip
noncomputable def N_spec_l2Elements (_ : outs E_spec_l2Elements.params) (r : dens E_spec_l2Elements.results) : E_spec_l2Elements.B := r

-- spec.l8Tuple
noncomputable def E_spec_l8Tuple : Entry where
  params := [.v .int, .v .int, .v (.slice .int)]
  results := [.v .bool]
  B := Bool
  run := fun a => spec_l8Tuple a.1 a.2.1 a.2.2
  out := fun b => ((), (), ())
  res := fun b => b

noncomputable def C_spec_l8Tuple : Cx where
  tt := tblTT tt
  T := tblT [(55, E_spec_l2Elements)]
  L := tblL []
  dep := fun i => 0
  n := 3

noncomputable def D_spec_l8Tuple : Code := Try.f67.body.getD .skip
noncomputable def N_spec_l8Tuple (_ : outs E_spec_l8Tuple.params) (r : dens E_spec_l8Tuple.results) : E_spec_l8Tuple.B := r

-- spec.l3Less
noncomputable def E_spec_l3Less : Entry where
  params := [.v (.slice .int), .v (.slice .int)]
  results := [.v .bool]
  B := Bool
  run := fun a => spec_l3Less a.1 a.2
  out := fun b => ((), ())
  res := fun b => b

noncomputable def S_spec_l3Less_L2 (n : Nat) : LoopSpec where
  sh := [(0, .v (.slice .int)), (1, .v (.slice .int)), (5, .v .int)]
  ex := [(.exit 0, []), (.ret, [(4, .v .bool)])]
  run := spec_l3Less_L2 n

noncomputable def C_spec_l3Less : Cx where
  tt := tblTT tt
  T := tblT []
  L := tblL [(2, S_spec_l3Less_L2 fuel)]
  dep := fun i => 0
  n := 2

noncomputable def B_spec_l3Less_L2 : Code := (Try.f68.body.bind (loopBody 2)).getD .skip
noncomputable def D_spec_l3Less : Code := Try.f68.body.getD .skip
noncomputable def N_spec_l3Less (_ : outs E_spec_l3Less.params) (r : dens E_spec_l3Less.results) : E_spec_l3Less.B := r

-- spec.l13Good
noncomputable def E_spec_l13Good : Entry where
  params := [.v .int, .v (.pair .int (.slice (.slice .int)))]
  results := [.v .bool]
  B := Bool
  run := fun a => spec_l13Good a.1 a.2
  out := fun b => ((), ())
  res := fun b => b

noncomputable def S_spec_l13Good_L4 (n : Nat) : LoopSpec where
  sh := [(0, .v .int), (3, .bx (.v (.pair .int (.slice (.slice .int))))), (5, .v .int)]
  ex := [(.exit 0, []), (.ret, [(4, .v .bool)])]
  run := spec_l13Good_L4 n

noncomputable def C_spec_l13Good : Cx where
  tt := tblTT tt
  T := tblT [(38, E_spec_l1In), (66, E_spec_l2Pow), (67, E_spec_l8Tuple), (68, E_spec_l3Less)]
  L := tblL [(4, S_spec_l13Good_L4 fuel)]
  dep := fun i => 0
  n := 2

noncomputable def B_spec_l13Good_L4 : Code := (Try.f54.body.bind (loopBody 4)).getD .skip
noncomputable def D_spec_l13Good : Code := Try.f54.body.getD .skip
noncomputable def N_spec_l13Good (_ : outs E_spec_l13Good.params) (r : dens E_spec_l13Good.results) : E_spec_l13Good.B := r

-- spec.l19Is
noncomputable def E_spec_l19Is : Entry where
  params := [.v .int, .v .int, .v (.pair (.slice .int) (.pair .int (.slice (.slice .int))))]
  results := [.v .bool]
  B := Bool
  run := fun a => spec_l19Is a.1 a.2.1 a.2.2
  out := fun b => ((), (), ())
  res := fun b => b

noncomputable def C_spec_l19Is : Cx where
  tt := tblTT tt
  T := tblT [(54, E_spec_l13Good), (55, E_spec_l2Elements)]
  L := tblL []
  dep := fun i => 0
  n := 3

noncomputable def D_spec_l19Is : Code := Try.f39.body.getD .skip
noncomputable def N_spec_l19Is (_ : outs E_spec_l19Is.params) (r : dens E_spec_l19Is.results) : E_spec_l19Is.B := r

-- spec.l19Good
noncomputable def E_spec_l19Good : Entry where
  params := [.v (.pair .int (.pair .int (.slice (.pair (.slice .int) (.pair .int (.slice (.slice .int)))))))]
  results := [.v .bool]
  B := Bool
  run := fun a => spec_l19Good a
  out := fun b => ()
  res := fun b => b

noncomputable def S_spec_l19Good_L4 (n : Nat) : LoopSpec where
  sh := [(1, .bx (.v (.pair .int (.pair .int (.slice (.pair (.slice .int) (.pair .int (.slice (.slice .int))))))))), (3, .v .int)]
  ex := [(.exit 0, []), (.ret, [(2, .v .bool)])]
  run := spec_l19Good_L4 n

noncomputable def C_spec_l19Good : Cx where
  tt := tblTT tt
  T := tblT [(38, E_spec_l1In), (39, E_spec_l19Is)]
  L := tblL [(4, S_spec_l19Good_L4 fuel)]
  dep := fun i => 0
  n := 1

noncomputable def B_spec_l19Good_L4 : Code := (Try.f23.body.bind (loopBody 4)).getD .skip
noncomputable def D_spec_l19Good : Code := Try.f23.body.getD .skip
noncomputable def N_spec_l19Good (_ : outs E_spec_l19Good.params) (r : dens E_spec_l19Good.results) : E_spec_l19Good.B := r

-- spec.l1Has
noncomputable def E_spec_l1Has : Entry where
  params := [.v (.slice .int), .v .int]
  results := [.v .bool]
  B := Bool
  run := fun a => spec_l1Has a.1 a.2
  out := fun b => ((), ())
  res := fun b => b

noncomputable def S_spec_l1Has_L2 (n : Nat) : LoopSpec where
  sh := [(0, .v (.slice .int)), (1, .v .int), (5, .v .int)]
  ex := [(.exit 0, []), (.ret, [(4, .v .bool)])]
  run := spec_l1Has_L2 n

noncomputable def C_spec_l1Has : Cx where
  tt := tblTT tt
  T := tblT []
  L := tblL [(2, S_spec_l1Has_L2 fuel)]
  dep := fun i => 0
  n := 2

noncomputable def B_spec_l1Has_L2 : Code := (Try.f56.body.bind (loopBody 2)).getD .skip
noncomputable def D_spec_l1Has : Code := Try.f56.body.getD .skip
noncomputable def N_spec_l1Has (_ : outs E_spec_l1Has.params) (r : dens E_spec_l1Has.results) : E_spec_l1Has.B := r

-- spec.l20Inside
noncomputable def E_spec_l20Inside : Entry where
  params := [.v (.pair .int (.pair .int (.slice (.pair (.slice .int) (.pair .int (.slice (.slice .int))))))), .v (.slice .int)]
  results := [.mv (.pair (.slice .int) (.pair .int (.slice (.slice .int)))) 0]
  B := (List ((List Int) × Int × (List (List Int))))
  run := fun a => spec_l20Inside a.1 a.2
  out := fun b => ((), ())
  res := fun b => b

noncomputable def S_spec_l20Inside_L7 (n : Nat) : LoopSpec where
  sh := [(1, .v (.slice .int)), (2, .bx (.v (.pair .int (.pair .int (.slice (.pair (.slice .int) (.pair .int (.slice (.slice .int))))))))), (5, .mv (.pair (.slice .int) (.pair .int (.slice (.slice .int)))) 0), (6, .v .int), (7, .v .bool), (8, .v .int)]
  ex := [(.exit 2, [(1, .v (.slice .int)), (2, .bx (.v (.pair .int (.pair .int (.slice (.pair (.slice .int) (.pair .int (.slice (.slice .int))))))))), (5, .mv (.pair (.slice .int) (.pair .int (.slice (.slice .int)))) 0), (6, .v .int), (7, .v .bool)])]
  run := spec_l20Inside_L7 n

noncomputable def S_spec_l20Inside_L3 (n : Nat) : LoopSpec where
  sh := [(1, .v (.slice .int)), (2, .bx (.v (.pair .int (.pair .int (.slice (.pair (.slice .int) (.pair .int (.slice (.slice .int))))))))), (5, .mv (.pair (.slice .int) (.pair .int (.slice (.slice .int)))) 0), (6, .v .int)]
  ex := [(.exit 0, [(5, .mv (.pair (.slice .int) (.pair .int (.slice (.slice .int)))) 0)])]
  run := spec_l20Inside_L3 n

noncomputable def C_spec_l20Inside : Cx where
  tt := tblTT tt
  T := tblT [(56, E_spec_l1Has)]
  L := tblL [(7, S_spec_l20Inside_L7 fuel), (3, S_spec_l20Inside_L3 fuel)]
  dep := fun i => 0
  n := 2

noncomputable def B_spec_l20Inside_L7 : Code := (Try.f40.body.bind (loopBody 7)).getD .skip
noncomputable def B_spec_l20Inside_L3 : Code := (Try.f40.body.bind (loopBody 3)).getD .skip
noncomputable def D_spec_l20Inside : Code := Try.f40.body.getD .skip
noncomputable def N_spec_l20Inside (_ : outs E_spec_l20Inside.params) (r : dens E_spec_l20Inside.results) : E_spec_l20Inside.B := r

-- spec.l1Same
noncomputable def E_spec_l1Same : Entry where
  params := [.v (.slice .int), .v (.slice .int)]
  results := [.v .bool]
  B := Bool
  run := fun a => spec_l1Same a.1 a.2
  out := fun b => ((), ())
  res := fun b => b

noncomputable def S_spec_l1Same_L4 (n : Nat) : LoopSpec where
  sh := [(0, .v (.slice .int)), (1, .v (.slice .int)), (5, .v .int)]
  ex := [(.exit 0, []), (.ret, [(4, .v .bool)])]
  run := spec_l1Same_L4 n

noncomputable def C_spec_l1Same : Cx where
  tt := tblTT tt
  T := tblT []
  L := tblL [(4, S_spec_l1Same_L4 fuel)]
  dep := fun i => 0
  n := 2

noncomputable def B_spec_l1Same_L4 : Code := (Try.f78.body.bind (loopBody 4)).getD .skip
noncomputable def D_spec_l1Same : Code := Try.f78.body.getD .skip
noncomputable def N_spec_l1Same (_ : outs E_spec_l1Same.params) (r : dens E_spec_l1Same.results) : E_spec_l1Same.B := r

-- spec.l8Find
noncomputable def E_spec_l8Find : Entry where
  params := [.v (.slice (.slice .int)), .v (.slice .int)]
  results := [.v .int, .v .bool]
  B := Int × Bool
  run := fun a => spec_l8Find a.1 a.2
  out := fun b => ((), ())
  res := fun b => (b.1, b.2)

noncomputable def S_spec_l8Find_L2 (n : Nat) : LoopSpec where
  sh := [(0, .v (.slice (.slice .int))), (1, .v (.slice .int)), (6, .v .int), (7, .v .int)]
  ex := [(.exit 0, [(0, .v (.slice (.slice .int))), (1, .v (.slice .int)), (6, .v .int)])]
  run := spec_l8Find_L2 n

noncomputable def C_spec_l8Find : Cx where
  tt := tblTT tt
  T := tblT [(68, E_spec_l3Less), (78, E_spec_l1Same)]
  L := tblL [(2, S_spec_l8Find_L2 fuel)]
  dep := fun i => 0
  n := 2

noncomputable def B_spec_l8Find_L2 : Code := (Try.f76.body.bind (loopBody 2)).getD .skip
noncomputable def D_spec_l8Find : Code := Try.f76.body.getD .skip
noncomputable def N_spec_l8Find (_ : outs E_spec_l8Find.params) (r : dens E_spec_l8Find.results) : E_spec_l8Find.B := (r.1, r.2)

-- spec.l13Has
noncomputable def E_spec_l13Has : Entry where
  params := [.v (.pair .int (.slice (.slice .int))), .v (.slice .int)]
  results := [.v .bool]
  B := Bool
  run := fun a => spec_l13Has a.1 a.2
  out := fun b => ((), ())
  res := fun b => b

noncomputable def C_spec_l13Has : Cx where
  tt := tblTT tt
  T := tblT [(76, E_spec_l8Find)]
  L := tblL []
  dep := fun i => 0
  n := 2

noncomputable def D_spec_l13Has : Code := Try.f69.body.getD .skip
noncomputable def N_spec_l13Has (_ : outs E_spec_l13Has.params) (r : dens E_spec_l13Has.results) : E_spec_l13Has.B := r

-- spec.l19Satisfies
noncomputable def E_spec_l19Satisfies : Entry where
  params := [.v (.pair (.slice .int) (.pair .int (.slice (.slice .int)))), .v (.slice .int)]
  results := [.v .bool]
  B := Bool
  run := fun a => spec_l19Satisfies a.1 a.2
  out := fun b => ((), ())
  res := fun b => b

noncomputable def S_spec_l19Satisfies_L3 (n : Nat) : LoopSpec where
  sh := [(1, .v (.slice .int)), (2, .bx (.v (.pair (.slice .int) (.pair .int (.slice (.slice .int)))))), (5, .mv .int 0), (6, .v .int)]
  ex := [(.exit 0, [(2, .bx (.v (.pair (.slice .int) (.pair .int (.slice (.slice .int)))))), (5, .mv .int 0)])]
  run := spec_l19Satisfies_L3 n

noncomputable def C_spec_l19Satisfies : Cx where
  tt := tblTT tt
  T := tblT [(69, E_spec_l13Has)]
  L := tblL [(3, S_spec_l19Satisfies_L3 fuel)]
  dep := fun i => 0
  n := 2

noncomputable def B_spec_l19Satisfies_L3 : Code := (Try.f57.body.bind (loopBody 3)).getD .skip
noncomputable def D_spec_l19Satisfies : Code := Try.f57.body.getD .skip
noncomputable def N_spec_l19Satisfies (_ : outs E_spec_l19Satisfies.params) (r : dens E_spec_l19Satisfies.results) : E_spec_l19Satisfies.B := r

-- spec.l20Hold
noncomputable def E_spec_l20Hold : Entry where
  params := [.v (.slice (.pair (.slice .int) (.pair .int (.slice (.slice .int))))), .v (.slice .int)]
  results := [.v .bool]
  B := Bool
  run := fun a => spec_l20Hold a.1 a.2
  out := fun b => ((), ())
  res := fun b => b

noncomputable def S_spec_l20Hold_L2 (n : Nat) : LoopSpec where
  sh := [(0, .v (.slice (.pair (.slice .int) (.pair .int (.slice (.slice .int)))))), (1, .v (.slice .int)), (5, .v .int)]
  ex := [(.exit 0, []), (.ret, [(4, .v .bool)])]
  run := spec_l20Hold_L2 n

noncomputable def C_spec_l20Hold : Cx where
  tt := tblTT tt
  T := tblT [(57, E_spec_l19Satisfies)]
  L := tblL [(2, S_spec_l20Hold_L2 fuel)]
  dep := fun i => 0
  n := 2

noncomputable def B_spec_l20Hold_L2 : Code := (Try.f41.body.bind (loopBody 2)).getD .skip
noncomputable def D_spec_l20Hold : Code := Try.f41.body.getD .skip
noncomputable def N_spec_l20Hold (_ : outs E_spec_l20Hold.params) (r : dens E_spec_l20Hold.results) : E_spec_l20Hold.B := r

-- spec.l20At
noncomputable def E_spec_l20At : Entry where
  params := [.v (.slice (.slice (.slice .bool))), .v .int, .v .int, .v .int, .v .int, .v .int]
  results := [.v .bool]
  B := Bool
  run := fun a => spec_l20At a.1 a.2.1 a.2.2.1 a.2.2.2.1 a.2.2.2.2.1 a.2.2.2.2.2
  out := fun b => ((), (), (), (), (), ())
  res := fun b => b

noncomputable def C_spec_l20At : Cx where
  tt := tblTT tt
  T := tblT []
  L := tblL []
  dep := fun i => 0
  n := 6

noncomputable def D_spec_l20At : Code := Try.f30.body.getD .skip
noncomputable def N_spec_l20At (_ : outs E_spec_l20At.params) (r : dens E_spec_l20At.results) : E_spec_l20At.B := r

-- spec.l20Shrink
noncomputable def E_spec_l20Shrink : Entry where
  params := [.v (.pair .int (.pair .int (.slice (.pair (.slice .int) (.pair .int (.slice (.slice .int))))))), .io (.slice (.slice .bool)) 2, .v .int, .v .int, .v .int]
  results := [.v .bool]
  B := (List (List (List Bool))) × Bool
  run := fun a => spec_l20Shrink a.1 a.2.1 a.2.2.1 a.2.2.2.1 a.2.2.2.2
  out := fun b => ((), b.1, (), (), ())
  res := fun b => b.2

noncomputable def S_spec_l20Shrink_L10 (n : Nat) : LoopSpec where
  sh := [(1, .io (.slice (.slice .bool)) 2), (2, .v .int), (3, .v .int), (4, .v .int), (5, .bx (.v (.pair .int (.pair .int (.slice (.pair (.slice .int) (.pair .int (.slice (.slice .int))))))))), (11, .v .int), (12, .mv (.pair (.slice .int) (.pair .int (.slice (.slice .int)))) 0), (13, .v .bool), (14, .v .int), (15, .v .bool), (16, .v .int)]
  ex := [(.exit 2, [(1, .io (.slice (.slice .bool)) 2), (2, .v .int), (3, .v .int), (4, .v .int), (5, .bx (.v (.pair .int (.pair .int (.slice (.pair (.slice .int) (.pair .int (.slice (.slice .int))))))))), (11, .v .int), (12, .mv (.pair (.slice .int) (.pair .int (.slice (.slice .int)))) 0), (13, .v .bool), (14, .v .int), (15, .v .bool)])]
  run := spec_l20Shrink_L10 n

noncomputable def S_spec_l20Shrink_L5 (n : Nat) : LoopSpec where
  sh := [(1, .io (.slice (.slice .bool)) 2), (2, .v .int), (3, .v .int), (4, .v .int), (5, .bx (.v (.pair .int (.pair .int (.slice (.pair (.slice .int) (.pair .int (.slice (.slice .int))))))))), (11, .v .int), (12, .mv (.pair (.slice .int) (.pair .int (.slice (.slice .int)))) 0), (13, .v .bool), (14, .v .int)]
  ex := [(.exit 0, [(1, .io (.slice (.slice .bool)) 2), (13, .v .bool)])]
  run := spec_l20Shrink_L5 n

noncomputable def C_spec_l20Shrink : Cx where
  tt := tblTT tt
  T := tblT [(30, E_spec_l20At), (40, E_spec_l20Inside), (41, E_spec_l20Hold)]
  L := tblL [(10, S_spec_l20Shrink_L10 fuel), (5, S_spec_l20Shrink_L5 fuel)]
  dep := fun i => 0
  n := 5

noncomputable def B_spec_l20Shrink_L10 : Code := (Try.f42.body.bind (loopBody 10)).getD .skip
noncomputable def B_spec_l20Shrink_L5 : Code := (Try.f42.body.bind (loopBody 5)).getD .skip
noncomputable def D_spec_l20Shrink : Code := Try.f42.body.getD .skip
noncomputable def N_spec_l20Shrink (o : outs E_spec_l20Shrink.params) (r : dens E_spec_l20Shrink.results) : E_spec_l20Shrink.B := (o.2.1, r)

-- spec.l20Pairs
noncomputable def E_spec_l20Pairs : Entry where
  params := [.v (.pair .int (.pair .int (.slice (.pair (.slice .int) (.pair .int (.slice (.slice .int)))))))]
  results := [.mv (.slice (.slice .bool)) 2]
  B := (List (List (List Bool)))
  run := fun a => spec_l20Pairs a
  out := fun b => ()
  res := fun b => b

noncomputable def S_spec_l20Pairs_L13 (n : Nat) : LoopSpec where
  sh := [(1, .bx (.v (.pair .int (.pair .int (.slice (.pair (.slice .int) (.pair .int (.slice (.slice .int))))))))), (3, .v .int), (4, .v .int), (5, .mv (.slice (.slice .bool)) 2), (6, .v .int), (7, .mv (.slice .bool) 1), (8, .v .int), (9, .mv .bool 0), (10, .mv (.pair (.slice .int) (.pair .int (.slice (.slice .int)))) 0), (11, .v .int)]
  ex := [(.exit 4, [(1, .bx (.v (.pair .int (.pair .int (.slice (.pair (.slice .int) (.pair .int (.slice (.slice .int))))))))), (3, .v .int), (4, .v .int), (5, .mv (.slice (.slice .bool)) 2), (6, .v .int), (7, .mv (.slice .bool) 1), (8, .v .int), (9, .mv .bool 0)])]
  run := spec_l20Pairs_L13 n

noncomputable def S_spec_l20Pairs_L8 (n : Nat) : LoopSpec where
  sh := [(1, .bx (.v (.pair .int (.pair .int (.slice (.pair (.slice .int) (.pair .int (.slice (.slice .int))))))))), (3, .v .int), (4, .v .int), (5, .mv (.slice (.slice .bool)) 2), (6, .v .int), (7, .mv (.slice .bool) 1), (8, .v .int)]
  ex := [(.exit 2, [(1, .bx (.v (.pair .int (.pair .int (.slice (.pair (.slice .int) (.pair .int (.slice (.slice .int))))))))), (3, .v .int), (4, .v .int), (5, .mv (.slice (.slice .bool)) 2), (6, .v .int), (7, .mv (.slice .bool) 1)])]
  run := spec_l20Pairs_L8 n

noncomputable def S_spec_l20Pairs_L4 (n : Nat) : LoopSpec where
  sh := [(1, .bx (.v (.pair .int (.pair .int (.slice (.pair (.slice .int) (.pair .int (.slice (.slice .int))))))))), (3, .v .int), (4, .v .int), (5, .mv (.slice (.slice .bool)) 2), (6, .v .int)]
  ex := [(.exit 0, [(1, .bx (.v (.pair .int (.pair .int (.slice (.pair (.slice .int) (.pair .int (.slice (.slice .int))))))))), (3, .v .int), (5, .mv (.slice (.slice .bool)) 2)])]
  run := spec_l20Pairs_L4 n

noncomputable def S_spec_l20Pairs_L31 (n : Nat) : LoopSpec where
  sh := [(1, .bx (.v (.pair .int (.pair .int (.slice (.pair (.slice .int) (.pair .int (.slice (.slice .int))))))))), (3, .v .int), (5, .mv (.slice (.slice .bool)) 2), (13, .v .bool), (14, .v .int), (15, .v .int), (16, .v .int)]
  ex := [(.exit 12, [(1, .bx (.v (.pair .int (.pair .int (.slice (.pair (.slice .int) (.pair .int (.slice (.slice .int))))))))), (3, .v .int), (5, .mv (.slice (.slice .bool)) 2), (13, .v .bool), (14, .v .int), (15, .v .int)])]
  run := spec_l20Pairs_L31 n

noncomputable def S_spec_l20Pairs_L28 (n : Nat) : LoopSpec where
  sh := [(1, .bx (.v (.pair .int (.pair .int (.slice (.pair (.slice .int) (.pair .int (.slice (.slice .int))))))))), (3, .v .int), (5, .mv (.slice (.slice .bool)) 2), (13, .v .bool), (14, .v .int), (15, .v .int)]
  ex := [(.exit 10, [(1, .bx (.v (.pair .int (.pair .int (.slice (.pair (.slice .int) (.pair .int (.slice (.slice .int))))))))), (3, .v .int), (5, .mv (.slice (.slice .bool)) 2), (13, .v .bool), (14, .v .int)])]
  run := spec_l20Pairs_L28 n

noncomputable def S_spec_l20Pairs_L25 (n : Nat) : LoopSpec where
  sh := [(1, .bx (.v (.pair .int (.pair .int (.slice (.pair (.slice .int) (.pair .int (.slice (.slice .int))))))))), (3, .v .int), (5, .mv (.slice (.slice .bool)) 2), (13, .v .bool), (14, .v .int)]
  ex := [(.exit 8, [(1, .bx (.v (.pair .int (.pair .int (.slice (.pair (.slice .int) (.pair .int (.slice (.slice .int))))))))), (3, .v .int), (5, .mv (.slice (.slice .bool)) 2), (13, .v .bool)])]
  run := spec_l20Pairs_L25 n

noncomputable def S_spec_l20Pairs_L22 (n : Nat) : LoopSpec where
  sh := [(1, .bx (.v (.pair .int (.pair .int (.slice (.pair (.slice .int) (.pair .int (.slice (.slice .int))))))))), (3, .v .int), (5, .mv (.slice (.slice .bool)) 2), (13, .v .bool)]
  ex := [(.exit 6, [(5, .mv (.slice (.slice .bool)) 2)])]
  run := spec_l20Pairs_L22 n

noncomputable def C_spec_l20Pairs : Cx where
  tt := tblTT tt
  T := tblT [(40, E_spec_l20Inside), (41, E_spec_l20Hold), (42, E_spec_l20Shrink)]
  L := tblL [(13, S_spec_l20Pairs_L13 fuel), (8, S_spec_l20Pairs_L8 fuel), (4, S_spec_l20Pairs_L4 fuel), (31, S_spec_l20Pairs_L31 fuel), (28, S_spec_l20Pairs_L28 fuel), (25, S_spec_l20Pairs_L25 fuel), (22, S_spec_l20Pairs_L22 fuel)]
  dep := fun i => match i with
    | 21 => 2
    | 27 => 1
    | 76 => 1
    | 77 => 1
    | 80 => 2
    | 81 => 2
    | _ => 0
  n := 1

noncomputable def B_spec_l20Pairs_L13 : Code := (Try.f24.body.bind (loopBody 13)).getD .skip
noncomputable def B_spec_l20Pairs_L8 : Code := (Try.f24.body.bind (loopBody 8)).getD .skip
noncomputable def B_spec_l20Pairs_L4 : Code := (Try.f24.body.bind (loopBody 4)).getD .skip
noncomputable def B_spec_l20Pairs_L31 : Code := (Try.f24.body.bind (loopBody 31)).getD .skip
noncomputable def B_spec_l20Pairs_L28 : Code := (Try.f24.body.bind (loopBody 28)).getD .skip
noncomputable def B_spec_l20Pairs_L25 : Code := (Try.f24.body.bind (loopBody 25)).getD .skip
noncomputable def B_spec_l20Pairs_L22 : Code := (Try.f24.body.bind (loopBody 22)).getD .skip
noncomputable def D_spec_l20Pairs : Code := Try.f24.body.getD .skip
noncomputable def N_spec_l20Pairs (_ : outs E_spec_l20Pairs.params) (r : dens E_spec_l20Pairs.results) : E_spec_l20Pairs.B := r

-- spec.GreedyByPairs
noncomputable def E_spec_GreedyByPairs : Entry where
  params := [.v (.pair .int (.pair .int (.slice (.pair (.slice .int) (.pair .int (.slice (.slice .int)))))))]
  results := [.mv .int 0, .v .bool]
  B := (List Int) × Bool
  run := fun a => spec_GreedyByPairs a
  out := fun b => ()
  res := fun b => (b.1, b.2)

noncomputable def S_spec_GreedyByPairs_L14 (n : Nat) : LoopSpec where
  sh := [(1, .bx (.v (.pair .int (.pair .int (.slice (.pair (.slice .int) (.pair .int (.slice (.slice .int))))))))), (4, .mv (.slice (.slice .bool)) 2), (5, .mv .int 0), (6, .v .int), (7, .v .int), (8, .v .int), (9, .v .bool), (10, .v .int)]
  ex := [(.exit 4, [(1, .bx (.v (.pair .int (.pair .int (.slice (.pair (.slice .int) (.pair .int (.slice (.slice .int))))))))), (4, .mv (.slice (.slice .bool)) 2), (5, .mv .int 0), (6, .v .int), (7, .v .int), (8, .v .int), (9, .v .bool)])]
  run := spec_GreedyByPairs_L14 n

noncomputable def S_spec_GreedyByPairs_L20 (n : Nat) : LoopSpec where
  sh := [(1, .bx (.v (.pair .int (.pair .int (.slice (.pair (.slice .int) (.pair .int (.slice (.slice .int))))))))), (4, .mv (.slice (.slice .bool)) 2), (5, .mv .int 0), (6, .v .int), (7, .v .int), (8, .v .int), (9, .v .bool), (11, .v .int)]
  ex := [(.exit 6, [(1, .bx (.v (.pair .int (.pair .int (.slice (.pair (.slice .int) (.pair .int (.slice (.slice .int))))))))), (4, .mv (.slice (.slice .bool)) 2), (5, .mv .int 0), (6, .v .int), (7, .v .int), (8, .v .int), (9, .v .bool)])]
  run := spec_GreedyByPairs_L20 n

noncomputable def S_spec_GreedyByPairs_L10 (n : Nat) : LoopSpec where
  sh := [(1, .bx (.v (.pair .int (.pair .int (.slice (.pair (.slice .int) (.pair .int (.slice (.slice .int))))))))), (4, .mv (.slice (.slice .bool)) 2), (5, .mv .int 0), (6, .v .int), (7, .v .int), (8, .v .int)]
  ex := [(.exit 2, [(1, .bx (.v (.pair .int (.pair .int (.slice (.pair (.slice .int) (.pair .int (.slice (.slice .int))))))))), (4, .mv (.slice (.slice .bool)) 2), (5, .mv .int 0), (6, .v .int), (7, .v .int)])]
  run := spec_GreedyByPairs_L10 n

noncomputable def S_spec_GreedyByPairs_L6 (n : Nat) : LoopSpec where
  sh := [(1, .bx (.v (.pair .int (.pair .int (.slice (.pair (.slice .int) (.pair .int (.slice (.slice .int))))))))), (4, .mv (.slice (.slice .bool)) 2), (5, .mv .int 0), (6, .v .int)]
  ex := [(.exit 0, [(5, .mv .int 0)]), (.ret, [(2, .mv .int 0), (3, .v .bool)])]
  run := spec_GreedyByPairs_L6 n

noncomputable def C_spec_GreedyByPairs : Cx where
  tt := tblTT tt
  T := tblT [(23, E_spec_l19Good), (24, E_spec_l20Pairs), (30, E_spec_l20At)]
  L := tblL [(14, S_spec_GreedyByPairs_L14 fuel), (20, S_spec_GreedyByPairs_L20 fuel), (10, S_spec_GreedyByPairs_L10 fuel), (6, S_spec_GreedyByPairs_L6 fuel)]
  dep := fun i => 0
  n := 1

noncomputable def B_spec_GreedyByPairs_L14 : Code := (Try.f11.body.bind (loopBody 14)).getD .skip
noncomputable def B_spec_GreedyByPairs_L20 : Code := (Try.f11.body.bind (loopBody 20)).getD .skip
noncomputable def B_spec_GreedyByPairs_L10 : Code := (Try.f11.body.bind (loopBody 10)).getD .skip
noncomputable def B_spec_GreedyByPairs_L6 : Code := (Try.f11.body.bind (loopBody 6)).getD .skip
noncomputable def D_spec_GreedyByPairs : Code := Try.f11.body.getD .skip
noncomputable def N_spec_GreedyByPairs (_ : outs E_spec_GreedyByPairs.params) (r : dens E_spec_GreedyByPairs.results) : E_spec_GreedyByPairs.B := (r.1, r.2)

-- impl.isTemplateSize
noncomputable def E_impl_isTemplateSize : Entry where
  params := [.v .int]
  results := [.v .bool]
  B := Bool
  run := fun a => impl_isTemplateSize a
  out := fun b => ()
  res := fun b => b

noncomputable def C_impl_isTemplateSize : Cx where
  tt := tblTT tt
  T := tblT []
  L := tblL []
  dep := fun i => 0
  n := 1

noncomputable def D_impl_isTemplateSize : Code := Try.f44.body.getD .skip
noncomputable def N_impl_isTemplateSize (_ : outs E_impl_isTemplateSize.params) (r : dens E_impl_isTemplateSize.results) : E_impl_isTemplateSize.B := r

-- impl.inSize
noncomputable def E_impl_inSize : Entry where
  params := [.v (.slice .int), .v .int]
  results := [.v .bool]
  B := Bool
  run := fun a => impl_inSize a.1 a.2
  out := fun b => ((), ())
  res := fun b => b

noncomputable def S_impl_inSize_L2 (n : Nat) : LoopSpec where
  sh := [(1, .v .int), (7, .v (.slice .int)), (8, .v .int), (9, .v .int)]
  ex := [(.exit 0, []), (.ret, [(4, .v .bool)])]
  run := impl_inSize_L2 n

noncomputable def C_impl_inSize : Cx where
  tt := tblTT tt
  T := tblT []
  L := tblL [(2, S_impl_inSize_L2 fuel)]
  dep := fun i => 0
  n := 2

noncomputable def B_impl_inSize_L2 : Code := (Try.f61.body.bind (loopBody 2)).getD .skip
noncomputable def D_impl_inSize : Code := Try.f61.body.getD .skip
noncomputable def N_impl_inSize (_ : outs E_impl_inSize.params) (r : dens E_impl_inSize.results) : E_impl_inSize.B := r

-- impl.compareLists
noncomputable def E_impl_compareLists : Entry where
  params := [.v (.slice .int), .v (.slice .int)]
  results := [.v .int]
  B := Int
  run := fun a => impl_compareLists a.1 a.2
  out := fun b => ((), ())
  res := fun b => b

noncomputable def S_impl_compareLists_L2 (n : Nat) : LoopSpec where
  sh := [(0, .v (.slice .int)), (1, .v (.slice .int)), (5, .v .int)]
  ex := [(.exit 0, [(0, .v (.slice .int)), (1, .v (.slice .int))]), (.ret, [(4, .v .int)])]
  run := impl_compareLists_L2 n

noncomputable def C_impl_compareLists : Cx where
  tt := tblTT tt
  T := tblT []
  L := tblL [(2, S_impl_compareLists_L2 fuel)]
  dep := fun i => 0
  n := 2

noncomputable def B_impl_compareLists_L2 : Code := (Try.f71.body.bind (loopBody 2)).getD .skip
noncomputable def D_impl_compareLists : Code := Try.f71.body.getD .skip
noncomputable def N_impl_compareLists (_ : outs E_impl_compareLists.params) (r : dens E_impl_compareLists.results) : E_impl_compareLists.B := r

-- impl.isRelation
noncomputable def E_impl_isRelation : Entry where
  params := [.v .int, .v (.pair .int (.slice (.slice .int)))]
  results := [.v .bool]
  B := Bool
  run := fun a => impl_isRelation a.1 a.2
  out := fun b => ((), ())
  res := fun b => b

noncomputable def S_impl_isRelation_L4 (n : Nat) : LoopSpec where
  sh := [(0, .v .int), (3, .bx (.v (.pair .int (.slice (.slice .int))))), (16, .v (.slice (.slice .int))), (17, .v .int), (18, .v .int)]
  ex := [(.exit 0, []), (.ret, [(4, .v .bool)])]
  run := impl_isRelation_L4 n

noncomputable def C_impl_isRelation : Cx where
  tt := tblTT tt
  T := tblT [(61, E_impl_inSize), (71, E_impl_compareLists)]
  L := tblL [(4, S_impl_isRelation_L4 fuel)]
  dep := fun i => 0
  n := 2

noncomputable def B_impl_isRelation_L4 : Code := (Try.f60.body.bind (loopBody 4)).getD .skip
noncomputable def D_impl_isRelation : Code := Try.f60.body.getD .skip
noncomputable def N_impl_isRelation (_ : outs E_impl_isRelation.params) (r : dens E_impl_isRelation.results) : E_impl_isRelation.B := r

-- impl.isConstraint
noncomputable def E_impl_isConstraint : Entry where
  params := [.v .int, .v .int, .v (.pair (.slice .int) (.pair .int (.slice (.slice .int))))]
  results := [.v .bool]
  B := Bool
  run := fun a => impl_isConstraint a.1 a.2.1 a.2.2
  out := fun b => ((), (), ())
  res := fun b => b

noncomputable def C_impl_isConstraint : Cx where
  tt := tblTT tt
  T := tblT [(60, E_impl_isRelation), (61, E_impl_inSize)]
  L := tblL []
  dep := fun i => 0
  n := 3

noncomputable def D_impl_isConstraint : Code := Try.f45.body.getD .skip
noncomputable def N_impl_isConstraint (_ : outs E_impl_isConstraint.params) (r : dens E_impl_isConstraint.results) : E_impl_isConstraint.B := r

-- impl.IsNetwork
noncomputable def E_impl_IsNetwork : Entry where
  params := [.v (.pair .int (.pair .int (.slice (.pair (.slice .int) (.pair .int (.slice (.slice .int)))))))]
  results := [.v .bool]
  B := Bool
  run := fun a => impl_IsNetwork a
  out := fun b => ()
  res := fun b => b

noncomputable def S_impl_IsNetwork_L4 (n : Nat) : LoopSpec where
  sh := [(1, .bx (.v (.pair .int (.pair .int (.slice (.pair (.slice .int) (.pair .int (.slice (.slice .int))))))))), (26, .v (.slice (.pair (.slice .int) (.pair .int (.slice (.slice .int)))))), (27, .v .int), (28, .v .int)]
  ex := [(.exit 0, []), (.ret, [(2, .v .bool)])]
  run := impl_IsNetwork_L4 n

noncomputable def C_impl_IsNetwork : Cx where
  tt := tblTT tt
  T := tblT [(44, E_impl_isTemplateSize), (45, E_impl_isConstraint)]
  L := tblL [(4, S_impl_IsNetwork_L4 fuel)]
  dep := fun i => 0
  n := 1

noncomputable def B_impl_IsNetwork_L4 : Code := (Try.f27.body.bind (loopBody 4)).getD .skip
noncomputable def D_impl_IsNetwork : Code := Try.f27.body.getD .skip
noncomputable def N_impl_IsNetwork (_ : outs E_impl_IsNetwork.params) (r : dens E_impl_IsNetwork.results) : E_impl_IsNetwork.B := r

-- impl.hasNot
noncomputable def E_impl_hasNot : Entry where
  params := [.v (.slice .int), .v .int]
  results := [.v .bool]
  B := Bool
  run := fun a => impl_hasNot a.1 a.2
  out := fun b => ((), ())
  res := fun b => b

noncomputable def S_impl_hasNot_L2 (n : Nat) : LoopSpec where
  sh := [(1, .v .int), (7, .v (.slice .int)), (8, .v .int), (9, .v .int)]
  ex := [(.exit 0, []), (.ret, [(4, .v .bool)])]
  run := impl_hasNot_L2 n

noncomputable def C_impl_hasNot : Cx where
  tt := tblTT tt
  T := tblT []
  L := tblL [(2, S_impl_hasNot_L2 fuel)]
  dep := fun i => 0
  n := 2

noncomputable def B_impl_hasNot_L2 : Code := (Try.f75.body.bind (loopBody 2)).getD .skip
noncomputable def D_impl_hasNot : Code := Try.f75.body.getD .skip
noncomputable def N_impl_hasNot (_ : outs E_impl_hasNot.params) (r : dens E_impl_hasNot.results) : E_impl_hasNot.B := r

-- impl.isPart
noncomputable def E_impl_isPart : Entry where
  params := [.v (.slice .int), .v (.slice .int)]
  results := [.v .bool]
  B := Bool
  run := fun a => impl_isPart a.1 a.2
  out := fun b => ((), ())
  res := fun b => b

noncomputable def S_impl_isPart_L2 (n : Nat) : LoopSpec where
  sh := [(1, .v (.slice .int)), (7, .v (.slice .int)), (8, .v .int), (9, .v .int)]
  ex := [(.exit 0, []), (.ret, [(4, .v .bool)])]
  run := impl_isPart_L2 n

noncomputable def C_impl_isPart : Cx where
  tt := tblTT tt
  T := tblT [(75, E_impl_hasNot)]
  L := tblL [(2, S_impl_isPart_L2 fuel)]
  dep := fun i => 0
  n := 2

noncomputable def B_impl_isPart_L2 : Code := (Try.f64.body.bind (loopBody 2)).getD .skip
noncomputable def D_impl_isPart : Code := Try.f64.body.getD .skip
noncomputable def N_impl_isPart (_ : outs E_impl_isPart.params) (r : dens E_impl_isPart.results) : E_impl_isPart.B := r

-- impl.within
noncomputable def E_impl_within : Entry where
  params := [.v (.pair .int (.pair .int (.slice (.pair (.slice .int) (.pair .int (.slice (.slice .int))))))), .v (.slice .int)]
  results := [.mv (.pair (.slice .int) (.pair .int (.slice (.slice .int)))) 0]
  B := (List ((List Int) × Int × (List (List Int))))
  run := fun a => impl_within a.1 a.2
  out := fun b => ((), ())
  res := fun b => b

noncomputable def S_impl_within_L3 (n : Nat) : LoopSpec where
  sh := [(1, .v (.slice .int)), (5, .mv (.pair (.slice .int) (.pair .int (.slice (.slice .int)))) 0), (10, .v (.slice (.pair (.slice .int) (.pair .int (.slice (.slice .int)))))), (11, .v .int), (12, .v .int)]
  ex := [(.exit 0, [(5, .mv (.pair (.slice .int) (.pair .int (.slice (.slice .int)))) 0)])]
  run := impl_within_L3 n

noncomputable def C_impl_within : Cx where
  tt := tblTT tt
  T := tblT [(64, E_impl_isPart)]
  L := tblL [(3, S_impl_within_L3 fuel)]
  dep := fun i => 0
  n := 2

noncomputable def B_impl_within_L3 : Code := (Try.f48.body.bind (loopBody 3)).getD .skip
noncomputable def D_impl_within : Code := Try.f48.body.getD .skip
noncomputable def N_impl_within (_ : outs E_impl_within.params) (r : dens E_impl_within.results) : E_impl_within.B := r

-- impl.compose
noncomputable def E_impl_compose : Entry where
  params := [.v (.slice .int), .v (.slice .int)]
  results := [.mv .int 0]
  B := (List Int)
  run := fun a => impl_compose a.1 a.2
  out := fun b => ((), ())
  res := fun b => b

noncomputable def S_impl_compose_L3 (n : Nat) : LoopSpec where
  sh := [(1, .v (.slice .int)), (5, .mv .int 0), (11, .v (.slice .int)), (12, .v .int), (13, .v .int)]
  ex := [(.exit 0, [(5, .mv .int 0)])]
  run := impl_compose_L3 n

noncomputable def C_impl_compose : Cx where
  tt := tblTT tt
  T := tblT []
  L := tblL [(3, S_impl_compose_L3 fuel)]
  dep := fun i => 0
  n := 2

noncomputable def B_impl_compose_L3 : Code := (Try.f74.body.bind (loopBody 3)).getD .skip
noncomputable def D_impl_compose : Code := Try.f74.body.getD .skip
noncomputable def N_impl_compose (_ : outs E_impl_compose.params) (r : dens E_impl_compose.results) : E_impl_compose.B := r

-- impl.sameList
noncomputable def E_impl_sameList : Entry where
  params := [.v (.slice .int), .v (.slice .int)]
  results := [.v .bool]
  B := Bool
  run := fun a => impl_sameList a.1 a.2
  out := fun b => ((), ())
  res := fun b => b

noncomputable def S_impl_sameList_L4 (n : Nat) : LoopSpec where
  sh := [(1, .v (.slice .int)), (12, .v (.slice .int)), (13, .v .int), (14, .v .int)]
  ex := [(.exit 0, []), (.ret, [(4, .v .bool)])]
  run := impl_sameList_L4 n

noncomputable def C_impl_sameList : Cx where
  tt := tblTT tt
  T := tblT []
  L := tblL [(4, S_impl_sameList_L4 fuel)]
  dep := fun i => 0
  n := 2

noncomputable def B_impl_sameList_L4 : Code := (Try.f77.body.bind (loopBody 4)).getD .skip
noncomputable def D_impl_sameList : Code := Try.f77.body.getD .skip
noncomputable def N_impl_sameList (_ : outs E_impl_sameList.params) (r : dens E_impl_sameList.results) : E_impl_sameList.B := r

-- impl.hasRow
noncomputable def E_impl_hasRow : Entry where
  params := [.v (.pair .int (.slice (.slice .int))), .v (.slice .int)]
  results := [.v .bool]
  B := Bool
  run := fun a => impl_hasRow a.1 a.2
  out := fun b => ((), ())
  res := fun b => b

noncomputable def S_impl_hasRow_L2 (n : Nat) : LoopSpec where
  sh := [(1, .v (.slice .int)), (8, .v (.slice (.slice .int))), (9, .v .int), (10, .v .int)]
  ex := [(.exit 0, []), (.ret, [(4, .v .bool)])]
  run := impl_hasRow_L2 n

noncomputable def C_impl_hasRow : Cx where
  tt := tblTT tt
  T := tblT [(77, E_impl_sameList)]
  L := tblL [(2, S_impl_hasRow_L2 fuel)]
  dep := fun i => 0
  n := 2

noncomputable def B_impl_hasRow_L2 : Code := (Try.f73.body.bind (loopBody 2)).getD .skip
noncomputable def D_impl_hasRow : Code := Try.f73.body.getD .skip
noncomputable def N_impl_hasRow (_ : outs E_impl_hasRow.params) (r : dens E_impl_hasRow.results) : E_impl_hasRow.B := r

-- impl.satisfies
noncomputable def E_impl_satisfies : Entry where
  params := [.v (.slice (.pair (.slice .int) (.pair .int (.slice (.slice .int))))), .v (.slice .int)]
  results := [.v .bool]
  B := Bool
  run := fun a => impl_satisfies a.1 a.2
  out := fun b => ((), ())
  res := fun b => b

noncomputable def S_impl_satisfies_L2 (n : Nat) : LoopSpec where
  sh := [(1, .v (.slice .int)), (7, .v (.slice (.pair (.slice .int) (.pair .int (.slice (.slice .int)))))), (8, .v .int), (9, .v .int)]
  ex := [(.exit 0, []), (.ret, [(4, .v .bool)])]
  run := impl_satisfies_L2 n

noncomputable def C_impl_satisfies : Cx where
  tt := tblTT tt
  T := tblT [(73, E_impl_hasRow), (74, E_impl_compose)]
  L := tblL [(2, S_impl_satisfies_L2 fuel)]
  dep := fun i => 0
  n := 2

noncomputable def B_impl_satisfies_L2 : Code := (Try.f63.body.bind (loopBody 2)).getD .skip
noncomputable def D_impl_satisfies : Code := Try.f63.body.getD .skip
noncomputable def N_impl_satisfies (_ : outs E_impl_satisfies.params) (r : dens E_impl_satisfies.results) : E_impl_satisfies.B := r

-- impl.firstPairs
noncomputable def E_impl_firstPairs : Entry where
  params := [.v (.pair .int (.pair .int (.slice (.pair (.slice .int) (.pair .int (.slice (.slice .int)))))))]
  results := [.mv (.slice (.slice (.slice .bool))) 3]
  B := (List (List (List (List Bool))))
  run := fun a => impl_firstPairs a
  out := fun b => ()
  res := fun b => b

noncomputable def S_impl_firstPairs_L11 (n : Nat) : LoopSpec where
  sh := [(1, .bx (.v (.pair .int (.pair .int (.slice (.pair (.slice .int) (.pair .int (.slice (.slice .int))))))))), (3, .mv (.slice (.slice (.slice .bool))) 3), (4, .v .int), (5, .v .int), (18, .v .int), (19, .v .int), (32, .v .int), (33, .v .int), (52, .v .int), (53, .v .int)]
  ex := [(.exit 4, [(1, .bx (.v (.pair .int (.pair .int (.slice (.pair (.slice .int) (.pair .int (.slice (.slice .int))))))))), (3, .mv (.slice (.slice (.slice .bool))) 3), (4, .v .int), (18, .v .int), (19, .v .int), (32, .v .int), (33, .v .int)])]
  run := impl_firstPairs_L11 n

noncomputable def S_impl_firstPairs_L7 (n : Nat) : LoopSpec where
  sh := [(1, .bx (.v (.pair .int (.pair .int (.slice (.pair (.slice .int) (.pair .int (.slice (.slice .int))))))))), (3, .mv (.slice (.slice (.slice .bool))) 3), (4, .v .int), (18, .v .int), (19, .v .int), (32, .v .int), (33, .v .int)]
  ex := [(.exit 2, [(1, .bx (.v (.pair .int (.pair .int (.slice (.pair (.slice .int) (.pair .int (.slice (.slice .int))))))))), (3, .mv (.slice (.slice (.slice .bool))) 3), (18, .v .int), (19, .v .int)])]
  run := impl_firstPairs_L7 n

noncomputable def S_impl_firstPairs_L3 (n : Nat) : LoopSpec where
  sh := [(1, .bx (.v (.pair .int (.pair .int (.slice (.pair (.slice .int) (.pair .int (.slice (.slice .int))))))))), (3, .mv (.slice (.slice (.slice .bool))) 3), (18, .v .int), (19, .v .int)]
  ex := [(.exit 0, [(1, .bx (.v (.pair .int (.pair .int (.slice (.pair (.slice .int) (.pair .int (.slice (.slice .int))))))))), (3, .mv (.slice (.slice (.slice .bool))) 3)])]
  run := impl_firstPairs_L3 n

noncomputable def S_impl_firstPairs_L29 (n : Nat) : LoopSpec where
  sh := [(1, .bx (.v (.pair .int (.pair .int (.slice (.pair (.slice .int) (.pair .int (.slice (.slice .int))))))))), (3, .mv (.slice (.slice (.slice .bool))) 3), (7, .mv .int 0), (8, .v .int), (9, .v .int), (10, .mv (.pair (.slice .int) (.pair .int (.slice (.slice .int)))) 0), (11, .v .int), (12, .v .int), (75, .v .int), (76, .v .int)]
  ex := [(.exit 12, [(1, .bx (.v (.pair .int (.pair .int (.slice (.pair (.slice .int) (.pair .int (.slice (.slice .int))))))))), (3, .mv (.slice (.slice (.slice .bool))) 3), (7, .mv .int 0), (8, .v .int), (9, .v .int), (10, .mv (.pair (.slice .int) (.pair .int (.slice (.slice .int)))) 0), (11, .v .int), (75, .v .int), (76, .v .int)])]
  run := impl_firstPairs_L29 n

noncomputable def S_impl_firstPairs_L26 (n : Nat) : LoopSpec where
  sh := [(1, .bx (.v (.pair .int (.pair .int (.slice (.pair (.slice .int) (.pair .int (.slice (.slice .int))))))))), (3, .mv (.slice (.slice (.slice .bool))) 3), (7, .mv .int 0), (8, .v .int), (9, .v .int), (10, .mv (.pair (.slice .int) (.pair .int (.slice (.slice .int)))) 0), (11, .v .int), (75, .v .int), (76, .v .int)]
  ex := [(.exit 10, [(1, .bx (.v (.pair .int (.pair .int (.slice (.pair (.slice .int) (.pair .int (.slice (.slice .int))))))))), (3, .mv (.slice (.slice (.slice .bool))) 3), (7, .mv .int 0), (8, .v .int), (9, .v .int), (75, .v .int), (76, .v .int)])]
  run := impl_firstPairs_L26 n

noncomputable def S_impl_firstPairs_L22 (n : Nat) : LoopSpec where
  sh := [(1, .bx (.v (.pair .int (.pair .int (.slice (.pair (.slice .int) (.pair .int (.slice (.slice .int))))))))), (3, .mv (.slice (.slice (.slice .bool))) 3), (7, .mv .int 0), (8, .v .int), (9, .v .int), (75, .v .int), (76, .v .int)]
  ex := [(.exit 8, [(1, .bx (.v (.pair .int (.pair .int (.slice (.pair (.slice .int) (.pair .int (.slice (.slice .int))))))))), (3, .mv (.slice (.slice (.slice .bool))) 3), (7, .mv .int 0), (75, .v .int), (76, .v .int)])]
  run := impl_firstPairs_L22 n

noncomputable def S_impl_firstPairs_L19 (n : Nat) : LoopSpec where
  sh := [(1, .bx (.v (.pair .int (.pair .int (.slice (.pair (.slice .int) (.pair .int (.slice (.slice .int))))))))), (3, .mv (.slice (.slice (.slice .bool))) 3), (7, .mv .int 0), (75, .v .int), (76, .v .int)]
  ex := [(.exit 6, [(3, .mv (.slice (.slice (.slice .bool))) 3)])]
  run := impl_firstPairs_L19 n

noncomputable def C_impl_firstPairs : Cx where
  tt := tblTT tt
  T := tblT [(48, E_impl_within), (63, E_impl_satisfies)]
  L := tblL [(11, S_impl_firstPairs_L11 fuel), (7, S_impl_firstPairs_L7 fuel), (3, S_impl_firstPairs_L3 fuel), (29, S_impl_firstPairs_L29 fuel), (26, S_impl_firstPairs_L26 fuel), (22, S_impl_firstPairs_L22 fuel), (19, S_impl_firstPairs_L19 fuel)]
  dep := fun i => match i with
    | 16 => 3
    | 26 => 2
    | 43 => 1
    | _ => 0
  n := 1

noncomputable def B_impl_firstPairs_L11 : Code := (Try.f47.body.bind (loopBody 11)).getD .skip
noncomputable def B_impl_firstPairs_L7 : Code := (Try.f47.body.bind (loopBody 7)).getD .skip
noncomputable def B_impl_firstPairs_L3 : Code := (Try.f47.body.bind (loopBody 3)).getD .skip
noncomputable def B_impl_firstPairs_L29 : Code := (Try.f47.body.bind (loopBody 29)).getD .skip
noncomputable def B_impl_firstPairs_L26 : Code := (Try.f47.body.bind (loopBody 26)).getD .skip
noncomputable def B_impl_firstPairs_L22 : Code := (Try.f47.body.bind (loopBody 22)).getD .skip
noncomputable def B_impl_firstPairs_L19 : Code := (Try.f47.body.bind (loopBody 19)).getD .skip
noncomputable def D_impl_firstPairs : Code := Try.f47.body.getD .skip
noncomputable def N_impl_firstPairs (_ : outs E_impl_firstPairs.params) (r : dens E_impl_firstPairs.results) : E_impl_firstPairs.B := r

-- impl.pairTable).holds
noncomputable def E_impl_pairTable_holds : Entry where
  params := [.v (.slice (.slice (.slice (.slice .bool)))), .v (.pair .int (.pair .int (.slice (.pair (.slice .int) (.pair .int (.slice (.slice .int))))))), .v (.slice (.pair (.slice .int) (.pair .int (.slice (.slice .int))))), .io .int 0, .v .int, .v .int, .v .int]
  results := [.v .bool]
  B := (List Int) × Bool
  run := fun a => impl_pairTable_holds a.1 a.2.1 a.2.2.1 a.2.2.2.1 a.2.2.2.2.1 a.2.2.2.2.2.1 a.2.2.2.2.2.2
  out := fun b => ((), (), (), b.1, (), (), ())
  res := fun b => b.2

noncomputable def S_impl_pairTable_holds_L2 (n : Nat) : LoopSpec where
  sh := [(0, .v (.slice (.slice (.slice (.slice .bool))))), (2, .v (.slice (.pair (.slice .int) (.pair .int (.slice (.slice .int)))))), (3, .io .int 0), (4, .v .int), (5, .v .int), (6, .v .int), (8, .bx (.v (.pair .int (.pair .int (.slice (.pair (.slice .int) (.pair .int (.slice (.slice .int))))))))), (15, .v .int)]
  ex := [(.exit 0, [(3, .io .int 0)]), (.ret, [(3, .io .int 0), (14, .v .bool)])]
  run := impl_pairTable_holds_L2 n

noncomputable def C_impl_pairTable_holds : Cx where
  tt := tblTT tt
  T := tblT [(63, E_impl_satisfies)]
  L := tblL [(2, S_impl_pairTable_holds_L2 fuel)]
  dep := fun i => 0
  n := 7

noncomputable def B_impl_pairTable_holds_L2 : Code := (Try.f49.body.bind (loopBody 2)).getD .skip
noncomputable def D_impl_pairTable_holds : Code := Try.f49.body.getD .skip
noncomputable def N_impl_pairTable_holds (o : outs E_impl_pairTable_holds.params) (r : dens E_impl_pairTable_holds.results) : E_impl_pairTable_holds.B := (o.2.2.2.1, r)

-- impl.minimalPairs
noncomputable def E_impl_minimalPairs : Entry where
  params := [.v (.pair .int (.pair .int (.slice (.pair (.slice .int) (.pair .int (.slice (.slice .int)))))))]
  results := [.mv (.slice (.slice (.slice .bool))) 3]
  B := (List (List (List (List Bool))))
  run := fun a => impl_minimalPairs a
  out := fun b => ()
  res := fun b => b

noncomputable def S_impl_minimalPairs_L18 (n : Nat) : LoopSpec where
  sh := [(1, .bx (.v (.pair .int (.pair .int (.slice (.pair (.slice .int) (.pair .int (.slice (.slice .int))))))))), (3, .mv (.slice (.slice (.slice .bool))) 3), (4, .mv .int 0), (5, .v .bool), (6, .v .int), (7, .v .int), (8, .v .int), (9, .mv (.pair (.slice .int) (.pair .int (.slice (.slice .int)))) 0), (10, .v .int), (18, .v .int), (19, .v .int), (31, .v .int), (32, .v .int)]
  ex := [(.exit 8, [(1, .bx (.v (.pair .int (.pair .int (.slice (.pair (.slice .int) (.pair .int (.slice (.slice .int))))))))), (3, .mv (.slice (.slice (.slice .bool))) 3), (4, .mv .int 0), (5, .v .bool), (6, .v .int), (7, .v .int), (18, .v .int), (19, .v .int), (31, .v .int), (32, .v .int)])]
  run := impl_minimalPairs_L18 n

noncomputable def S_impl_minimalPairs_L13 (n : Nat) : LoopSpec where
  sh := [(1, .bx (.v (.pair .int (.pair .int (.slice (.pair (.slice .int) (.pair .int (.slice (.slice .int))))))))), (3, .mv (.slice (.slice (.slice .bool))) 3), (4, .mv .int 0), (5, .v .bool), (6, .v .int), (7, .v .int), (18, .v .int), (19, .v .int), (31, .v .int), (32, .v .int)]
  ex := [(.exit 6, [(1, .bx (.v (.pair .int (.pair .int (.slice (.pair (.slice .int) (.pair .int (.slice (.slice .int))))))))), (3, .mv (.slice (.slice (.slice .bool))) 3), (4, .mv .int 0), (5, .v .bool), (6, .v .int), (7, .v .int), (18, .v .int), (19, .v .int)])]
  run := impl_minimalPairs_L13 n

noncomputable def S_impl_minimalPairs_L10 (n : Nat) : LoopSpec where
  sh := [(1, .bx (.v (.pair .int (.pair .int (.slice (.pair (.slice .int) (.pair .int (.slice (.slice .int))))))))), (3, .mv (.slice (.slice (.slice .bool))) 3), (4, .mv .int 0), (5, .v .bool), (6, .v .int), (7, .v .int), (18, .v .int), (19, .v .int)]
  ex := [(.exit 4, [(1, .bx (.v (.pair .int (.pair .int (.slice (.pair (.slice .int) (.pair .int (.slice (.slice .int))))))))), (3, .mv (.slice (.slice (.slice .bool))) 3), (4, .mv .int 0), (5, .v .bool), (18, .v .int), (19, .v .int)])]
  run := impl_minimalPairs_L10 n

noncomputable def S_impl_minimalPairs_L7 (n : Nat) : LoopSpec where
  sh := [(1, .bx (.v (.pair .int (.pair .int (.slice (.pair (.slice .int) (.pair .int (.slice (.slice .int))))))))), (3, .mv (.slice (.slice (.slice .bool))) 3), (4, .mv .int 0), (5, .v .bool), (18, .v .int), (19, .v .int)]
  ex := [(.exit 2, [(1, .bx (.v (.pair .int (.pair .int (.slice (.pair (.slice .int) (.pair .int (.slice (.slice .int))))))))), (3, .mv (.slice (.slice (.slice .bool))) 3), (4, .mv .int 0), (5, .v .bool)])]
  run := impl_minimalPairs_L7 n

noncomputable def S_impl_minimalPairs_L4 (n : Nat) : LoopSpec where
  sh := [(1, .bx (.v (.pair .int (.pair .int (.slice (.pair (.slice .int) (.pair .int (.slice (.slice .int))))))))), (3, .mv (.slice (.slice (.slice .bool))) 3), (4, .mv .int 0), (5, .v .bool)]
  ex := [(.exit 0, [(3, .mv (.slice (.slice (.slice .bool))) 3)])]
  run := impl_minimalPairs_L4 n

noncomputable def C_impl_minimalPairs : Cx where
  tt := tblTT tt
  T := tblT [(47, E_impl_firstPairs), (48, E_impl_within), (49, E_impl_pairTable_holds)]
  L := tblL [(18, S_impl_minimalPairs_L18 fuel), (13, S_impl_minimalPairs_L13 fuel), (10, S_impl_minimalPairs_L10 fuel), (7, S_impl_minimalPairs_L7 fuel), (4, S_impl_minimalPairs_L4 fuel)]
  dep := fun i => 0
  n := 1

noncomputable def B_impl_minimalPairs_L18 : Code := (Try.f31.body.bind (loopBody 18)).getD .skip
noncomputable def B_impl_minimalPairs_L13 : Code := (Try.f31.body.bind (loopBody 13)).getD .skip
noncomputable def B_impl_minimalPairs_L10 : Code := (Try.f31.body.bind (loopBody 10)).getD .skip
noncomputable def B_impl_minimalPairs_L7 : Code := (Try.f31.body.bind (loopBody 7)).getD .skip
noncomputable def B_impl_minimalPairs_L4 : Code := (Try.f31.body.bind (loopBody 4)).getD .skip
noncomputable def D_impl_minimalPairs : Code := Try.f31.body.getD .skip
noncomputable def N_impl_minimalPairs (_ : outs E_impl_minimalPairs.params) (r : dens E_impl_minimalPairs.results) : E_impl_minimalPairs.B := r

-- impl.marked
noncomputable def E_impl_marked : Entry where
  params := [.v (.slice .bool)]
  results := [.mv .int 0]
  B := (List Int)
  run := fun a => impl_marked a
  out := fun b => ()
  res := fun b => b

noncomputable def S_impl_marked_L3 (n : Nat) : LoopSpec where
  sh := [(3, .mv .int 0), (7, .v (.slice .bool)), (8, .v .int), (9, .v .int)]
  ex := [(.exit 0, [(3, .mv .int 0)])]
  run := impl_marked_L3 n

noncomputable def C_impl_marked : Cx where
  tt := tblTT tt
  T := tblT []
  L := tblL [(3, S_impl_marked_L3 fuel)]
  dep := fun i => 0
  n := 1

noncomputable def B_impl_marked_L3 : Code := (Try.f32.body.bind (loopBody 3)).getD .skip
noncomputable def D_impl_marked : Code := Try.f32.body.getD .skip
noncomputable def N_impl_marked (_ : outs E_impl_marked.params) (r : dens E_impl_marked.results) : E_impl_marked.B := r

-- impl.GreedyByPairs
noncomputable def E_impl_GreedyByPairs : Entry where
  params := [.v (.pair .int (.pair .int (.slice (.pair (.slice .int) (.pair .int (.slice (.slice .int)))))))]
  results := [.mv .int 0, .v .bool]
  B := (List Int) × Bool
  run := fun a => impl_GreedyByPairs a
  out := fun b => ()
  res := fun b => (b.1, b.2)

noncomputable def S_impl_GreedyByPairs_L6 (n : Nat) : LoopSpec where
  sh := [(1, .bx (.v (.pair .int (.pair .int (.slice (.pair (.slice .int) (.pair .int (.slice (.slice .int))))))))), (4, .mv (.slice (.slice (.slice .bool))) 3), (5, .mv .int 0), (6, .v .int)]
  ex := [(.exit 0, [(1, .bx (.v (.pair .int (.pair .int (.slice (.pair (.slice .int) (.pair .int (.slice (.slice .int))))))))), (4, .mv (.slice (.slice (.slice .bool))) 3), (5, .mv .int 0)])]
  run := impl_GreedyByPairs_L6 n

noncomputable def S_impl_GreedyByPairs_L18 (n : Nat) : LoopSpec where
  sh := [(393290, .jk 1), (1, .bx (.v (.pair .int (.pair .int (.slice (.pair (.slice .int) (.pair .int (.slice (.slice .int))))))))), (4, .mv (.slice (.slice (.slice .bool))) 3), (5, .mv .int 0), (7, .v .int), (8, .v .int), (9, .v .bool), (75, .v .int), (76, .v .int)]
  ex := [(.exit 6, [(1, .bx (.v (.pair .int (.pair .int (.slice (.pair (.slice .int) (.pair .int (.slice (.slice .int))))))))), (4, .mv (.slice (.slice (.slice .bool))) 3), (5, .mv .int 0), (7, .v .int), (8, .v .int), (9, .v .bool)])]
  run := impl_GreedyByPairs_L18 n

noncomputable def S_impl_GreedyByPairs_L14 (n : Nat) : LoopSpec where
  sh := [(1, .bx (.v (.pair .int (.pair .int (.slice (.pair (.slice .int) (.pair .int (.slice (.slice .int))))))))), (4, .mv (.slice (.slice (.slice .bool))) 3), (5, .mv .int 0), (7, .v .int), (8, .v .int)]
  ex := [(.exit 4, [(1, .bx (.v (.pair .int (.pair .int (.slice (.pair (.slice .int) (.pair .int (.slice (.slice .int))))))))), (4, .mv (.slice (.slice (.slice .bool))) 3), (5, .mv .int 0), (7, .v .int)])]
  run := impl_GreedyByPairs_L14 n

noncomputable def S_impl_GreedyByPairs_L11 (n : Nat) : LoopSpec where
  sh := [(1, .bx (.v (.pair .int (.pair .int (.slice (.pair (.slice .int) (.pair .int (.slice (.slice .int))))))))), (4, .mv (.slice (.slice (.slice .bool))) 3), (5, .mv .int 0), (7, .v .int)]
  ex := [(.exit 2, [(1, .bx (.v (.pair .int (.pair .int (.slice (.pair (.slice .int) (.pair .int (.slice (.slice .int))))))))), (5, .mv .int 0)])]
  run := impl_GreedyByPairs_L11 n

noncomputable def C_impl_GreedyByPairs : Cx where
  tt := tblTT tt
  T := tblT [(27, E_impl_IsNetwork), (31, E_impl_minimalPairs), (32, E_impl_marked)]
  L := tblL [(6, S_impl_GreedyByPairs_L6 fuel), (18, S_impl_GreedyByPairs_L18 fuel), (14, S_impl_GreedyByPairs_L14 fuel), (11, S_impl_GreedyByPairs_L11 fuel)]
  dep := fun i => 0
  n := 1

noncomputable def B_impl_GreedyByPairs_L6 : Code := (Try.f12.body.bind (loopBody 6)).getD .skip
noncomputable def B_impl_GreedyByPairs_L18 : Code := (Try.f12.body.bind (loopBody 18)).getD .skip
noncomputable def B_impl_GreedyByPairs_L14 : Code := (Try.f12.body.bind (loopBody 14)).getD .skip
noncomputable def B_impl_GreedyByPairs_L11 : Code := (Try.f12.body.bind (loopBody 11)).getD .skip
noncomputable def D_impl_GreedyByPairs : Code := Try.f12.body.getD .skip
noncomputable def N_impl_GreedyByPairs (_ : outs E_impl_GreedyByPairs.params) (r : dens E_impl_GreedyByPairs.results) : E_impl_GreedyByPairs.B := (r.1, r.2)

-- laws.eqIntS
noncomputable def E_laws_eqIntS : Entry where
  params := [.v (.slice .int), .v (.slice .int)]
  results := [.v .bool]
  B := Bool
  run := fun a => laws_eqIntS a.1 a.2
  out := fun b => ((), ())
  res := fun b => b

noncomputable def S_laws_eqIntS_L4 (n : Nat) : LoopSpec where
  sh := [(0, .v (.slice .int)), (1, .v (.slice .int)), (5, .v .int)]
  ex := [(.exit 0, []), (.ret, [(4, .v .bool)])]
  run := laws_eqIntS_L4 n

noncomputable def C_laws_eqIntS : Cx where
  tt := tblTT tt
  T := tblT []
  L := tblL [(4, S_laws_eqIntS_L4 fuel)]
  dep := fun i => 0
  n := 2

noncomputable def B_laws_eqIntS_L4 : Code := (Try.f13.body.bind (loopBody 4)).getD .skip
noncomputable def D_laws_eqIntS : Code := Try.f13.body.getD .skip
noncomputable def N_laws_eqIntS (_ : outs E_laws_eqIntS.params) (r : dens E_laws_eqIntS.results) : E_laws_eqIntS.B := r

-- laws.eqIntSS
noncomputable def E_laws_eqIntSS : Entry where
  params := [.v (.slice (.slice .int)), .v (.slice (.slice .int))]
  results := [.v .bool]
  B := Bool
  run := fun a => laws_eqIntSS a.1 a.2
  out := fun b => ((), ())
  res := fun b => b

noncomputable def S_laws_eqIntSS_L4 (n : Nat) : LoopSpec where
  sh := [(0, .v (.slice (.slice .int))), (1, .v (.slice (.slice .int))), (5, .v .int)]
  ex := [(.exit 0, []), (.ret, [(4, .v .bool)])]
  run := laws_eqIntSS_L4 n

noncomputable def C_laws_eqIntSS : Cx where
  tt := tblTT tt
  T := tblT [(13, E_laws_eqIntS)]
  L := tblL [(4, S_laws_eqIntSS_L4 fuel)]
  dep := fun i => 0
  n := 2

noncomputable def B_laws_eqIntSS_L4 : Code := (Try.f72.body.bind (loopBody 4)).getD .skip
noncomputable def D_laws_eqIntSS : Code := Try.f72.body.getD .skip
noncomputable def N_laws_eqIntSS (_ : outs E_laws_eqIntSS.params) (r : dens E_laws_eqIntSS.results) : E_laws_eqIntSS.B := r

-- laws.eqRelation
noncomputable def E_laws_eqRelation : Entry where
  params := [.v (.pair .int (.slice (.slice .int))), .v (.pair .int (.slice (.slice .int)))]
  results := [.v .bool]
  B := Bool
  run := fun a => laws_eqRelation a.1 a.2
  out := fun b => ((), ())
  res := fun b => b

noncomputable def C_laws_eqRelation : Cx where
  tt := tblTT tt
  T := tblT [(72, E_laws_eqIntSS)]
  L := tblL []
  dep := fun i => 0
  n := 2

noncomputable def D_laws_eqRelation : Code := Try.f62.body.getD .skip
noncomputable def N_laws_eqRelation (_ : outs E_laws_eqRelation.params) (r : dens E_laws_eqRelation.results) : E_laws_eqRelation.B := r

-- laws.eqConstraint
noncomputable def E_laws_eqConstraint : Entry where
  params := [.v (.pair (.slice .int) (.pair .int (.slice (.slice .int)))), .v (.pair (.slice .int) (.pair .int (.slice (.slice .int))))]
  results := [.v .bool]
  B := Bool
  run := fun a => laws_eqConstraint a.1 a.2
  out := fun b => ((), ())
  res := fun b => b

noncomputable def C_laws_eqConstraint : Cx where
  tt := tblTT tt
  T := tblT [(13, E_laws_eqIntS), (62, E_laws_eqRelation)]
  L := tblL []
  dep := fun i => 0
  n := 2

noncomputable def D_laws_eqConstraint : Code := Try.f46.body.getD .skip
noncomputable def N_laws_eqConstraint (_ : outs E_laws_eqConstraint.params) (r : dens E_laws_eqConstraint.results) : E_laws_eqConstraint.B := r

-- laws.eqConstraintS
noncomputable def E_laws_eqConstraintS : Entry where
  params := [.v (.slice (.pair (.slice .int) (.pair .int (.slice (.slice .int))))), .v (.slice (.pair (.slice .int) (.pair .int (.slice (.slice .int)))))]
  results := [.v .bool]
  B := Bool
  run := fun a => laws_eqConstraintS a.1 a.2
  out := fun b => ((), ())
  res := fun b => b

noncomputable def S_laws_eqConstraintS_L4 (n : Nat) : LoopSpec where
  sh := [(0, .v (.slice (.pair (.slice .int) (.pair .int (.slice (.slice .int)))))), (1, .v (.slice (.pair (.slice .int) (.pair .int (.slice (.slice .int)))))), (5, .v .int)]
  ex := [(.exit 0, []), (.ret, [(4, .v .bool)])]
  run := laws_eqConstraintS_L4 n

noncomputable def C_laws_eqConstraintS : Cx where
  tt := tblTT tt
  T := tblT [(46, E_laws_eqConstraint)]
  L := tblL [(4, S_laws_eqConstraintS_L4 fuel)]
  dep := fun i => 0
  n := 2

noncomputable def B_laws_eqConstraintS_L4 : Code := (Try.f29.body.bind (loopBody 4)).getD .skip
noncomputable def D_laws_eqConstraintS : Code := Try.f29.body.getD .skip
noncomputable def N_laws_eqConstraintS (_ : outs E_laws_eqConstraintS.params) (r : dens E_laws_eqConstraintS.results) : E_laws_eqConstraintS.B := r

-- laws.eqNetwork
noncomputable def E_laws_eqNetwork : Entry where
  params := [.v (.pair .int (.pair .int (.slice (.pair (.slice .int) (.pair .int (.slice (.slice .int))))))), .v (.pair .int (.pair .int (.slice (.pair (.slice .int) (.pair .int (.slice (.slice .int)))))))]
  results := [.v .bool]
  B := Bool
  run := fun a => laws_eqNetwork a.1 a.2
  out := fun b => ((), ())
  res := fun b => b

noncomputable def C_laws_eqNetwork : Cx where
  tt := tblTT tt
  T := tblT [(29, E_laws_eqConstraintS)]
  L := tblL []
  dep := fun i => 0
  n := 2

noncomputable def D_laws_eqNetwork : Code := Try.f10.body.getD .skip
noncomputable def N_laws_eqNetwork (_ : outs E_laws_eqNetwork.params) (r : dens E_laws_eqNetwork.results) : E_laws_eqNetwork.B := r

-- laws.markIntS
noncomputable def E_laws_markIntS : Entry where
  params := [.io .int 0, .v .int]
  results := [.v .int]
  B := (List Int) × Int
  run := fun a => laws_markIntS a.1 a.2
  out := fun b => (b.1, ())
  res := fun b => b.2

noncomputable def S_laws_markIntS_L2 (n : Nat) : LoopSpec where
  sh := [(0, .io .int 0), (1, .v .int), (5, .v .int)]
  ex := [(.exit 0, [(0, .io .int 0), (1, .v .int)])]
  run := laws_markIntS_L2 n

noncomputable def C_laws_markIntS : Cx where
  tt := tblTT tt
  T := tblT []
  L := tblL [(2, S_laws_markIntS_L2 fuel)]
  dep := fun i => 0
  n := 2

noncomputable def B_laws_markIntS_L2 : Code := (Try.f15.body.bind (loopBody 2)).getD .skip
noncomputable def D_laws_markIntS : Code := Try.f15.body.getD .skip
noncomputable def N_laws_markIntS (o : outs E_laws_markIntS.params) (r : dens E_laws_markIntS.results) : E_laws_markIntS.B := (o.1, r)

-- laws.markIntSS
noncomputable def E_laws_markIntSS : Entry where
  params := [.io (.slice .int) 1, .v .int]
  results := [.v .int]
  B := (List (List Int)) × Int
  run := fun a => laws_markIntSS a.1 a.2
  out := fun b => (b.1, ())
  res := fun b => b.2

noncomputable def S_laws_markIntSS_L2 (n : Nat) : LoopSpec where
  sh := [(0, .io (.slice .int) 1), (1, .v .int), (5, .v .int)]
  ex := [(.exit 0, [(0, .io (.slice .int) 1), (1, .v .int)])]
  run := laws_markIntSS_L2 n

noncomputable def C_laws_markIntSS : Cx where
  tt := tblTT tt
  T := tblT [(15, E_laws_markIntS)]
  L := tblL [(2, S_laws_markIntSS_L2 fuel)]
  dep := fun i => 0
  n := 2

noncomputable def B_laws_markIntSS_L2 : Code := (Try.f50.body.bind (loopBody 2)).getD .skip
noncomputable def D_laws_markIntSS : Code := Try.f50.body.getD .skip
noncomputable def N_laws_markIntSS (o : outs E_laws_markIntSS.params) (r : dens E_laws_markIntSS.results) : E_laws_markIntSS.B := (o.1, r)

-- laws.markConstraintS
noncomputable def E_laws_markConstraintS : Entry where
  params := [.io (.pair (.slice .int) (.pair .int (.slice (.slice .int)))) 2, .v .int]
  results := [.v .int]
  B := (List ((List Int) × Int × (List (List Int)))) × Int
  run := fun a => laws_markConstraintS a.1 a.2
  out := fun b => (b.1, ())
  res := fun b => b.2

noncomputable def S_laws_markConstraintS_L2 (n : Nat) : LoopSpec where
  sh := [(0, .io (.pair (.slice .int) (.pair .int (.slice (.slice .int)))) 2), (1, .v .int), (5, .v .int)]
  ex := [(.exit 0, [(0, .io (.pair (.slice .int) (.pair .int (.slice (.slice .int)))) 2), (1, .v .int)])]
  run := laws_markConstraintS_L2 n

noncomputable def C_laws_markConstraintS : Cx where
  tt := tblTT tt
  T := tblT [(15, E_laws_markIntS), (50, E_laws_markIntSS)]
  L := tblL [(2, S_laws_markConstraintS_L2 fuel)]
  dep := fun i => 0
  n := 2

noncomputable def B_laws_markConstraintS_L2 : Code := (Try.f33.body.bind (loopBody 2)).getD .skip
noncomputable def D_laws_markConstraintS : Code := Try.f33.body.getD .skip
noncomputable def N_laws_markConstraintS (o : outs E_laws_markConstraintS.params) (r : dens E_laws_markConstraintS.results) : E_laws_markConstraintS.B := (o.1, r)

-- laws.markNetwork
noncomputable def E_laws_markNetwork : Entry where
  params := [.pr (.v .int) (.pr (.v .int) (.io (.pair (.slice .int) (.pair .int (.slice (.slice .int)))) 2)), .v .int]
  results := [.v .int]
  B := (Unit × (Unit × (List ((List Int) × Int × (List (List Int)))))) × Int
  run := fun a => laws_markNetwork a.1 a.2
  out := fun b => (b.1, ())
  res := fun b => b.2

noncomputable def C_laws_markNetwork : Cx where
  tt := tblTT tt
  T := tblT [(33, E_laws_markConstraintS)]
  L := tblL []
  dep := fun i => 0
  n := 2

noncomputable def D_laws_markNetwork : Code := Try.f14.body.getD .skip
noncomputable def N_laws_markNetwork (o : outs E_laws_markNetwork.params) (r : dens E_laws_markNetwork.results) : E_laws_markNetwork.B := (o.1, r)

-- laws.heldIntS
noncomputable def E_laws_heldIntS : Entry where
  params := [.v (.slice .int), .v .int]
  results := [.v .int]
  B := Int
  run := fun a => laws_heldIntS a.1 a.2
  out := fun b => ((), ())
  res := fun b => b

noncomputable def S_laws_heldIntS_L2 (n : Nat) : LoopSpec where
  sh := [(0, .v (.slice .int)), (1, .v .int), (5, .v .int)]
  ex := [(.exit 0, [(1, .v .int)]), (.ret, [(4, .v .int)])]
  run := laws_heldIntS_L2 n

noncomputable def C_laws_heldIntS : Cx where
  tt := tblTT tt
  T := tblT []
  L := tblL [(2, S_laws_heldIntS_L2 fuel)]
  dep := fun i => 0
  n := 2

noncomputable def B_laws_heldIntS_L2 : Code := (Try.f16.body.bind (loopBody 2)).getD .skip
noncomputable def D_laws_heldIntS : Code := Try.f16.body.getD .skip
noncomputable def N_laws_heldIntS (_ : outs E_laws_heldIntS.params) (r : dens E_laws_heldIntS.results) : E_laws_heldIntS.B := r

-- laws.FnExactGreedyByPairs
noncomputable def E_laws_FnExactGreedyByPairs : Entry where
  params := [.v (.pair .int (.pair .int (.slice (.pair (.slice .int) (.pair .int (.slice (.slice .int)))))))]
  results := [.v .bool]
  B := Bool
  run := fun a => laws_FnExactGreedyByPairs a
  out := fun b => ()
  res := fun b => b

noncomputable def C_laws_FnExactGreedyByPairs : Cx where
  tt := tblTT tt
  T := tblT [(6, E_laws_szNetwork), (8, E_laws_toNetwork), (10, E_laws_eqNetwork), (11, E_spec_GreedyByPairs), (12, E_impl_GreedyByPairs), (13, E_laws_eqIntS), (14, E_laws_markNetwork), (15, E_laws_markIntS), (16, E_laws_heldIntS)]
  L := tblL []
  dep := fun i => 0
  n := 1

noncomputable def D_laws_FnExactGreedyByPairs : Code := Try.f4.body.getD .skip
noncomputable def N_laws_FnExactGreedyByPairs (_ : outs E_laws_FnExactGreedyByPairs.params) (r : dens E_laws_FnExactGreedyByPairs.results) : E_laws_FnExactGreedyByPairs.B := r
end T
