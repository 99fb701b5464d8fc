/- Contexts of the typed functions; no conditions. -/
import Derived.Test.YtcnaanmeincmmaaV5
import Derived.Test.YtcnaanmeincmmaaProg
import Derived.Test.YtcnaanmeincmmaaPFnExactIsArcTrace
import Derived.KernelRfl
set_option linter.all false
set_option linter.unusedVariables false
set_option maxRecDepth 10000
open Go Go.Va Go.Proofs
namespace T
noncomputable def tt : List (Nat × TI) := [
  (2, { ty := .int }),
  (3, { ty := .int }),
  (4, { ty := .bool }),
  (22, { ty := (.slice (.slice .int)), elem := 32 }),
  (32, { ty := (.slice .int), elem := 3 }),
  (44, { ty := (.slice (.pair (.slice .int) (.pair .int (.slice (.slice .int))))), elem := 140 }),
  (46, { ty := (.pair .int (.pair .int (.slice (.pair (.slice .int) (.pair .int (.slice (.slice .int))))))), fields := [3, 3, 44] }),
  (50, { ty := (.slice (.pair (.slice .int) (.pair .int (.slice (.slice .int))))), elem := 102 }),
  (52, { ty := (.pair .int (.pair .int (.slice (.pair (.slice .int) (.pair .int (.slice (.slice .int))))))), fields := [3, 3, 50] }),
  (64, { ty := (.slice (.pair .int (.pair .int .int))), elem := 117 }),
  (100, { ty := (.pair .int (.slice (.slice .int))), fields := [3, 22] }),
  (102, { ty := (.pair (.slice .int) (.pair .int (.slice (.slice .int)))), fields := [32, 100] }),
  (117, { ty := (.pair .int (.pair .int .int)), fields := [3, 3, 3], arr := true }),
  (122, { ty := (.slice (.slice .bool)), elem := 124 }),
  (124, { ty := (.slice .bool), elem := 4 }),
  (138, { ty := (.pair .int (.slice (.slice .int))), fields := [3, 22] }),
  (140, { ty := (.pair (.slice .int) (.pair .int (.slice (.slice .int)))), fields := [32, 138] })]
theorem tabT : tabOk Try.prog tt = true := by kernel_rfl
theorem mixT : Try.prog.follows .mixedOrders = true := by kernel_rfl

-- laws.szIntS
noncomputable def E_laws_szIntS : Entry where
  params := [.v (.slice .int), .v .int]
  results := [.v .int]
  B := Int
  run := fun a => laws_szIntS a.1 a.2
  out := fun b => ((), ())
  res := fun b => b

noncomputable def C_laws_szIntS : Cx where
  tt := tblTT tt
  T := tblT []
  L := tblL []
  dep := fun i => 0
  n := 2

noncomputable def D_laws_szIntS : Code := Try.f121.body.getD .skip
noncomputable def N_laws_szIntS (_ : outs E_laws_szIntS.params) (r : dens E_laws_szIntS.results) : E_laws_szIntS.B := r

-- laws.szIntSS
noncomputable def E_laws_szIntSS : Entry where
  params := [.v (.slice (.slice .int)), .v .int]
  results := [.v .int]
  B := Int
  run := fun a => laws_szIntSS a.1 a.2
  out := fun b => ((), ())
  res := fun b => b

noncomputable def S_laws_szIntSS_L5 (n : Nat) : LoopSpec where
  sh := [(0, .v (.slice (.slice .int))), (1, .v .int), (5, .v .int)]
  ex := [(.exit 0, [(1, .v .int)]), (.ret, [(4, .v .int)])]
  run := laws_szIntSS_L5 n

noncomputable def C_laws_szIntSS : Cx where
  tt := tblTT tt
  T := tblT [(121, E_laws_szIntS)]
  L := tblL [(5, S_laws_szIntSS_L5 fuel)]
  dep := fun i => 0
  n := 2

noncomputable def B_laws_szIntSS_L5 : Code := (Try.f65.body.bind (loopBody 5)).getD .skip
noncomputable def D_laws_szIntSS : Code := Try.f65.body.getD .skip
noncomputable def N_laws_szIntSS (_ : outs E_laws_szIntSS.params) (r : dens E_laws_szIntSS.results) : E_laws_szIntSS.B := r

-- laws.szRelation
noncomputable def E_laws_szRelation : Entry where
  params := [.v (.pair .int (.slice (.slice .int))), .v .int]
  results := [.v .int]
  B := Int
  run := fun a => laws_szRelation a.1 a.2
  out := fun b => ((), ())
  res := fun b => b

noncomputable def C_laws_szRelation : Cx where
  tt := tblTT tt
  T := tblT [(65, E_laws_szIntSS)]
  L := tblL []
  dep := fun i => 0
  n := 2

noncomputable def D_laws_szRelation : Code := Try.f145.body.getD .skip
noncomputable def N_laws_szRelation (_ : outs E_laws_szRelation.params) (r : dens E_laws_szRelation.results) : E_laws_szRelation.B := r

-- laws.szConstraint
noncomputable def E_laws_szConstraint : Entry where
  params := [.v (.pair (.slice .int) (.pair .int (.slice (.slice .int)))), .v .int]
  results := [.v .int]
  B := Int
  run := fun a => laws_szConstraint a.1 a.2
  out := fun b => ((), ())
  res := fun b => b

noncomputable def C_laws_szConstraint : Cx where
  tt := tblTT tt
  T := tblT [(121, E_laws_szIntS), (145, E_laws_szRelation)]
  L := tblL []
  dep := fun i => 0
  n := 2

noncomputable def D_laws_szConstraint : Code := Try.f130.body.getD .skip
noncomputable def N_laws_szConstraint (_ : outs E_laws_szConstraint.params) (r : dens E_laws_szConstraint.results) : E_laws_szConstraint.B := r

-- laws.szConstraintS
noncomputable def E_laws_szConstraintS : Entry where
  params := [.v (.slice (.pair (.slice .int) (.pair .int (.slice (.slice .int))))), .v .int]
  results := [.v .int]
  B := Int
  run := fun a => laws_szConstraintS a.1 a.2
  out := fun b => ((), ())
  res := fun b => b

noncomputable def S_laws_szConstraintS_L5 (n : Nat) : LoopSpec where
  sh := [(0, .v (.slice (.pair (.slice .int) (.pair .int (.slice (.slice .int)))))), (1, .v .int), (5, .v .int)]
  ex := [(.exit 0, [(1, .v .int)]), (.ret, [(4, .v .int)])]
  run := laws_szConstraintS_L5 n

noncomputable def C_laws_szConstraintS : Cx where
  tt := tblTT tt
  T := tblT [(130, E_laws_szConstraint)]
  L := tblL [(5, S_laws_szConstraintS_L5 fuel)]
  dep := fun i => 0
  n := 2

noncomputable def B_laws_szConstraintS_L5 : Code := (Try.f82.body.bind (loopBody 5)).getD .skip
noncomputable def D_laws_szConstraintS : Code := Try.f82.body.getD .skip
noncomputable def N_laws_szConstraintS (_ : outs E_laws_szConstraintS.params) (r : dens E_laws_szConstraintS.results) : E_laws_szConstraintS.B := r

-- laws.szNetwork
noncomputable def E_laws_szNetwork : Entry where
  params := [.v (.pair .int (.pair .int (.slice (.pair (.slice .int) (.pair .int (.slice (.slice .int))))))), .v .int]
  results := [.v .int]
  B := Int
  run := fun a => laws_szNetwork a.1 a.2
  out := fun b => ((), ())
  res := fun b => b

noncomputable def C_laws_szNetwork : Cx where
  tt := tblTT tt
  T := tblT [(82, E_laws_szConstraintS)]
  L := tblL []
  dep := fun i => 0
  n := 2

noncomputable def D_laws_szNetwork : Code := Try.f38.body.getD .skip
noncomputable def N_laws_szNetwork (_ : outs E_laws_szNetwork.params) (r : dens E_laws_szNetwork.results) : E_laws_szNetwork.B := r

-- laws.szIntA3S
noncomputable def E_laws_szIntA3S : Entry where
  params := [.v (.slice (.pair .int (.pair .int .int))), .v .int]
  results := [.v .int]
  B := Int
  run := fun a => laws_szIntA3S a.1 a.2
  out := fun b => ((), ())
  res := fun b => b

noncomputable def C_laws_szIntA3S : Cx where
  tt := tblTT tt
  T := tblT []
  L := tblL []
  dep := fun i => 0
  n := 2

noncomputable def D_laws_szIntA3S : Code := Try.f51.body.getD .skip
noncomputable def N_laws_szIntA3S (_ : outs E_laws_szIntA3S.params) (r : dens E_laws_szIntA3S.results) : E_laws_szIntA3S.B := r

-- laws.toIntS
noncomputable def E_laws_toIntS : Entry where
  params := [.v (.slice .int)]
  results := [.mv .int 0]
  B := (List Int)
  run := fun a => laws_toIntS a
  out := fun b => ()
  res := fun b => b

noncomputable def S_laws_toIntS_L3 (n : Nat) : LoopSpec where
  sh := [(0, .v (.slice .int)), (3, .mv .int 0), (4, .v .int)]
  ex := [(.exit 0, [(3, .mv .int 0)])]
  run := laws_toIntS_L3 n

noncomputable def C_laws_toIntS : Cx where
  tt := tblTT tt
  T := tblT []
  L := tblL [(3, S_laws_toIntS_L3 fuel)]
  dep := fun i => 0
  n := 1

noncomputable def B_laws_toIntS_L3 : Code := (Try.f41.body.bind (loopBody 3)).getD .skip
noncomputable def D_laws_toIntS : Code := Try.f41.body.getD .skip
noncomputable def N_laws_toIntS (_ : outs E_laws_toIntS.params) (r : dens E_laws_toIntS.results) : E_laws_toIntS.B := r

-- laws.toIntSS
noncomputable def E_laws_toIntSS : Entry where
  params := [.v (.slice (.slice .int))]
  results := [.mv (.slice .int) 1]
  B := (List (List Int))
  run := fun a => laws_toIntSS a
  out := fun b => ()
  res := fun b => b

noncomputable def S_laws_toIntSS_L3 (n : Nat) : LoopSpec where
  sh := [(0, .v (.slice (.slice .int))), (3, .mv (.slice .int) 1), (4, .v .int)]
  ex := [(.exit 0, [(3, .mv (.slice .int) 1)])]
  run := laws_toIntSS_L3 n

noncomputable def C_laws_toIntSS : Cx where
  tt := tblTT tt
  T := tblT [(41, E_laws_toIntS)]
  L := tblL [(3, S_laws_toIntSS_L3 fuel)]
  dep := fun i => match i with
    | 7 => 1
    | _ => 0
  n := 1

noncomputable def B_laws_toIntSS_L3 : Code := (Try.f70.body.bind (loopBody 3)).getD .skip
noncomputable def D_laws_toIntSS : Code := Try.f70.body.getD .skip
noncomputable def N_laws_toIntSS (_ : outs E_laws_toIntSS.params) (r : dens E_laws_toIntSS.results) : E_laws_toIntSS.B := r

-- laws.toRelation
noncomputable def E_laws_toRelation : Entry where
  params := [.v (.pair .int (.slice (.slice .int)))]
  results := [.pr (.v .int) (.mv (.slice .int) 1)]
  B := (Int × (List (List Int)))
  run := fun a => laws_toRelation a
  out := fun b => ()
  res := fun b => b

noncomputable def C_laws_toRelation : Cx where
  tt := tblTT tt
  T := tblT [(70, E_laws_toIntSS)]
  L := tblL []
  dep := fun i => 0
  n := 1

noncomputable def D_laws_toRelation : Code := Try.f146.body.getD .skip
noncomputable def N_laws_toRelation (_ : outs E_laws_toRelation.params) (r : dens E_laws_toRelation.results) : E_laws_toRelation.B := r

-- laws.toConstraint
noncomputable def E_laws_toConstraint : Entry where
  params := [.v (.pair (.slice .int) (.pair .int (.slice (.slice .int))))]
  results := [.pr (.mv .int 0) (.pr (.v .int) (.mv (.slice .int) 1))]
  B := ((List Int) × (Int × (List (List Int))))
  run := fun a => laws_toConstraint a
  out := fun b => ()
  res := fun b => b

noncomputable def C_laws_toConstraint : Cx where
  tt := tblTT tt
  T := tblT [(41, E_laws_toIntS), (146, E_laws_toRelation)]
  L := tblL []
  dep := fun i => 0
  n := 1

noncomputable def D_laws_toConstraint : Code := Try.f132.body.getD .skip
noncomputable def N_laws_toConstraint (_ : outs E_laws_toConstraint.params) (r : dens E_laws_toConstraint.results) : E_laws_toConstraint.B := r

-- laws.toConstraintS
noncomputable def E_laws_toConstraintS : Entry where
  params := [.v (.slice (.pair (.slice .int) (.pair .int (.slice (.slice .int)))))]
  results := [.mv (.pair (.slice .int) (.pair .int (.slice (.slice .int)))) 2]
  B := (List ((List Int) × Int × (List (List Int))))
  run := fun a => laws_toConstraintS a
  out := fun b => ()
  res := fun b => b

noncomputable def S_laws_toConstraintS_L3 (n : Nat) : LoopSpec where
  sh := [(0, .v (.slice (.pair (.slice .int) (.pair .int (.slice (.slice .int)))))), (3, .mv (.pair (.slice .int) (.pair .int (.slice (.slice .int)))) 2), (4, .v .int)]
  ex := [(.exit 0, [(3, .mv (.pair (.slice .int) (.pair .int (.slice (.slice .int)))) 2)])]
  run := laws_toConstraintS_L3 n

noncomputable def C_laws_toConstraintS : Cx where
  tt := tblTT tt
  T := tblT [(132, E_laws_toConstraint)]
  L := tblL [(3, S_laws_toConstraintS_L3 fuel)]
  dep := fun i => match i with
    | 7 => 2
    | _ => 0
  n := 1

noncomputable def B_laws_toConstraintS_L3 : Code := (Try.f88.body.bind (loopBody 3)).getD .skip
noncomputable def D_laws_toConstraintS : Code := Try.f88.body.getD .skip
noncomputable def N_laws_toConstraintS (_ : outs E_laws_toConstraintS.params) (r : dens E_laws_toConstraintS.results) : E_laws_toConstraintS.B := r

-- laws.toNetwork
noncomputable def E_laws_toNetwork : Entry where
  params := [.v (.pair .int (.pair .int (.slice (.pair (.slice .int) (.pair .int (.slice (.slice .int)))))))]
  results := [.pr (.v .int) (.pr (.v .int) (.mv (.pair (.slice .int) (.pair .int (.slice (.slice .int)))) 2))]
  B := (Int × (Int × (List ((List Int) × Int × (List (List Int))))))
  run := fun a => laws_toNetwork a
  out := fun b => ()
  res := fun b => b

noncomputable def C_laws_toNetwork : Cx where
  tt := tblTT tt
  T := tblT [(88, E_laws_toConstraintS)]
  L := tblL []
  dep := fun i => 0
  n := 1

noncomputable def D_laws_toNetwork : Code := Try.f40.body.getD .skip
noncomputable def N_laws_toNetwork (_ : outs E_laws_toNetwork.params) (r : dens E_laws_toNetwork.results) : E_laws_toNetwork.B := r

-- laws.toIntA3
noncomputable def E_laws_toIntA3 : Entry where
  params := [.v (.pair .int (.pair .int .int))]
  results := [.v (.pair .int (.pair .int .int))]
  B := (Int × Int × Int)
  run := fun a => laws_toIntA3 a
  out := fun b => ()
  res := fun b => b

noncomputable def S_laws_toIntA3_L3 (n : Nat) : LoopSpec where
  sh := [(1, .bx (.v (.pair .int (.pair .int .int)))), (2, .bx (.v (.pair .int (.pair .int .int)))), (3, .bx (.v (.pair .int (.pair .int .int)))), (4, .v .int)]
  ex := [(.exit 0, [(2, .bx (.v (.pair .int (.pair .int .int)))), (3, .bx (.v (.pair .int (.pair .int .int))))])]
  run := laws_toIntA3_L3 n

noncomputable def C_laws_toIntA3 : Cx where
  tt := tblTT tt
  T := tblT []
  L := tblL [(3, S_laws_toIntA3_L3 fuel)]
  dep := fun i => 0
  n := 1

noncomputable def B_laws_toIntA3_L3 : Code := (Try.f108.body.bind (loopBody 3)).getD .skip
noncomputable def D_laws_toIntA3 : Code := Try.f108.body.getD .skip
noncomputable def N_laws_toIntA3 (_ : outs E_laws_toIntA3.params) (r : dens E_laws_toIntA3.results) : E_laws_toIntA3.B := r

-- laws.toIntA3S
noncomputable def E_laws_toIntA3S : Entry where
  params := [.v (.slice (.pair .int (.pair .int .int)))]
  results := [.mv (.pair .int (.pair .int .int)) 0]
  B := (List (Int × Int × Int))
  run := fun a => laws_toIntA3S a
  out := fun b => ()
  res := fun b => b

noncomputable def S_laws_toIntA3S_L3 (n : Nat) : LoopSpec where
  sh := [(0, .v (.slice (.pair .int (.pair .int .int)))), (3, .mv (.pair .int (.pair .int .int)) 0), (4, .v .int)]
  ex := [(.exit 0, [(3, .mv (.pair .int (.pair .int .int)) 0)])]
  run := laws_toIntA3S_L3 n

noncomputable def C_laws_toIntA3S : Cx where
  tt := tblTT tt
  T := tblT [(108, E_laws_toIntA3)]
  L := tblL [(3, S_laws_toIntA3S_L3 fuel)]
  dep := fun i => 0
  n := 1

noncomputable def B_laws_toIntA3S_L3 : Code := (Try.f53.body.bind (loopBody 3)).getD .skip
noncomputable def D_laws_toIntA3S : Code := Try.f53.body.getD .skip
noncomputable def N_laws_toIntA3S (_ : outs E_laws_toIntA3S.params) (r : dens E_laws_toIntA3S.results) : E_laws_toIntA3S.B := r

-- spec.l1In
noncomputable def E_spec_l1In : Entry where
  params := [.v .int, .v .int, .v .int]
  results := [.v .bool]
  B := Bool
  run := fun a => spec_l1In a.1 a.2.1 a.2.2
  out := fun b => ((), (), ())
  res := fun b => b

noncomputable def C_spec_l1In : Cx where
  tt := tblTT tt
  T := tblT []
  L := tblL []
  dep := fun i => 0
  n := 3

noncomputable def D_spec_l1In : Code := Try.f84.body.getD .skip
noncomputable def N_spec_l1In (_ : outs E_spec_l1In.params) (r : dens E_spec_l1In.results) : E_spec_l1In.B := r

-- spec.l2Pow
noncomputable def E_spec_l2Pow : Entry where
  params := [.v .int, .v .int]
  results := [.v .int]
  B := Int
  run := fun a => spec_l2Pow a.1 a.2
  out := fun b => ((), ())
  res := fun b => b

noncomputable def S_spec_l2Pow_L2 (n : Nat) : LoopSpec where
  sh := [(0, .v .int), (1, .v .int), (5, .v .int)]
  ex := [(.exit 0, [(5, .v .int)])]
  run := spec_l2Pow_L2 n

noncomputable def C_spec_l2Pow : Cx where
  tt := tblTT tt
  T := tblT []
  L := tblL [(2, S_spec_l2Pow_L2 fuel)]
  dep := fun i => 0
  n := 2

noncomputable def B_spec_l2Pow_L2 : Code := (Try.f69.body.bind (loopBody 2)).getD .skip
noncomputable def D_spec_l2Pow : Code := Try.f69.body.getD .skip
noncomputable def N_spec_l2Pow (_ : outs E_spec_l2Pow.params) (r : dens E_spec_l2Pow.results) : E_spec_l2Pow.B := r

-- spec.l2Elements
noncomputable def E_spec_l2Elements : Entry where
  params := [.v .int, .v (.slice .int)]
  results := [.v .bool]
  B := Bool
  run := fun a => spec_l2Elements a.1 a.2
  out := fun b => ((), ())
  res := fun b => b

noncomputable def S_spec_l2Elements_L2 (n : Nat) : LoopSpec where
  sh := [(0, .v .int), (1, .v (.slice .int)), (5, .v .int)]
  ex := [(.exit 0, []), (.ret, [(4, .v .bool)])]
  run := spec_l2Elements_L2 n

noncomputable def C_spec_l2Elements : Cx where
  tt := tblTT tt
  T := tblT [(84, E_spec_l1In)]
  L := tblL [(2, S_spec_l2Elements_L2 fuel)]
  dep := fun i => 0
  n := 2

noncomputable def B_spec_l2Elements_L2 : Code := (Try.f85.body.bind (loopBody 2)).getD .skip
noncomputable def D_spec_l2Elements : Code := Try.f85.body.getD .skip
noncomputable def N_spec_l2Elements (_ : outs E_spec_l2Elements.params) (r : dens E_spec_l2Elements.results) : E_spec_l2Elements.B := r

-- spec.l8Tuple
noncomputable def E_spec_l8Tuple : Entry where
  params := [.v .int, .v .int, .v (.slice .int)]
  results := [.v .bool]
  B := Bool
  run := fun a => spec_l8Tuple a.1 a.2.1 a.2.2
  out := fun b => ((), (), ())
  res := fun b => b

noncomputable def C_spec_l8Tuple : Cx where
  tt := tblTT tt
  T := tblT [(85, E_spec_l2Elements)]
  L := tblL []
  dep := fun i => 0
  n := 3

noncomputable def D_spec_l8Tuple : Code := Try.f102.body.getD .skip
noncomputable def N_spec_l8Tuple (_ : outs E_spec_l8Tuple.params) (r : dens E_spec_l8Tuple.results) : E_spec_l8Tuple.B := r

-- spec.l3Less
noncomputable def E_spec_l3Less : Entry where
  params := [.v (.slice .int), .v (.slice .int)]
  results := [.v .bool]
  B := Bool
  run := fun a => spec_l3Less a.1 a.2
  out := fun b => ((), ())
  res := fun b => b

noncomputable def S_spec_l3Less_L2 (n : Nat) : LoopSpec where
  sh := [(0, .v (.slice .int)), (1, .v (.slice .int)), (5, .v .int)]
  ex := [(.exit 0, []), (.ret, [(4, .v .bool)])]
  run := spec_l3Less_L2 n

noncomputable def C_spec_l3Less : Cx where
  tt := tblTT tt
  T := tblT []
  L := tblL [(2, S_spec_l3Less_L2 fuel)]
  dep := fun i => 0
  n := 2

noncomputable def B_spec_l3Less_L2 : Code := (Try.f150.body.bind (loopBody 2)).getD .skip
noncomputable def D_spec_l3Less : Code := Try.f150.body.getD .skip
noncomputable def N_spec_l3Less (_ : outs E_spec_l3Less.params) (r : dens E_spec_l3Less.results) : E_spec_l3Less.B := r

-- spec.l13Good
noncomputable def E_spec_l13Good : Entry where
  params := [.v .int, .v (.pair .int (.slice (.slice .int)))]
  results := [.v .bool]
  B := Bool
  run := fun a => spec_l13Good a.1 a.2
  out := fun b => ((), ())
  res := fun b => b

noncomputable def S_spec_l13Good_L4 (n : Nat) : LoopSpec where
  sh := [(0, .v .int), (3, .bx (.v (.pair .int (.slice (.slice .int))))), (5, .v .int)]
  ex := [(.exit 0, []), (.ret, [(4, .v .bool)])]
  run := spec_l13Good_L4 n

noncomputable def C_spec_l13Good : Cx where
  tt := tblTT tt
  T := tblT [(69, E_spec_l2Pow), (84, E_spec_l1In), (102, E_spec_l8Tuple), (150, E_spec_l3Less)]
  L := tblL [(4, S_spec_l13Good_L4 fuel)]
  dep := fun i => 0
  n := 2

noncomputable def B_spec_l13Good_L4 : Code := (Try.f148.body.bind (loopBody 4)).getD .skip
noncomputable def D_spec_l13Good : Code := Try.f148.body.getD .skip
noncomputable def N_spec_l13Good (_ : outs E_spec_l13Good.params) (r : dens E_spec_l13Good.results) : E_spec_l13Good.B := r

-- spec.l19Is
noncomputable def E_spec_l19Is : Entry where
  params := [.v .int, .v .int, .v (.pair (.slice .int) (.pair .int (.slice (.slice .int))))]
  results := [.v .bool]
  B := Bool
  run := fun a => spec_l19Is a.1 a.2.1 a.2.2
  out := fun b => ((), (), ())
  res := fun b => b

noncomputable def C_spec_l19Is : Cx where
  tt := tblTT tt
  T := tblT [(85, E_spec_l2Elements), (148, E_spec_l13Good)]
  L := tblL []
  dep := fun i => 0
  n := 3

noncomputable def D_spec_l19Is : Code := Try.f137.body.getD .skip
noncomputable def N_spec_l19Is (_ : outs E_spec_l19Is.params) (r : dens E_spec_l19Is.results) : E_spec_l19Is.B := r

-- spec.l19Good
noncomputable def E_spec_l19Good : Entry where
  params := [.v (.pair .int (.pair .int (.slice (.pair (.slice .int) (.pair .int (.slice (.slice .int)))))))]
  results := [.v .bool]
  B := Bool
  run := fun a => spec_l19Good a
  out := fun b => ()
  res := fun b => b

noncomputable def S_spec_l19Good_L4 (n : Nat) : LoopSpec where
  sh := [(1, .bx (.v (.pair .int (.pair .int (.slice (.pair (.slice .int) (.pair .int (.slice (.slice .int))))))))), (3, .v .int)]
  ex := [(.exit 0, []), (.ret, [(2, .v .bool)])]
  run := spec_l19Good_L4 n

noncomputable def C_spec_l19Good : Cx where
  tt := tblTT tt
  T := tblT [(84, E_spec_l1In), (137, E_spec_l19Is)]
  L := tblL [(4, S_spec_l19Good_L4 fuel)]
  dep := fun i => 0
  n := 1

noncomputable def B_spec_l19Good_L4 : Code := (Try.f103.body.bind (loopBody 4)).getD .skip
noncomputable def D_spec_l19Good : Code := Try.f103.body.getD .skip
noncomputable def N_spec_l19Good (_ : outs E_spec_l19Good.params) (r : dens E_spec_l19Good.results) : E_spec_l19Good.B := r

-- spec.l6Identity
noncomputable def E_spec_l6Identity : Entry where
  params := [.v .int]
  results := [.mv .int 0]
  B := (List Int)
  run := fun a => spec_l6Identity a
  out := fun b => ()
  res := fun b => b

noncomputable def S_spec_l6Identity_L3 (n : Nat) : LoopSpec where
  sh := [(0, .v .int), (3, .mv .int 0), (4, .v .int)]
  ex := [(.exit 0, [(3, .mv .int 0)])]
  run := spec_l6Identity_L3 n

noncomputable def C_spec_l6Identity : Cx where
  tt := tblTT tt
  T := tblT []
  L := tblL [(3, S_spec_l6Identity_L3 fuel)]
  dep := fun i => 0
  n := 1

noncomputable def B_spec_l6Identity_L3 : Code := (Try.f138.body.bind (loopBody 3)).getD .skip
noncomputable def D_spec_l6Identity : Code := Try.f138.body.getD .skip
noncomputable def N_spec_l6Identity (_ : outs E_spec_l6Identity.params) (r : dens E_spec_l6Identity.results) : E_spec_l6Identity.B := r

-- spec.l20Full
noncomputable def E_spec_l20Full : Entry where
  params := [.v (.pair .int (.pair .int (.slice (.pair (.slice .int) (.pair .int (.slice (.slice .int)))))))]
  results := [.mv (.slice .int) 0]
  B := (List (List Int))
  run := fun a => spec_l20Full a
  out := fun b => ()
  res := fun b => b

noncomputable def S_spec_l20Full_L3 (n : Nat) : LoopSpec where
  sh := [(1, .bx (.v (.pair .int (.pair .int (.slice (.pair (.slice .int) (.pair .int (.slice (.slice .int))))))))), (3, .mv (.slice .int) 0), (4, .v .int)]
  ex := [(.exit 0, [(3, .mv (.slice .int) 0)])]
  run := spec_l20Full_L3 n

noncomputable def C_spec_l20Full : Cx where
  tt := tblTT tt
  T := tblT [(138, E_spec_l6Identity)]
  L := tblL [(3, S_spec_l20Full_L3 fuel)]
  dep := fun i => 0
  n := 1

noncomputable def B_spec_l20Full_L3 : Code := (Try.f104.body.bind (loopBody 3)).getD .skip
noncomputable def D_spec_l20Full : Code := Try.f104.body.getD .skip
noncomputable def N_spec_l20Full (_ : outs E_spec_l20Full.params) (r : dens E_spec_l20Full.results) : E_spec_l20Full.B := r

-- spec.l1Has
noncomputable def E_spec_l1Has : Entry where
  params := [.v (.slice .int), .v .int]
  results := [.v .bool]
  B := Bool
  run := fun a => spec_l1Has a.1 a.2
  out := fun b => ((), ())
  res := fun b => b

noncomputable def S_spec_l1Has_L2 (n : Nat) : LoopSpec where
  sh := [(0, .v (.slice .int)), (1, .v .int), (5, .v .int)]
  ex := [(.exit 0, []), (.ret, [(4, .v .bool)])]
  run := spec_l1Has_L2 n

noncomputable def C_spec_l1Has : Cx where
  tt := tblTT tt
  T := tblT []
  L := tblL [(2, S_spec_l1Has_L2 fuel)]
  dep := fun i => 0
  n := 2

noncomputable def B_spec_l1Has_L2 : Code := (Try.f105.body.bind (loopBody 2)).getD .skip
noncomputable def D_spec_l1Has : Code := Try.f105.body.getD .skip
noncomputable def N_spec_l1Has (_ : outs E_spec_l1Has.params) (r : dens E_spec_l1Has.results) : E_spec_l1Has.B := r

-- spec.l20Fits
noncomputable def E_spec_l20Fits : Entry where
  params := [.v (.pair (.slice .int) (.pair .int (.slice (.slice .int)))), .v (.slice .int), .v (.slice (.slice .int))]
  results := [.v .bool]
  B := Bool
  run := fun a => spec_l20Fits a.1 a.2.1 a.2.2
  out := fun b => ((), (), ())
  res := fun b => b

noncomputable def S_spec_l20Fits_L7 (n : Nat) : LoopSpec where
  sh := [(1, .v (.slice .int)), (2, .v (.slice (.slice .int))), (3, .bx (.v (.pair (.slice .int) (.pair .int (.slice (.slice .int)))))), (7, .v .int), (8, .v .int)]
  ex := [(.exit 2, [(1, .v (.slice .int)), (2, .v (.slice (.slice .int))), (3, .bx (.v (.pair (.slice .int) (.pair .int (.slice (.slice .int)))))), (7, .v .int)]), (.ret, [(6, .v .bool)])]
  run := spec_l20Fits_L7 n

noncomputable def S_spec_l20Fits_L2 (n : Nat) : LoopSpec where
  sh := [(1, .v (.slice .int)), (2, .v (.slice (.slice .int))), (3, .bx (.v (.pair (.slice .int) (.pair .int (.slice (.slice .int)))))), (7, .v .int)]
  ex := [(.exit 0, []), (.ret, [(6, .v .bool)])]
  run := spec_l20Fits_L2 n

noncomputable def C_spec_l20Fits : Cx where
  tt := tblTT tt
  T := tblT [(105, E_spec_l1Has)]
  L := tblL [(7, S_spec_l20Fits_L7 fuel), (2, S_spec_l20Fits_L2 fuel)]
  dep := fun i => 0
  n := 3

noncomputable def B_spec_l20Fits_L7 : Code := (Try.f139.body.bind (loopBody 7)).getD .skip
noncomputable def B_spec_l20Fits_L2 : Code := (Try.f139.body.bind (loopBody 2)).getD .skip
noncomputable def D_spec_l20Fits : Code := Try.f139.body.getD .skip
noncomputable def N_spec_l20Fits (_ : outs E_spec_l20Fits.params) (r : dens E_spec_l20Fits.results) : E_spec_l20Fits.B := r

-- spec.l20Support
noncomputable def E_spec_l20Support : Entry where
  params := [.v (.pair (.slice .int) (.pair .int (.slice (.slice .int)))), .v .int, .v .int, .v (.slice (.slice .int))]
  results := [.v .bool]
  B := Bool
  run := fun a => spec_l20Support a.1 a.2.1 a.2.2.1 a.2.2.2
  out := fun b => ((), (), (), ())
  res := fun b => b

noncomputable def S_spec_l20Support_L2 (n : Nat) : LoopSpec where
  sh := [(1, .v .int), (2, .v .int), (3, .v (.slice (.slice .int))), (4, .bx (.v (.pair (.slice .int) (.pair .int (.slice (.slice .int)))))), (9, .v .int)]
  ex := [(.exit 0, []), (.ret, [(8, .v .bool)])]
  run := spec_l20Support_L2 n

noncomputable def C_spec_l20Support : Cx where
  tt := tblTT tt
  T := tblT [(139, E_spec_l20Fits)]
  L := tblL [(2, S_spec_l20Support_L2 fuel)]
  dep := fun i => 0
  n := 4

noncomputable def B_spec_l20Support_L2 : Code := (Try.f106.body.bind (loopBody 2)).getD .skip
noncomputable def D_spec_l20Support : Code := Try.f106.body.getD .skip
noncomputable def N_spec_l20Support (_ : outs E_spec_l20Support.params) (r : dens E_spec_l20Support.results) : E_spec_l20Support.B := r

-- spec.l20Without
noncomputable def E_spec_l20Without : Entry where
  params := [.v (.slice .int), .v .int]
  results := [.mv .int 0]
  B := (List Int)
  run := fun a => spec_l20Without a.1 a.2
  out := fun b => ((), ())
  res := fun b => b

noncomputable def S_spec_l20Without_L3 (n : Nat) : LoopSpec where
  sh := [(0, .v (.slice .int)), (1, .v .int), (5, .mv .int 0), (6, .v .int)]
  ex := [(.exit 0, [(5, .mv .int 0)])]
  run := spec_l20Without_L3 n

noncomputable def C_spec_l20Without : Cx where
  tt := tblTT tt
  T := tblT []
  L := tblL [(3, S_spec_l20Without_L3 fuel)]
  dep := fun i => 0
  n := 2

noncomputable def B_spec_l20Without_L3 : Code := (Try.f107.body.bind (loopBody 3)).getD .skip
noncomputable def D_spec_l20Without : Code := Try.f107.body.getD .skip
noncomputable def N_spec_l20Without (_ : outs E_spec_l20Without.params) (r : dens E_spec_l20Without.results) : E_spec_l20Without.B := r

-- spec.IsArcTrace
noncomputable def E_spec_IsArcTrace : Entry where
  params := [.v (.pair .int (.pair .int (.slice (.pair (.slice .int) (.pair .int (.slice (.slice .int))))))), .v (.slice (.pair .int (.pair .int .int)))]
  results := [.v .bool, .v .bool]
  B := Bool × Bool
  run := fun a => spec_IsArcTrace a.1 a.2
  out := fun b => ((), ())
  res := fun b => (b.1, b.2)

noncomputable def S_spec_IsArcTrace_L5 (n : Nat) : LoopSpec where
  sh := [(1, .v (.slice (.pair .int (.pair .int .int)))), (2, .bx (.v (.pair .int (.pair .int (.slice (.pair (.slice .int) (.pair .int (.slice (.slice .int))))))))), (6, .mv (.slice .int) 0), (7, .v .int)]
  ex := [(.exit 0, []), (.ret, [(4, .v .bool), (5, .v .bool)])]
  run := spec_IsArcTrace_L5 n

noncomputable def C_spec_IsArcTrace : Cx where
  tt := tblTT tt
  T := tblT [(84, E_spec_l1In), (103, E_spec_l19Good), (104, E_spec_l20Full), (105, E_spec_l1Has), (106, E_spec_l20Support), (107, E_spec_l20Without)]
  L := tblL [(5, S_spec_IsArcTrace_L5 fuel)]
  dep := fun i => 0
  n := 2

noncomputable def B_spec_IsArcTrace_L5 : Code := (Try.f52.body.bind (loopBody 5)).getD .skip
noncomputable def D_spec_IsArcTrace : Code := Try.f52.body.getD .skip
noncomputable def N_spec_IsArcTrace (_ : outs E_spec_IsArcTrace.params) (r : dens E_spec_IsArcTrace.results) : E_spec_IsArcTrace.B := (r.1, r.2)

-- impl.isTemplateSize
noncomputable def E_impl_isTemplateSize : Entry where
  params := [.v .int]
  results := [.v .bool]
  B := Bool
  run := fun a => impl_isTemplateSize a
  out := fun b => ()
  res := fun b => b

noncomputable def C_impl_isTemplateSize : Cx where
  tt := tblTT tt
  T := tblT []
  L := tblL []
  dep := fun i => 0
  n := 1

noncomputable def D_impl_isTemplateSize : Code := Try.f140.body.getD .skip
noncomputable def N_impl_isTemplateSize (_ : outs E_impl_isTemplateSize.params) (r : dens E_impl_isTemplateSize.results) : E_impl_isTemplateSize.B := r

-- impl.inSize
noncomputable def E_impl_inSize : Entry where
  params := [.v (.slice .int), .v .int]
  results := [.v .bool]
  B := Bool
  run := fun a => impl_inSize a.1 a.2
  out := fun b => ((), ())
  res := fun b => b

noncomputable def S_impl_inSize_L2 (n : Nat) : LoopSpec where
  sh := [(1, .v .int), (7, .v (.slice .int)), (8, .v .int), (9, .v .int)]
  ex := [(.exit 0, []), (.ret, [(4, .v .bool)])]
  run := impl_inSize_L2 n

noncomputable def C_impl_inSize : Cx where
  tt := tblTT tt
  T := tblT []
  L := tblL [(2, S_impl_inSize_L2 fuel)]
  dep := fun i => 0
  n := 2

noncomputable def B_impl_inSize_L2 : Code := (Try.f90.body.bind (loopBody 2)).getD .skip
noncomputable def D_impl_inSize : Code := Try.f90.body.getD .skip
noncomputable def N_impl_inSize (_ : outs E_impl_inSize.params) (r : dens E_impl_inSize.results) : E_impl_inSize.B := r

-- impl.compareLists
noncomputable def E_impl_compareLists : Entry where
  params := [.v (.slice .int), .v (.slice .int)]
  results := [.v .int]
  B := Int
  run := fun a => impl_compareLists a.1 a.2
  out := fun b => ((), ())
  res := fun b => b

noncomputable def S_impl_compareLists_L2 (n : Nat) : LoopSpec where
  sh := [(0, .v (.slice .int)), (1, .v (.slice .int)), (5, .v .int)]
  ex := [(.exit 0, [(0, .v (.slice .int)), (1, .v (.slice .int))]), (.ret, [(4, .v .int)])]
  run := impl_compareLists_L2 n

noncomputable def C_impl_compareLists : Cx where
  tt := tblTT tt
  T := tblT []
  L := tblL [(2, S_impl_compareLists_L2 fuel)]
  dep := fun i => 0
  n := 2

noncomputable def B_impl_compareLists_L2 : Code := (Try.f151.body.bind (loopBody 2)).getD .skip
noncomputable def D_impl_compareLists : Code := Try.f151.body.getD .skip
noncomputable def N_impl_compareLists (_ : outs E_impl_compareLists.params) (r : dens E_impl_compareLists.results) : E_impl_compareLists.B := r

-- impl.isRelation
noncomputable def E_impl_isRelation : Entry where
  params := [.v .int, .v (.pair .int (.slice (.slice .int)))]
  results := [.v .bool]
  B := Bool
  run := fun a => impl_isRelation a.1 a.2
  out := fun b => ((), ())
  res := fun b => b

noncomputable def S_impl_isRelation_L4 (n : Nat) : LoopSpec where
  sh := [(0, .v .int), (3, .bx (.v (.pair .int (.slice (.slice .int))))), (16, .v (.slice (.slice .int))), (17, .v .int), (18, .v .int)]
  ex := [(.exit 0, []), (.ret, [(4, .v .bool)])]
  run := impl_isRelation_L4 n

noncomputable def C_impl_isRelation : Cx where
  tt := tblTT tt
  T := tblT [(90, E_impl_inSize), (151, E_impl_compareLists)]
  L := tblL [(4, S_impl_isRelation_L4 fuel)]
  dep := fun i => 0
  n := 2

noncomputable def B_impl_isRelation_L4 : Code := (Try.f149.body.bind (loopBody 4)).getD .skip
noncomputable def D_impl_isRelation : Code := Try.f149.body.getD .skip
noncomputable def N_impl_isRelation (_ : outs E_impl_isRelation.params) (r : dens E_impl_isRelation.results) : E_impl_isRelation.B := r

-- impl.isConstraint
noncomputable def E_impl_isConstraint : Entry where
  params := [.v .int, .v .int, .v (.pair (.slice .int) (.pair .int (.slice (.slice .int))))]
  results := [.v .bool]
  B := Bool
  run := fun a => impl_isConstraint a.1 a.2.1 a.2.2
  out := fun b => ((), (), ())
  res := fun b => b

noncomputable def C_impl_isConstraint : Cx where
  tt := tblTT tt
  T := tblT [(90, E_impl_inSize), (149, E_impl_isRelation)]
  L := tblL []
  dep := fun i => 0
  n := 3

noncomputable def D_impl_isConstraint : Code := Try.f141.body.getD .skip
noncomputable def N_impl_isConstraint (_ : outs E_impl_isConstraint.params) (r : dens E_impl_isConstraint.results) : E_impl_isConstraint.B := r

-- impl.IsNetwork
noncomputable def E_impl_IsNetwork : Entry where
  params := [.v (.pair .int (.pair .int (.slice (.pair (.slice .int) (.pair .int (.slice (.slice .int)))))))]
  results := [.v .bool]
  B := Bool
  run := fun a => impl_IsNetwork a
  out := fun b => ()
  res := fun b => b

noncomputable def S_impl_IsNetwork_L4 (n : Nat) : LoopSpec where
  sh := [(1, .bx (.v (.pair .int (.pair .int (.slice (.pair (.slice .int) (.pair .int (.slice (.slice .int))))))))), (26, .v (.slice (.pair (.slice .int) (.pair .int (.slice (.slice .int)))))), (27, .v .int), (28, .v .int)]
  ex := [(.exit 0, []), (.ret, [(2, .v .bool)])]
  run := impl_IsNetwork_L4 n

noncomputable def C_impl_IsNetwork : Cx where
  tt := tblTT tt
  T := tblT [(140, E_impl_isTemplateSize), (141, E_impl_isConstraint)]
  L := tblL [(4, S_impl_IsNetwork_L4 fuel)]
  dep := fun i => 0
  n := 1

noncomputable def B_impl_IsNetwork_L4 : Code := (Try.f109.body.bind (loopBody 4)).getD .skip
noncomputable def D_impl_IsNetwork : Code := Try.f109.body.getD .skip
noncomputable def N_impl_IsNetwork (_ : outs E_impl_IsNetwork.params) (r : dens E_impl_IsNetwork.results) : E_impl_IsNetwork.B := r

-- impl.wholeDomains
noncomputable def E_impl_wholeDomains : Entry where
  params := [.v (.pair .int (.pair .int (.slice (.pair (.slice .int) (.pair .int (.slice (.slice .int)))))))]
  results := [.mv (.slice .bool) 1]
  B := (List (List Bool))
  run := fun a => impl_wholeDomains a
  out := fun b => ()
  res := fun b => b

noncomputable def S_impl_wholeDomains_L7 (n : Nat) : LoopSpec where
  sh := [(1, .bx (.v (.pair .int (.pair .int (.slice (.pair (.slice .int) (.pair .int (.slice (.slice .int))))))))), (3, .mv (.slice .bool) 1), (4, .v .int), (10, .v .int), (11, .v .int), (24, .v .int), (25, .v .int)]
  ex := [(.exit 2, [(1, .bx (.v (.pair .int (.pair .int (.slice (.pair (.slice .int) (.pair .int (.slice (.slice .int))))))))), (3, .mv (.slice .bool) 1), (10, .v .int), (11, .v .int)])]
  run := impl_wholeDomains_L7 n

noncomputable def S_impl_wholeDomains_L3 (n : Nat) : LoopSpec where
  sh := [(1, .bx (.v (.pair .int (.pair .int (.slice (.pair (.slice .int) (.pair .int (.slice (.slice .int))))))))), (3, .mv (.slice .bool) 1), (10, .v .int), (11, .v .int)]
  ex := [(.exit 0, [(3, .mv (.slice .bool) 1)])]
  run := impl_wholeDomains_L3 n

noncomputable def C_impl_wholeDomains : Cx where
  tt := tblTT tt
  T := tblT []
  L := tblL [(7, S_impl_wholeDomains_L7 fuel), (3, S_impl_wholeDomains_L3 fuel)]
  dep := fun i => match i with
    | 8 => 1
    | _ => 0
  n := 1

noncomputable def B_impl_wholeDomains_L7 : Code := (Try.f110.body.bind (loopBody 7)).getD .skip
noncomputable def B_impl_wholeDomains_L3 : Code := (Try.f110.body.bind (loopBody 3)).getD .skip
noncomputable def D_impl_wholeDomains : Code := Try.f110.body.getD .skip
noncomputable def N_impl_wholeDomains (_ : outs E_impl_wholeDomains.params) (r : dens E_impl_wholeDomains.results) : E_impl_wholeDomains.B := r

-- impl.agrees
noncomputable def E_impl_agrees : Entry where
  params := [.v (.slice .int), .v (.slice .int)]
  results := [.v .bool]
  B := Bool
  run := fun a => impl_agrees a.1 a.2
  out := fun b => ((), ())
  res := fun b => b

noncomputable def S_impl_agrees_L5 (n : Nat) : LoopSpec where
  sh := [(0, .v (.slice .int)), (1, .v (.slice .int)), (5, .v .int), (6, .v .int), (9, .v (.slice .int)), (10, .v .int), (11, .v .int), (18, .v (.slice .int)), (19, .v .int), (20, .v .int)]
  ex := [(.exit 2, [(0, .v (.slice .int)), (1, .v (.slice .int)), (9, .v (.slice .int)), (10, .v .int), (11, .v .int)]), (.ret, [(4, .v .bool)])]
  run := impl_agrees_L5 n

noncomputable def S_impl_agrees_L2 (n : Nat) : LoopSpec where
  sh := [(0, .v (.slice .int)), (1, .v (.slice .int)), (9, .v (.slice .int)), (10, .v .int), (11, .v .int)]
  ex := [(.exit 0, []), (.ret, [(4, .v .bool)])]
  run := impl_agrees_L2 n

noncomputable def C_impl_agrees : Cx where
  tt := tblTT tt
  T := tblT []
  L := tblL [(5, S_impl_agrees_L5 fuel), (2, S_impl_agrees_L2 fuel)]
  dep := fun i => 0
  n := 2

noncomputable def B_impl_agrees_L5 : Code := (Try.f133.body.bind (loopBody 5)).getD .skip
noncomputable def B_impl_agrees_L2 : Code := (Try.f133.body.bind (loopBody 2)).getD .skip
noncomputable def D_impl_agrees : Code := Try.f133.body.getD .skip
noncomputable def N_impl_agrees (_ : outs E_impl_agrees.params) (r : dens E_impl_agrees.results) : E_impl_agrees.B := r

-- impl.domains).supports
noncomputable def E_impl_domains_supports : Entry where
  params := [.v (.slice (.slice .bool)), .v (.pair (.slice .int) (.pair .int (.slice (.slice .int)))), .v .int, .v .int]
  results := [.v .bool]
  B := Bool
  run := fun a => impl_domains_supports a.1 a.2.1 a.2.2.1 a.2.2.2
  out := fun b => ((), (), (), ())
  res := fun b => b

noncomputable def S_impl_domains_supports_L7 (n : Nat) : LoopSpec where
  sh := [(0, .v (.slice (.slice .bool))), (2, .v .int), (3, .v .int), (5, .bx (.v (.pair (.slice .int) (.pair .int (.slice (.slice .int)))))), (11, .v .bool), (16, .v (.slice (.slice .int))), (17, .v .int), (18, .v .int), (35, .v (.slice .int)), (36, .v .int), (37, .v .int)]
  ex := [(.exit 2, [(0, .v (.slice (.slice .bool))), (2, .v .int), (3, .v .int), (5, .bx (.v (.pair (.slice .int) (.pair .int (.slice (.slice .int)))))), (11, .v .bool), (16, .v (.slice (.slice .int))), (17, .v .int), (18, .v .int)])]
  run := impl_domains_supports_L7 n

noncomputable def S_impl_domains_supports_L2 (n : Nat) : LoopSpec where
  sh := [(0, .v (.slice (.slice .bool))), (2, .v .int), (3, .v .int), (5, .bx (.v (.pair (.slice .int) (.pair .int (.slice (.slice .int)))))), (16, .v (.slice (.slice .int))), (17, .v .int), (18, .v .int)]
  ex := [(.exit 0, []), (.ret, [(8, .v .bool)])]
  run := impl_domains_supports_L2 n

noncomputable def C_impl_domains_supports : Cx where
  tt := tblTT tt
  T := tblT [(133, E_impl_agrees)]
  L := tblL [(7, S_impl_domains_supports_L7 fuel), (2, S_impl_domains_supports_L2 fuel)]
  dep := fun i => 0
  n := 4

noncomputable def B_impl_domains_supports_L7 : Code := (Try.f111.body.bind (loopBody 7)).getD .skip
noncomputable def B_impl_domains_supports_L2 : Code := (Try.f111.body.bind (loopBody 2)).getD .skip
noncomputable def D_impl_domains_supports : Code := Try.f111.body.getD .skip
noncomputable def N_impl_domains_supports (_ : outs E_impl_domains_supports.params) (r : dens E_impl_domains_supports.results) : E_impl_domains_supports.B := r

-- impl.IsArcTrace
noncomputable def E_impl_IsArcTrace : Entry where
  params := [.v (.pair .int (.pair .int (.slice (.pair (.slice .int) (.pair .int (.slice (.slice .int))))))), .v (.slice (.pair .int (.pair .int .int)))]
  results := [.v .bool, .v .bool]
  B := Bool × Bool
  run := fun a => impl_IsArcTrace a.1 a.2
  out := fun b => ((), ())
  res := fun b => (b.1, b.2)

noncomputable def S_impl_IsArcTrace_L5 (n : Nat) : LoopSpec where
  sh := [(2, .bx (.v (.pair .int (.pair .int (.slice (.pair (.slice .int) (.pair .int (.slice (.slice .int))))))))), (6, .mv (.slice .bool) 1), (23, .v (.slice (.pair .int (.pair .int .int)))), (24, .v .int), (25, .v .int)]
  ex := [(.exit 0, []), (.ret, [(4, .v .bool), (5, .v .bool)])]
  run := impl_IsArcTrace_L5 n

noncomputable def C_impl_IsArcTrace : Cx where
  tt := tblTT tt
  T := tblT [(109, E_impl_IsNetwork), (110, E_impl_wholeDomains), (111, E_impl_domains_supports)]
  L := tblL [(5, S_impl_IsArcTrace_L5 fuel)]
  dep := fun i => 0
  n := 2

noncomputable def B_impl_IsArcTrace_L5 : Code := (Try.f54.body.bind (loopBody 5)).getD .skip
noncomputable def D_impl_IsArcTrace : Code := Try.f54.body.getD .skip
noncomputable def N_impl_IsArcTrace (_ : outs E_impl_IsArcTrace.params) (r : dens E_impl_IsArcTrace.results) : E_impl_IsArcTrace.B := (r.1, r.2)

-- laws.eqIntS
noncomputable def E_laws_eqIntS : Entry where
  params := [.v (.slice .int), .v (.slice .int)]
  results := [.v .bool]
  B := Bool
  run := fun a => laws_eqIntS a.1 a.2
  out := fun b => ((), ())
  res := fun b => b

noncomputable def S_laws_eqIntS_L4 (n : Nat) : LoopSpec where
  sh := [(0, .v (.slice .int)), (1, .v (.slice .int)), (5, .v .int)]
  ex := [(.exit 0, []), (.ret, [(4, .v .bool)])]
  run := laws_eqIntS_L4 n

noncomputable def C_laws_eqIntS : Cx where
  tt := tblTT tt
  T := tblT []
  L := tblL [(4, S_laws_eqIntS_L4 fuel)]
  dep := fun i => 0
  n := 2

noncomputable def B_laws_eqIntS_L4 : Code := (Try.f22.body.bind (loopBody 4)).getD .skip
noncomputable def D_laws_eqIntS : Code := Try.f22.body.getD .skip
noncomputable def N_laws_eqIntS (_ : outs E_laws_eqIntS.params) (r : dens E_laws_eqIntS.results) : E_laws_eqIntS.B := r

-- laws.eqIntSS
noncomputable def E_laws_eqIntSS : Entry where
  params := [.v (.slice (.slice .int)), .v (.slice (.slice .int))]
  results := [.v .bool]
  B := Bool
  run := fun a => laws_eqIntSS a.1 a.2
  out := fun b => ((), ())
  res := fun b => b

noncomputable def S_laws_eqIntSS_L4 (n : Nat) : LoopSpec where
  sh := [(0, .v (.slice (.slice .int))), (1, .v (.slice (.slice .int))), (5, .v .int)]
  ex := [(.exit 0, []), (.ret, [(4, .v .bool)])]
  run := laws_eqIntSS_L4 n

noncomputable def C_laws_eqIntSS : Cx where
  tt := tblTT tt
  T := tblT [(22, E_laws_eqIntS)]
  L := tblL [(4, S_laws_eqIntSS_L4 fuel)]
  dep := fun i => 0
  n := 2

noncomputable def B_laws_eqIntSS_L4 : Code := (Try.f33.body.bind (loopBody 4)).getD .skip
noncomputable def D_laws_eqIntSS : Code := Try.f33.body.getD .skip
noncomputable def N_laws_eqIntSS (_ : outs E_laws_eqIntSS.params) (r : dens E_laws_eqIntSS.results) : E_laws_eqIntSS.B := r

-- laws.eqRelation
noncomputable def E_laws_eqRelation : Entry where
  params := [.v (.pair .int (.slice (.slice .int))), .v (.pair .int (.slice (.slice .int)))]
  results := [.v .bool]
  B := Bool
  run := fun a => laws_eqRelation a.1 a.2
  out := fun b => ((), ())
  res := fun b => b

noncomputable def C_laws_eqRelation : Cx where
  tt := tblTT tt
  T := tblT [(33, E_laws_eqIntSS)]
  L := tblL []
  dep := fun i => 0
  n := 2

noncomputable def D_laws_eqRelation : Code := Try.f147.body.getD .skip
noncomputable def N_laws_eqRelation (_ : outs E_laws_eqRelation.params) (r : dens E_laws_eqRelation.results) : E_laws_eqRelation.B := r

-- laws.eqConstraint
noncomputable def E_laws_eqConstraint : Entry where
  params := [.v (.pair (.slice .int) (.pair .int (.slice (.slice .int)))), .v (.pair (.slice .int) (.pair .int (.slice (.slice .int))))]
  results := [.v .bool]
  B := Bool
  run := fun a => laws_eqConstraint a.1 a.2
  out := fun b => ((), ())
  res := fun b => b

noncomputable def C_laws_eqConstraint : Cx where
  tt := tblTT tt
  T := tblT [(22, E_laws_eqIntS), (147, E_laws_eqRelation)]
  L := tblL []
  dep := fun i => 0
  n := 2

noncomputable def D_laws_eqConstraint : Code := Try.f134.body.getD .skip
noncomputable def N_laws_eqConstraint (_ : outs E_laws_eqConstraint.params) (r : dens E_laws_eqConstraint.results) : E_laws_eqConstraint.B := r

-- laws.eqConstraintS
noncomputable def E_laws_eqConstraintS : Entry where
  params := [.v (.slice (.pair (.slice .int) (.pair .int (.slice (.slice .int))))), .v (.slice (.pair (.slice .int) (.pair .int (.slice (.slice .int)))))]
  results := [.v .bool]
  B := Bool
  run := fun a => laws_eqConstraintS a.1 a.2
  out := fun b => ((), ())
  res := fun b => b

noncomputable def S_laws_eqConstraintS_L4 (n : Nat) : LoopSpec where
  sh := [(0, .v (.slice (.pair (.slice .int) (.pair .int (.slice (.slice .int)))))), (1, .v (.slice (.pair (.slice .int) (.pair .int (.slice (.slice .int)))))), (5, .v .int)]
  ex := [(.exit 0, []), (.ret, [(4, .v .bool)])]
  run := laws_eqConstraintS_L4 n

noncomputable def C_laws_eqConstraintS : Cx where
  tt := tblTT tt
  T := tblT [(134, E_laws_eqConstraint)]
  L := tblL [(4, S_laws_eqConstraintS_L4 fuel)]
  dep := fun i => 0
  n := 2

noncomputable def B_laws_eqConstraintS_L4 : Code := (Try.f93.body.bind (loopBody 4)).getD .skip
noncomputable def D_laws_eqConstraintS : Code := Try.f93.body.getD .skip
noncomputable def N_laws_eqConstraintS (_ : outs E_laws_eqConstraintS.params) (r : dens E_laws_eqConstraintS.results) : E_laws_eqConstraintS.B := r

-- laws.eqNetwork
noncomputable def E_laws_eqNetwork : Entry where
  params := [.v (.pair .int (.pair .int (.slice (.pair (.slice .int) (.pair .int (.slice (.slice .int))))))), .v (.pair .int (.pair .int (.slice (.pair (.slice .int) (.pair .int (.slice (.slice .int)))))))]
  results := [.v .bool]
  B := Bool
  run := fun a => laws_eqNetwork a.1 a.2
  out := fun b => ((), ())
  res := fun b => b

noncomputable def C_laws_eqNetwork : Cx where
  tt := tblTT tt
  T := tblT [(93, E_laws_eqConstraintS)]
  L := tblL []
  dep := fun i => 0
  n := 2

noncomputable def D_laws_eqNetwork : Code := Try.f43.body.getD .skip
noncomputable def N_laws_eqNetwork (_ : outs E_laws_eqNetwork.params) (r : dens E_laws_eqNetwork.results) : E_laws_eqNetwork.B := r

-- laws.eqIntA3
noncomputable def E_laws_eqIntA3 : Entry where
  params := [.v (.pair .int (.pair .int .int)), .v (.pair .int (.pair .int .int))]
  results := [.v .bool]
  B := Bool
  run := fun a => laws_eqIntA3 a.1 a.2
  out := fun b => ((), ())
  res := fun b => b

noncomputable def S_laws_eqIntA3_L2 (n : Nat) : LoopSpec where
  sh := [(2, .bx (.v (.pair .int (.pair .int .int)))), (3, .bx (.v (.pair .int (.pair .int .int)))), (5, .v .int)]
  ex := [(.exit 0, []), (.ret, [(4, .v .bool)])]
  run := laws_eqIntA3_L2 n

noncomputable def C_laws_eqIntA3 : Cx where
  tt := tblTT tt
  T := tblT []
  L := tblL [(2, S_laws_eqIntA3_L2 fuel)]
  dep := fun i => 0
  n := 2

noncomputable def B_laws_eqIntA3_L2 : Code := (Try.f112.body.bind (loopBody 2)).getD .skip
noncomputable def D_laws_eqIntA3 : Code := Try.f112.body.getD .skip
noncomputable def N_laws_eqIntA3 (_ : outs E_laws_eqIntA3.params) (r : dens E_laws_eqIntA3.results) : E_laws_eqIntA3.B := r

-- laws.eqIntA3S
noncomputable def E_laws_eqIntA3S : Entry where
  params := [.v (.slice (.pair .int (.pair .int .int))), .v (.slice (.pair .int (.pair .int .int)))]
  results := [.v .bool]
  B := Bool
  run := fun a => laws_eqIntA3S a.1 a.2
  out := fun b => ((), ())
  res := fun b => b

noncomputable def S_laws_eqIntA3S_L4 (n : Nat) : LoopSpec where
  sh := [(0, .v (.slice (.pair .int (.pair .int .int)))), (1, .v (.slice (.pair .int (.pair .int .int)))), (5, .v .int)]
  ex := [(.exit 0, []), (.ret, [(4, .v .bool)])]
  run := laws_eqIntA3S_L4 n

noncomputable def C_laws_eqIntA3S : Cx where
  tt := tblTT tt
  T := tblT [(112, E_laws_eqIntA3)]
  L := tblL [(4, S_laws_eqIntA3S_L4 fuel)]
  dep := fun i => 0
  n := 2

noncomputable def B_laws_eqIntA3S_L4 : Code := (Try.f55.body.bind (loopBody 4)).getD .skip
noncomputable def D_laws_eqIntA3S : Code := Try.f55.body.getD .skip
noncomputable def N_laws_eqIntA3S (_ : outs E_laws_eqIntA3S.params) (r : dens E_laws_eqIntA3S.results) : E_laws_eqIntA3S.B := r

-- laws.FnExactIsArcTrace
noncomputable def E_laws_FnExactIsArcTrace : Entry where
  params := [.v (.pair .int (.pair .int (.slice (.pair (.slice .int) (.pair .int (.slice (.slice .int))))))), .v (.slice (.pair .int (.pair .int .int)))]
  results := [.v .bool]
  B := Bool
  run := fun a => laws_FnExactIsArcTrace a.1 a.2
  out := fun b => ((), ())
  res := fun b => b

noncomputable def C_laws_FnExactIsArcTrace : Cx where
  tt := tblTT tt
  T := tblT [(38, E_laws_szNetwork), (40, E_laws_toNetwork), (43, E_laws_eqNetwork), (51, E_laws_szIntA3S), (52, E_spec_IsArcTrace), (53, E_laws_toIntA3S), (54, E_impl_IsArcTrace), (55, E_laws_eqIntA3S)]
  L := tblL []
  dep := fun i => 0
  n := 2

noncomputable def D_laws_FnExactIsArcTrace : Code := Try.f11.body.getD .skip
noncomputable def N_laws_FnExactIsArcTrace (_ : outs E_laws_FnExactIsArcTrace.params) (r : dens E_laws_FnExactIsArcTrace.results) : E_laws_FnExactIsArcTrace.B := r
end T
