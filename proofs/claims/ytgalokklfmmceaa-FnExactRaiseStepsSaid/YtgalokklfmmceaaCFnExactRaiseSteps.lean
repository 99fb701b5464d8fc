/- Contexts of the typed functions; no conditions. -/
import Derived.Test.YtgalokklfmmceaaV5
import Derived.Test.YtgalokklfmmceaaProg
import Derived.Test.YtgalokklfmmceaaPFnExactRaiseSteps
import Derived.KernelRfl
set_option linter.all false
set_option linter.unusedVariables false
set_option maxRecDepth 10000
open Go Go.Va Go.Proofs
namespace T
noncomputable def tt : List (Nat × TI) := [
  (2, { ty := .int }),
  (3, { ty := .int }),
  (4, { ty := .bool }),
  (5, { ty := (.num .u8) }),
  (6, { ty := (.num .u8) }),
  (8, { ty := (.pair .int (.pair .int (.pair .bool (.num .u8)))), fields := [2, 3, 4, 6] }),
  (9, { ty := .str }),
  (22, { ty := (.slice .int), elem := 3 }),
  (24, { ty := (.pair .int (.slice .int)), fields := [3, 22] }),
  (30, { ty := (.slice (.pair (.slice .int) (.pair .int (.slice (.slice .int))))), elem := 73 }),
  (32, { ty := (.pair .int (.pair .int (.slice (.pair (.slice .int) (.pair .int (.slice (.slice .int))))))), fields := [3, 3, 30] }),
  (36, { ty := (.slice (.pair (.slice .int) (.pair .int (.slice (.slice .int))))), elem := 76 }),
  (38, { ty := (.pair .int (.pair .int (.slice (.pair (.slice .int) (.pair .int (.slice (.slice .int))))))), fields := [3, 3, 36] }),
  (42, { ty := (.slice .bool), elem := 4 }),
  (69, { ty := (.slice (.slice .int)), elem := 22 }),
  (71, { ty := (.pair .int (.slice (.slice .int))), fields := [3, 69] }),
  (73, { ty := (.pair (.slice .int) (.pair .int (.slice (.slice .int)))), fields := [22, 71] }),
  (74, { ty := (.pair .int (.slice (.slice .int))), fields := [3, 69] }),
  (76, { ty := (.pair (.slice .int) (.pair .int (.slice (.slice .int)))), fields := [22, 74] }),
  (80, { ty := (.slice (.pair .int (.slice .int))), elem := 24 }),
  (83, { ty := (.slice (.pair .int (.slice (.slice .int)))), elem := 74 }),
  (103, { ty := .smap }),
  (111, { ty := (.slice (.num .u8)), elem := 5 }),
  (112, { ty := (.num .u64) }),
  (118, { ty := (.pair .int (.slice (.pair .int (.slice .int)))), fields := [3, 80] })]
theorem tabT : tabOk Try.prog tt = true := by kernel_rfl
theorem mixT : Try.prog.follows .mixedOrders = true := by kernel_rfl

-- laws.szIntS
noncomputable def E_laws_szIntS : Entry where
  params := [.v (.slice .int), .v .int]
  results := [.v .int]
  B := Int
  run := fun a => laws_szIntS a.1 a.2
  out := fun b => ((), ())
  res := fun b => b

noncomputable def C_laws_szIntS : Cx where
  tt := tblTT tt
  T := tblT []
  L := tblL []
  dep := fun i => 0
  n := 2

noncomputable def D_laws_szIntS : Code := Try.f68.body.getD .skip
noncomputable def N_laws_szIntS (_ : outs E_laws_szIntS.params) (r : dens E_laws_szIntS.results) : E_laws_szIntS.B := r

-- laws.szIntSS
noncomputable def E_laws_szIntSS : Entry where
  params := [.v (.slice (.slice .int)), .v .int]
  results := [.v .int]
  B := Int
  run := fun a => laws_szIntSS a.1 a.2
  out := fun b => ((), ())
  res := fun b => b

noncomputable def S_laws_szIntSS_L5 (n : Nat) : LoopSpec where
  sh := [(0, .v (.slice (.slice .int))), (1, .v .int), (5, .v .int)]
  ex := [(.exit 0, [(1, .v .int)]), (.ret, [(4, .v .int)])]
  run := laws_szIntSS_L5 n

noncomputable def C_laws_szIntSS : Cx where
  tt := tblTT tt
  T := tblT [(68, E_laws_szIntS)]
  L := tblL [(5, S_laws_szIntSS_L5 fuel)]
  dep := fun i => 0
  n := 2

noncomputable def B_laws_szIntSS_L5 : Code := (Try.f87.body.bind (loopBody 5)).getD .skip
noncomputable def D_laws_szIntSS : Code := Try.f87.body.getD .skip
noncomputable def N_laws_szIntSS (_ : outs E_laws_szIntSS.params) (r : dens E_laws_szIntSS.results) : E_laws_szIntSS.B := r

-- laws.szRelation
noncomputable def E_laws_szRelation : Entry where
  params := [.v (.pair .int (.slice (.slice .int))), .v .int]
  results := [.v .int]
  B := Int
  run := fun a => laws_szRelation a.1 a.2
  out := fun b => ((), ())
  res := fun b => b

noncomputable def C_laws_szRelation : Cx where
  tt := tblTT tt
  T := tblT [(87, E_laws_szIntSS)]
  L := tblL []
  dep := fun i => 0
  n := 2

noncomputable def D_laws_szRelation : Code := Try.f69.body.getD .skip
noncomputable def N_laws_szRelation (_ : outs E_laws_szRelation.params) (r : dens E_laws_szRelation.results) : E_laws_szRelation.B := r

-- laws.szConstraint
noncomputable def E_laws_szConstraint : Entry where
  params := [.v (.pair (.slice .int) (.pair .int (.slice (.slice .int)))), .v .int]
  results := [.v .int]
  B := Int
  run := fun a => laws_szConstraint a.1 a.2
  out := fun b => ((), ())
  res := fun b => b

noncomputable def C_laws_szConstraint : Cx where
  tt := tblTT tt
  T := tblT [(68, E_laws_szIntS), (69, E_laws_szRelation)]
  L := tblL []
  dep := fun i => 0
  n := 2

noncomputable def D_laws_szConstraint : Code := Try.f52.body.getD .skip
noncomputable def N_laws_szConstraint (_ : outs E_laws_szConstraint.params) (r : dens E_laws_szConstraint.results) : E_laws_szConstraint.B := r

-- laws.szConstraintS
noncomputable def E_laws_szConstraintS : Entry where
  params := [.v (.slice (.pair (.slice .int) (.pair .int (.slice (.slice .int))))), .v .int]
  results := [.v .int]
  B := Int
  run := fun a => laws_szConstraintS a.1 a.2
  out := fun b => ((), ())
  res := fun b => b

noncomputable def S_laws_szConstraintS_L5 (n : Nat) : LoopSpec where
  sh := [(0, .v (.slice (.pair (.slice .int) (.pair .int (.slice (.slice .int)))))), (1, .v .int), (5, .v .int)]
  ex := [(.exit 0, [(1, .v .int)]), (.ret, [(4, .v .int)])]
  run := laws_szConstraintS_L5 n

noncomputable def C_laws_szConstraintS : Cx where
  tt := tblTT tt
  T := tblT [(52, E_laws_szConstraint)]
  L := tblL [(5, S_laws_szConstraintS_L5 fuel)]
  dep := fun i => 0
  n := 2

noncomputable def B_laws_szConstraintS_L5 : Code := (Try.f39.body.bind (loopBody 5)).getD .skip
noncomputable def D_laws_szConstraintS : Code := Try.f39.body.getD .skip
noncomputable def N_laws_szConstraintS (_ : outs E_laws_szConstraintS.params) (r : dens E_laws_szConstraintS.results) : E_laws_szConstraintS.B := r

-- laws.szNetwork
noncomputable def E_laws_szNetwork : Entry where
  params := [.v (.pair .int (.pair .int (.slice (.pair (.slice .int) (.pair .int (.slice (.slice .int))))))), .v .int]
  results := [.v .int]
  B := Int
  run := fun a => laws_szNetwork a.1 a.2
  out := fun b => ((), ())
  res := fun b => b

noncomputable def C_laws_szNetwork : Cx where
  tt := tblTT tt
  T := tblT [(39, E_laws_szConstraintS)]
  L := tblL []
  dep := fun i => 0
  n := 2

noncomputable def D_laws_szNetwork : Code := Try.f14.body.getD .skip
noncomputable def N_laws_szNetwork (_ : outs E_laws_szNetwork.params) (r : dens E_laws_szNetwork.results) : E_laws_szNetwork.B := r

-- laws.toIntS
noncomputable def E_laws_toIntS : Entry where
  params := [.v (.slice .int)]
  results := [.mv .int 0]
  B := (List Int)
  run := fun a => laws_toIntS a
  out := fun b => ()
  res := fun b => b

noncomputable def S_laws_toIntS_L3 (n : Nat) : LoopSpec where
  sh := [(0, .v (.slice .int)), (3, .mv .int 0), (4, .v .int)]
  ex := [(.exit 0, [(3, .mv .int 0)])]
  run := laws_toIntS_L3 n

noncomputable def C_laws_toIntS : Cx where
  tt := tblTT tt
  T := tblT []
  L := tblL [(3, S_laws_toIntS_L3 fuel)]
  dep := fun i => 0
  n := 1

noncomputable def B_laws_toIntS_L3 : Code := (Try.f71.body.bind (loopBody 3)).getD .skip
noncomputable def D_laws_toIntS : Code := Try.f71.body.getD .skip
noncomputable def N_laws_toIntS (_ : outs E_laws_toIntS.params) (r : dens E_laws_toIntS.results) : E_laws_toIntS.B := r

-- laws.toIntSS
noncomputable def E_laws_toIntSS : Entry where
  params := [.v (.slice (.slice .int))]
  results := [.mv (.slice .int) 1]
  B := (List (List Int))
  run := fun a => laws_toIntSS a
  out := fun b => ()
  res := fun b => b

noncomputable def S_laws_toIntSS_L3 (n : Nat) : LoopSpec where
  sh := [(0, .v (.slice (.slice .int))), (3, .mv (.slice .int) 1), (4, .v .int)]
  ex := [(.exit 0, [(3, .mv (.slice .int) 1)])]
  run := laws_toIntSS_L3 n

noncomputable def C_laws_toIntSS : Cx where
  tt := tblTT tt
  T := tblT [(71, E_laws_toIntS)]
  L := tblL [(3, S_laws_toIntSS_L3 fuel)]
  dep := fun i => match i with
    | 7 => 1
    | _ => 0
  n := 1

noncomputable def B_laws_toIntSS_L3 : Code := (Try.f90.body.bind (loopBody 3)).getD .skip
noncomputable def D_laws_toIntSS : Code := Try.f90.body.getD .skip
noncomputable def N_laws_toIntSS (_ : outs E_laws_toIntSS.params) (r : dens E_laws_toIntSS.results) : E_laws_toIntSS.B := r

-- laws.toRelation
noncomputable def E_laws_toRelation : Entry where
  params := [.v (.pair .int (.slice (.slice .int)))]
  results := [.pr (.v .int) (.mv (.slice .int) 1)]
  B := (Int × (List (List Int)))
  run := fun a => laws_toRelation a
  out := fun b => ()
  res := fun b => b

noncomputable def C_laws_toRelation : Cx where
  tt := tblTT tt
  T := tblT [(90, E_laws_toIntSS)]
  L := tblL []
  dep := fun i => 0
  n := 1

noncomputable def D_laws_toRelation : Code := Try.f72.body.getD .skip
noncomputable def N_laws_toRelation (_ : outs E_laws_toRelation.params) (r : dens E_laws_toRelation.results) : E_laws_toRelation.B := r

-- laws.toConstraint
noncomputable def E_laws_toConstraint : Entry where
  params := [.v (.pair (.slice .int) (.pair .int (.slice (.slice .int))))]
  results := [.pr (.mv .int 0) (.pr (.v .int) (.mv (.slice .int) 1))]
  B := ((List Int) × (Int × (List (List Int))))
  run := fun a => laws_toConstraint a
  out := fun b => ()
  res := fun b => b

noncomputable def C_laws_toConstraint : Cx where
  tt := tblTT tt
  T := tblT [(71, E_laws_toIntS), (72, E_laws_toRelation)]
  L := tblL []
  dep := fun i => 0
  n := 1

noncomputable def D_laws_toConstraint : Code := Try.f54.body.getD .skip
noncomputable def N_laws_toConstraint (_ : outs E_laws_toConstraint.params) (r : dens E_laws_toConstraint.results) : E_laws_toConstraint.B := r

-- laws.toConstraintS
noncomputable def E_laws_toConstraintS : Entry where
  params := [.v (.slice (.pair (.slice .int) (.pair .int (.slice (.slice .int)))))]
  results := [.mv (.pair (.slice .int) (.pair .int (.slice (.slice .int)))) 2]
  B := (List ((List Int) × Int × (List (List Int))))
  run := fun a => laws_toConstraintS a
  out := fun b => ()
  res := fun b => b

noncomputable def S_laws_toConstraintS_L3 (n : Nat) : LoopSpec where
  sh := [(0, .v (.slice (.pair (.slice .int) (.pair .int (.slice (.slice .int)))))), (3, .mv (.pair (.slice .int) (.pair .int (.slice (.slice .int)))) 2), (4, .v .int)]
  ex := [(.exit 0, [(3, .mv (.pair (.slice .int) (.pair .int (.slice (.slice .int)))) 2)])]
  run := laws_toConstraintS_L3 n

noncomputable def C_laws_toConstraintS : Cx where
  tt := tblTT tt
  T := tblT [(54, E_laws_toConstraint)]
  L := tblL [(3, S_laws_toConstraintS_L3 fuel)]
  dep := fun i => match i with
    | 7 => 2
    | _ => 0
  n := 1

noncomputable def B_laws_toConstraintS_L3 : Code := (Try.f42.body.bind (loopBody 3)).getD .skip
noncomputable def D_laws_toConstraintS : Code := Try.f42.body.getD .skip
noncomputable def N_laws_toConstraintS (_ : outs E_laws_toConstraintS.params) (r : dens E_laws_toConstraintS.results) : E_laws_toConstraintS.B := r

-- laws.toNetwork
noncomputable def E_laws_toNetwork : Entry where
  params := [.v (.pair .int (.pair .int (.slice (.pair (.slice .int) (.pair .int (.slice (.slice .int)))))))]
  results := [.pr (.v .int) (.pr (.v .int) (.mv (.pair (.slice .int) (.pair .int (.slice (.slice .int)))) 2))]
  B := (Int × (Int × (List ((List Int) × Int × (List (List Int))))))
  run := fun a => laws_toNetwork a
  out := fun b => ()
  res := fun b => b

noncomputable def C_laws_toNetwork : Cx where
  tt := tblTT tt
  T := tblT [(42, E_laws_toConstraintS)]
  L := tblL []
  dep := fun i => 0
  n := 1

noncomputable def D_laws_toNetwork : Code := Try.f16.body.getD .skip
noncomputable def N_laws_toNetwork (_ : outs E_laws_toNetwork.params) (r : dens E_laws_toNetwork.results) : E_laws_toNetwork.B := r

-- spec.l1In
noncomputable def E_spec_l1In : Entry where
  params := [.v .int, .v .int, .v .int]
  results := [.v .bool]
  B := Bool
  run := fun a => spec_l1In a.1 a.2.1 a.2.2
  out := fun b => ((), (), ())
  res := fun b => b

noncomputable def C_spec_l1In : Cx where
  tt := tblTT tt
  T := tblT []
  L := tblL []
  dep := fun i => 0
  n := 3

noncomputable def D_spec_l1In : Code := Try.f51.body.getD .skip
noncomputable def N_spec_l1In (_ : outs E_spec_l1In.params) (r : dens E_spec_l1In.results) : E_spec_l1In.B := r

-- spec.l2Pow
noncomputable def E_spec_l2Pow : Entry where
  params := [.v .int, .v .int]
  results := [.v .int]
  B := Int
  run := fun a => spec_l2Pow a.1 a.2
  out := fun b => ((), ())
  res := fun b => b

noncomputable def S_spec_l2Pow_L2 (n : Nat) : LoopSpec where
  sh := [(0, .v .int), (1, .v .int), (5, .v .int)]
  ex := [(.exit 0, [(5, .v .int)])]
  run := spec_l2Pow_L2 n

noncomputable def C_spec_l2Pow : Cx where
  tt := tblTT tt
  T := tblT []
  L := tblL [(2, S_spec_l2Pow_L2 fuel)]
  dep := fun i => 0
  n := 2

noncomputable def B_spec_l2Pow_L2 : Code := (Try.f99.body.bind (loopBody 2)).getD .skip
noncomputable def D_spec_l2Pow : Code := Try.f99.body.getD .skip
noncomputable def N_spec_l2Pow (_ : outs E_spec_l2Pow.params) (r : dens E_spec_l2Pow.results) : E_spec_l2Pow.B := r

-- spec.l2Elements
noncomputable def E_spec_l2Elements : Entry where
  params := [.v .int, .v (.slice .int)]
  results := [.v .bool]
  B := Bool
  run := fun a => spec_l2Elements a.1 a.2
  out := fun b => ((), ())
  res := fun b => b

noncomputable def S_spec_l2Elements_L2 (n : Nat) : LoopSpec where
  sh := [(0, .v .int), (1, .v (.slice .int)), (5, .v .int)]
  ex := [(.exit 0, []), (.ret, [(4, .v .bool)])]
  run := spec_l2Elements_L2 n

noncomputable def C_spec_l2Elements : Cx where
  tt := tblTT tt
  T := tblT [(51, E_spec_l1In)]
  L := tblL [(2, S_spec_l2Elements_L2 fuel)]
  dep := fun i => 0
  n := 2

noncomputable def B_spec_l2Elements_L2 : Code := (Try.f89.body.bind (loopBody 2)).getD .skip
noncomputable def D_spec_l2Elements : Code := Try.f89.body.getD .skip
noncomputable def N_spec_l2Elements (_ : outs E_spec_l2Elements.params) (r : dens E_spec_l2Elements.results) : E_spec_l2Elements.B := r

-- spec.l8Tuple
noncomputable def E_spec_l8Tuple : Entry where
  params := [.v .int, .v .int, .v (.slice .int)]
  results := [.v .bool]
  B := Bool
  run := fun a => spec_l8Tuple a.1 a.2.1 a.2.2
  out := fun b => ((), (), ())
  res := fun b => b

noncomputable def C_spec_l8Tuple : Cx where
  tt := tblTT tt
  T := tblT [(89, E_spec_l2Elements)]
  L := tblL []
  dep := fun i => 0
  n := 3

noncomputable def D_spec_l8Tuple : Code := Try.f100.body.getD .skip
noncomputable def N_spec_l8Tuple (_ : outs E_spec_l8Tuple.params) (r : dens E_spec_l8Tuple.results) : E_spec_l8Tuple.B := r

-- spec.l3Less
noncomputable def E_spec_l3Less : Entry where
  params := [.v (.slice .int), .v (.slice .int)]
  results := [.v .bool]
  B := Bool
  run := fun a => spec_l3Less a.1 a.2
  out := fun b => ((), ())
  res := fun b => b

noncomputable def S_spec_l3Less_L2 (n : Nat) : LoopSpec where
  sh := [(0, .v (.slice .int)), (1, .v (.slice .int)), (5, .v .int)]
  ex := [(.exit 0, []), (.ret, [(4, .v .bool)])]
  run := spec_l3Less_L2 n

noncomputable def C_spec_l3Less : Cx where
  tt := tblTT tt
  T := tblT []
  L := tblL [(2, S_spec_l3Less_L2 fuel)]
  dep := fun i => 0
  n := 2

noncomputable def B_spec_l3Less_L2 : Code := (Try.f101.body.bind (loopBody 2)).getD .skip
noncomputable def D_spec_l3Less : Code := Try.f101.body.getD .skip
noncomputable def N_spec_l3Less (_ : outs E_spec_l3Less.params) (r : dens E_spec_l3Less.results) : E_spec_l3Less.B := r

-- spec.l13Good
noncomputable def E_spec_l13Good : Entry where
  params := [.v .int, .v (.pair .int (.slice (.slice .int)))]
  results := [.v .bool]
  B := Bool
  run := fun a => spec_l13Good a.1 a.2
  out := fun b => ((), ())
  res := fun b => b

noncomputable def S_spec_l13Good_L4 (n : Nat) : LoopSpec where
  sh := [(0, .v .int), (3, .bx (.v (.pair .int (.slice (.slice .int))))), (5, .v .int)]
  ex := [(.exit 0, []), (.ret, [(4, .v .bool)])]
  run := spec_l13Good_L4 n

noncomputable def C_spec_l13Good : Cx where
  tt := tblTT tt
  T := tblT [(51, E_spec_l1In), (99, E_spec_l2Pow), (100, E_spec_l8Tuple), (101, E_spec_l3Less)]
  L := tblL [(4, S_spec_l13Good_L4 fuel)]
  dep := fun i => 0
  n := 2

noncomputable def B_spec_l13Good_L4 : Code := (Try.f88.body.bind (loopBody 4)).getD .skip
noncomputable def D_spec_l13Good : Code := Try.f88.body.getD .skip
noncomputable def N_spec_l13Good (_ : outs E_spec_l13Good.params) (r : dens E_spec_l13Good.results) : E_spec_l13Good.B := r

-- spec.l19Is
noncomputable def E_spec_l19Is : Entry where
  params := [.v .int, .v .int, .v (.pair (.slice .int) (.pair .int (.slice (.slice .int))))]
  results := [.v .bool]
  B := Bool
  run := fun a => spec_l19Is a.1 a.2.1 a.2.2
  out := fun b => ((), (), ())
  res := fun b => b

noncomputable def C_spec_l19Is : Cx where
  tt := tblTT tt
  T := tblT [(88, E_spec_l13Good), (89, E_spec_l2Elements)]
  L := tblL []
  dep := fun i => 0
  n := 3

noncomputable def D_spec_l19Is : Code := Try.f70.body.getD .skip
noncomputable def N_spec_l19Is (_ : outs E_spec_l19Is.params) (r : dens E_spec_l19Is.results) : E_spec_l19Is.B := r

-- spec.l19Good
noncomputable def E_spec_l19Good : Entry where
  params := [.v (.pair .int (.pair .int (.slice (.pair (.slice .int) (.pair .int (.slice (.slice .int)))))))]
  results := [.v .bool]
  B := Bool
  run := fun a => spec_l19Good a
  out := fun b => ()
  res := fun b => b

noncomputable def S_spec_l19Good_L4 (n : Nat) : LoopSpec where
  sh := [(1, .bx (.v (.pair .int (.pair .int (.slice (.pair (.slice .int) (.pair .int (.slice (.slice .int))))))))), (3, .v .int)]
  ex := [(.exit 0, []), (.ret, [(2, .v .bool)])]
  run := spec_l19Good_L4 n

noncomputable def C_spec_l19Good : Cx where
  tt := tblTT tt
  T := tblT [(51, E_spec_l1In), (70, E_spec_l19Is)]
  L := tblL [(4, S_spec_l19Good_L4 fuel)]
  dep := fun i => 0
  n := 1

noncomputable def B_spec_l19Good_L4 : Code := (Try.f53.body.bind (loopBody 4)).getD .skip
noncomputable def D_spec_l19Good : Code := Try.f53.body.getD .skip
noncomputable def N_spec_l19Good (_ : outs E_spec_l19Good.params) (r : dens E_spec_l19Good.results) : E_spec_l19Good.B := r

-- spec.l22Good
noncomputable def E_spec_l22Good : Entry where
  params := [.v (.pair .int (.pair .int (.slice (.pair (.slice .int) (.pair .int (.slice (.slice .int)))))))]
  results := [.v .bool]
  B := Bool
  run := fun a => spec_l22Good a
  out := fun b => ()
  res := fun b => b

noncomputable def C_spec_l22Good : Cx where
  tt := tblTT tt
  T := tblT [(53, E_spec_l19Good)]
  L := tblL []
  dep := fun i => 0
  n := 1

noncomputable def D_spec_l22Good : Code := Try.f40.body.getD .skip
noncomputable def N_spec_l22Good (_ : outs E_spec_l22Good.params) (r : dens E_spec_l22Good.results) : E_spec_l22Good.B := r

-- spec.l1Same
noncomputable def E_spec_l1Same : Entry where
  params := [.v (.slice .int), .v (.slice .int)]
  results := [.v .bool]
  B := Bool
  run := fun a => spec_l1Same a.1 a.2
  out := fun b => ((), ())
  res := fun b => b

noncomputable def S_spec_l1Same_L4 (n : Nat) : LoopSpec where
  sh := [(0, .v (.slice .int)), (1, .v (.slice .int)), (5, .v .int)]
  ex := [(.exit 0, []), (.ret, [(4, .v .bool)])]
  run := spec_l1Same_L4 n

noncomputable def C_spec_l1Same : Cx where
  tt := tblTT tt
  T := tblT []
  L := tblL [(4, S_spec_l1Same_L4 fuel)]
  dep := fun i => 0
  n := 2

noncomputable def B_spec_l1Same_L4 : Code := (Try.f103.body.bind (loopBody 4)).getD .skip
noncomputable def D_spec_l1Same : Code := Try.f103.body.getD .skip
noncomputable def N_spec_l1Same (_ : outs E_spec_l1Same.params) (r : dens E_spec_l1Same.results) : E_spec_l1Same.B := r

-- spec.l8Find
noncomputable def E_spec_l8Find : Entry where
  params := [.v (.slice (.slice .int)), .v (.slice .int)]
  results := [.v .int, .v .bool]
  B := Int × Bool
  run := fun a => spec_l8Find a.1 a.2
  out := fun b => ((), ())
  res := fun b => (b.1, b.2)

noncomputable def S_spec_l8Find_L2 (n : Nat) : LoopSpec where
  sh := [(0, .v (.slice (.slice .int))), (1, .v (.slice .int)), (6, .v .int), (7, .v .int)]
  ex := [(.exit 0, [(0, .v (.slice (.slice .int))), (1, .v (.slice .int)), (6, .v .int)])]
  run := spec_l8Find_L2 n

noncomputable def C_spec_l8Find : Cx where
  tt := tblTT tt
  T := tblT [(101, E_spec_l3Less), (103, E_spec_l1Same)]
  L := tblL [(2, S_spec_l8Find_L2 fuel)]
  dep := fun i => 0
  n := 2

noncomputable def B_spec_l8Find_L2 : Code := (Try.f97.body.bind (loopBody 2)).getD .skip
noncomputable def D_spec_l8Find : Code := Try.f97.body.getD .skip
noncomputable def N_spec_l8Find (_ : outs E_spec_l8Find.params) (r : dens E_spec_l8Find.results) : E_spec_l8Find.B := (r.1, r.2)

-- spec.l13Has
noncomputable def E_spec_l13Has : Entry where
  params := [.v (.pair .int (.slice (.slice .int))), .v (.slice .int)]
  results := [.v .bool]
  B := Bool
  run := fun a => spec_l13Has a.1 a.2
  out := fun b => ((), ())
  res := fun b => b

noncomputable def C_spec_l13Has : Cx where
  tt := tblTT tt
  T := tblT [(97, E_spec_l8Find)]
  L := tblL []
  dep := fun i => 0
  n := 2

noncomputable def D_spec_l13Has : Code := Try.f80.body.getD .skip
noncomputable def N_spec_l13Has (_ : outs E_spec_l13Has.params) (r : dens E_spec_l13Has.results) : E_spec_l13Has.B := r

-- spec.l22Ops
noncomputable def E_spec_l22Ops : Entry where
  params := []
  results := [.mv (.pair .int (.slice .int)) 0]
  B := (List (Int × (List Int)))
  run := fun a => spec_l22Ops
  out := fun b => ()
  res := fun b => b

noncomputable def C_spec_l22Ops : Cx where
  tt := tblTT tt
  T := tblT []
  L := tblL []
  dep := fun i => 0
  n := 0

noncomputable def D_spec_l22Ops : Code := Try.f82.body.getD .skip
noncomputable def N_spec_l22Ops (_ : outs E_spec_l22Ops.params) (r : dens E_spec_l22Ops.results) : E_spec_l22Ops.B := r

-- spec.l8Choose
noncomputable def E_spec_l8Choose : Entry where
  params := [.v (.slice (.slice .int)), .v (.slice .int)]
  results := [.mv (.slice .int) 0]
  B := (List (List Int))
  run := fun a => spec_l8Choose a.1 a.2
  out := fun b => ((), ())
  res := fun b => b

noncomputable def S_spec_l8Choose_L3 (n : Nat) : LoopSpec where
  sh := [(0, .v (.slice (.slice .int))), (1, .v (.slice .int)), (5, .mv (.slice .int) 0), (6, .v .int)]
  ex := [(.exit 0, [(5, .mv (.slice .int) 0)])]
  run := spec_l8Choose_L3 n

noncomputable def C_spec_l8Choose : Cx where
  tt := tblTT tt
  T := tblT []
  L := tblL [(3, S_spec_l8Choose_L3 fuel)]
  dep := fun i => 0
  n := 2

noncomputable def B_spec_l8Choose_L3 : Code := (Try.f105.body.bind (loopBody 3)).getD .skip
noncomputable def D_spec_l8Choose : Code := Try.f105.body.getD .skip
noncomputable def N_spec_l8Choose (_ : outs E_spec_l8Choose.params) (r : dens E_spec_l8Choose.results) : E_spec_l8Choose.B := r

-- spec.l8Apply
noncomputable def E_spec_l8Apply : Entry where
  params := [.v (.pair .int (.slice (.pair .int (.slice .int)))), .v .int, .v (.slice (.slice .int)), .v .int]
  results := [.mv .int 0]
  B := (List Int)
  run := fun a => spec_l8Apply a.1 a.2.1 a.2.2.1 a.2.2.2
  out := fun b => ((), (), (), ())
  res := fun b => b

noncomputable def S_spec_l8Apply_L7 (n : Nat) : LoopSpec where
  sh := [(1, .v .int), (2, .v (.slice (.slice .int))), (3, .v .int), (4, .bx (.v (.pair .int (.slice (.pair .int (.slice .int)))))), (9, .mv .int 0), (10, .v .int), (11, .v .int), (12, .v .int)]
  ex := [(.exit 2, [(1, .v .int), (2, .v (.slice (.slice .int))), (3, .v .int), (4, .bx (.v (.pair .int (.slice (.pair .int (.slice .int)))))), (9, .mv .int 0), (10, .v .int), (11, .v .int)])]
  run := spec_l8Apply_L7 n

noncomputable def S_spec_l8Apply_L3 (n : Nat) : LoopSpec where
  sh := [(1, .v .int), (2, .v (.slice (.slice .int))), (3, .v .int), (4, .bx (.v (.pair .int (.slice (.pair .int (.slice .int)))))), (9, .mv .int 0), (10, .v .int)]
  ex := [(.exit 0, [(9, .mv .int 0)])]
  run := spec_l8Apply_L3 n

noncomputable def C_spec_l8Apply : Cx where
  tt := tblTT tt
  T := tblT []
  L := tblL [(7, S_spec_l8Apply_L7 fuel), (3, S_spec_l8Apply_L3 fuel)]
  dep := fun i => 0
  n := 4

noncomputable def B_spec_l8Apply_L7 : Code := (Try.f107.body.bind (loopBody 7)).getD .skip
noncomputable def B_spec_l8Apply_L3 : Code := (Try.f107.body.bind (loopBody 3)).getD .skip
noncomputable def D_spec_l8Apply : Code := Try.f107.body.getD .skip
noncomputable def N_spec_l8Apply (_ : outs E_spec_l8Apply.params) (r : dens E_spec_l8Apply.results) : E_spec_l8Apply.B := r

-- spec.l13Result
noncomputable def E_spec_l13Result : Entry where
  params := [.v .int, .v (.pair .int (.slice .int)), .v (.slice (.slice .int)), .v .int]
  results := [.mv .int 0]
  B := (List Int)
  run := fun a => spec_l13Result a.1 a.2.1 a.2.2.1 a.2.2.2
  out := fun b => ((), (), (), ())
  res := fun b => b

noncomputable def C_spec_l13Result : Cx where
  tt := tblTT tt
  T := tblT [(107, E_spec_l8Apply)]
  L := tblL []
  dep := fun i => 0
  n := 4

noncomputable def D_spec_l13Result : Code := Try.f104.body.getD .skip
noncomputable def N_spec_l13Result (_ : outs E_spec_l13Result.params) (r : dens E_spec_l13Result.results) : E_spec_l13Result.B := r

-- spec.l1Own
noncomputable def E_spec_l1Own : Entry where
  params := [.v (.slice .int)]
  results := [.mv .int 0]
  B := (List Int)
  run := fun a => spec_l1Own a
  out := fun b => ()
  res := fun b => b

noncomputable def C_spec_l1Own : Cx where
  tt := tblTT tt
  T := tblT []
  L := tblL []
  dep := fun i => 0
  n := 1

noncomputable def D_spec_l1Own : Code := Try.f84.body.getD .skip
noncomputable def N_spec_l1Own (_ : outs E_spec_l1Own.params) (r : dens E_spec_l1Own.results) : E_spec_l1Own.B := r

-- spec.l8Next
noncomputable def E_spec_l8Next : Entry where
  params := [.v (.slice .int), .v .int]
  results := [.mv .int 0, .v .bool]
  B := (List Int) × Bool
  run := fun a => spec_l8Next a.1 a.2
  out := fun b => ((), ())
  res := fun b => (b.1, b.2)

noncomputable def S_spec_l8Next_L3 (n : Nat) : LoopSpec where
  sh := [(1, .v .int), (6, .mv .int 0), (7, .v .int)]
  ex := [(.exit 0, [(6, .mv .int 0)]), (.ret, [(4, .mv .int 0), (5, .v .bool)])]
  run := spec_l8Next_L3 n

noncomputable def C_spec_l8Next : Cx where
  tt := tblTT tt
  T := tblT [(84, E_spec_l1Own)]
  L := tblL [(3, S_spec_l8Next_L3 fuel)]
  dep := fun i => 0
  n := 2

noncomputable def B_spec_l8Next_L3 : Code := (Try.f106.body.bind (loopBody 3)).getD .skip
noncomputable def D_spec_l8Next : Code := Try.f106.body.getD .skip
noncomputable def N_spec_l8Next (_ : outs E_spec_l8Next.params) (r : dens E_spec_l8Next.results) : E_spec_l8Next.B := (r.1, r.2)

-- spec.l13Break
noncomputable def E_spec_l13Break : Entry where
  params := [.v .int, .v (.pair .int (.slice .int)), .v (.pair .int (.slice (.slice .int)))]
  results := [.v (.slice .int), .mv .int 0, .v .bool]
  B := (List Int) × (List Int) × Bool
  run := fun a => spec_l13Break a.1 a.2.1 a.2.2
  out := fun b => ((), (), ())
  res := fun b => (b.1, b.2.1, b.2.2)

noncomputable def S_spec_l13Break_L2 (n : Nat) : LoopSpec where
  sh := [(0, .v .int), (4, .bx (.v (.pair .int (.slice .int)))), (5, .bx (.v (.pair .int (.slice (.slice .int))))), (9, .mv .int 0), (10, .v .bool)]
  ex := [(.exit 0, []), (.ret, [(6, .v (.slice .int)), (7, .mv .int 0), (8, .v .bool)])]
  run := spec_l13Break_L2 n

noncomputable def C_spec_l13Break : Cx where
  tt := tblTT tt
  T := tblT [(80, E_spec_l13Has), (104, E_spec_l13Result), (105, E_spec_l8Choose), (106, E_spec_l8Next)]
  L := tblL [(2, S_spec_l13Break_L2 fuel)]
  dep := fun i => 0
  n := 3

noncomputable def B_spec_l13Break_L2 : Code := (Try.f98.body.bind (loopBody 2)).getD .skip
noncomputable def D_spec_l13Break : Code := Try.f98.body.getD .skip
noncomputable def N_spec_l13Break (_ : outs E_spec_l13Break.params) (r : dens E_spec_l13Break.results) : E_spec_l13Break.B := (r.1, r.2.1, r.2.2)

-- spec.l13Keeps
noncomputable def E_spec_l13Keeps : Entry where
  params := [.v .int, .v (.pair .int (.slice .int)), .v (.pair .int (.slice (.slice .int)))]
  results := [.v .bool]
  B := Bool
  run := fun a => spec_l13Keeps a.1 a.2.1 a.2.2
  out := fun b => ((), (), ())
  res := fun b => b

noncomputable def C_spec_l13Keeps : Cx where
  tt := tblTT tt
  T := tblT [(98, E_spec_l13Break)]
  L := tblL []
  dep := fun i => 0
  n := 3

noncomputable def D_spec_l13Keeps : Code := Try.f81.body.getD .skip
noncomputable def N_spec_l13Keeps (_ : outs E_spec_l13Keeps.params) (r : dens E_spec_l13Keeps.results) : E_spec_l13Keeps.B := r

-- spec.l22In
noncomputable def E_spec_l22In : Entry where
  params := [.v (.pair .int (.slice (.slice .int))), .v .int]
  results := [.v .bool]
  B := Bool
  run := fun a => spec_l22In a.1 a.2
  out := fun b => ((), ())
  res := fun b => b

noncomputable def S_spec_l22In_L4 (n : Nat) : LoopSpec where
  sh := [(1, .v .int), (2, .bx (.v (.pair .int (.slice (.slice .int))))), (5, .mv .int 0), (6, .v .int)]
  ex := [(.exit 0, [(2, .bx (.v (.pair .int (.slice (.slice .int))))), (5, .mv .int 0)])]
  run := spec_l22In_L4 n

noncomputable def C_spec_l22In : Cx where
  tt := tblTT tt
  T := tblT [(80, E_spec_l13Has), (81, E_spec_l13Keeps), (82, E_spec_l22Ops)]
  L := tblL [(4, S_spec_l22In_L4 fuel)]
  dep := fun i => 0
  n := 2

noncomputable def B_spec_l22In_L4 : Code := (Try.f61.body.bind (loopBody 4)).getD .skip
noncomputable def D_spec_l22In : Code := Try.f61.body.getD .skip
noncomputable def N_spec_l22In (_ : outs E_spec_l22In.params) (r : dens E_spec_l22In.results) : E_spec_l22In.B := r

-- spec.l22Is
noncomputable def E_spec_l22Is : Entry where
  params := [.v (.pair .int (.pair .int (.slice (.pair (.slice .int) (.pair .int (.slice (.slice .int))))))), .v .int]
  results := [.v .bool]
  B := Bool
  run := fun a => spec_l22Is a.1 a.2
  out := fun b => ((), ())
  res := fun b => b

noncomputable def S_spec_l22Is_L2 (n : Nat) : LoopSpec where
  sh := [(1, .v .int), (2, .bx (.v (.pair .int (.pair .int (.slice (.pair (.slice .int) (.pair .int (.slice (.slice .int))))))))), (5, .v .int)]
  ex := [(.exit 0, []), (.ret, [(4, .v .bool)])]
  run := spec_l22Is_L2 n

noncomputable def C_spec_l22Is : Cx where
  tt := tblTT tt
  T := tblT [(61, E_spec_l22In)]
  L := tblL [(2, S_spec_l22Is_L2 fuel)]
  dep := fun i => 0
  n := 2

noncomputable def B_spec_l22Is_L2 : Code := (Try.f46.body.bind (loopBody 2)).getD .skip
noncomputable def D_spec_l22Is : Code := Try.f46.body.getD .skip
noncomputable def N_spec_l22Is (_ : outs E_spec_l22Is.params) (r : dens E_spec_l22Is.results) : E_spec_l22Is.B := r

-- spec.l22Constant
noncomputable def E_spec_l22Constant : Entry where
  params := [.v .int, .v .int]
  results := [.mv .int 0]
  B := (List Int)
  run := fun a => spec_l22Constant a.1 a.2
  out := fun b => ((), ())
  res := fun b => b

noncomputable def S_spec_l22Constant_L3 (n : Nat) : LoopSpec where
  sh := [(0, .v .int), (1, .v .int), (5, .mv .int 0), (6, .v .int)]
  ex := [(.exit 0, [(5, .mv .int 0)])]
  run := spec_l22Constant_L3 n

noncomputable def C_spec_l22Constant : Cx where
  tt := tblTT tt
  T := tblT []
  L := tblL [(3, S_spec_l22Constant_L3 fuel)]
  dep := fun i => 0
  n := 2

noncomputable def B_spec_l22Constant_L3 : Code := (Try.f63.body.bind (loopBody 3)).getD .skip
noncomputable def D_spec_l22Constant : Code := Try.f63.body.getD .skip
noncomputable def N_spec_l22Constant (_ : outs E_spec_l22Constant.params) (r : dens E_spec_l22Constant.results) : E_spec_l22Constant.B := r

-- spec.l19Satisfies
noncomputable def E_spec_l19Satisfies : Entry where
  params := [.v (.pair (.slice .int) (.pair .int (.slice (.slice .int)))), .v (.slice .int)]
  results := [.v .bool]
  B := Bool
  run := fun a => spec_l19Satisfies a.1 a.2
  out := fun b => ((), ())
  res := fun b => b

noncomputable def S_spec_l19Satisfies_L3 (n : Nat) : LoopSpec where
  sh := [(1, .v (.slice .int)), (2, .bx (.v (.pair (.slice .int) (.pair .int (.slice (.slice .int)))))), (5, .mv .int 0), (6, .v .int)]
  ex := [(.exit 0, [(2, .bx (.v (.pair (.slice .int) (.pair .int (.slice (.slice .int)))))), (5, .mv .int 0)])]
  run := spec_l19Satisfies_L3 n

noncomputable def C_spec_l19Satisfies : Cx where
  tt := tblTT tt
  T := tblT [(80, E_spec_l13Has)]
  L := tblL [(3, S_spec_l19Satisfies_L3 fuel)]
  dep := fun i => 0
  n := 2

noncomputable def B_spec_l19Satisfies_L3 : Code := (Try.f83.body.bind (loopBody 3)).getD .skip
noncomputable def D_spec_l19Satisfies : Code := Try.f83.body.getD .skip
noncomputable def N_spec_l19Satisfies (_ : outs E_spec_l19Satisfies.params) (r : dens E_spec_l19Satisfies.results) : E_spec_l19Satisfies.B := r

-- spec.l19Fault
noncomputable def E_spec_l19Fault : Entry where
  params := [.v (.pair .int (.pair .int (.slice (.pair (.slice .int) (.pair .int (.slice (.slice .int))))))), .v (.slice .int)]
  results := [.v .int]
  B := Int
  run := fun a => spec_l19Fault a.1 a.2
  out := fun b => ((), ())
  res := fun b => b

noncomputable def S_spec_l19Fault_L2 (n : Nat) : LoopSpec where
  sh := [(1, .v (.slice .int)), (2, .bx (.v (.pair .int (.pair .int (.slice (.pair (.slice .int) (.pair .int (.slice (.slice .int))))))))), (5, .v .int)]
  ex := [(.exit 0, []), (.ret, [(4, .v .int)])]
  run := spec_l19Fault_L2 n

noncomputable def C_spec_l19Fault : Cx where
  tt := tblTT tt
  T := tblT [(83, E_spec_l19Satisfies)]
  L := tblL [(2, S_spec_l19Fault_L2 fuel)]
  dep := fun i => 0
  n := 2

noncomputable def B_spec_l19Fault_L2 : Code := (Try.f64.body.bind (loopBody 2)).getD .skip
noncomputable def D_spec_l19Fault : Code := Try.f64.body.getD .skip
noncomputable def N_spec_l19Fault (_ : outs E_spec_l19Fault.params) (r : dens E_spec_l19Fault.results) : E_spec_l19Fault.B := r

-- spec.l22Take
noncomputable def E_spec_l22Take : Entry where
  params := [.v (.pair (.slice .int) (.pair .int (.slice (.slice .int)))), .v (.slice .int), .v .int]
  results := [.mv .int 0, .v .bool]
  B := (List Int) × Bool
  run := fun a => spec_l22Take a.1 a.2.1 a.2.2
  out := fun b => ((), (), ())
  res := fun b => (b.1, b.2)

noncomputable def S_spec_l22Take_L4 (n : Nat) : LoopSpec where
  sh := [(1, .v (.slice .int)), (2, .v .int), (3, .bx (.v (.pair (.slice .int) (.pair .int (.slice (.slice .int)))))), (8, .mv .int 0), (9, .v .bool), (10, .mv .bool 0), (11, .v .int)]
  ex := [(.exit 0, [(1, .v (.slice .int)), (2, .v .int), (3, .bx (.v (.pair (.slice .int) (.pair .int (.slice (.slice .int)))))), (8, .mv .int 0), (9, .v .bool), (10, .mv .bool 0)])]
  run := spec_l22Take_L4 n

noncomputable def S_spec_l22Take_L16 (n : Nat) : LoopSpec where
  sh := [(1, .v (.slice .int)), (2, .v .int), (3, .bx (.v (.pair (.slice .int) (.pair .int (.slice (.slice .int)))))), (8, .mv .int 0), (9, .v .bool), (10, .mv .bool 0), (12, .v .int), (13, .v (.slice .int)), (14, .v .bool), (15, .v .int), (16, .v .int)]
  ex := [(.exit 6, [(1, .v (.slice .int)), (2, .v .int), (3, .bx (.v (.pair (.slice .int) (.pair .int (.slice (.slice .int)))))), (8, .mv .int 0), (9, .v .bool), (10, .mv .bool 0), (12, .v .int), (13, .v (.slice .int)), (14, .v .bool), (15, .v .int)])]
  run := spec_l22Take_L16 n

noncomputable def S_spec_l22Take_L12 (n : Nat) : LoopSpec where
  sh := [(1, .v (.slice .int)), (2, .v .int), (3, .bx (.v (.pair (.slice .int) (.pair .int (.slice (.slice .int)))))), (8, .mv .int 0), (9, .v .bool), (10, .mv .bool 0), (12, .v .int), (13, .v (.slice .int)), (14, .v .bool), (15, .v .int)]
  ex := [(.exit 4, [(1, .v (.slice .int)), (2, .v .int), (3, .bx (.v (.pair (.slice .int) (.pair .int (.slice (.slice .int)))))), (8, .mv .int 0), (9, .v .bool), (10, .mv .bool 0), (12, .v .int), (13, .v (.slice .int)), (14, .v .bool)])]
  run := spec_l22Take_L12 n

noncomputable def S_spec_l22Take_L20 (n : Nat) : LoopSpec where
  sh := [(1, .v (.slice .int)), (2, .v .int), (3, .bx (.v (.pair (.slice .int) (.pair .int (.slice (.slice .int)))))), (8, .mv .int 0), (9, .v .bool), (10, .mv .bool 0), (12, .v .int), (13, .v (.slice .int)), (14, .v .bool), (17, .v .int)]
  ex := [(.exit 8, [(1, .v (.slice .int)), (2, .v .int), (3, .bx (.v (.pair (.slice .int) (.pair .int (.slice (.slice .int)))))), (8, .mv .int 0), (9, .v .bool), (10, .mv .bool 0), (12, .v .int), (14, .v .bool)])]
  run := spec_l22Take_L20 n

noncomputable def S_spec_l22Take_L8 (n : Nat) : LoopSpec where
  sh := [(1, .v (.slice .int)), (2, .v .int), (3, .bx (.v (.pair (.slice .int) (.pair .int (.slice (.slice .int)))))), (8, .mv .int 0), (9, .v .bool), (10, .mv .bool 0), (12, .v .int)]
  ex := [(.exit 2, [(2, .v .int), (3, .bx (.v (.pair (.slice .int) (.pair .int (.slice (.slice .int)))))), (8, .mv .int 0), (9, .v .bool), (10, .mv .bool 0)])]
  run := spec_l22Take_L8 n

noncomputable def S_spec_l22Take_L25 (n : Nat) : LoopSpec where
  sh := [(2, .v .int), (3, .bx (.v (.pair (.slice .int) (.pair .int (.slice (.slice .int)))))), (8, .mv .int 0), (9, .v .bool), (10, .mv .bool 0), (18, .v .int)]
  ex := [(.exit 10, [(8, .mv .int 0), (9, .v .bool)])]
  run := spec_l22Take_L25 n

noncomputable def C_spec_l22Take : Cx where
  tt := tblTT tt
  T := tblT [(84, E_spec_l1Own)]
  L := tblL [(4, S_spec_l22Take_L4 fuel), (16, S_spec_l22Take_L16 fuel), (12, S_spec_l22Take_L12 fuel), (20, S_spec_l22Take_L20 fuel), (8, S_spec_l22Take_L8 fuel), (25, S_spec_l22Take_L25 fuel)]
  dep := fun i => 0
  n := 3

noncomputable def B_spec_l22Take_L4 : Code := (Try.f65.body.bind (loopBody 4)).getD .skip
noncomputable def B_spec_l22Take_L16 : Code := (Try.f65.body.bind (loopBody 16)).getD .skip
noncomputable def B_spec_l22Take_L12 : Code := (Try.f65.body.bind (loopBody 12)).getD .skip
noncomputable def B_spec_l22Take_L20 : Code := (Try.f65.body.bind (loopBody 20)).getD .skip
noncomputable def B_spec_l22Take_L8 : Code := (Try.f65.body.bind (loopBody 8)).getD .skip
noncomputable def B_spec_l22Take_L25 : Code := (Try.f65.body.bind (loopBody 25)).getD .skip
noncomputable def D_spec_l22Take : Code := Try.f65.body.getD .skip
noncomputable def N_spec_l22Take (_ : outs E_spec_l22Take.params) (r : dens E_spec_l22Take.results) : E_spec_l22Take.B := (r.1, r.2)

-- spec.l22Go
noncomputable def E_spec_l22Go : Entry where
  params := [.v (.pair .int (.pair .int (.slice (.pair (.slice .int) (.pair .int (.slice (.slice .int))))))), .v .int]
  results := [.mv .int 0, .mv .int 0, .v .bool]
  B := (List Int) × (List Int) × Bool
  run := fun a => spec_l22Go a.1 a.2
  out := fun b => ((), ())
  res := fun b => (b.1, b.2.1, b.2.2)

noncomputable def S_spec_l22Go_L3 (n : Nat) : LoopSpec where
  sh := [(1, .v .int), (2, .bx (.v (.pair .int (.pair .int (.slice (.pair (.slice .int) (.pair .int (.slice (.slice .int))))))))), (7, .mv .int 0), (8, .mv .int 0), (9, .v .int)]
  ex := [(.exit 0, [(7, .mv .int 0), (8, .mv .int 0)]), (.ret, [(4, .mv .int 0), (5, .mv .int 0), (6, .v .bool)])]
  run := spec_l22Go_L3 n

noncomputable def C_spec_l22Go : Cx where
  tt := tblTT tt
  T := tblT [(63, E_spec_l22Constant), (64, E_spec_l19Fault), (65, E_spec_l22Take)]
  L := tblL [(3, S_spec_l22Go_L3 fuel)]
  dep := fun i => 0
  n := 2

noncomputable def B_spec_l22Go_L3 : Code := (Try.f48.body.bind (loopBody 3)).getD .skip
noncomputable def D_spec_l22Go : Code := Try.f48.body.getD .skip
noncomputable def N_spec_l22Go (_ : outs E_spec_l22Go.params) (r : dens E_spec_l22Go.results) : E_spec_l22Go.B := (r.1, r.2.1, r.2.2)

-- spec.RaiseSteps
noncomputable def E_spec_RaiseSteps : Entry where
  params := [.v (.pair .int (.pair .int (.slice (.pair (.slice .int) (.pair .int (.slice (.slice .int)))))))]
  results := [.mv .int 0, .v .bool]
  B := (List Int) × Bool
  run := fun a => spec_RaiseSteps a
  out := fun b => ()
  res := fun b => (b.1, b.2)

noncomputable def C_spec_RaiseSteps : Cx where
  tt := tblTT tt
  T := tblT [(40, E_spec_l22Good), (46, E_spec_l22Is), (48, E_spec_l22Go)]
  L := tblL []
  dep := fun i => 0
  n := 1

noncomputable def D_spec_RaiseSteps : Code := Try.f32.body.getD .skip
noncomputable def N_spec_RaiseSteps (_ : outs E_spec_RaiseSteps.params) (r : dens E_spec_RaiseSteps.results) : E_spec_RaiseSteps.B := (r.1, r.2)

-- impl.isTemplateSize
noncomputable def E_impl_isTemplateSize : Entry where
  params := [.v .int]
  results := [.v .bool]
  B := Bool
  run := fun a => impl_isTemplateSize a
  out := fun b => ()
  res := fun b => b

noncomputable def C_impl_isTemplateSize : Cx where
  tt := tblTT tt
  T := tblT []
  L := tblL []
  dep := fun i => 0
  n := 1

noncomputable def D_impl_isTemplateSize : Code := Try.f73.body.getD .skip
noncomputable def N_impl_isTemplateSize (_ : outs E_impl_isTemplateSize.params) (r : dens E_impl_isTemplateSize.results) : E_impl_isTemplateSize.B := r

-- impl.inSize
noncomputable def E_impl_inSize : Entry where
  params := [.v (.slice .int), .v .int]
  results := [.v .bool]
  B := Bool
  run := fun a => impl_inSize a.1 a.2
  out := fun b => ((), ())
  res := fun b => b

noncomputable def S_impl_inSize_L2 (n : Nat) : LoopSpec where
  sh := [(1, .v .int), (7, .v (.slice .int)), (8, .v .int), (9, .v .int)]
  ex := [(.exit 0, []), (.ret, [(4, .v .bool)])]
  run := impl_inSize_L2 n

noncomputable def C_impl_inSize : Cx where
  tt := tblTT tt
  T := tblT []
  L := tblL [(2, S_impl_inSize_L2 fuel)]
  dep := fun i => 0
  n := 2

noncomputable def B_impl_inSize_L2 : Code := (Try.f92.body.bind (loopBody 2)).getD .skip
noncomputable def D_impl_inSize : Code := Try.f92.body.getD .skip
noncomputable def N_impl_inSize (_ : outs E_impl_inSize.params) (r : dens E_impl_inSize.results) : E_impl_inSize.B := r

-- impl.compareLists
noncomputable def E_impl_compareLists : Entry where
  params := [.v (.slice .int), .v (.slice .int)]
  results := [.v .int]
  B := Int
  run := fun a => impl_compareLists a.1 a.2
  out := fun b => ((), ())
  res := fun b => b

noncomputable def S_impl_compareLists_L2 (n : Nat) : LoopSpec where
  sh := [(0, .v (.slice .int)), (1, .v (.slice .int)), (5, .v .int)]
  ex := [(.exit 0, [(0, .v (.slice .int)), (1, .v (.slice .int))]), (.ret, [(4, .v .int)])]
  run := impl_compareLists_L2 n

noncomputable def C_impl_compareLists : Cx where
  tt := tblTT tt
  T := tblT []
  L := tblL [(2, S_impl_compareLists_L2 fuel)]
  dep := fun i => 0
  n := 2

noncomputable def B_impl_compareLists_L2 : Code := (Try.f102.body.bind (loopBody 2)).getD .skip
noncomputable def D_impl_compareLists : Code := Try.f102.body.getD .skip
noncomputable def N_impl_compareLists (_ : outs E_impl_compareLists.params) (r : dens E_impl_compareLists.results) : E_impl_compareLists.B := r

-- impl.isRelation
noncomputable def E_impl_isRelation : Entry where
  params := [.v .int, .v (.pair .int (.slice (.slice .int)))]
  results := [.v .bool]
  B := Bool
  run := fun a => impl_isRelation a.1 a.2
  out := fun b => ((), ())
  res := fun b => b

noncomputable def S_impl_isRelation_L4 (n : Nat) : LoopSpec where
  sh := [(0, .v .int), (3, .bx (.v (.pair .int (.slice (.slice .int))))), (16, .v (.slice (.slice .int))), (17, .v .int), (18, .v .int)]
  ex := [(.exit 0, []), (.ret, [(4, .v .bool)])]
  run := impl_isRelation_L4 n

noncomputable def C_impl_isRelation : Cx where
  tt := tblTT tt
  T := tblT [(92, E_impl_inSize), (102, E_impl_compareLists)]
  L := tblL [(4, S_impl_isRelation_L4 fuel)]
  dep := fun i => 0
  n := 2

noncomputable def B_impl_isRelation_L4 : Code := (Try.f91.body.bind (loopBody 4)).getD .skip
noncomputable def D_impl_isRelation : Code := Try.f91.body.getD .skip
noncomputable def N_impl_isRelation (_ : outs E_impl_isRelation.params) (r : dens E_impl_isRelation.results) : E_impl_isRelation.B := r

-- impl.isConstraint
noncomputable def E_impl_isConstraint : Entry where
  params := [.v .int, .v .int, .v (.pair (.slice .int) (.pair .int (.slice (.slice .int))))]
  results := [.v .bool]
  B := Bool
  run := fun a => impl_isConstraint a.1 a.2.1 a.2.2
  out := fun b => ((), (), ())
  res := fun b => b

noncomputable def C_impl_isConstraint : Cx where
  tt := tblTT tt
  T := tblT [(91, E_impl_isRelation), (92, E_impl_inSize)]
  L := tblL []
  dep := fun i => 0
  n := 3

noncomputable def D_impl_isConstraint : Code := Try.f74.body.getD .skip
noncomputable def N_impl_isConstraint (_ : outs E_impl_isConstraint.params) (r : dens E_impl_isConstraint.results) : E_impl_isConstraint.B := r

-- impl.IsNetwork
noncomputable def E_impl_IsNetwork : Entry where
  params := [.v (.pair .int (.pair .int (.slice (.pair (.slice .int) (.pair .int (.slice (.slice .int)))))))]
  results := [.v .bool]
  B := Bool
  run := fun a => impl_IsNetwork a
  out := fun b => ()
  res := fun b => b

noncomputable def S_impl_IsNetwork_L4 (n : Nat) : LoopSpec where
  sh := [(1, .bx (.v (.pair .int (.pair .int (.slice (.pair (.slice .int) (.pair .int (.slice (.slice .int))))))))), (26, .v (.slice (.pair (.slice .int) (.pair .int (.slice (.slice .int)))))), (27, .v .int), (28, .v .int)]
  ex := [(.exit 0, []), (.ret, [(2, .v .bool)])]
  run := impl_IsNetwork_L4 n

noncomputable def C_impl_IsNetwork : Cx where
  tt := tblTT tt
  T := tblT [(73, E_impl_isTemplateSize), (74, E_impl_isConstraint)]
  L := tblL [(4, S_impl_IsNetwork_L4 fuel)]
  dep := fun i => 0
  n := 1

noncomputable def B_impl_IsNetwork_L4 : Code := (Try.f55.body.bind (loopBody 4)).getD .skip
noncomputable def D_impl_IsNetwork : Code := Try.f55.body.getD .skip
noncomputable def N_impl_IsNetwork (_ : outs E_impl_IsNetwork.params) (r : dens E_impl_IsNetwork.results) : E_impl_IsNetwork.B := r

-- impl.isBoolean
noncomputable def E_impl_isBoolean : Entry where
  params := [.v (.pair .int (.pair .int (.slice (.pair (.slice .int) (.pair .int (.slice (.slice .int)))))))]
  results := [.v .bool]
  B := Bool
  run := fun a => impl_isBoolean a
  out := fun b => ()
  res := fun b => b

noncomputable def C_impl_isBoolean : Cx where
  tt := tblTT tt
  T := tblT [(55, E_impl_IsNetwork)]
  L := tblL []
  dep := fun i => 0
  n := 1

noncomputable def D_impl_isBoolean : Code := Try.f43.body.getD .skip
noncomputable def N_impl_isBoolean (_ : outs E_impl_isBoolean.params) (r : dens E_impl_isBoolean.results) : E_impl_isBoolean.B := r

-- impl.constantTuple
noncomputable def E_impl_constantTuple : Entry where
  params := [.v .int, .v .int]
  results := [.mv .int 0]
  B := (List Int)
  run := fun a => impl_constantTuple a.1 a.2
  out := fun b => ((), ())
  res := fun b => b

noncomputable def S_impl_constantTuple_L3 (n : Nat) : LoopSpec where
  sh := [(1, .v .int), (5, .mv .int 0), (10, .v .int), (11, .v .int)]
  ex := [(.exit 0, [(5, .mv .int 0)])]
  run := impl_constantTuple_L3 n

noncomputable def C_impl_constantTuple : Cx where
  tt := tblTT tt
  T := tblT []
  L := tblL [(3, S_impl_constantTuple_L3 fuel)]
  dep := fun i => 0
  n := 2

noncomputable def B_impl_constantTuple_L3 : Code := (Try.f57.body.bind (loopBody 3)).getD .skip
noncomputable def D_impl_constantTuple : Code := Try.f57.body.getD .skip
noncomputable def N_impl_constantTuple (_ : outs E_impl_constantTuple.params) (r : dens E_impl_constantTuple.results) : E_impl_constantTuple.B := r

-- impl.sameList
noncomputable def E_impl_sameList : Entry where
  params := [.v (.slice .int), .v (.slice .int)]
  results := [.v .bool]
  B := Bool
  run := fun a => impl_sameList a.1 a.2
  out := fun b => ((), ())
  res := fun b => b

noncomputable def S_impl_sameList_L4 (n : Nat) : LoopSpec where
  sh := [(1, .v (.slice .int)), (12, .v (.slice .int)), (13, .v .int), (14, .v .int)]
  ex := [(.exit 0, []), (.ret, [(4, .v .bool)])]
  run := impl_sameList_L4 n

noncomputable def C_impl_sameList : Cx where
  tt := tblTT tt
  T := tblT []
  L := tblL [(4, S_impl_sameList_L4 fuel)]
  dep := fun i => 0
  n := 2

noncomputable def B_impl_sameList_L4 : Code := (Try.f75.body.bind (loopBody 4)).getD .skip
noncomputable def D_impl_sameList : Code := Try.f75.body.getD .skip
noncomputable def N_impl_sameList (_ : outs E_impl_sameList.params) (r : dens E_impl_sameList.results) : E_impl_sameList.B := r

-- impl.hasRow
noncomputable def E_impl_hasRow : Entry where
  params := [.v (.pair .int (.slice (.slice .int))), .v (.slice .int)]
  results := [.v .bool]
  B := Bool
  run := fun a => impl_hasRow a.1 a.2
  out := fun b => ((), ())
  res := fun b => b

noncomputable def S_impl_hasRow_L2 (n : Nat) : LoopSpec where
  sh := [(1, .v (.slice .int)), (8, .v (.slice (.slice .int))), (9, .v .int), (10, .v .int)]
  ex := [(.exit 0, []), (.ret, [(4, .v .bool)])]
  run := impl_hasRow_L2 n

noncomputable def C_impl_hasRow : Cx where
  tt := tblTT tt
  T := tblT [(75, E_impl_sameList)]
  L := tblL [(2, S_impl_hasRow_L2 fuel)]
  dep := fun i => 0
  n := 2

noncomputable def B_impl_hasRow_L2 : Code := (Try.f56.body.bind (loopBody 2)).getD .skip
noncomputable def D_impl_hasRow : Code := Try.f56.body.getD .skip
noncomputable def N_impl_hasRow (_ : outs E_impl_hasRow.params) (r : dens E_impl_hasRow.results) : E_impl_hasRow.B := r

-- impl.booleanOps$1
noncomputable def E_impl_booleanOps_c1 : Entry where
  params := [.v .int, .v .int, .v .int]
  results := [.v .int]
  B := Int
  run := fun a => impl_booleanOps_c1 a.1 a.2.1 a.2.2
  out := fun b => ((), (), ())
  res := fun b => b

noncomputable def C_impl_booleanOps_c1 : Cx where
  tt := tblTT tt
  T := tblT []
  L := tblL []
  dep := fun i => 0
  n := 3

noncomputable def D_impl_booleanOps_c1 : Code := Try.f76.body.getD .skip
noncomputable def N_impl_booleanOps_c1 (_ : outs E_impl_booleanOps_c1.params) (r : dens E_impl_booleanOps_c1.results) : E_impl_booleanOps_c1.B := r

-- impl.ternary
noncomputable def E_impl_ternary_impl_booleanOps_c1 : Entry where
  params := [.v .int, .v (.fn 76)]
  results := [.pr (.v .int) (.mv .int 0)]
  B := (Int × (List Int))
  run := fun a => impl_ternary_impl_booleanOps_c1 a.1 a.2
  out := fun b => ((), ())
  res := fun b => b

noncomputable def S_impl_ternary_impl_booleanOps_c1_L3 (n : Nat) : LoopSpec where
  sh := [(0, .v .int), (1, .v (.fn 76)), (4, .bx (.pr (.v .int) (.mv .int 0))), (5, .bx (.pr (.v .int) (.mv .int 0))), (6, .v .int)]
  ex := [(.exit 0, [(4, .bx (.pr (.v .int) (.mv .int 0))), (5, .bx (.pr (.v .int) (.mv .int 0)))])]
  run := impl_ternary_impl_booleanOps_c1_L3 n

noncomputable def C_impl_ternary_impl_booleanOps_c1 : Cx where
  tt := tblTT tt
  T := tblT [(76, E_impl_booleanOps_c1)]
  L := tblL [(3, S_impl_ternary_impl_booleanOps_c1_L3 fuel)]
  dep := fun i => 0
  n := 2

noncomputable def B_impl_ternary_impl_booleanOps_c1_L3 : Code := (Try.f37.body.bind (loopBody 3)).getD .skip
noncomputable def D_impl_ternary_impl_booleanOps_c1 : Code := Try.f37.body.getD .skip
noncomputable def N_impl_ternary_impl_booleanOps_c1 (_ : outs E_impl_ternary_impl_booleanOps_c1.params) (r : dens E_impl_ternary_impl_booleanOps_c1.results) : E_impl_ternary_impl_booleanOps_c1.B := r

-- impl.booleanOps$2
noncomputable def E_impl_booleanOps_c2 : Entry where
  params := [.v .int, .v .int, .v .int]
  results := [.v .int]
  B := Int
  run := fun a => impl_booleanOps_c2 a.1 a.2.1 a.2.2
  out := fun b => ((), (), ())
  res := fun b => b

noncomputable def C_impl_booleanOps_c2 : Cx where
  tt := tblTT tt
  T := tblT []
  L := tblL []
  dep := fun i => 0
  n := 3

noncomputable def D_impl_booleanOps_c2 : Code := Try.f77.body.getD .skip
noncomputable def N_impl_booleanOps_c2 (_ : outs E_impl_booleanOps_c2.params) (r : dens E_impl_booleanOps_c2.results) : E_impl_booleanOps_c2.B := r

-- impl.ternary
noncomputable def E_impl_ternary_impl_booleanOps_c2 : Entry where
  params := [.v .int, .v (.fn 77)]
  results := [.pr (.v .int) (.mv .int 0)]
  B := (Int × (List Int))
  run := fun a => impl_ternary_impl_booleanOps_c2 a.1 a.2
  out := fun b => ((), ())
  res := fun b => b

noncomputable def S_impl_ternary_impl_booleanOps_c2_L3 (n : Nat) : LoopSpec where
  sh := [(0, .v .int), (1, .v (.fn 77)), (4, .bx (.pr (.v .int) (.mv .int 0))), (5, .bx (.pr (.v .int) (.mv .int 0))), (6, .v .int)]
  ex := [(.exit 0, [(4, .bx (.pr (.v .int) (.mv .int 0))), (5, .bx (.pr (.v .int) (.mv .int 0)))])]
  run := impl_ternary_impl_booleanOps_c2_L3 n

noncomputable def C_impl_ternary_impl_booleanOps_c2 : Cx where
  tt := tblTT tt
  T := tblT [(77, E_impl_booleanOps_c2)]
  L := tblL [(3, S_impl_ternary_impl_booleanOps_c2_L3 fuel)]
  dep := fun i => 0
  n := 2

noncomputable def B_impl_ternary_impl_booleanOps_c2_L3 : Code := (Try.f37.body.bind (loopBody 3)).getD .skip
noncomputable def D_impl_ternary_impl_booleanOps_c2 : Code := Try.f37.body.getD .skip
noncomputable def N_impl_ternary_impl_booleanOps_c2 (_ : outs E_impl_ternary_impl_booleanOps_c2.params) (r : dens E_impl_ternary_impl_booleanOps_c2.results) : E_impl_ternary_impl_booleanOps_c2.B := r

-- impl.booleanOps
noncomputable def E_impl_booleanOps : Entry where
  params := []
  results := [.mv (.pair .int (.slice .int)) 1]
  B := (List (Int × (List Int)))
  run := fun a => impl_booleanOps
  out := fun b => ()
  res := fun b => b

noncomputable def C_impl_booleanOps : Cx where
  tt := tblTT tt
  T := tblT [(5046309, E_impl_ternary_impl_booleanOps_c1), (5111845, E_impl_ternary_impl_booleanOps_c2)]
  L := tblL []
  dep := fun i => match i with
    | 11 => 1
    | _ => 0
  n := 0

noncomputable def D_impl_booleanOps : Code := Try.f58.body.getD .skip
noncomputable def N_impl_booleanOps (_ : outs E_impl_booleanOps.params) (r : dens E_impl_booleanOps.results) : E_impl_booleanOps.B := r

-- impl.keyOf
noncomputable def E_impl_keyOf : Entry where
  params := [.v (.slice .int)]
  results := [.v .str]
  B := ByteArray
  run := fun a => impl_keyOf a
  out := fun b => ()
  res := fun b => b

noncomputable def S_impl_keyOf_L3 (n : Nat) : LoopSpec where
  sh := [(3, .mv (.num .u8) 0), (10, .v (.slice .int)), (11, .v .int), (12, .v .int)]
  ex := [(.exit 0, [(3, .mv (.num .u8) 0)])]
  run := impl_keyOf_L3 n

noncomputable def C_impl_keyOf : Cx where
  tt := tblTT tt
  T := tblT []
  L := tblL [(3, S_impl_keyOf_L3 fuel)]
  dep := fun i => 0
  n := 1

noncomputable def B_impl_keyOf_L3 : Code := (Try.f95.body.bind (loopBody 3)).getD .skip
noncomputable def D_impl_keyOf : Code := Try.f95.body.getD .skip
noncomputable def N_impl_keyOf (_ : outs E_impl_keyOf.params) (r : dens E_impl_keyOf.results) : E_impl_keyOf.B := r

-- impl.tupleSet
noncomputable def E_impl_tupleSet : Entry where
  params := [.v (.pair .int (.slice (.slice .int)))]
  results := [.mp]
  B := (List ByteArray)
  run := fun a => impl_tupleSet a
  out := fun b => ()
  res := fun b => b

noncomputable def S_impl_tupleSet_L3 (n : Nat) : LoopSpec where
  sh := [(3, .mp), (8, .v (.slice (.slice .int))), (9, .v .int), (10, .v .int)]
  ex := [(.exit 0, [(3, .mp)])]
  run := impl_tupleSet_L3 n

noncomputable def C_impl_tupleSet : Cx where
  tt := tblTT tt
  T := tblT [(95, E_impl_keyOf)]
  L := tblL [(3, S_impl_tupleSet_L3 fuel)]
  dep := fun i => 0
  n := 1

noncomputable def B_impl_tupleSet_L3 : Code := (Try.f93.body.bind (loopBody 3)).getD .skip
noncomputable def D_impl_tupleSet : Code := Try.f93.body.getD .skip
noncomputable def N_impl_tupleSet (_ : outs E_impl_tupleSet.params) (r : dens E_impl_tupleSet.results) : E_impl_tupleSet.B := r

-- impl.power
noncomputable def E_impl_power : Entry where
  params := [.v .int, .v .int]
  results := [.v .int]
  B := Int
  run := fun a => impl_power a.1 a.2
  out := fun b => ((), ())
  res := fun b => b

noncomputable def S_impl_power_L2 (n : Nat) : LoopSpec where
  sh := [(0, .v .int), (1, .v .int), (5, .v .int)]
  ex := [(.exit 0, [(5, .v .int)])]
  run := impl_power_L2 n

noncomputable def C_impl_power : Cx where
  tt := tblTT tt
  T := tblT []
  L := tblL [(2, S_impl_power_L2 fuel)]
  dep := fun i => 0
  n := 2

noncomputable def B_impl_power_L2 : Code := (Try.f94.body.bind (loopBody 2)).getD .skip
noncomputable def D_impl_power : Code := Try.f94.body.getD .skip
noncomputable def N_impl_power (_ : outs E_impl_power.params) (r : dens E_impl_power.results) : E_impl_power.B := r

-- impl.firstBreak
noncomputable def E_impl_firstBreak : Entry where
  params := [.v .int, .v (.pair .int (.slice .int)), .v (.pair .int (.slice (.slice .int)))]
  results := [.mv .int 0, .mv .int 0, .v .bool]
  B := (List Int) × (List Int) × Bool
  run := fun a => impl_firstBreak a.1 a.2.1 a.2.2
  out := fun b => ((), (), ())
  res := fun b => (b.1, b.2.1, b.2.2)

noncomputable def S_impl_firstBreak_L10 (n : Nat) : LoopSpec where
  sh := [(0, .v .int), (4, .bx (.v (.pair .int (.slice .int)))), (5, .bx (.v (.pair .int (.slice (.slice .int))))), (9, .mp), (10, .v .int), (11, .mv .int 0), (12, .mv .int 0), (13, .v .int), (14, .v .int), (15, .v .int)]
  ex := [(.exit 2, [(0, .v .int), (4, .bx (.v (.pair .int (.slice .int)))), (5, .bx (.v (.pair .int (.slice (.slice .int))))), (9, .mp), (10, .v .int), (11, .mv .int 0), (12, .mv .int 0), (13, .v .int)])]
  run := impl_firstBreak_L10 n

noncomputable def S_impl_firstBreak_L19 (n : Nat) : LoopSpec where
  sh := [(786493, .jk 1), (0, .v .int), (4, .bx (.v (.pair .int (.slice .int)))), (5, .bx (.v (.pair .int (.slice (.slice .int))))), (9, .mp), (10, .v .int), (11, .mv .int 0), (12, .mv .int 0), (13, .v .int), (16, .v .int), (17, .v .int), (57, .v .int), (58, .v .int), (62, .v .int), (63, .v .int)]
  ex := [(.exit 6, [(0, .v .int), (4, .bx (.v (.pair .int (.slice .int)))), (5, .bx (.v (.pair .int (.slice (.slice .int))))), (9, .mp), (10, .v .int), (11, .mv .int 0), (12, .mv .int 0), (13, .v .int), (16, .v .int), (17, .v .int), (57, .v .int), (58, .v .int)])]
  run := impl_firstBreak_L19 n

noncomputable def S_impl_firstBreak_L15 (n : Nat) : LoopSpec where
  sh := [(0, .v .int), (4, .bx (.v (.pair .int (.slice .int)))), (5, .bx (.v (.pair .int (.slice (.slice .int))))), (9, .mp), (10, .v .int), (11, .mv .int 0), (12, .mv .int 0), (13, .v .int), (57, .v .int), (58, .v .int)]
  ex := [(.exit 4, [(0, .v .int), (4, .bx (.v (.pair .int (.slice .int)))), (5, .bx (.v (.pair .int (.slice (.slice .int))))), (9, .mp), (10, .v .int), (11, .mv .int 0), (12, .mv .int 0), (13, .v .int)])]
  run := impl_firstBreak_L15 n

noncomputable def S_impl_firstBreak_L6 (n : Nat) : LoopSpec where
  sh := [(0, .v .int), (4, .bx (.v (.pair .int (.slice .int)))), (5, .bx (.v (.pair .int (.slice (.slice .int))))), (9, .mp), (10, .v .int), (11, .mv .int 0), (12, .mv .int 0), (13, .v .int)]
  ex := [(.exit 0, []), (.ret, [(6, .mv .int 0), (7, .mv .int 0), (8, .v .bool)])]
  run := impl_firstBreak_L6 n

noncomputable def C_impl_firstBreak : Cx where
  tt := tblTT tt
  T := tblT [(93, E_impl_tupleSet), (94, E_impl_power), (95, E_impl_keyOf)]
  L := tblL [(10, S_impl_firstBreak_L10 fuel), (19, S_impl_firstBreak_L19 fuel), (15, S_impl_firstBreak_L15 fuel), (6, S_impl_firstBreak_L6 fuel)]
  dep := fun i => 0
  n := 3

noncomputable def B_impl_firstBreak_L10 : Code := (Try.f78.body.bind (loopBody 10)).getD .skip
noncomputable def B_impl_firstBreak_L19 : Code := (Try.f78.body.bind (loopBody 19)).getD .skip
noncomputable def B_impl_firstBreak_L15 : Code := (Try.f78.body.bind (loopBody 15)).getD .skip
noncomputable def B_impl_firstBreak_L6 : Code := (Try.f78.body.bind (loopBody 6)).getD .skip
noncomputable def D_impl_firstBreak : Code := Try.f78.body.getD .skip
noncomputable def N_impl_firstBreak (_ : outs E_impl_firstBreak.params) (r : dens E_impl_firstBreak.results) : E_impl_firstBreak.B := (r.1, r.2.1, r.2.2)

-- impl.keepsAll
noncomputable def E_impl_keepsAll : Entry where
  params := [.v .int, .v (.slice (.pair .int (.slice (.slice .int)))), .v (.pair .int (.slice .int))]
  results := [.v .bool]
  B := Bool
  run := fun a => impl_keepsAll a.1 a.2.1 a.2.2
  out := fun b => ((), (), ())
  res := fun b => b

noncomputable def S_impl_keepsAll_L2 (n : Nat) : LoopSpec where
  sh := [(0, .v .int), (5, .bx (.v (.pair .int (.slice .int)))), (12, .v (.slice (.pair .int (.slice (.slice .int))))), (13, .v .int), (14, .v .int)]
  ex := [(.exit 0, []), (.ret, [(6, .v .bool)])]
  run := impl_keepsAll_L2 n

noncomputable def C_impl_keepsAll : Cx where
  tt := tblTT tt
  T := tblT [(78, E_impl_firstBreak)]
  L := tblL [(2, S_impl_keepsAll_L2 fuel)]
  dep := fun i => 0
  n := 3

noncomputable def B_impl_keepsAll_L2 : Code := (Try.f59.body.bind (loopBody 2)).getD .skip
noncomputable def D_impl_keepsAll : Code := Try.f59.body.getD .skip
noncomputable def N_impl_keepsAll (_ : outs E_impl_keepsAll.params) (r : dens E_impl_keepsAll.results) : E_impl_keepsAll.B := r

-- impl.booleanClasses
noncomputable def E_impl_booleanClasses : Entry where
  params := [.v (.slice (.pair (.slice .int) (.pair .int (.slice (.slice .int)))))]
  results := [.mv .bool 0]
  B := (List Bool)
  run := fun a => impl_booleanClasses a
  out := fun b => ()
  res := fun b => b

noncomputable def S_impl_booleanClasses_L6 (n : Nat) : LoopSpec where
  sh := [(3, .mv .bool 0), (5, .bx (.v (.pair (.slice .int) (.pair .int (.slice (.slice .int)))))), (6, .v .int), (10, .v (.slice (.pair (.slice .int) (.pair .int (.slice (.slice .int)))))), (11, .v .int), (12, .v .int)]
  ex := [(.exit 2, [(3, .mv .bool 0), (5, .bx (.v (.pair (.slice .int) (.pair .int (.slice (.slice .int)))))), (10, .v (.slice (.pair (.slice .int) (.pair .int (.slice (.slice .int)))))), (11, .v .int), (12, .v .int)])]
  run := impl_booleanClasses_L6 n

noncomputable def S_impl_booleanClasses_L10 (n : Nat) : LoopSpec where
  sh := [(3, .mv .bool 0), (5, .bx (.v (.pair (.slice .int) (.pair .int (.slice (.slice .int)))))), (10, .v (.slice (.pair (.slice .int) (.pair .int (.slice (.slice .int)))))), (11, .v .int), (12, .v .int), (37, .mv (.pair .int (.slice .int)) 1), (38, .v .int), (39, .v .int)]
  ex := [(.exit 4, [(3, .mv .bool 0), (10, .v (.slice (.pair (.slice .int) (.pair .int (.slice (.slice .int)))))), (11, .v .int), (12, .v .int)])]
  run := impl_booleanClasses_L10 n

noncomputable def S_impl_booleanClasses_L3 (n : Nat) : LoopSpec where
  sh := [(3, .mv .bool 0), (10, .v (.slice (.pair (.slice .int) (.pair .int (.slice (.slice .int)))))), (11, .v .int), (12, .v .int)]
  ex := [(.exit 0, [(3, .mv .bool 0)])]
  run := impl_booleanClasses_L3 n

noncomputable def C_impl_booleanClasses : Cx where
  tt := tblTT tt
  T := tblT [(56, E_impl_hasRow), (57, E_impl_constantTuple), (58, E_impl_booleanOps), (59, E_impl_keepsAll)]
  L := tblL [(6, S_impl_booleanClasses_L6 fuel), (10, S_impl_booleanClasses_L10 fuel), (3, S_impl_booleanClasses_L3 fuel)]
  dep := fun i => 0
  n := 1

noncomputable def B_impl_booleanClasses_L6 : Code := (Try.f44.body.bind (loopBody 6)).getD .skip
noncomputable def B_impl_booleanClasses_L10 : Code := (Try.f44.body.bind (loopBody 10)).getD .skip
noncomputable def B_impl_booleanClasses_L3 : Code := (Try.f44.body.bind (loopBody 3)).getD .skip
noncomputable def D_impl_booleanClasses : Code := Try.f44.body.getD .skip
noncomputable def N_impl_booleanClasses (_ : outs E_impl_booleanClasses.params) (r : dens E_impl_booleanClasses.results) : E_impl_booleanClasses.B := r

-- impl.inClass
noncomputable def E_impl_inClass : Entry where
  params := [.v (.pair .int (.pair .int (.slice (.pair (.slice .int) (.pair .int (.slice (.slice .int))))))), .v .int]
  results := [.v .bool]
  B := Bool
  run := fun a => impl_inClass a.1 a.2
  out := fun b => ((), ())
  res := fun b => b

noncomputable def C_impl_inClass : Cx where
  tt := tblTT tt
  T := tblT [(43, E_impl_isBoolean), (44, E_impl_booleanClasses)]
  L := tblL []
  dep := fun i => 0
  n := 2

noncomputable def D_impl_inClass : Code := Try.f49.body.getD .skip
noncomputable def N_impl_inClass (_ : outs E_impl_inClass.params) (r : dens E_impl_inClass.results) : E_impl_inClass.B := r

-- impl.compose
noncomputable def E_impl_compose : Entry where
  params := [.v (.slice .int), .v (.slice .int)]
  results := [.mv .int 0]
  B := (List Int)
  run := fun a => impl_compose a.1 a.2
  out := fun b => ((), ())
  res := fun b => b

noncomputable def S_impl_compose_L3 (n : Nat) : LoopSpec where
  sh := [(1, .v (.slice .int)), (5, .mv .int 0), (11, .v (.slice .int)), (12, .v .int), (13, .v .int)]
  ex := [(.exit 0, [(5, .mv .int 0)])]
  run := impl_compose_L3 n

noncomputable def C_impl_compose : Cx where
  tt := tblTT tt
  T := tblT []
  L := tblL [(3, S_impl_compose_L3 fuel)]
  dep := fun i => 0
  n := 2

noncomputable def B_impl_compose_L3 : Code := (Try.f85.body.bind (loopBody 3)).getD .skip
noncomputable def D_impl_compose : Code := Try.f85.body.getD .skip
noncomputable def N_impl_compose (_ : outs E_impl_compose.params) (r : dens E_impl_compose.results) : E_impl_compose.B := r

-- impl.unsatisfied
noncomputable def E_impl_unsatisfied : Entry where
  params := [.v (.pair .int (.pair .int (.slice (.pair (.slice .int) (.pair .int (.slice (.slice .int))))))), .v (.slice .int)]
  results := [.v .int]
  B := Int
  run := fun a => impl_unsatisfied a.1 a.2
  out := fun b => ((), ())
  res := fun b => b

noncomputable def S_impl_unsatisfied_L2 (n : Nat) : LoopSpec where
  sh := [(1, .v (.slice .int)), (8, .v (.slice (.pair (.slice .int) (.pair .int (.slice (.slice .int)))))), (9, .v .int), (10, .v .int)]
  ex := [(.exit 0, []), (.ret, [(4, .v .int)])]
  run := impl_unsatisfied_L2 n

noncomputable def C_impl_unsatisfied : Cx where
  tt := tblTT tt
  T := tblT [(56, E_impl_hasRow), (85, E_impl_compose)]
  L := tblL [(2, S_impl_unsatisfied_L2 fuel)]
  dep := fun i => 0
  n := 2

noncomputable def B_impl_unsatisfied_L2 : Code := (Try.f66.body.bind (loopBody 2)).getD .skip
noncomputable def D_impl_unsatisfied : Code := Try.f66.body.getD .skip
noncomputable def N_impl_unsatisfied (_ : outs E_impl_unsatisfied.params) (r : dens E_impl_unsatisfied.results) : E_impl_unsatisfied.B := r

-- impl.agrees
noncomputable def E_impl_agrees : Entry where
  params := [.v (.slice .int), .v (.slice .int)]
  results := [.v .bool]
  B := Bool
  run := fun a => impl_agrees a.1 a.2
  out := fun b => ((), ())
  res := fun b => b

noncomputable def S_impl_agrees_L5 (n : Nat) : LoopSpec where
  sh := [(0, .v (.slice .int)), (1, .v (.slice .int)), (5, .v .int), (6, .v .int), (9, .v (.slice .int)), (10, .v .int), (11, .v .int), (18, .v (.slice .int)), (19, .v .int), (20, .v .int)]
  ex := [(.exit 2, [(0, .v (.slice .int)), (1, .v (.slice .int)), (9, .v (.slice .int)), (10, .v .int), (11, .v .int)]), (.ret, [(4, .v .bool)])]
  run := impl_agrees_L5 n

noncomputable def S_impl_agrees_L2 (n : Nat) : LoopSpec where
  sh := [(0, .v (.slice .int)), (1, .v (.slice .int)), (9, .v (.slice .int)), (10, .v .int), (11, .v .int)]
  ex := [(.exit 0, []), (.ret, [(4, .v .bool)])]
  run := impl_agrees_L2 n

noncomputable def C_impl_agrees : Cx where
  tt := tblTT tt
  T := tblT []
  L := tblL [(5, S_impl_agrees_L5 fuel), (2, S_impl_agrees_L2 fuel)]
  dep := fun i => 0
  n := 2

noncomputable def B_impl_agrees_L5 : Code := (Try.f86.body.bind (loopBody 5)).getD .skip
noncomputable def B_impl_agrees_L2 : Code := (Try.f86.body.bind (loopBody 2)).getD .skip
noncomputable def D_impl_agrees : Code := Try.f86.body.getD .skip
noncomputable def N_impl_agrees (_ : outs E_impl_agrees.params) (r : dens E_impl_agrees.results) : E_impl_agrees.B := r

-- impl.raise
noncomputable def E_impl_raise : Entry where
  params := [.v (.pair (.slice .int) (.pair .int (.slice (.slice .int)))), .io .int 0, .v .int]
  results := [.v .bool]
  B := (List Int) × Bool
  run := fun a => impl_raise a.1 a.2.1 a.2.2
  out := fun b => ((), b.1, ())
  res := fun b => b.2

noncomputable def S_impl_raise_L3 (n : Nat) : LoopSpec where
  sh := [(1, .io .int 0), (2, .v .int), (3, .bx (.v (.pair (.slice .int) (.pair .int (.slice (.slice .int)))))), (7, .mv .bool 0), (24, .v .int), (25, .v .int)]
  ex := [(.exit 0, [(1, .io .int 0), (2, .v .int), (3, .bx (.v (.pair (.slice .int) (.pair .int (.slice (.slice .int)))))), (7, .mv .bool 0)])]
  run := impl_raise_L3 n

noncomputable def S_impl_raise_L13 (n : Nat) : LoopSpec where
  sh := [(1, .io .int 0), (2, .v .int), (3, .bx (.v (.pair (.slice .int) (.pair .int (.slice (.slice .int)))))), (7, .mv .bool 0), (9, .v .bool), (11, .v (.slice .int)), (12, .v .bool), (34, .v (.slice (.slice .int))), (35, .v .int), (36, .v .int), (44, .v (.slice .int)), (45, .v .int), (46, .v .int)]
  ex := [(.exit 4, [(1, .io .int 0), (2, .v .int), (3, .bx (.v (.pair (.slice .int) (.pair .int (.slice (.slice .int)))))), (7, .mv .bool 0), (9, .v .bool), (11, .v (.slice .int)), (12, .v .bool), (34, .v (.slice (.slice .int))), (35, .v .int), (36, .v .int)])]
  run := impl_raise_L13 n

noncomputable def S_impl_raise_L20 (n : Nat) : LoopSpec where
  sh := [(1, .io .int 0), (2, .v .int), (3, .bx (.v (.pair (.slice .int) (.pair .int (.slice (.slice .int)))))), (7, .mv .bool 0), (9, .v .bool), (34, .v (.slice (.slice .int))), (35, .v .int), (36, .v .int), (72, .v (.slice .int)), (73, .v .int), (74, .v .int)]
  ex := [(.exit 6, [(1, .io .int 0), (2, .v .int), (3, .bx (.v (.pair (.slice .int) (.pair .int (.slice (.slice .int)))))), (7, .mv .bool 0), (9, .v .bool), (34, .v (.slice (.slice .int))), (35, .v .int), (36, .v .int)])]
  run := impl_raise_L20 n

noncomputable def S_impl_raise_L9 (n : Nat) : LoopSpec where
  sh := [(1, .io .int 0), (2, .v .int), (3, .bx (.v (.pair (.slice .int) (.pair .int (.slice (.slice .int)))))), (7, .mv .bool 0), (9, .v .bool), (34, .v (.slice (.slice .int))), (35, .v .int), (36, .v .int)]
  ex := [(.exit 2, [(1, .io .int 0), (2, .v .int), (3, .bx (.v (.pair (.slice .int) (.pair .int (.slice (.slice .int)))))), (7, .mv .bool 0), (9, .v .bool)])]
  run := impl_raise_L9 n

noncomputable def S_impl_raise_L26 (n : Nat) : LoopSpec where
  sh := [(1, .io .int 0), (2, .v .int), (7, .mv .bool 0), (9, .v .bool), (94, .v (.slice .int)), (95, .v .int), (96, .v .int)]
  ex := [(.exit 8, [(1, .io .int 0), (9, .v .bool)])]
  run := impl_raise_L26 n

noncomputable def C_impl_raise : Cx where
  tt := tblTT tt
  T := tblT [(86, E_impl_agrees)]
  L := tblL [(3, S_impl_raise_L3 fuel), (13, S_impl_raise_L13 fuel), (20, S_impl_raise_L20 fuel), (9, S_impl_raise_L9 fuel), (26, S_impl_raise_L26 fuel)]
  dep := fun i => 0
  n := 3

noncomputable def B_impl_raise_L3 : Code := (Try.f67.body.bind (loopBody 3)).getD .skip
noncomputable def B_impl_raise_L13 : Code := (Try.f67.body.bind (loopBody 13)).getD .skip
noncomputable def B_impl_raise_L20 : Code := (Try.f67.body.bind (loopBody 20)).getD .skip
noncomputable def B_impl_raise_L9 : Code := (Try.f67.body.bind (loopBody 9)).getD .skip
noncomputable def B_impl_raise_L26 : Code := (Try.f67.body.bind (loopBody 26)).getD .skip
noncomputable def D_impl_raise : Code := Try.f67.body.getD .skip
noncomputable def N_impl_raise (o : outs E_impl_raise.params) (r : dens E_impl_raise.results) : E_impl_raise.B := (o.2.1, r)

-- impl.raiseAll
noncomputable def E_impl_raiseAll : Entry where
  params := [.v (.pair .int (.pair .int (.slice (.pair (.slice .int) (.pair .int (.slice (.slice .int))))))), .v .int]
  results := [.mv .int 0, .mv .int 0, .v .bool]
  B := (List Int) × (List Int) × Bool
  run := fun a => impl_raiseAll a.1 a.2
  out := fun b => ((), ())
  res := fun b => (b.1, b.2.1, b.2.2)

noncomputable def S_impl_raiseAll_L3 (n : Nat) : LoopSpec where
  sh := [(1, .v .int), (2, .bx (.v (.pair .int (.pair .int (.slice (.pair (.slice .int) (.pair .int (.slice (.slice .int))))))))), (7, .mv .int 0), (8, .mv .int 0)]
  ex := [(.ret, [(4, .mv .int 0), (5, .mv .int 0), (6, .v .bool)])]
  run := impl_raiseAll_L3 n

noncomputable def C_impl_raiseAll : Cx where
  tt := tblTT tt
  T := tblT [(57, E_impl_constantTuple), (66, E_impl_unsatisfied), (67, E_impl_raise)]
  L := tblL [(3, S_impl_raiseAll_L3 fuel)]
  dep := fun i => 0
  n := 2

noncomputable def B_impl_raiseAll_L3 : Code := (Try.f50.body.bind (loopBody 3)).getD .skip
noncomputable def D_impl_raiseAll : Code := Try.f50.body.getD .skip
noncomputable def N_impl_raiseAll (_ : outs E_impl_raiseAll.params) (r : dens E_impl_raiseAll.results) : E_impl_raiseAll.B := (r.1, r.2.1, r.2.2)

-- impl.RaiseSteps
noncomputable def E_impl_RaiseSteps : Entry where
  params := [.v (.pair .int (.pair .int (.slice (.pair (.slice .int) (.pair .int (.slice (.slice .int)))))))]
  results := [.mv .int 0, .v .bool]
  B := (List Int) × Bool
  run := fun a => impl_RaiseSteps a
  out := fun b => ()
  res := fun b => (b.1, b.2)

noncomputable def C_impl_RaiseSteps : Cx where
  tt := tblTT tt
  T := tblT [(49, E_impl_inClass), (50, E_impl_raiseAll)]
  L := tblL []
  dep := fun i => 0
  n := 1

noncomputable def D_impl_RaiseSteps : Code := Try.f33.body.getD .skip
noncomputable def N_impl_RaiseSteps (_ : outs E_impl_RaiseSteps.params) (r : dens E_impl_RaiseSteps.results) : E_impl_RaiseSteps.B := (r.1, r.2)

-- laws.eqIntS
noncomputable def E_laws_eqIntS : Entry where
  params := [.v (.slice .int), .v (.slice .int)]
  results := [.v .bool]
  B := Bool
  run := fun a => laws_eqIntS a.1 a.2
  out := fun b => ((), ())
  res := fun b => b

noncomputable def S_laws_eqIntS_L4 (n : Nat) : LoopSpec where
  sh := [(0, .v (.slice .int)), (1, .v (.slice .int)), (5, .v .int)]
  ex := [(.exit 0, []), (.ret, [(4, .v .bool)])]
  run := laws_eqIntS_L4 n

noncomputable def C_laws_eqIntS : Cx where
  tt := tblTT tt
  T := tblT []
  L := tblL [(4, S_laws_eqIntS_L4 fuel)]
  dep := fun i => 0
  n := 2

noncomputable def B_laws_eqIntS_L4 : Code := (Try.f27.body.bind (loopBody 4)).getD .skip
noncomputable def D_laws_eqIntS : Code := Try.f27.body.getD .skip
noncomputable def N_laws_eqIntS (_ : outs E_laws_eqIntS.params) (r : dens E_laws_eqIntS.results) : E_laws_eqIntS.B := r

-- laws.eqIntSS
noncomputable def E_laws_eqIntSS : Entry where
  params := [.v (.slice (.slice .int)), .v (.slice (.slice .int))]
  results := [.v .bool]
  B := Bool
  run := fun a => laws_eqIntSS a.1 a.2
  out := fun b => ((), ())
  res := fun b => b

noncomputable def S_laws_eqIntSS_L4 (n : Nat) : LoopSpec where
  sh := [(0, .v (.slice (.slice .int))), (1, .v (.slice (.slice .int))), (5, .v .int)]
  ex := [(.exit 0, []), (.ret, [(4, .v .bool)])]
  run := laws_eqIntSS_L4 n

noncomputable def C_laws_eqIntSS : Cx where
  tt := tblTT tt
  T := tblT [(27, E_laws_eqIntS)]
  L := tblL [(4, S_laws_eqIntSS_L4 fuel)]
  dep := fun i => 0
  n := 2

noncomputable def B_laws_eqIntSS_L4 : Code := (Try.f96.body.bind (loopBody 4)).getD .skip
noncomputable def D_laws_eqIntSS : Code := Try.f96.body.getD .skip
noncomputable def N_laws_eqIntSS (_ : outs E_laws_eqIntSS.params) (r : dens E_laws_eqIntSS.results) : E_laws_eqIntSS.B := r

-- laws.eqRelation
noncomputable def E_laws_eqRelation : Entry where
  params := [.v (.pair .int (.slice (.slice .int))), .v (.pair .int (.slice (.slice .int)))]
  results := [.v .bool]
  B := Bool
  run := fun a => laws_eqRelation a.1 a.2
  out := fun b => ((), ())
  res := fun b => b

noncomputable def C_laws_eqRelation : Cx where
  tt := tblTT tt
  T := tblT [(96, E_laws_eqIntSS)]
  L := tblL []
  dep := fun i => 0
  n := 2

noncomputable def D_laws_eqRelation : Code := Try.f79.body.getD .skip
noncomputable def N_laws_eqRelation (_ : outs E_laws_eqRelation.params) (r : dens E_laws_eqRelation.results) : E_laws_eqRelation.B := r

-- laws.eqConstraint
noncomputable def E_laws_eqConstraint : Entry where
  params := [.v (.pair (.slice .int) (.pair .int (.slice (.slice .int)))), .v (.pair (.slice .int) (.pair .int (.slice (.slice .int))))]
  results := [.v .bool]
  B := Bool
  run := fun a => laws_eqConstraint a.1 a.2
  out := fun b => ((), ())
  res := fun b => b

noncomputable def C_laws_eqConstraint : Cx where
  tt := tblTT tt
  T := tblT [(27, E_laws_eqIntS), (79, E_laws_eqRelation)]
  L := tblL []
  dep := fun i => 0
  n := 2

noncomputable def D_laws_eqConstraint : Code := Try.f60.body.getD .skip
noncomputable def N_laws_eqConstraint (_ : outs E_laws_eqConstraint.params) (r : dens E_laws_eqConstraint.results) : E_laws_eqConstraint.B := r

-- laws.eqConstraintS
noncomputable def E_laws_eqConstraintS : Entry where
  params := [.v (.slice (.pair (.slice .int) (.pair .int (.slice (.slice .int))))), .v (.slice (.pair (.slice .int) (.pair .int (.slice (.slice .int)))))]
  results := [.v .bool]
  B := Bool
  run := fun a => laws_eqConstraintS a.1 a.2
  out := fun b => ((), ())
  res := fun b => b

noncomputable def S_laws_eqConstraintS_L4 (n : Nat) : LoopSpec where
  sh := [(0, .v (.slice (.pair (.slice .int) (.pair .int (.slice (.slice .int)))))), (1, .v (.slice (.pair (.slice .int) (.pair .int (.slice (.slice .int)))))), (5, .v .int)]
  ex := [(.exit 0, []), (.ret, [(4, .v .bool)])]
  run := laws_eqConstraintS_L4 n

noncomputable def C_laws_eqConstraintS : Cx where
  tt := tblTT tt
  T := tblT [(60, E_laws_eqConstraint)]
  L := tblL [(4, S_laws_eqConstraintS_L4 fuel)]
  dep := fun i => 0
  n := 2

noncomputable def B_laws_eqConstraintS_L4 : Code := (Try.f45.body.bind (loopBody 4)).getD .skip
noncomputable def D_laws_eqConstraintS : Code := Try.f45.body.getD .skip
noncomputable def N_laws_eqConstraintS (_ : outs E_laws_eqConstraintS.params) (r : dens E_laws_eqConstraintS.results) : E_laws_eqConstraintS.B := r

-- laws.eqNetwork
noncomputable def E_laws_eqNetwork : Entry where
  params := [.v (.pair .int (.pair .int (.slice (.pair (.slice .int) (.pair .int (.slice (.slice .int))))))), .v (.pair .int (.pair .int (.slice (.pair (.slice .int) (.pair .int (.slice (.slice .int)))))))]
  results := [.v .bool]
  B := Bool
  run := fun a => laws_eqNetwork a.1 a.2
  out := fun b => ((), ())
  res := fun b => b

noncomputable def C_laws_eqNetwork : Cx where
  tt := tblTT tt
  T := tblT [(45, E_laws_eqConstraintS)]
  L := tblL []
  dep := fun i => 0
  n := 2

noncomputable def D_laws_eqNetwork : Code := Try.f18.body.getD .skip
noncomputable def N_laws_eqNetwork (_ : outs E_laws_eqNetwork.params) (r : dens E_laws_eqNetwork.results) : E_laws_eqNetwork.B := r

-- laws.markIntS
noncomputable def E_laws_markIntS : Entry where
  params := [.io .int 0, .v .int]
  results := [.v .int]
  B := (List Int) × Int
  run := fun a => laws_markIntS a.1 a.2
  out := fun b => (b.1, ())
  res := fun b => b.2

noncomputable def S_laws_markIntS_L2 (n : Nat) : LoopSpec where
  sh := [(0, .io .int 0), (1, .v .int), (5, .v .int)]
  ex := [(.exit 0, [(0, .io .int 0), (1, .v .int)])]
  run := laws_markIntS_L2 n

noncomputable def C_laws_markIntS : Cx where
  tt := tblTT tt
  T := tblT []
  L := tblL [(2, S_laws_markIntS_L2 fuel)]
  dep := fun i => 0
  n := 2

noncomputable def B_laws_markIntS_L2 : Code := (Try.f28.body.bind (loopBody 2)).getD .skip
noncomputable def D_laws_markIntS : Code := Try.f28.body.getD .skip
noncomputable def N_laws_markIntS (o : outs E_laws_markIntS.params) (r : dens E_laws_markIntS.results) : E_laws_markIntS.B := (o.1, r)

-- laws.markIntSS
noncomputable def E_laws_markIntSS : Entry where
  params := [.io (.slice .int) 1, .v .int]
  results := [.v .int]
  B := (List (List Int)) × Int
  run := fun a => laws_markIntSS a.1 a.2
  out := fun b => (b.1, ())
  res := fun b => b.2

noncomputable def S_laws_markIntSS_L2 (n : Nat) : LoopSpec where
  sh := [(0, .io (.slice .int) 1), (1, .v .int), (5, .v .int)]
  ex := [(.exit 0, [(0, .io (.slice .int) 1), (1, .v .int)])]
  run := laws_markIntSS_L2 n

noncomputable def C_laws_markIntSS : Cx where
  tt := tblTT tt
  T := tblT [(28, E_laws_markIntS)]
  L := tblL [(2, S_laws_markIntSS_L2 fuel)]
  dep := fun i => 0
  n := 2

noncomputable def B_laws_markIntSS_L2 : Code := (Try.f62.body.bind (loopBody 2)).getD .skip
noncomputable def D_laws_markIntSS : Code := Try.f62.body.getD .skip
noncomputable def N_laws_markIntSS (o : outs E_laws_markIntSS.params) (r : dens E_laws_markIntSS.results) : E_laws_markIntSS.B := (o.1, r)

-- laws.markConstraintS
noncomputable def E_laws_markConstraintS : Entry where
  params := [.io (.pair (.slice .int) (.pair .int (.slice (.slice .int)))) 2, .v .int]
  results := [.v .int]
  B := (List ((List Int) × Int × (List (List Int)))) × Int
  run := fun a => laws_markConstraintS a.1 a.2
  out := fun b => (b.1, ())
  res := fun b => b.2

noncomputable def S_laws_markConstraintS_L2 (n : Nat) : LoopSpec where
  sh := [(0, .io (.pair (.slice .int) (.pair .int (.slice (.slice .int)))) 2), (1, .v .int), (5, .v .int)]
  ex := [(.exit 0, [(0, .io (.pair (.slice .int) (.pair .int (.slice (.slice .int)))) 2), (1, .v .int)])]
  run := laws_markConstraintS_L2 n

noncomputable def C_laws_markConstraintS : Cx where
  tt := tblTT tt
  T := tblT [(28, E_laws_markIntS), (62, E_laws_markIntSS)]
  L := tblL [(2, S_laws_markConstraintS_L2 fuel)]
  dep := fun i => 0
  n := 2

noncomputable def B_laws_markConstraintS_L2 : Code := (Try.f47.body.bind (loopBody 2)).getD .skip
noncomputable def D_laws_markConstraintS : Code := Try.f47.body.getD .skip
noncomputable def N_laws_markConstraintS (o : outs E_laws_markConstraintS.params) (r : dens E_laws_markConstraintS.results) : E_laws_markConstraintS.B := (o.1, r)

-- laws.markNetwork
noncomputable def E_laws_markNetwork : Entry where
  params := [.pr (.v .int) (.pr (.v .int) (.io (.pair (.slice .int) (.pair .int (.slice (.slice .int)))) 2)), .v .int]
  results := [.v .int]
  B := (Unit × (Unit × (List ((List Int) × Int × (List (List Int)))))) × Int
  run := fun a => laws_markNetwork a.1 a.2
  out := fun b => (b.1, ())
  res := fun b => b.2

noncomputable def C_laws_markNetwork : Cx where
  tt := tblTT tt
  T := tblT [(47, E_laws_markConstraintS)]
  L := tblL []
  dep := fun i => 0
  n := 2

noncomputable def D_laws_markNetwork : Code := Try.f22.body.getD .skip
noncomputable def N_laws_markNetwork (o : outs E_laws_markNetwork.params) (r : dens E_laws_markNetwork.results) : E_laws_markNetwork.B := (o.1, r)

-- laws.heldIntS
noncomputable def E_laws_heldIntS : Entry where
  params := [.v (.slice .int), .v .int]
  results := [.v .int]
  B := Int
  run := fun a => laws_heldIntS a.1 a.2
  out := fun b => ((), ())
  res := fun b => b

noncomputable def S_laws_heldIntS_L2 (n : Nat) : LoopSpec where
  sh := [(0, .v (.slice .int)), (1, .v .int), (5, .v .int)]
  ex := [(.exit 0, [(1, .v .int)]), (.ret, [(4, .v .int)])]
  run := laws_heldIntS_L2 n

noncomputable def C_laws_heldIntS : Cx where
  tt := tblTT tt
  T := tblT []
  L := tblL [(2, S_laws_heldIntS_L2 fuel)]
  dep := fun i => 0
  n := 2

noncomputable def B_laws_heldIntS_L2 : Code := (Try.f29.body.bind (loopBody 2)).getD .skip
noncomputable def D_laws_heldIntS : Code := Try.f29.body.getD .skip
noncomputable def N_laws_heldIntS (_ : outs E_laws_heldIntS.params) (r : dens E_laws_heldIntS.results) : E_laws_heldIntS.B := r

-- laws.FnExactRaiseSteps
noncomputable def E_laws_FnExactRaiseSteps : Entry where
  params := [.v (.pair .int (.pair .int (.slice (.pair (.slice .int) (.pair .int (.slice (.slice .int)))))))]
  results := [.v .bool]
  B := Bool
  run := fun a => laws_FnExactRaiseSteps a
  out := fun b => ()
  res := fun b => b

noncomputable def C_laws_FnExactRaiseSteps : Cx where
  tt := tblTT tt
  T := tblT [(14, E_laws_szNetwork), (16, E_laws_toNetwork), (18, E_laws_eqNetwork), (22, E_laws_markNetwork), (27, E_laws_eqIntS), (28, E_laws_markIntS), (29, E_laws_heldIntS), (32, E_spec_RaiseSteps), (33, E_impl_RaiseSteps)]
  L := tblL []
  dep := fun i => 0
  n := 1

noncomputable def D_laws_FnExactRaiseSteps : Code := Try.f8.body.getD .skip
noncomputable def N_laws_FnExactRaiseSteps (_ : outs E_laws_FnExactRaiseSteps.params) (r : dens E_laws_FnExactRaiseSteps.results) : E_laws_FnExactRaiseSteps.B := r
end T
