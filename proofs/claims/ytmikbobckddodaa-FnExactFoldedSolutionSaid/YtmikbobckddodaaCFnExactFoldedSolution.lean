/- Contexts of the typed functions; no conditions. -/
import Derived.Test.YtmikbobckddodaaV5
import Derived.Test.YtmikbobckddodaaProg
import Derived.Test.YtmikbobckddodaaPFnExactFoldedSolution
import Derived.KernelRfl
set_option linter.all false
set_option linter.unusedVariables false
set_option maxRecDepth 10000
open Go Go.Va Go.Proofs
namespace T
noncomputable def tt : List (Nat × TI) := [
  (2, { ty := .int }),
  (3, { ty := .int }),
  (4, { ty := .bool }),
  (22, { ty := (.slice (.pair (.slice .int) (.pair .int (.slice (.slice .int))))), elem := 77 }),
  (24, { ty := (.pair .int (.pair .int (.slice (.pair (.slice .int) (.pair .int (.slice (.slice .int))))))), fields := [3, 3, 22] }),
  (26, { ty := (.slice (.slice .int)), elem := 38 }),
  (29, { ty := (.slice (.pair (.slice .int) (.pair .int (.slice (.slice .int))))), elem := 81 }),
  (31, { ty := (.pair .int (.pair .int (.slice (.pair (.slice .int) (.pair .int (.slice (.slice .int))))))), fields := [3, 3, 29] }),
  (38, { ty := (.slice .int), elem := 3 }),
  (40, { ty := (.pair .int (.slice .int)), fields := [3, 38] }),
  (44, { ty := (.pair .int (.slice .int)), fields := [3, 38] }),
  (57, { ty := (.slice (.pair .int (.pair .int .int))), elem := 85 }),
  (63, { ty := (.slice (.slice .bool)), elem := 88 }),
  (75, { ty := (.pair .int (.slice (.slice .int))), fields := [3, 26] }),
  (77, { ty := (.pair (.slice .int) (.pair .int (.slice (.slice .int)))), fields := [38, 75] }),
  (79, { ty := (.pair .int (.slice (.slice .int))), fields := [3, 26] }),
  (81, { ty := (.pair (.slice .int) (.pair .int (.slice (.slice .int)))), fields := [38, 79] }),
  (85, { ty := (.pair .int (.pair .int .int)), fields := [3, 3, 3], arr := true }),
  (88, { ty := (.slice .bool), elem := 4 })]
theorem tabT : tabOk Try.prog tt = true := by kernel_rfl
theorem mixT : Try.prog.follows .mixedOrders = true := by kernel_rfl

-- laws.szIntS
noncomputable def E_laws_szIntS : Entry where
  params := [.v (.slice .int), .v .int]
  results := [.v .int]
  B := Int
  run := fun a => laws_szIntS a.1 a.2
  out := fun b => ((), ())
  res := fun b => b

noncomputable def C_laws_szIntS : Cx where
  tt := tblTT tt
  T := tblT []
  L := tblL []
  dep := fun i => 0
  n := 2

noncomputable def D_laws_szIntS : Code := Try.f40.body.getD .skip
noncomputable def N_laws_szIntS (_ : outs E_laws_szIntS.params) (r : dens E_laws_szIntS.results) : E_laws_szIntS.B := r

-- laws.szIntSS
noncomputable def E_laws_szIntSS : Entry where
  params := [.v (.slice (.slice .int)), .v .int]
  results := [.v .int]
  B := Int
  run := fun a => laws_szIntSS a.1 a.2
  out := fun b => ((), ())
  res := fun b => b

noncomputable def S_laws_szIntSS_L5 (n : Nat) : LoopSpec where
  sh := [(0, .v (.slice (.slice .int))), (1, .v .int), (5, .v .int)]
  ex := [(.exit 0, [(1, .v .int)]), (.ret, [(4, .v .int)])]
  run := laws_szIntSS_L5 n

noncomputable def C_laws_szIntSS : Cx where
  tt := tblTT tt
  T := tblT [(40, E_laws_szIntS)]
  L := tblL [(5, S_laws_szIntSS_L5 fuel)]
  dep := fun i => 0
  n := 2

noncomputable def B_laws_szIntSS_L5 : Code := (Try.f73.body.bind (loopBody 5)).getD .skip
noncomputable def D_laws_szIntSS : Code := Try.f73.body.getD .skip
noncomputable def N_laws_szIntSS (_ : outs E_laws_szIntSS.params) (r : dens E_laws_szIntSS.results) : E_laws_szIntSS.B := r

-- laws.szRelation
noncomputable def E_laws_szRelation : Entry where
  params := [.v (.pair .int (.slice (.slice .int))), .v .int]
  results := [.v .int]
  B := Int
  run := fun a => laws_szRelation a.1 a.2
  out := fun b => ((), ())
  res := fun b => b

noncomputable def C_laws_szRelation : Cx where
  tt := tblTT tt
  T := tblT [(73, E_laws_szIntSS)]
  L := tblL []
  dep := fun i => 0
  n := 2

noncomputable def D_laws_szRelation : Code := Try.f65.body.getD .skip
noncomputable def N_laws_szRelation (_ : outs E_laws_szRelation.params) (r : dens E_laws_szRelation.results) : E_laws_szRelation.B := r

-- laws.szConstraint
noncomputable def E_laws_szConstraint : Entry where
  params := [.v (.pair (.slice .int) (.pair .int (.slice (.slice .int)))), .v .int]
  results := [.v .int]
  B := Int
  run := fun a => laws_szConstraint a.1 a.2
  out := fun b => ((), ())
  res := fun b => b

noncomputable def C_laws_szConstraint : Cx where
  tt := tblTT tt
  T := tblT [(40, E_laws_szIntS), (65, E_laws_szRelation)]
  L := tblL []
  dep := fun i => 0
  n := 2

noncomputable def D_laws_szConstraint : Code := Try.f47.body.getD .skip
noncomputable def N_laws_szConstraint (_ : outs E_laws_szConstraint.params) (r : dens E_laws_szConstraint.results) : E_laws_szConstraint.B := r

-- laws.szConstraintS
noncomputable def E_laws_szConstraintS : Entry where
  params := [.v (.slice (.pair (.slice .int) (.pair .int (.slice (.slice .int))))), .v .int]
  results := [.v .int]
  B := Int
  run := fun a => laws_szConstraintS a.1 a.2
  out := fun b => ((), ())
  res := fun b => b

noncomputable def S_laws_szConstraintS_L5 (n : Nat) : LoopSpec where
  sh := [(0, .v (.slice (.pair (.slice .int) (.pair .int (.slice (.slice .int)))))), (1, .v .int), (5, .v .int)]
  ex := [(.exit 0, [(1, .v .int)]), (.ret, [(4, .v .int)])]
  run := laws_szConstraintS_L5 n

noncomputable def C_laws_szConstraintS : Cx where
  tt := tblTT tt
  T := tblT [(47, E_laws_szConstraint)]
  L := tblL [(5, S_laws_szConstraintS_L5 fuel)]
  dep := fun i => 0
  n := 2

noncomputable def B_laws_szConstraintS_L5 : Code := (Try.f26.body.bind (loopBody 5)).getD .skip
noncomputable def D_laws_szConstraintS : Code := Try.f26.body.getD .skip
noncomputable def N_laws_szConstraintS (_ : outs E_laws_szConstraintS.params) (r : dens E_laws_szConstraintS.results) : E_laws_szConstraintS.B := r

-- laws.szNetwork
noncomputable def E_laws_szNetwork : Entry where
  params := [.v (.pair .int (.pair .int (.slice (.pair (.slice .int) (.pair .int (.slice (.slice .int))))))), .v .int]
  results := [.v .int]
  B := Int
  run := fun a => laws_szNetwork a.1 a.2
  out := fun b => ((), ())
  res := fun b => b

noncomputable def C_laws_szNetwork : Cx where
  tt := tblTT tt
  T := tblT [(26, E_laws_szConstraintS)]
  L := tblL []
  dep := fun i => 0
  n := 2

noncomputable def D_laws_szNetwork : Code := Try.f6.body.getD .skip
noncomputable def N_laws_szNetwork (_ : outs E_laws_szNetwork.params) (r : dens E_laws_szNetwork.results) : E_laws_szNetwork.B := r

-- laws.szOp
noncomputable def E_laws_szOp : Entry where
  params := [.v (.pair .int (.slice .int)), .v .int]
  results := [.v .int]
  B := Int
  run := fun a => laws_szOp a.1 a.2
  out := fun b => ((), ())
  res := fun b => b

noncomputable def C_laws_szOp : Cx where
  tt := tblTT tt
  T := tblT [(40, E_laws_szIntS)]
  L := tblL []
  dep := fun i => 0
  n := 2

noncomputable def D_laws_szOp : Code := Try.f15.body.getD .skip
noncomputable def N_laws_szOp (_ : outs E_laws_szOp.params) (r : dens E_laws_szOp.results) : E_laws_szOp.B := r

-- laws.toIntS
noncomputable def E_laws_toIntS : Entry where
  params := [.v (.slice .int)]
  results := [.mv .int 0]
  B := (List Int)
  run := fun a => laws_toIntS a
  out := fun b => ()
  res := fun b => b

noncomputable def S_laws_toIntS_L3 (n : Nat) : LoopSpec where
  sh := [(0, .v (.slice .int)), (3, .mv .int 0), (4, .v .int)]
  ex := [(.exit 0, [(3, .mv .int 0)])]
  run := laws_toIntS_L3 n

noncomputable def C_laws_toIntS : Cx where
  tt := tblTT tt
  T := tblT []
  L := tblL [(3, S_laws_toIntS_L3 fuel)]
  dep := fun i => 0
  n := 1

noncomputable def B_laws_toIntS_L3 : Code := (Try.f42.body.bind (loopBody 3)).getD .skip
noncomputable def D_laws_toIntS : Code := Try.f42.body.getD .skip
noncomputable def N_laws_toIntS (_ : outs E_laws_toIntS.params) (r : dens E_laws_toIntS.results) : E_laws_toIntS.B := r

-- laws.toIntSS
noncomputable def E_laws_toIntSS : Entry where
  params := [.v (.slice (.slice .int))]
  results := [.mv (.slice .int) 1]
  B := (List (List Int))
  run := fun a => laws_toIntSS a
  out := fun b => ()
  res := fun b => b

noncomputable def S_laws_toIntSS_L3 (n : Nat) : LoopSpec where
  sh := [(0, .v (.slice (.slice .int))), (3, .mv (.slice .int) 1), (4, .v .int)]
  ex := [(.exit 0, [(3, .mv (.slice .int) 1)])]
  run := laws_toIntSS_L3 n

noncomputable def C_laws_toIntSS : Cx where
  tt := tblTT tt
  T := tblT [(42, E_laws_toIntS)]
  L := tblL [(3, S_laws_toIntSS_L3 fuel)]
  dep := fun i => match i with
    | 7 => 1
    | _ => 0
  n := 1

noncomputable def B_laws_toIntSS_L3 : Code := (Try.f77.body.bind (loopBody 3)).getD .skip
noncomputable def D_laws_toIntSS : Code := Try.f77.body.getD .skip
noncomputable def N_laws_toIntSS (_ : outs E_laws_toIntSS.params) (r : dens E_laws_toIntSS.results) : E_laws_toIntSS.B := r

-- laws.toRelation
noncomputable def E_laws_toRelation : Entry where
  params := [.v (.pair .int (.slice (.slice .int)))]
  results := [.pr (.v .int) (.mv (.slice .int) 1)]
  B := (Int × (List (List Int)))
  run := fun a => laws_toRelation a
  out := fun b => ()
  res := fun b => b

noncomputable def C_laws_toRelation : Cx where
  tt := tblTT tt
  T := tblT [(77, E_laws_toIntSS)]
  L := tblL []
  dep := fun i => 0
  n := 1

noncomputable def D_laws_toRelation : Code := Try.f69.body.getD .skip
noncomputable def N_laws_toRelation (_ : outs E_laws_toRelation.params) (r : dens E_laws_toRelation.results) : E_laws_toRelation.B := r

-- laws.toConstraint
noncomputable def E_laws_toConstraint : Entry where
  params := [.v (.pair (.slice .int) (.pair .int (.slice (.slice .int))))]
  results := [.pr (.mv .int 0) (.pr (.v .int) (.mv (.slice .int) 1))]
  B := ((List Int) × (Int × (List (List Int))))
  run := fun a => laws_toConstraint a
  out := fun b => ()
  res := fun b => b

noncomputable def C_laws_toConstraint : Cx where
  tt := tblTT tt
  T := tblT [(42, E_laws_toIntS), (69, E_laws_toRelation)]
  L := tblL []
  dep := fun i => 0
  n := 1

noncomputable def D_laws_toConstraint : Code := Try.f53.body.getD .skip
noncomputable def N_laws_toConstraint (_ : outs E_laws_toConstraint.params) (r : dens E_laws_toConstraint.results) : E_laws_toConstraint.B := r

-- laws.toConstraintS
noncomputable def E_laws_toConstraintS : Entry where
  params := [.v (.slice (.pair (.slice .int) (.pair .int (.slice (.slice .int)))))]
  results := [.mv (.pair (.slice .int) (.pair .int (.slice (.slice .int)))) 2]
  B := (List ((List Int) × Int × (List (List Int))))
  run := fun a => laws_toConstraintS a
  out := fun b => ()
  res := fun b => b

noncomputable def S_laws_toConstraintS_L3 (n : Nat) : LoopSpec where
  sh := [(0, .v (.slice (.pair (.slice .int) (.pair .int (.slice (.slice .int)))))), (3, .mv (.pair (.slice .int) (.pair .int (.slice (.slice .int)))) 2), (4, .v .int)]
  ex := [(.exit 0, [(3, .mv (.pair (.slice .int) (.pair .int (.slice (.slice .int)))) 2)])]
  run := laws_toConstraintS_L3 n

noncomputable def C_laws_toConstraintS : Cx where
  tt := tblTT tt
  T := tblT [(53, E_laws_toConstraint)]
  L := tblL [(3, S_laws_toConstraintS_L3 fuel)]
  dep := fun i => match i with
    | 7 => 2
    | _ => 0
  n := 1

noncomputable def B_laws_toConstraintS_L3 : Code := (Try.f32.body.bind (loopBody 3)).getD .skip
noncomputable def D_laws_toConstraintS : Code := Try.f32.body.getD .skip
noncomputable def N_laws_toConstraintS (_ : outs E_laws_toConstraintS.params) (r : dens E_laws_toConstraintS.results) : E_laws_toConstraintS.B := r

-- laws.toNetwork
noncomputable def E_laws_toNetwork : Entry where
  params := [.v (.pair .int (.pair .int (.slice (.pair (.slice .int) (.pair .int (.slice (.slice .int)))))))]
  results := [.pr (.v .int) (.pr (.v .int) (.mv (.pair (.slice .int) (.pair .int (.slice (.slice .int)))) 2))]
  B := (Int × (Int × (List ((List Int) × Int × (List (List Int))))))
  run := fun a => laws_toNetwork a
  out := fun b => ()
  res := fun b => b

noncomputable def C_laws_toNetwork : Cx where
  tt := tblTT tt
  T := tblT [(32, E_laws_toConstraintS)]
  L := tblL []
  dep := fun i => 0
  n := 1

noncomputable def D_laws_toNetwork : Code := Try.f8.body.getD .skip
noncomputable def N_laws_toNetwork (_ : outs E_laws_toNetwork.params) (r : dens E_laws_toNetwork.results) : E_laws_toNetwork.B := r

-- laws.toOp
noncomputable def E_laws_toOp : Entry where
  params := [.v (.pair .int (.slice .int))]
  results := [.pr (.v .int) (.mv .int 0)]
  B := (Int × (List Int))
  run := fun a => laws_toOp a
  out := fun b => ()
  res := fun b => b

noncomputable def C_laws_toOp : Cx where
  tt := tblTT tt
  T := tblT [(42, E_laws_toIntS)]
  L := tblL []
  dep := fun i => 0
  n := 1

noncomputable def D_laws_toOp : Code := Try.f17.body.getD .skip
noncomputable def N_laws_toOp (_ : outs E_laws_toOp.params) (r : dens E_laws_toOp.results) : E_laws_toOp.B := r

-- spec.l1In
noncomputable def E_spec_l1In : Entry where
  params := [.v .int, .v .int, .v .int]
  results := [.v .bool]
  B := Bool
  run := fun a => spec_l1In a.1 a.2.1 a.2.2
  out := fun b => ((), (), ())
  res := fun b => b

noncomputable def C_spec_l1In : Cx where
  tt := tblTT tt
  T := tblT []
  L := tblL []
  dep := fun i => 0
  n := 3

noncomputable def D_spec_l1In : Code := Try.f28.body.getD .skip
noncomputable def N_spec_l1In (_ : outs E_spec_l1In.params) (r : dens E_spec_l1In.results) : E_spec_l1In.B := r

-- spec.l2Pow
noncomputable def E_spec_l2Pow : Entry where
  params := [.v .int, .v .int]
  results := [.v .int]
  B := Int
  run := fun a => spec_l2Pow a.1 a.2
  out := fun b => ((), ())
  res := fun b => b

noncomputable def S_spec_l2Pow_L2 (n : Nat) : LoopSpec where
  sh := [(0, .v .int), (1, .v .int), (5, .v .int)]
  ex := [(.exit 0, [(5, .v .int)])]
  run := spec_l2Pow_L2 n

noncomputable def C_spec_l2Pow : Cx where
  tt := tblTT tt
  T := tblT []
  L := tblL [(2, S_spec_l2Pow_L2 fuel)]
  dep := fun i => 0
  n := 2

noncomputable def B_spec_l2Pow_L2 : Code := (Try.f59.body.bind (loopBody 2)).getD .skip
noncomputable def D_spec_l2Pow : Code := Try.f59.body.getD .skip
noncomputable def N_spec_l2Pow (_ : outs E_spec_l2Pow.params) (r : dens E_spec_l2Pow.results) : E_spec_l2Pow.B := r

-- spec.l2Elements
noncomputable def E_spec_l2Elements : Entry where
  params := [.v .int, .v (.slice .int)]
  results := [.v .bool]
  B := Bool
  run := fun a => spec_l2Elements a.1 a.2
  out := fun b => ((), ())
  res := fun b => b

noncomputable def S_spec_l2Elements_L2 (n : Nat) : LoopSpec where
  sh := [(0, .v .int), (1, .v (.slice .int)), (5, .v .int)]
  ex := [(.exit 0, []), (.ret, [(4, .v .bool)])]
  run := spec_l2Elements_L2 n

noncomputable def C_spec_l2Elements : Cx where
  tt := tblTT tt
  T := tblT [(28, E_spec_l1In)]
  L := tblL [(2, S_spec_l2Elements_L2 fuel)]
  dep := fun i => 0
  n := 2

noncomputable def B_spec_l2Elements_L2 : Code := (Try.f67.body.bind (loopBody 2)).getD .skip
noncomputable def D_spec_l2Elements : Code := Try.f67.body.getD .skip
noncomputable def N_spec_l2Elements (_ : outs E_spec_l2Elements.params) (r : dens E_spec_l2Elements.results) : E_spec_l2Elements.B := r

-- spec.l8Tuple
noncomputable def E_spec_l8Tuple : Entry where
  params := [.v .int, .v .int, .v (.slice .int)]
  results := [.v .bool]
  B := Bool
  run := fun a => spec_l8Tuple a.1 a.2.1 a.2.2
  out := fun b => ((), (), ())
  res := fun b => b

noncomputable def C_spec_l8Tuple : Cx where
  tt := tblTT tt
  T := tblT [(67, E_spec_l2Elements)]
  L := tblL []
  dep := fun i => 0
  n := 3

noncomputable def D_spec_l8Tuple : Code := Try.f74.body.getD .skip
noncomputable def N_spec_l8Tuple (_ : outs E_spec_l8Tuple.params) (r : dens E_spec_l8Tuple.results) : E_spec_l8Tuple.B := r

-- spec.l3Less
noncomputable def E_spec_l3Less : Entry where
  params := [.v (.slice .int), .v (.slice .int)]
  results := [.v .bool]
  B := Bool
  run := fun a => spec_l3Less a.1 a.2
  out := fun b => ((), ())
  res := fun b => b

noncomputable def S_spec_l3Less_L2 (n : Nat) : LoopSpec where
  sh := [(0, .v (.slice .int)), (1, .v (.slice .int)), (5, .v .int)]
  ex := [(.exit 0, []), (.ret, [(4, .v .bool)])]
  run := spec_l3Less_L2 n

noncomputable def C_spec_l3Less : Cx where
  tt := tblTT tt
  T := tblT []
  L := tblL [(2, S_spec_l3Less_L2 fuel)]
  dep := fun i => 0
  n := 2

noncomputable def B_spec_l3Less_L2 : Code := (Try.f75.body.bind (loopBody 2)).getD .skip
noncomputable def D_spec_l3Less : Code := Try.f75.body.getD .skip
noncomputable def N_spec_l3Less (_ : outs E_spec_l3Less.params) (r : dens E_spec_l3Less.results) : E_spec_l3Less.B := r

-- spec.l13Good
noncomputable def E_spec_l13Good : Entry where
  params := [.v .int, .v (.pair .int (.slice (.slice .int)))]
  results := [.v .bool]
  B := Bool
  run := fun a => spec_l13Good a.1 a.2
  out := fun b => ((), ())
  res := fun b => b

noncomputable def S_spec_l13Good_L4 (n : Nat) : LoopSpec where
  sh := [(0, .v .int), (3, .bx (.v (.pair .int (.slice (.slice .int))))), (5, .v .int)]
  ex := [(.exit 0, []), (.ret, [(4, .v .bool)])]
  run := spec_l13Good_L4 n

noncomputable def C_spec_l13Good : Cx where
  tt := tblTT tt
  T := tblT [(28, E_spec_l1In), (59, E_spec_l2Pow), (74, E_spec_l8Tuple), (75, E_spec_l3Less)]
  L := tblL [(4, S_spec_l13Good_L4 fuel)]
  dep := fun i => 0
  n := 2

noncomputable def B_spec_l13Good_L4 : Code := (Try.f66.body.bind (loopBody 4)).getD .skip
noncomputable def D_spec_l13Good : Code := Try.f66.body.getD .skip
noncomputable def N_spec_l13Good (_ : outs E_spec_l13Good.params) (r : dens E_spec_l13Good.results) : E_spec_l13Good.B := r

-- spec.l19Is
noncomputable def E_spec_l19Is : Entry where
  params := [.v .int, .v .int, .v (.pair (.slice .int) (.pair .int (.slice (.slice .int))))]
  results := [.v .bool]
  B := Bool
  run := fun a => spec_l19Is a.1 a.2.1 a.2.2
  out := fun b => ((), (), ())
  res := fun b => b

noncomputable def C_spec_l19Is : Cx where
  tt := tblTT tt
  T := tblT [(66, E_spec_l13Good), (67, E_spec_l2Elements)]
  L := tblL []
  dep := fun i => 0
  n := 3

noncomputable def D_spec_l19Is : Code := Try.f48.body.getD .skip
noncomputable def N_spec_l19Is (_ : outs E_spec_l19Is.params) (r : dens E_spec_l19Is.results) : E_spec_l19Is.B := r

-- spec.l19Good
noncomputable def E_spec_l19Good : Entry where
  params := [.v (.pair .int (.pair .int (.slice (.pair (.slice .int) (.pair .int (.slice (.slice .int)))))))]
  results := [.v .bool]
  B := Bool
  run := fun a => spec_l19Good a
  out := fun b => ()
  res := fun b => b

noncomputable def S_spec_l19Good_L4 (n : Nat) : LoopSpec where
  sh := [(1, .bx (.v (.pair .int (.pair .int (.slice (.pair (.slice .int) (.pair .int (.slice (.slice .int))))))))), (3, .v .int)]
  ex := [(.exit 0, []), (.ret, [(2, .v .bool)])]
  run := spec_l19Good_L4 n

noncomputable def C_spec_l19Good : Cx where
  tt := tblTT tt
  T := tblT [(28, E_spec_l1In), (48, E_spec_l19Is)]
  L := tblL [(4, S_spec_l19Good_L4 fuel)]
  dep := fun i => 0
  n := 1

noncomputable def B_spec_l19Good_L4 : Code := (Try.f27.body.bind (loopBody 4)).getD .skip
noncomputable def D_spec_l19Good : Code := Try.f27.body.getD .skip
noncomputable def N_spec_l19Good (_ : outs E_spec_l19Good.params) (r : dens E_spec_l19Good.results) : E_spec_l19Good.B := r

-- spec.l2Op
noncomputable def E_spec_l2Op : Entry where
  params := [.v .int, .v (.pair .int (.slice .int))]
  results := [.v .bool]
  B := Bool
  run := fun a => spec_l2Op a.1 a.2
  out := fun b => ((), ())
  res := fun b => b

noncomputable def S_spec_l2Op_L4 (n : Nat) : LoopSpec where
  sh := [(0, .v .int), (3, .bx (.v (.pair .int (.slice .int)))), (5, .v .int)]
  ex := [(.exit 0, []), (.ret, [(4, .v .bool)])]
  run := spec_l2Op_L4 n

noncomputable def C_spec_l2Op : Cx where
  tt := tblTT tt
  T := tblT [(28, E_spec_l1In), (59, E_spec_l2Pow)]
  L := tblL [(4, S_spec_l2Op_L4 fuel)]
  dep := fun i => 0
  n := 2

noncomputable def B_spec_l2Op_L4 : Code := (Try.f41.body.bind (loopBody 4)).getD .skip
noncomputable def D_spec_l2Op : Code := Try.f41.body.getD .skip
noncomputable def N_spec_l2Op (_ : outs E_spec_l2Op.params) (r : dens E_spec_l2Op.results) : E_spec_l2Op.B := r

-- spec.l6Identity
noncomputable def E_spec_l6Identity : Entry where
  params := [.v .int]
  results := [.mv .int 0]
  B := (List Int)
  run := fun a => spec_l6Identity a
  out := fun b => ()
  res := fun b => b

noncomputable def S_spec_l6Identity_L3 (n : Nat) : LoopSpec where
  sh := [(0, .v .int), (3, .mv .int 0), (4, .v .int)]
  ex := [(.exit 0, [(3, .mv .int 0)])]
  run := spec_l6Identity_L3 n

noncomputable def C_spec_l6Identity : Cx where
  tt := tblTT tt
  T := tblT []
  L := tblL [(3, S_spec_l6Identity_L3 fuel)]
  dep := fun i => 0
  n := 1

noncomputable def B_spec_l6Identity_L3 : Code := (Try.f49.body.bind (loopBody 3)).getD .skip
noncomputable def D_spec_l6Identity : Code := Try.f49.body.getD .skip
noncomputable def N_spec_l6Identity (_ : outs E_spec_l6Identity.params) (r : dens E_spec_l6Identity.results) : E_spec_l6Identity.B := r

-- spec.l20Full
noncomputable def E_spec_l20Full : Entry where
  params := [.v (.pair .int (.pair .int (.slice (.pair (.slice .int) (.pair .int (.slice (.slice .int)))))))]
  results := [.mv (.slice .int) 0]
  B := (List (List Int))
  run := fun a => spec_l20Full a
  out := fun b => ()
  res := fun b => b

noncomputable def S_spec_l20Full_L3 (n : Nat) : LoopSpec where
  sh := [(1, .bx (.v (.pair .int (.pair .int (.slice (.pair (.slice .int) (.pair .int (.slice (.slice .int))))))))), (3, .mv (.slice .int) 0), (4, .v .int)]
  ex := [(.exit 0, [(3, .mv (.slice .int) 0)])]
  run := spec_l20Full_L3 n

noncomputable def C_spec_l20Full : Cx where
  tt := tblTT tt
  T := tblT [(49, E_spec_l6Identity)]
  L := tblL [(3, S_spec_l20Full_L3 fuel)]
  dep := fun i => 0
  n := 1

noncomputable def B_spec_l20Full_L3 : Code := (Try.f29.body.bind (loopBody 3)).getD .skip
noncomputable def D_spec_l20Full : Code := Try.f29.body.getD .skip
noncomputable def N_spec_l20Full (_ : outs E_spec_l20Full.params) (r : dens E_spec_l20Full.results) : E_spec_l20Full.B := r

-- spec.l1Has
noncomputable def E_spec_l1Has : Entry where
  params := [.v (.slice .int), .v .int]
  results := [.v .bool]
  B := Bool
  run := fun a => spec_l1Has a.1 a.2
  out := fun b => ((), ())
  res := fun b => b

noncomputable def S_spec_l1Has_L2 (n : Nat) : LoopSpec where
  sh := [(0, .v (.slice .int)), (1, .v .int), (5, .v .int)]
  ex := [(.exit 0, []), (.ret, [(4, .v .bool)])]
  run := spec_l1Has_L2 n

noncomputable def C_spec_l1Has : Cx where
  tt := tblTT tt
  T := tblT []
  L := tblL [(2, S_spec_l1Has_L2 fuel)]
  dep := fun i => 0
  n := 2

noncomputable def B_spec_l1Has_L2 : Code := (Try.f76.body.bind (loopBody 2)).getD .skip
noncomputable def D_spec_l1Has : Code := Try.f76.body.getD .skip
noncomputable def N_spec_l1Has (_ : outs E_spec_l1Has.params) (r : dens E_spec_l1Has.results) : E_spec_l1Has.B := r

-- spec.l20Fits
noncomputable def E_spec_l20Fits : Entry where
  params := [.v (.pair (.slice .int) (.pair .int (.slice (.slice .int)))), .v (.slice .int), .v (.slice (.slice .int))]
  results := [.v .bool]
  B := Bool
  run := fun a => spec_l20Fits a.1 a.2.1 a.2.2
  out := fun b => ((), (), ())
  res := fun b => b

noncomputable def S_spec_l20Fits_L7 (n : Nat) : LoopSpec where
  sh := [(1, .v (.slice .int)), (2, .v (.slice (.slice .int))), (3, .bx (.v (.pair (.slice .int) (.pair .int (.slice (.slice .int)))))), (7, .v .int), (8, .v .int)]
  ex := [(.exit 2, [(1, .v (.slice .int)), (2, .v (.slice (.slice .int))), (3, .bx (.v (.pair (.slice .int) (.pair .int (.slice (.slice .int)))))), (7, .v .int)]), (.ret, [(6, .v .bool)])]
  run := spec_l20Fits_L7 n

noncomputable def S_spec_l20Fits_L2 (n : Nat) : LoopSpec where
  sh := [(1, .v (.slice .int)), (2, .v (.slice (.slice .int))), (3, .bx (.v (.pair (.slice .int) (.pair .int (.slice (.slice .int)))))), (7, .v .int)]
  ex := [(.exit 0, []), (.ret, [(6, .v .bool)])]
  run := spec_l20Fits_L2 n

noncomputable def C_spec_l20Fits : Cx where
  tt := tblTT tt
  T := tblT [(76, E_spec_l1Has)]
  L := tblL [(7, S_spec_l20Fits_L7 fuel), (2, S_spec_l20Fits_L2 fuel)]
  dep := fun i => 0
  n := 3

noncomputable def B_spec_l20Fits_L7 : Code := (Try.f68.body.bind (loopBody 7)).getD .skip
noncomputable def B_spec_l20Fits_L2 : Code := (Try.f68.body.bind (loopBody 2)).getD .skip
noncomputable def D_spec_l20Fits : Code := Try.f68.body.getD .skip
noncomputable def N_spec_l20Fits (_ : outs E_spec_l20Fits.params) (r : dens E_spec_l20Fits.results) : E_spec_l20Fits.B := r

-- spec.l20Support
noncomputable def E_spec_l20Support : Entry where
  params := [.v (.pair (.slice .int) (.pair .int (.slice (.slice .int)))), .v .int, .v .int, .v (.slice (.slice .int))]
  results := [.v .bool]
  B := Bool
  run := fun a => spec_l20Support a.1 a.2.1 a.2.2.1 a.2.2.2
  out := fun b => ((), (), (), ())
  res := fun b => b

noncomputable def S_spec_l20Support_L2 (n : Nat) : LoopSpec where
  sh := [(1, .v .int), (2, .v .int), (3, .v (.slice (.slice .int))), (4, .bx (.v (.pair (.slice .int) (.pair .int (.slice (.slice .int)))))), (9, .v .int)]
  ex := [(.exit 0, []), (.ret, [(8, .v .bool)])]
  run := spec_l20Support_L2 n

noncomputable def C_spec_l20Support : Cx where
  tt := tblTT tt
  T := tblT [(68, E_spec_l20Fits)]
  L := tblL [(2, S_spec_l20Support_L2 fuel)]
  dep := fun i => 0
  n := 4

noncomputable def B_spec_l20Support_L2 : Code := (Try.f50.body.bind (loopBody 2)).getD .skip
noncomputable def D_spec_l20Support : Code := Try.f50.body.getD .skip
noncomputable def N_spec_l20Support (_ : outs E_spec_l20Support.params) (r : dens E_spec_l20Support.results) : E_spec_l20Support.B := r

-- spec.l20Without
noncomputable def E_spec_l20Without : Entry where
  params := [.v (.slice .int), .v .int]
  results := [.mv .int 0]
  B := (List Int)
  run := fun a => spec_l20Without a.1 a.2
  out := fun b => ((), ())
  res := fun b => b

noncomputable def S_spec_l20Without_L3 (n : Nat) : LoopSpec where
  sh := [(0, .v (.slice .int)), (1, .v .int), (5, .mv .int 0), (6, .v .int)]
  ex := [(.exit 0, [(5, .mv .int 0)])]
  run := spec_l20Without_L3 n

noncomputable def C_spec_l20Without : Cx where
  tt := tblTT tt
  T := tblT []
  L := tblL [(3, S_spec_l20Without_L3 fuel)]
  dep := fun i => 0
  n := 2

noncomputable def B_spec_l20Without_L3 : Code := (Try.f51.body.bind (loopBody 3)).getD .skip
noncomputable def D_spec_l20Without : Code := Try.f51.body.getD .skip
noncomputable def N_spec_l20Without (_ : outs E_spec_l20Without.params) (r : dens E_spec_l20Without.results) : E_spec_l20Without.B := r

-- spec.l20Arc
noncomputable def E_spec_l20Arc : Entry where
  params := [.v (.pair .int (.pair .int (.slice (.pair (.slice .int) (.pair .int (.slice (.slice .int))))))), .v (.slice (.slice .int))]
  results := [.mv (.slice .int) 0, .mv (.pair .int (.pair .int .int)) 0]
  B := (List (List Int)) × (List (Int × Int × Int))
  run := fun a => spec_l20Arc a.1 a.2
  out := fun b => ((), ())
  res := fun b => (b.1, b.2)

noncomputable def S_spec_l20Arc_L15 (n : Nat) : LoopSpec where
  sh := [(2, .bx (.v (.pair .int (.pair .int (.slice (.pair (.slice .int) (.pair .int (.slice (.slice .int))))))))), (6, .mv (.pair .int (.pair .int .int)) 0), (7, .mv (.slice .int) 0), (8, .v .int), (9, .v .int), (10, .bx (.v (.pair (.slice .int) (.pair .int (.slice (.slice .int)))))), (11, .v .int), (12, .v (.slice .int)), (13, .v .int)]
  ex := [(.exit 6, [(2, .bx (.v (.pair .int (.pair .int (.slice (.pair (.slice .int) (.pair .int (.slice (.slice .int))))))))), (6, .mv (.pair .int (.pair .int .int)) 0), (7, .mv (.slice .int) 0), (8, .v .int), (9, .v .int), (10, .bx (.v (.pair (.slice .int) (.pair .int (.slice (.slice .int)))))), (11, .v .int)])]
  run := spec_l20Arc_L15 n

noncomputable def S_spec_l20Arc_L11 (n : Nat) : LoopSpec where
  sh := [(2, .bx (.v (.pair .int (.pair .int (.slice (.pair (.slice .int) (.pair .int (.slice (.slice .int))))))))), (6, .mv (.pair .int (.pair .int .int)) 0), (7, .mv (.slice .int) 0), (8, .v .int), (9, .v .int), (10, .bx (.v (.pair (.slice .int) (.pair .int (.slice (.slice .int)))))), (11, .v .int)]
  ex := [(.exit 4, [(2, .bx (.v (.pair .int (.pair .int (.slice (.pair (.slice .int) (.pair .int (.slice (.slice .int))))))))), (6, .mv (.pair .int (.pair .int .int)) 0), (7, .mv (.slice .int) 0), (8, .v .int), (9, .v .int)])]
  run := spec_l20Arc_L11 n

noncomputable def S_spec_l20Arc_L7 (n : Nat) : LoopSpec where
  sh := [(2, .bx (.v (.pair .int (.pair .int (.slice (.pair (.slice .int) (.pair .int (.slice (.slice .int))))))))), (6, .mv (.pair .int (.pair .int .int)) 0), (7, .mv (.slice .int) 0), (8, .v .int), (9, .v .int)]
  ex := [(.exit 2, [(2, .bx (.v (.pair .int (.pair .int (.slice (.pair (.slice .int) (.pair .int (.slice (.slice .int))))))))), (6, .mv (.pair .int (.pair .int .int)) 0), (7, .mv (.slice .int) 0), (8, .v .int)])]
  run := spec_l20Arc_L7 n

noncomputable def S_spec_l20Arc_L4 (n : Nat) : LoopSpec where
  sh := [(2, .bx (.v (.pair .int (.pair .int (.slice (.pair (.slice .int) (.pair .int (.slice (.slice .int))))))))), (6, .mv (.pair .int (.pair .int .int)) 0), (7, .mv (.slice .int) 0), (8, .v .int)]
  ex := [(.exit 0, [(6, .mv (.pair .int (.pair .int .int)) 0), (7, .mv (.slice .int) 0)]), (.ret, [(4, .mv (.slice .int) 0), (5, .mv (.pair .int (.pair .int .int)) 0)])]
  run := spec_l20Arc_L4 n

noncomputable def C_spec_l20Arc : Cx where
  tt := tblTT tt
  T := tblT [(50, E_spec_l20Support), (51, E_spec_l20Without)]
  L := tblL [(15, S_spec_l20Arc_L15 fuel), (11, S_spec_l20Arc_L11 fuel), (7, S_spec_l20Arc_L7 fuel), (4, S_spec_l20Arc_L4 fuel)]
  dep := fun i => 0
  n := 2

noncomputable def B_spec_l20Arc_L15 : Code := (Try.f30.body.bind (loopBody 15)).getD .skip
noncomputable def B_spec_l20Arc_L11 : Code := (Try.f30.body.bind (loopBody 11)).getD .skip
noncomputable def B_spec_l20Arc_L7 : Code := (Try.f30.body.bind (loopBody 7)).getD .skip
noncomputable def B_spec_l20Arc_L4 : Code := (Try.f30.body.bind (loopBody 4)).getD .skip
noncomputable def D_spec_l20Arc : Code := Try.f30.body.getD .skip
noncomputable def N_spec_l20Arc (_ : outs E_spec_l20Arc.params) (r : dens E_spec_l20Arc.results) : E_spec_l20Arc.B := (r.1, r.2)

-- spec.FoldedSolution
noncomputable def E_spec_FoldedSolution : Entry where
  params := [.v (.pair .int (.pair .int (.slice (.pair (.slice .int) (.pair .int (.slice (.slice .int))))))), .v (.pair .int (.slice .int))]
  results := [.mv .int 0, .v .bool]
  B := (List Int) × Bool
  run := fun a => spec_FoldedSolution a.1 a.2
  out := fun b => ((), ())
  res := fun b => (b.1, b.2)

noncomputable def S_spec_FoldedSolution_L12 (n : Nat) : LoopSpec where
  sh := [(2, .bx (.v (.pair .int (.pair .int (.slice (.pair (.slice .int) (.pair .int (.slice (.slice .int))))))))), (3, .bx (.v (.pair .int (.slice .int)))), (6, .mv (.slice .int) 0), (8, .mv .int 0), (9, .v .int), (10, .v .int), (11, .v .int)]
  ex := [(.exit 2, [(2, .bx (.v (.pair .int (.pair .int (.slice (.pair (.slice .int) (.pair .int (.slice (.slice .int))))))))), (3, .bx (.v (.pair .int (.slice .int)))), (6, .mv (.slice .int) 0), (8, .mv .int 0), (9, .v .int), (10, .v .int)])]
  run := spec_FoldedSolution_L12 n

noncomputable def S_spec_FoldedSolution_L6 (n : Nat) : LoopSpec where
  sh := [(2, .bx (.v (.pair .int (.pair .int (.slice (.pair (.slice .int) (.pair .int (.slice (.slice .int))))))))), (3, .bx (.v (.pair .int (.slice .int)))), (6, .mv (.slice .int) 0), (8, .mv .int 0), (9, .v .int)]
  ex := [(.exit 0, [(8, .mv .int 0)]), (.ret, [(4, .mv .int 0), (5, .v .bool)])]
  run := spec_FoldedSolution_L6 n

noncomputable def C_spec_FoldedSolution : Cx where
  tt := tblTT tt
  T := tblT [(27, E_spec_l19Good), (29, E_spec_l20Full), (30, E_spec_l20Arc), (41, E_spec_l2Op)]
  L := tblL [(12, S_spec_FoldedSolution_L12 fuel), (6, S_spec_FoldedSolution_L6 fuel)]
  dep := fun i => 0
  n := 2

noncomputable def B_spec_FoldedSolution_L12 : Code := (Try.f16.body.bind (loopBody 12)).getD .skip
noncomputable def B_spec_FoldedSolution_L6 : Code := (Try.f16.body.bind (loopBody 6)).getD .skip
noncomputable def D_spec_FoldedSolution : Code := Try.f16.body.getD .skip
noncomputable def N_spec_FoldedSolution (_ : outs E_spec_FoldedSolution.params) (r : dens E_spec_FoldedSolution.results) : E_spec_FoldedSolution.B := (r.1, r.2)

-- impl.isTemplateSize
noncomputable def E_impl_isTemplateSize : Entry where
  params := [.v .int]
  results := [.v .bool]
  B := Bool
  run := fun a => impl_isTemplateSize a
  out := fun b => ()
  res := fun b => b

noncomputable def C_impl_isTemplateSize : Cx where
  tt := tblTT tt
  T := tblT []
  L := tblL []
  dep := fun i => 0
  n := 1

noncomputable def D_impl_isTemplateSize : Code := Try.f54.body.getD .skip
noncomputable def N_impl_isTemplateSize (_ : outs E_impl_isTemplateSize.params) (r : dens E_impl_isTemplateSize.results) : E_impl_isTemplateSize.B := r

-- impl.inSize
noncomputable def E_impl_inSize : Entry where
  params := [.v (.slice .int), .v .int]
  results := [.v .bool]
  B := Bool
  run := fun a => impl_inSize a.1 a.2
  out := fun b => ((), ())
  res := fun b => b

noncomputable def S_impl_inSize_L2 (n : Nat) : LoopSpec where
  sh := [(1, .v .int), (7, .v (.slice .int)), (8, .v .int), (9, .v .int)]
  ex := [(.exit 0, []), (.ret, [(4, .v .bool)])]
  run := impl_inSize_L2 n

noncomputable def C_impl_inSize : Cx where
  tt := tblTT tt
  T := tblT []
  L := tblL [(2, S_impl_inSize_L2 fuel)]
  dep := fun i => 0
  n := 2

noncomputable def B_impl_inSize_L2 : Code := (Try.f61.body.bind (loopBody 2)).getD .skip
noncomputable def D_impl_inSize : Code := Try.f61.body.getD .skip
noncomputable def N_impl_inSize (_ : outs E_impl_inSize.params) (r : dens E_impl_inSize.results) : E_impl_inSize.B := r

-- impl.compareLists
noncomputable def E_impl_compareLists : Entry where
  params := [.v (.slice .int), .v (.slice .int)]
  results := [.v .int]
  B := Int
  run := fun a => impl_compareLists a.1 a.2
  out := fun b => ((), ())
  res := fun b => b

noncomputable def S_impl_compareLists_L2 (n : Nat) : LoopSpec where
  sh := [(0, .v (.slice .int)), (1, .v (.slice .int)), (5, .v .int)]
  ex := [(.exit 0, [(0, .v (.slice .int)), (1, .v (.slice .int))]), (.ret, [(4, .v .int)])]
  run := impl_compareLists_L2 n

noncomputable def C_impl_compareLists : Cx where
  tt := tblTT tt
  T := tblT []
  L := tblL [(2, S_impl_compareLists_L2 fuel)]
  dep := fun i => 0
  n := 2

noncomputable def B_impl_compareLists_L2 : Code := (Try.f78.body.bind (loopBody 2)).getD .skip
noncomputable def D_impl_compareLists : Code := Try.f78.body.getD .skip
noncomputable def N_impl_compareLists (_ : outs E_impl_compareLists.params) (r : dens E_impl_compareLists.results) : E_impl_compareLists.B := r

-- impl.isRelation
noncomputable def E_impl_isRelation : Entry where
  params := [.v .int, .v (.pair .int (.slice (.slice .int)))]
  results := [.v .bool]
  B := Bool
  run := fun a => impl_isRelation a.1 a.2
  out := fun b => ((), ())
  res := fun b => b

noncomputable def S_impl_isRelation_L4 (n : Nat) : LoopSpec where
  sh := [(0, .v .int), (3, .bx (.v (.pair .int (.slice (.slice .int))))), (16, .v (.slice (.slice .int))), (17, .v .int), (18, .v .int)]
  ex := [(.exit 0, []), (.ret, [(4, .v .bool)])]
  run := impl_isRelation_L4 n

noncomputable def C_impl_isRelation : Cx where
  tt := tblTT tt
  T := tblT [(61, E_impl_inSize), (78, E_impl_compareLists)]
  L := tblL [(4, S_impl_isRelation_L4 fuel)]
  dep := fun i => 0
  n := 2

noncomputable def B_impl_isRelation_L4 : Code := (Try.f70.body.bind (loopBody 4)).getD .skip
noncomputable def D_impl_isRelation : Code := Try.f70.body.getD .skip
noncomputable def N_impl_isRelation (_ : outs E_impl_isRelation.params) (r : dens E_impl_isRelation.results) : E_impl_isRelation.B := r

-- impl.isConstraint
noncomputable def E_impl_isConstraint : Entry where
  params := [.v .int, .v .int, .v (.pair (.slice .int) (.pair .int (.slice (.slice .int))))]
  results := [.v .bool]
  B := Bool
  run := fun a => impl_isConstraint a.1 a.2.1 a.2.2
  out := fun b => ((), (), ())
  res := fun b => b

noncomputable def C_impl_isConstraint : Cx where
  tt := tblTT tt
  T := tblT [(61, E_impl_inSize), (70, E_impl_isRelation)]
  L := tblL []
  dep := fun i => 0
  n := 3

noncomputable def D_impl_isConstraint : Code := Try.f55.body.getD .skip
noncomputable def N_impl_isConstraint (_ : outs E_impl_isConstraint.params) (r : dens E_impl_isConstraint.results) : E_impl_isConstraint.B := r

-- impl.IsNetwork
noncomputable def E_impl_IsNetwork : Entry where
  params := [.v (.pair .int (.pair .int (.slice (.pair (.slice .int) (.pair .int (.slice (.slice .int)))))))]
  results := [.v .bool]
  B := Bool
  run := fun a => impl_IsNetwork a
  out := fun b => ()
  res := fun b => b

noncomputable def S_impl_IsNetwork_L4 (n : Nat) : LoopSpec where
  sh := [(1, .bx (.v (.pair .int (.pair .int (.slice (.pair (.slice .int) (.pair .int (.slice (.slice .int))))))))), (26, .v (.slice (.pair (.slice .int) (.pair .int (.slice (.slice .int)))))), (27, .v .int), (28, .v .int)]
  ex := [(.exit 0, []), (.ret, [(2, .v .bool)])]
  run := impl_IsNetwork_L4 n

noncomputable def C_impl_IsNetwork : Cx where
  tt := tblTT tt
  T := tblT [(54, E_impl_isTemplateSize), (55, E_impl_isConstraint)]
  L := tblL [(4, S_impl_IsNetwork_L4 fuel)]
  dep := fun i => 0
  n := 1

noncomputable def B_impl_IsNetwork_L4 : Code := (Try.f33.body.bind (loopBody 4)).getD .skip
noncomputable def D_impl_IsNetwork : Code := Try.f33.body.getD .skip
noncomputable def N_impl_IsNetwork (_ : outs E_impl_IsNetwork.params) (r : dens E_impl_IsNetwork.results) : E_impl_IsNetwork.B := r

-- impl.power
noncomputable def E_impl_power : Entry where
  params := [.v .int, .v .int]
  results := [.v .int]
  B := Int
  run := fun a => impl_power a.1 a.2
  out := fun b => ((), ())
  res := fun b => b

noncomputable def S_impl_power_L2 (n : Nat) : LoopSpec where
  sh := [(0, .v .int), (1, .v .int), (5, .v .int)]
  ex := [(.exit 0, [(5, .v .int)])]
  run := impl_power_L2 n

noncomputable def C_impl_power : Cx where
  tt := tblTT tt
  T := tblT []
  L := tblL [(2, S_impl_power_L2 fuel)]
  dep := fun i => 0
  n := 2

noncomputable def B_impl_power_L2 : Code := (Try.f60.body.bind (loopBody 2)).getD .skip
noncomputable def D_impl_power : Code := Try.f60.body.getD .skip
noncomputable def N_impl_power (_ : outs E_impl_power.params) (r : dens E_impl_power.results) : E_impl_power.B := r

-- impl.isOp
noncomputable def E_impl_isOp : Entry where
  params := [.v (.pair .int (.slice .int)), .v .int]
  results := [.v .bool]
  B := Bool
  run := fun a => impl_isOp a.1 a.2
  out := fun b => ((), ())
  res := fun b => b

noncomputable def C_impl_isOp : Cx where
  tt := tblTT tt
  T := tblT [(60, E_impl_power), (61, E_impl_inSize)]
  L := tblL []
  dep := fun i => 0
  n := 2

noncomputable def D_impl_isOp : Code := Try.f43.body.getD .skip
noncomputable def N_impl_isOp (_ : outs E_impl_isOp.params) (r : dens E_impl_isOp.results) : E_impl_isOp.B := r

-- impl.wholeDomains
noncomputable def E_impl_wholeDomains : Entry where
  params := [.v (.pair .int (.pair .int (.slice (.pair (.slice .int) (.pair .int (.slice (.slice .int)))))))]
  results := [.mv (.slice .bool) 1]
  B := (List (List Bool))
  run := fun a => impl_wholeDomains a
  out := fun b => ()
  res := fun b => b

noncomputable def S_impl_wholeDomains_L7 (n : Nat) : LoopSpec where
  sh := [(1, .bx (.v (.pair .int (.pair .int (.slice (.pair (.slice .int) (.pair .int (.slice (.slice .int))))))))), (3, .mv (.slice .bool) 1), (4, .v .int), (10, .v .int), (11, .v .int), (24, .v .int), (25, .v .int)]
  ex := [(.exit 2, [(1, .bx (.v (.pair .int (.pair .int (.slice (.pair (.slice .int) (.pair .int (.slice (.slice .int))))))))), (3, .mv (.slice .bool) 1), (10, .v .int), (11, .v .int)])]
  run := impl_wholeDomains_L7 n

noncomputable def S_impl_wholeDomains_L3 (n : Nat) : LoopSpec where
  sh := [(1, .bx (.v (.pair .int (.pair .int (.slice (.pair (.slice .int) (.pair .int (.slice (.slice .int))))))))), (3, .mv (.slice .bool) 1), (10, .v .int), (11, .v .int)]
  ex := [(.exit 0, [(3, .mv (.slice .bool) 1)])]
  run := impl_wholeDomains_L3 n

noncomputable def C_impl_wholeDomains : Cx where
  tt := tblTT tt
  T := tblT []
  L := tblL [(7, S_impl_wholeDomains_L7 fuel), (3, S_impl_wholeDomains_L3 fuel)]
  dep := fun i => match i with
    | 8 => 1
    | _ => 0
  n := 1

noncomputable def B_impl_wholeDomains_L7 : Code := (Try.f34.body.bind (loopBody 7)).getD .skip
noncomputable def B_impl_wholeDomains_L3 : Code := (Try.f34.body.bind (loopBody 3)).getD .skip
noncomputable def D_impl_wholeDomains : Code := Try.f34.body.getD .skip
noncomputable def N_impl_wholeDomains (_ : outs E_impl_wholeDomains.params) (r : dens E_impl_wholeDomains.results) : E_impl_wholeDomains.B := r

-- impl.agrees
noncomputable def E_impl_agrees : Entry where
  params := [.v (.slice .int), .v (.slice .int)]
  results := [.v .bool]
  B := Bool
  run := fun a => impl_agrees a.1 a.2
  out := fun b => ((), ())
  res := fun b => b

noncomputable def S_impl_agrees_L5 (n : Nat) : LoopSpec where
  sh := [(0, .v (.slice .int)), (1, .v (.slice .int)), (5, .v .int), (6, .v .int), (9, .v (.slice .int)), (10, .v .int), (11, .v .int), (18, .v (.slice .int)), (19, .v .int), (20, .v .int)]
  ex := [(.exit 2, [(0, .v (.slice .int)), (1, .v (.slice .int)), (9, .v (.slice .int)), (10, .v .int), (11, .v .int)]), (.ret, [(4, .v .bool)])]
  run := impl_agrees_L5 n

noncomputable def S_impl_agrees_L2 (n : Nat) : LoopSpec where
  sh := [(0, .v (.slice .int)), (1, .v (.slice .int)), (9, .v (.slice .int)), (10, .v .int), (11, .v .int)]
  ex := [(.exit 0, []), (.ret, [(4, .v .bool)])]
  run := impl_agrees_L2 n

noncomputable def C_impl_agrees : Cx where
  tt := tblTT tt
  T := tblT []
  L := tblL [(5, S_impl_agrees_L5 fuel), (2, S_impl_agrees_L2 fuel)]
  dep := fun i => 0
  n := 2

noncomputable def B_impl_agrees_L5 : Code := (Try.f71.body.bind (loopBody 5)).getD .skip
noncomputable def B_impl_agrees_L2 : Code := (Try.f71.body.bind (loopBody 2)).getD .skip
noncomputable def D_impl_agrees : Code := Try.f71.body.getD .skip
noncomputable def N_impl_agrees (_ : outs E_impl_agrees.params) (r : dens E_impl_agrees.results) : E_impl_agrees.B := r

-- impl.domains).supports
noncomputable def E_impl_domains_supports : Entry where
  params := [.v (.slice (.slice .bool)), .v (.pair (.slice .int) (.pair .int (.slice (.slice .int)))), .v .int, .v .int]
  results := [.v .bool]
  B := Bool
  run := fun a => impl_domains_supports a.1 a.2.1 a.2.2.1 a.2.2.2
  out := fun b => ((), (), (), ())
  res := fun b => b

noncomputable def S_impl_domains_supports_L7 (n : Nat) : LoopSpec where
  sh := [(0, .v (.slice (.slice .bool))), (2, .v .int), (3, .v .int), (5, .bx (.v (.pair (.slice .int) (.pair .int (.slice (.slice .int)))))), (11, .v .bool), (16, .v (.slice (.slice .int))), (17, .v .int), (18, .v .int), (35, .v (.slice .int)), (36, .v .int), (37, .v .int)]
  ex := [(.exit 2, [(0, .v (.slice (.slice .bool))), (2, .v .int), (3, .v .int), (5, .bx (.v (.pair (.slice .int) (.pair .int (.slice (.slice .int)))))), (11, .v .bool), (16, .v (.slice (.slice .int))), (17, .v .int), (18, .v .int)])]
  run := impl_domains_supports_L7 n

noncomputable def S_impl_domains_supports_L2 (n : Nat) : LoopSpec where
  sh := [(0, .v (.slice (.slice .bool))), (2, .v .int), (3, .v .int), (5, .bx (.v (.pair (.slice .int) (.pair .int (.slice (.slice .int)))))), (16, .v (.slice (.slice .int))), (17, .v .int), (18, .v .int)]
  ex := [(.exit 0, []), (.ret, [(8, .v .bool)])]
  run := impl_domains_supports_L2 n

noncomputable def C_impl_domains_supports : Cx where
  tt := tblTT tt
  T := tblT [(71, E_impl_agrees)]
  L := tblL [(7, S_impl_domains_supports_L7 fuel), (2, S_impl_domains_supports_L2 fuel)]
  dep := fun i => 0
  n := 4

noncomputable def B_impl_domains_supports_L7 : Code := (Try.f56.body.bind (loopBody 7)).getD .skip
noncomputable def B_impl_domains_supports_L2 : Code := (Try.f56.body.bind (loopBody 2)).getD .skip
noncomputable def D_impl_domains_supports : Code := Try.f56.body.getD .skip
noncomputable def N_impl_domains_supports (_ : outs E_impl_domains_supports.params) (r : dens E_impl_domains_supports.results) : E_impl_domains_supports.B := r

-- impl.domains).reduce
noncomputable def E_impl_domains_reduce : Entry where
  params := [.io (.slice .bool) 1, .v (.pair .int (.pair .int (.slice (.pair (.slice .int) (.pair .int (.slice (.slice .int)))))))]
  results := [.mv (.pair .int (.pair .int .int)) 0]
  B := (List (List Bool)) × (List (Int × Int × Int))
  run := fun a => impl_domains_reduce a.1 a.2
  out := fun b => (b.1, ())
  res := fun b => b.2

noncomputable def S_impl_domains_reduce_L12 (n : Nat) : LoopSpec where
  sh := [(0, .io (.slice .bool) 1), (3, .bx (.v (.pair .int (.pair .int (.slice (.pair (.slice .int) (.pair .int (.slice (.slice .int))))))))), (5, .mv (.pair .int (.pair .int .int)) 0), (6, .v .bool), (7, .v .int), (8, .bx (.v (.pair (.slice .int) (.pair .int (.slice (.slice .int)))))), (9, .v .int), (10, .v .int), (15, .v (.slice (.pair (.slice .int) (.pair .int (.slice (.slice .int)))))), (16, .v .int), (17, .v .int), (23, .v (.slice .int)), (24, .v .int), (25, .v .int), (34, .v .int), (35, .v .int)]
  ex := [(.exit 6, [(0, .io (.slice .bool) 1), (3, .bx (.v (.pair .int (.pair .int (.slice (.pair (.slice .int) (.pair .int (.slice (.slice .int))))))))), (5, .mv (.pair .int (.pair .int .int)) 0), (6, .v .bool), (7, .v .int), (8, .bx (.v (.pair (.slice .int) (.pair .int (.slice (.slice .int)))))), (15, .v (.slice (.pair (.slice .int) (.pair .int (.slice (.slice .int)))))), (16, .v .int), (17, .v .int), (23, .v (.slice .int)), (24, .v .int), (25, .v .int)])]
  run := impl_domains_reduce_L12 n

noncomputable def S_impl_domains_reduce_L9 (n : Nat) : LoopSpec where
  sh := [(0, .io (.slice .bool) 1), (3, .bx (.v (.pair .int (.pair .int (.slice (.pair (.slice .int) (.pair .int (.slice (.slice .int))))))))), (5, .mv (.pair .int (.pair .int .int)) 0), (6, .v .bool), (7, .v .int), (8, .bx (.v (.pair (.slice .int) (.pair .int (.slice (.slice .int)))))), (15, .v (.slice (.pair (.slice .int) (.pair .int (.slice (.slice .int)))))), (16, .v .int), (17, .v .int), (23, .v (.slice .int)), (24, .v .int), (25, .v .int)]
  ex := [(.exit 4, [(0, .io (.slice .bool) 1), (3, .bx (.v (.pair .int (.pair .int (.slice (.pair (.slice .int) (.pair .int (.slice (.slice .int))))))))), (5, .mv (.pair .int (.pair .int .int)) 0), (6, .v .bool), (15, .v (.slice (.pair (.slice .int) (.pair .int (.slice (.slice .int)))))), (16, .v .int), (17, .v .int)])]
  run := impl_domains_reduce_L9 n

noncomputable def S_impl_domains_reduce_L6 (n : Nat) : LoopSpec where
  sh := [(0, .io (.slice .bool) 1), (3, .bx (.v (.pair .int (.pair .int (.slice (.pair (.slice .int) (.pair .int (.slice (.slice .int))))))))), (5, .mv (.pair .int (.pair .int .int)) 0), (6, .v .bool), (15, .v (.slice (.pair (.slice .int) (.pair .int (.slice (.slice .int)))))), (16, .v .int), (17, .v .int)]
  ex := [(.exit 2, [(0, .io (.slice .bool) 1), (3, .bx (.v (.pair .int (.pair .int (.slice (.pair (.slice .int) (.pair .int (.slice (.slice .int))))))))), (5, .mv (.pair .int (.pair .int .int)) 0), (6, .v .bool)])]
  run := impl_domains_reduce_L6 n

noncomputable def S_impl_domains_reduce_L3 (n : Nat) : LoopSpec where
  sh := [(0, .io (.slice .bool) 1), (3, .bx (.v (.pair .int (.pair .int (.slice (.pair (.slice .int) (.pair .int (.slice (.slice .int))))))))), (5, .mv (.pair .int (.pair .int .int)) 0), (6, .v .bool)]
  ex := [(.exit 0, [(0, .io (.slice .bool) 1), (5, .mv (.pair .int (.pair .int .int)) 0)])]
  run := impl_domains_reduce_L3 n

noncomputable def C_impl_domains_reduce : Cx where
  tt := tblTT tt
  T := tblT [(56, E_impl_domains_supports)]
  L := tblL [(12, S_impl_domains_reduce_L12 fuel), (9, S_impl_domains_reduce_L9 fuel), (6, S_impl_domains_reduce_L6 fuel), (3, S_impl_domains_reduce_L3 fuel)]
  dep := fun i => 0
  n := 2

noncomputable def B_impl_domains_reduce_L12 : Code := (Try.f36.body.bind (loopBody 12)).getD .skip
noncomputable def B_impl_domains_reduce_L9 : Code := (Try.f36.body.bind (loopBody 9)).getD .skip
noncomputable def B_impl_domains_reduce_L6 : Code := (Try.f36.body.bind (loopBody 6)).getD .skip
noncomputable def B_impl_domains_reduce_L3 : Code := (Try.f36.body.bind (loopBody 3)).getD .skip
noncomputable def D_impl_domains_reduce : Code := Try.f36.body.getD .skip
noncomputable def N_impl_domains_reduce (o : outs E_impl_domains_reduce.params) (r : dens E_impl_domains_reduce.results) : E_impl_domains_reduce.B := (o.1, r)

-- impl.arcDomains
noncomputable def E_impl_arcDomains : Entry where
  params := [.v (.pair .int (.pair .int (.slice (.pair (.slice .int) (.pair .int (.slice (.slice .int)))))))]
  results := [.mv (.slice .bool) 1]
  B := (List (List Bool))
  run := fun a => impl_arcDomains a
  out := fun b => ()
  res := fun b => b

noncomputable def C_impl_arcDomains : Cx where
  tt := tblTT tt
  T := tblT [(34, E_impl_wholeDomains), (36, E_impl_domains_reduce)]
  L := tblL []
  dep := fun i => 0
  n := 1

noncomputable def D_impl_arcDomains : Code := Try.f44.body.getD .skip
noncomputable def N_impl_arcDomains (_ : outs E_impl_arcDomains.params) (r : dens E_impl_arcDomains.results) : E_impl_arcDomains.B := r

-- impl.marked
noncomputable def E_impl_marked : Entry where
  params := [.v (.slice .bool)]
  results := [.mv .int 0]
  B := (List Int)
  run := fun a => impl_marked a
  out := fun b => ()
  res := fun b => b

noncomputable def S_impl_marked_L3 (n : Nat) : LoopSpec where
  sh := [(3, .mv .int 0), (7, .v (.slice .bool)), (8, .v .int), (9, .v .int)]
  ex := [(.exit 0, [(3, .mv .int 0)])]
  run := impl_marked_L3 n

noncomputable def C_impl_marked : Cx where
  tt := tblTT tt
  T := tblT []
  L := tblL [(3, S_impl_marked_L3 fuel)]
  dep := fun i => 0
  n := 1

noncomputable def B_impl_marked_L3 : Code := (Try.f57.body.bind (loopBody 3)).getD .skip
noncomputable def D_impl_marked : Code := Try.f57.body.getD .skip
noncomputable def N_impl_marked (_ : outs E_impl_marked.params) (r : dens E_impl_marked.results) : E_impl_marked.B := r

-- impl.domains).lists
noncomputable def E_impl_domains_lists : Entry where
  params := [.v (.slice (.slice .bool))]
  results := [.mv (.slice .int) 1]
  B := (List (List Int))
  run := fun a => impl_domains_lists a
  out := fun b => ()
  res := fun b => b

noncomputable def S_impl_domains_lists_L3 (n : Nat) : LoopSpec where
  sh := [(3, .mv (.slice .int) 1), (7, .v (.slice (.slice .bool))), (8, .v .int), (9, .v .int)]
  ex := [(.exit 0, [(3, .mv (.slice .int) 1)])]
  run := impl_domains_lists_L3 n

noncomputable def C_impl_domains_lists : Cx where
  tt := tblTT tt
  T := tblT [(57, E_impl_marked)]
  L := tblL [(3, S_impl_domains_lists_L3 fuel)]
  dep := fun i => match i with
    | 6 => 1
    | 16 => 1
    | 17 => 1
    | _ => 0
  n := 1

noncomputable def B_impl_domains_lists_L3 : Code := (Try.f37.body.bind (loopBody 3)).getD .skip
noncomputable def D_impl_domains_lists : Code := Try.f37.body.getD .skip
noncomputable def N_impl_domains_lists (_ : outs E_impl_domains_lists.params) (r : dens E_impl_domains_lists.results) : E_impl_domains_lists.B := r

-- impl.FoldedSolution
noncomputable def E_impl_FoldedSolution : Entry where
  params := [.v (.pair .int (.pair .int (.slice (.pair (.slice .int) (.pair .int (.slice (.slice .int))))))), .v (.pair .int (.slice .int))]
  results := [.mv .int 0, .v .bool]
  B := (List Int) × Bool
  run := fun a => impl_FoldedSolution a.1 a.2
  out := fun b => ((), ())
  res := fun b => (b.1, b.2)

noncomputable def S_impl_FoldedSolution_L11 (n : Nat) : LoopSpec where
  sh := [(2, .bx (.v (.pair .int (.pair .int (.slice (.pair (.slice .int) (.pair .int (.slice (.slice .int))))))))), (3, .bx (.v (.pair .int (.slice .int)))), (6, .mv .int 0), (9, .v .int), (31, .v (.slice (.slice .int))), (32, .v .int), (33, .v .int), (45, .v (.slice .int)), (46, .v .int), (47, .v .int)]
  ex := [(.exit 2, [(2, .bx (.v (.pair .int (.pair .int (.slice (.pair (.slice .int) (.pair .int (.slice (.slice .int))))))))), (3, .bx (.v (.pair .int (.slice .int)))), (6, .mv .int 0), (9, .v .int), (31, .v (.slice (.slice .int))), (32, .v .int), (33, .v .int)])]
  run := impl_FoldedSolution_L11 n

noncomputable def S_impl_FoldedSolution_L5 (n : Nat) : LoopSpec where
  sh := [(2, .bx (.v (.pair .int (.pair .int (.slice (.pair (.slice .int) (.pair .int (.slice (.slice .int))))))))), (3, .bx (.v (.pair .int (.slice .int)))), (6, .mv .int 0), (31, .v (.slice (.slice .int))), (32, .v .int), (33, .v .int)]
  ex := [(.exit 0, [(6, .mv .int 0)]), (.ret, [(4, .mv .int 0), (5, .v .bool)])]
  run := impl_FoldedSolution_L5 n

noncomputable def C_impl_FoldedSolution : Cx where
  tt := tblTT tt
  T := tblT [(33, E_impl_IsNetwork), (37, E_impl_domains_lists), (43, E_impl_isOp), (44, E_impl_arcDomains)]
  L := tblL [(11, S_impl_FoldedSolution_L11 fuel), (5, S_impl_FoldedSolution_L5 fuel)]
  dep := fun i => 0
  n := 2

noncomputable def B_impl_FoldedSolution_L11 : Code := (Try.f18.body.bind (loopBody 11)).getD .skip
noncomputable def B_impl_FoldedSolution_L5 : Code := (Try.f18.body.bind (loopBody 5)).getD .skip
noncomputable def D_impl_FoldedSolution : Code := Try.f18.body.getD .skip
noncomputable def N_impl_FoldedSolution (_ : outs E_impl_FoldedSolution.params) (r : dens E_impl_FoldedSolution.results) : E_impl_FoldedSolution.B := (r.1, r.2)

-- laws.eqIntS
noncomputable def E_laws_eqIntS : Entry where
  params := [.v (.slice .int), .v (.slice .int)]
  results := [.v .bool]
  B := Bool
  run := fun a => laws_eqIntS a.1 a.2
  out := fun b => ((), ())
  res := fun b => b

noncomputable def S_laws_eqIntS_L4 (n : Nat) : LoopSpec where
  sh := [(0, .v (.slice .int)), (1, .v (.slice .int)), (5, .v .int)]
  ex := [(.exit 0, []), (.ret, [(4, .v .bool)])]
  run := laws_eqIntS_L4 n

noncomputable def C_laws_eqIntS : Cx where
  tt := tblTT tt
  T := tblT []
  L := tblL [(4, S_laws_eqIntS_L4 fuel)]
  dep := fun i => 0
  n := 2

noncomputable def B_laws_eqIntS_L4 : Code := (Try.f19.body.bind (loopBody 4)).getD .skip
noncomputable def D_laws_eqIntS : Code := Try.f19.body.getD .skip
noncomputable def N_laws_eqIntS (_ : outs E_laws_eqIntS.params) (r : dens E_laws_eqIntS.results) : E_laws_eqIntS.B := r

-- laws.eqIntSS
noncomputable def E_laws_eqIntSS : Entry where
  params := [.v (.slice (.slice .int)), .v (.slice (.slice .int))]
  results := [.v .bool]
  B := Bool
  run := fun a => laws_eqIntSS a.1 a.2
  out := fun b => ((), ())
  res := fun b => b

noncomputable def S_laws_eqIntSS_L4 (n : Nat) : LoopSpec where
  sh := [(0, .v (.slice (.slice .int))), (1, .v (.slice (.slice .int))), (5, .v .int)]
  ex := [(.exit 0, []), (.ret, [(4, .v .bool)])]
  run := laws_eqIntSS_L4 n

noncomputable def C_laws_eqIntSS : Cx where
  tt := tblTT tt
  T := tblT [(19, E_laws_eqIntS)]
  L := tblL [(4, S_laws_eqIntSS_L4 fuel)]
  dep := fun i => 0
  n := 2

noncomputable def B_laws_eqIntSS_L4 : Code := (Try.f10.body.bind (loopBody 4)).getD .skip
noncomputable def D_laws_eqIntSS : Code := Try.f10.body.getD .skip
noncomputable def N_laws_eqIntSS (_ : outs E_laws_eqIntSS.params) (r : dens E_laws_eqIntSS.results) : E_laws_eqIntSS.B := r

-- laws.eqRelation
noncomputable def E_laws_eqRelation : Entry where
  params := [.v (.pair .int (.slice (.slice .int))), .v (.pair .int (.slice (.slice .int)))]
  results := [.v .bool]
  B := Bool
  run := fun a => laws_eqRelation a.1 a.2
  out := fun b => ((), ())
  res := fun b => b

noncomputable def C_laws_eqRelation : Cx where
  tt := tblTT tt
  T := tblT [(10, E_laws_eqIntSS)]
  L := tblL []
  dep := fun i => 0
  n := 2

noncomputable def D_laws_eqRelation : Code := Try.f72.body.getD .skip
noncomputable def N_laws_eqRelation (_ : outs E_laws_eqRelation.params) (r : dens E_laws_eqRelation.results) : E_laws_eqRelation.B := r

-- laws.eqConstraint
noncomputable def E_laws_eqConstraint : Entry where
  params := [.v (.pair (.slice .int) (.pair .int (.slice (.slice .int)))), .v (.pair (.slice .int) (.pair .int (.slice (.slice .int))))]
  results := [.v .bool]
  B := Bool
  run := fun a => laws_eqConstraint a.1 a.2
  out := fun b => ((), ())
  res := fun b => b

noncomputable def C_laws_eqConstraint : Cx where
  tt := tblTT tt
  T := tblT [(19, E_laws_eqIntS), (72, E_laws_eqRelation)]
  L := tblL []
  dep := fun i => 0
  n := 2

noncomputable def D_laws_eqConstraint : Code := Try.f58.body.getD .skip
noncomputable def N_laws_eqConstraint (_ : outs E_laws_eqConstraint.params) (r : dens E_laws_eqConstraint.results) : E_laws_eqConstraint.B := r

-- laws.eqConstraintS
noncomputable def E_laws_eqConstraintS : Entry where
  params := [.v (.slice (.pair (.slice .int) (.pair .int (.slice (.slice .int))))), .v (.slice (.pair (.slice .int) (.pair .int (.slice (.slice .int)))))]
  results := [.v .bool]
  B := Bool
  run := fun a => laws_eqConstraintS a.1 a.2
  out := fun b => ((), ())
  res := fun b => b

noncomputable def S_laws_eqConstraintS_L4 (n : Nat) : LoopSpec where
  sh := [(0, .v (.slice (.pair (.slice .int) (.pair .int (.slice (.slice .int)))))), (1, .v (.slice (.pair (.slice .int) (.pair .int (.slice (.slice .int)))))), (5, .v .int)]
  ex := [(.exit 0, []), (.ret, [(4, .v .bool)])]
  run := laws_eqConstraintS_L4 n

noncomputable def C_laws_eqConstraintS : Cx where
  tt := tblTT tt
  T := tblT [(58, E_laws_eqConstraint)]
  L := tblL [(4, S_laws_eqConstraintS_L4 fuel)]
  dep := fun i => 0
  n := 2

noncomputable def B_laws_eqConstraintS_L4 : Code := (Try.f38.body.bind (loopBody 4)).getD .skip
noncomputable def D_laws_eqConstraintS : Code := Try.f38.body.getD .skip
noncomputable def N_laws_eqConstraintS (_ : outs E_laws_eqConstraintS.params) (r : dens E_laws_eqConstraintS.results) : E_laws_eqConstraintS.B := r

-- laws.eqNetwork
noncomputable def E_laws_eqNetwork : Entry where
  params := [.v (.pair .int (.pair .int (.slice (.pair (.slice .int) (.pair .int (.slice (.slice .int))))))), .v (.pair .int (.pair .int (.slice (.pair (.slice .int) (.pair .int (.slice (.slice .int)))))))]
  results := [.v .bool]
  B := Bool
  run := fun a => laws_eqNetwork a.1 a.2
  out := fun b => ((), ())
  res := fun b => b

noncomputable def C_laws_eqNetwork : Cx where
  tt := tblTT tt
  T := tblT [(38, E_laws_eqConstraintS)]
  L := tblL []
  dep := fun i => 0
  n := 2

noncomputable def D_laws_eqNetwork : Code := Try.f11.body.getD .skip
noncomputable def N_laws_eqNetwork (_ : outs E_laws_eqNetwork.params) (r : dens E_laws_eqNetwork.results) : E_laws_eqNetwork.B := r

-- laws.eqOp
noncomputable def E_laws_eqOp : Entry where
  params := [.v (.pair .int (.slice .int)), .v (.pair .int (.slice .int))]
  results := [.v .bool]
  B := Bool
  run := fun a => laws_eqOp a.1 a.2
  out := fun b => ((), ())
  res := fun b => b

noncomputable def C_laws_eqOp : Cx where
  tt := tblTT tt
  T := tblT [(19, E_laws_eqIntS)]
  L := tblL []
  dep := fun i => 0
  n := 2

noncomputable def D_laws_eqOp : Code := Try.f20.body.getD .skip
noncomputable def N_laws_eqOp (_ : outs E_laws_eqOp.params) (r : dens E_laws_eqOp.results) : E_laws_eqOp.B := r

-- laws.markIntS
noncomputable def E_laws_markIntS : Entry where
  params := [.io .int 0, .v .int]
  results := [.v .int]
  B := (List Int) × Int
  run := fun a => laws_markIntS a.1 a.2
  out := fun b => (b.1, ())
  res := fun b => b.2

noncomputable def S_laws_markIntS_L2 (n : Nat) : LoopSpec where
  sh := [(0, .io .int 0), (1, .v .int), (5, .v .int)]
  ex := [(.exit 0, [(0, .io .int 0), (1, .v .int)])]
  run := laws_markIntS_L2 n

noncomputable def C_laws_markIntS : Cx where
  tt := tblTT tt
  T := tblT []
  L := tblL [(2, S_laws_markIntS_L2 fuel)]
  dep := fun i => 0
  n := 2

noncomputable def B_laws_markIntS_L2 : Code := (Try.f22.body.bind (loopBody 2)).getD .skip
noncomputable def D_laws_markIntS : Code := Try.f22.body.getD .skip
noncomputable def N_laws_markIntS (o : outs E_laws_markIntS.params) (r : dens E_laws_markIntS.results) : E_laws_markIntS.B := (o.1, r)

-- laws.markIntSS
noncomputable def E_laws_markIntSS : Entry where
  params := [.io (.slice .int) 1, .v .int]
  results := [.v .int]
  B := (List (List Int)) × Int
  run := fun a => laws_markIntSS a.1 a.2
  out := fun b => (b.1, ())
  res := fun b => b.2

noncomputable def S_laws_markIntSS_L2 (n : Nat) : LoopSpec where
  sh := [(0, .io (.slice .int) 1), (1, .v .int), (5, .v .int)]
  ex := [(.exit 0, [(0, .io (.slice .int) 1), (1, .v .int)])]
  run := laws_markIntSS_L2 n

noncomputable def C_laws_markIntSS : Cx where
  tt := tblTT tt
  T := tblT [(22, E_laws_markIntS)]
  L := tblL [(2, S_laws_markIntSS_L2 fuel)]
  dep := fun i => 0
  n := 2

noncomputable def B_laws_markIntSS_L2 : Code := (Try.f13.body.bind (loopBody 2)).getD .skip
noncomputable def D_laws_markIntSS : Code := Try.f13.body.getD .skip
noncomputable def N_laws_markIntSS (o : outs E_laws_markIntSS.params) (r : dens E_laws_markIntSS.results) : E_laws_markIntSS.B := (o.1, r)

-- laws.markConstraintS
noncomputable def E_laws_markConstraintS : Entry where
  params := [.io (.pair (.slice .int) (.pair .int (.slice (.slice .int)))) 2, .v .int]
  results := [.v .int]
  B := (List ((List Int) × Int × (List (List Int)))) × Int
  run := fun a => laws_markConstraintS a.1 a.2
  out := fun b => (b.1, ())
  res := fun b => b.2

noncomputable def S_laws_markConstraintS_L2 (n : Nat) : LoopSpec where
  sh := [(0, .io (.pair (.slice .int) (.pair .int (.slice (.slice .int)))) 2), (1, .v .int), (5, .v .int)]
  ex := [(.exit 0, [(0, .io (.pair (.slice .int) (.pair .int (.slice (.slice .int)))) 2), (1, .v .int)])]
  run := laws_markConstraintS_L2 n

noncomputable def C_laws_markConstraintS : Cx where
  tt := tblTT tt
  T := tblT [(13, E_laws_markIntSS), (22, E_laws_markIntS)]
  L := tblL [(2, S_laws_markConstraintS_L2 fuel)]
  dep := fun i => 0
  n := 2

noncomputable def B_laws_markConstraintS_L2 : Code := (Try.f39.body.bind (loopBody 2)).getD .skip
noncomputable def D_laws_markConstraintS : Code := Try.f39.body.getD .skip
noncomputable def N_laws_markConstraintS (o : outs E_laws_markConstraintS.params) (r : dens E_laws_markConstraintS.results) : E_laws_markConstraintS.B := (o.1, r)

-- laws.markNetwork
noncomputable def E_laws_markNetwork : Entry where
  params := [.pr (.v .int) (.pr (.v .int) (.io (.pair (.slice .int) (.pair .int (.slice (.slice .int)))) 2)), .v .int]
  results := [.v .int]
  B := (Unit × (Unit × (List ((List Int) × Int × (List (List Int)))))) × Int
  run := fun a => laws_markNetwork a.1 a.2
  out := fun b => (b.1, ())
  res := fun b => b.2

noncomputable def C_laws_markNetwork : Cx where
  tt := tblTT tt
  T := tblT [(39, E_laws_markConstraintS)]
  L := tblL []
  dep := fun i => 0
  n := 2

noncomputable def D_laws_markNetwork : Code := Try.f12.body.getD .skip
noncomputable def N_laws_markNetwork (o : outs E_laws_markNetwork.params) (r : dens E_laws_markNetwork.results) : E_laws_markNetwork.B := (o.1, r)

-- laws.markOp
noncomputable def E_laws_markOp : Entry where
  params := [.pr (.v .int) (.io .int 0), .v .int]
  results := [.v .int]
  B := (Unit × (List Int)) × Int
  run := fun a => laws_markOp a.1 a.2
  out := fun b => (b.1, ())
  res := fun b => b.2

noncomputable def C_laws_markOp : Cx where
  tt := tblTT tt
  T := tblT [(22, E_laws_markIntS)]
  L := tblL []
  dep := fun i => 0
  n := 2

noncomputable def D_laws_markOp : Code := Try.f21.body.getD .skip
noncomputable def N_laws_markOp (o : outs E_laws_markOp.params) (r : dens E_laws_markOp.results) : E_laws_markOp.B := (o.1, r)

-- laws.heldIntS
noncomputable def E_laws_heldIntS : Entry where
  params := [.v (.slice .int), .v .int]
  results := [.v .int]
  B := Int
  run := fun a => laws_heldIntS a.1 a.2
  out := fun b => ((), ())
  res := fun b => b

noncomputable def S_laws_heldIntS_L2 (n : Nat) : LoopSpec where
  sh := [(0, .v (.slice .int)), (1, .v .int), (5, .v .int)]
  ex := [(.exit 0, [(1, .v .int)]), (.ret, [(4, .v .int)])]
  run := laws_heldIntS_L2 n

noncomputable def C_laws_heldIntS : Cx where
  tt := tblTT tt
  T := tblT []
  L := tblL [(2, S_laws_heldIntS_L2 fuel)]
  dep := fun i => 0
  n := 2

noncomputable def B_laws_heldIntS_L2 : Code := (Try.f23.body.bind (loopBody 2)).getD .skip
noncomputable def D_laws_heldIntS : Code := Try.f23.body.getD .skip
noncomputable def N_laws_heldIntS (_ : outs E_laws_heldIntS.params) (r : dens E_laws_heldIntS.results) : E_laws_heldIntS.B := r

-- laws.FnExactFoldedSolution
noncomputable def E_laws_FnExactFoldedSolution : Entry where
  params := [.v (.pair .int (.pair .int (.slice (.pair (.slice .int) (.pair .int (.slice (.slice .int))))))), .v (.pair .int (.slice .int))]
  results := [.v .bool]
  B := Bool
  run := fun a => laws_FnExactFoldedSolution a.1 a.2
  out := fun b => ((), ())
  res := fun b => b

noncomputable def C_laws_FnExactFoldedSolution : Cx where
  tt := tblTT tt
  T := tblT [(6, E_laws_szNetwork), (8, E_laws_toNetwork), (11, E_laws_eqNetwork), (12, E_laws_markNetwork), (15, E_laws_szOp), (16, E_spec_FoldedSolution), (17, E_laws_toOp), (18, E_impl_FoldedSolution), (19, E_laws_eqIntS), (20, E_laws_eqOp), (21, E_laws_markOp), (22, E_laws_markIntS), (23, E_laws_heldIntS)]
  L := tblL []
  dep := fun i => 0
  n := 2

noncomputable def D_laws_FnExactFoldedSolution : Code := Try.f4.body.getD .skip
noncomputable def N_laws_FnExactFoldedSolution (_ : outs E_laws_FnExactFoldedSolution.params) (r : dens E_laws_FnExactFoldedSolution.results) : E_laws_FnExactFoldedSolution.B := r
end T
