/- Contexts of the typed functions; no conditions. -/
import Derived.Test.YtjggcabkdajfeaaV5
import Derived.Test.YtjggcabkdajfeaaProg
import Derived.Test.YtjggcabkdajfeaaPFnExactCoreTemplate
import Derived.KernelRfl
set_option linter.all false
set_option linter.unusedVariables false
set_option maxRecDepth 10000
open Go Go.Va Go.Proofs
namespace T
noncomputable def tt : List (Nat × TI) := [
  (2, { ty := .int }),
  (3, { ty := .int }),
  (4, { ty := .bool }),
  (5, { ty := (.num .u8) }),
  (9, { ty := .str }),
  (22, { ty := (.slice .int), elem := 3 }),
  (24, { ty := (.pair .int (.slice .int)), fields := [3, 22] }),
  (29, { ty := (.op false) }),
  (30, { ty := (.slice (.pair .int (.slice (.slice .int)))), elem := 59 }),
  (33, { ty := (.slice (.pair .int (.slice (.slice .int)))), elem := 66 }),
  (57, { ty := (.slice (.slice .int)), elem := 22 }),
  (59, { ty := (.pair .int (.slice (.slice .int))), fields := [3, 57] }),
  (64, { ty := (.pair (.slice (.slice .int)) (.pair .int .int)), fields := [57, 3, 3] }),
  (66, { ty := (.pair .int (.slice (.slice .int))), fields := [3, 57] }),
  (70, { ty := (.op false) }),
  (80, { ty := (.op true) }),
  (92, { ty := (.slice (.slice (.pair (.slice .int) (.pair .int (.slice (.slice .int)))))), elem := 112 }),
  (97, { ty := (.slice (.slice (.pair (.slice .int) .smap))), elem := 103 }),
  (99, { ty := (.pair .int (.pair .int (.slice (.slice (.pair (.slice .int) .smap))))), fields := [3, 3, 97] }),
  (100, { ty := .smap }),
  (103, { ty := (.slice (.pair (.slice .int) .smap)), elem := 105 }),
  (105, { ty := (.pair (.slice .int) .smap), fields := [22, 100] }),
  (107, { ty := (.slice .bool), elem := 4 }),
  (112, { ty := (.slice (.pair (.slice .int) (.pair .int (.slice (.slice .int))))), elem := 114 }),
  (114, { ty := (.pair (.slice .int) (.pair .int (.slice (.slice .int)))), fields := [22, 66] }),
  (116, { ty := (.slice (.num .u8)), elem := 5 }),
  (117, { ty := (.num .u64) })]
theorem tabT : tabOk Try.prog tt = true := by kernel_rfl
theorem mixT : Try.prog.follows .mixedOrders = true := by kernel_rfl

-- laws.szIntS
noncomputable def E_laws_szIntS : Entry where
  params := [.v (.slice .int), .v .int]
  results := [.v .int]
  B := Int
  run := fun a => laws_szIntS a.1 a.2
  out := fun b => ((), ())
  res := fun b => b

noncomputable def C_laws_szIntS : Cx where
  tt := tblTT tt
  T := tblT []
  L := tblL []
  dep := fun i => 0
  n := 2

noncomputable def D_laws_szIntS : Code := Try.f114.body.getD .skip
noncomputable def N_laws_szIntS (_ : outs [.v (.slice .int), .v .int]) (r : dens [.v .int]) : Int := r

-- laws.szIntSS
noncomputable def E_laws_szIntSS : Entry where
  params := [.v (.slice (.slice .int)), .v .int]
  results := [.v .int]
  B := Int
  run := fun a => laws_szIntSS a.1 a.2
  out := fun b => ((), ())
  res := fun b => b

noncomputable def S_laws_szIntSS_L5 (n : Nat) : LoopSpec where
  sh := [(0, .v (.slice (.slice .int))), (1, .v .int), (5, .v .int)]
  ex := [(.exit 0, [(1, .v .int)]), (.ret, [(4, .v .int)])]
  run := laws_szIntSS_L5 n

noncomputable def C_laws_szIntSS : Cx where
  tt := tblTT tt
  T := tblT [(114, E_laws_szIntS)]
  L := tblL [(5, S_laws_szIntSS_L5 fuel)]
  dep := fun i => 0
  n := 2

noncomputable def B_laws_szIntSS_L5 : Code := (Try.f91.body.bind (loopBody 5)).getD .skip
noncomputable def D_laws_szIntSS : Code := Try.f91.body.getD .skip
noncomputable def N_laws_szIntSS (_ : outs [.v (.slice (.slice .int)), .v .int]) (r : dens [.v .int]) : Int := r

-- laws.szRelation
noncomputable def E_laws_szRelation : Entry where
  params := [.v (.pair .int (.slice (.slice .int))), .v .int]
  results := [.v .int]
  B := Int
  run := fun a => laws_szRelation a.1 a.2
  out := fun b => ((), ())
  res := fun b => b

noncomputable def C_laws_szRelation : Cx where
  tt := tblTT tt
  T := tblT [(91, E_laws_szIntSS)]
  L := tblL []
  dep := fun i => 0
  n := 2

noncomputable def D_laws_szRelation : Code := Try.f53.body.getD .skip
noncomputable def N_laws_szRelation (_ : outs [.v (.pair .int (.slice (.slice .int))), .v .int]) (r : dens [.v .int]) : Int := r

-- laws.szRelationS
noncomputable def E_laws_szRelationS : Entry where
  params := [.v (.slice (.pair .int (.slice (.slice .int)))), .v .int]
  results := [.v .int]
  B := Int
  run := fun a => laws_szRelationS a.1 a.2
  out := fun b => ((), ())
  res := fun b => b

noncomputable def S_laws_szRelationS_L5 (n : Nat) : LoopSpec where
  sh := [(0, .v (.slice (.pair .int (.slice (.slice .int))))), (1, .v .int), (5, .v .int)]
  ex := [(.exit 0, [(1, .v .int)]), (.ret, [(4, .v .int)])]
  run := laws_szRelationS_L5 n

noncomputable def C_laws_szRelationS : Cx where
  tt := tblTT tt
  T := tblT [(53, E_laws_szRelation)]
  L := tblL [(5, S_laws_szRelationS_L5 fuel)]
  dep := fun i => 0
  n := 2

noncomputable def B_laws_szRelationS_L5 : Code := (Try.f18.body.bind (loopBody 5)).getD .skip
noncomputable def D_laws_szRelationS : Code := Try.f18.body.getD .skip
noncomputable def N_laws_szRelationS (_ : outs [.v (.slice (.pair .int (.slice (.slice .int)))), .v .int]) (r : dens [.v .int]) : Int := r

-- laws.toIntS
noncomputable def E_laws_toIntS : Entry where
  params := [.v (.slice .int)]
  results := [.mv .int 0]
  B := (List Int)
  run := fun a => laws_toIntS a
  out := fun b => ()
  res := fun b => b

noncomputable def S_laws_toIntS_L3 (n : Nat) : LoopSpec where
  sh := [(0, .v (.slice .int)), (3, .mv .int 0), (4, .v .int)]
  ex := [(.exit 0, [(3, .mv .int 0)])]
  run := laws_toIntS_L3 n

noncomputable def C_laws_toIntS : Cx where
  tt := tblTT tt
  T := tblT []
  L := tblL [(3, S_laws_toIntS_L3 fuel)]
  dep := fun i => 0
  n := 1

noncomputable def B_laws_toIntS_L3 : Code := (Try.f21.body.bind (loopBody 3)).getD .skip
noncomputable def D_laws_toIntS : Code := Try.f21.body.getD .skip
noncomputable def N_laws_toIntS (_ : outs [.v (.slice .int)]) (r : dens [.mv .int 0]) : (List Int) := r

-- laws.toIntSS
noncomputable def E_laws_toIntSS : Entry where
  params := [.v (.slice (.slice .int))]
  results := [.mv (.slice .int) 1]
  B := (List (List Int))
  run := fun a => laws_toIntSS a
  out := fun b => ()
  res := fun b => b

noncomputable def S_laws_toIntSS_L3 (n : Nat) : LoopSpec where
  sh := [(0, .v (.slice (.slice .int))), (3, .mv (.slice .int) 1), (4, .v .int)]
  ex := [(.exit 0, [(3, .mv (.slice .int) 1)])]
  run := laws_toIntSS_L3 n

noncomputable def C_laws_toIntSS : Cx where
  tt := tblTT tt
  T := tblT [(21, E_laws_toIntS)]
  L := tblL [(3, S_laws_toIntSS_L3 fuel)]
  dep := fun i => match i with
    | 7 => 1
    | _ => 0
  n := 1

noncomputable def B_laws_toIntSS_L3 : Code := (Try.f94.body.bind (loopBody 3)).getD .skip
noncomputable def D_laws_toIntSS : Code := Try.f94.body.getD .skip
noncomputable def N_laws_toIntSS (_ : outs [.v (.slice (.slice .int))]) (r : dens [.mv (.slice .int) 1]) : (List (List Int)) := r

-- laws.toRelation
noncomputable def E_laws_toRelation : Entry where
  params := [.v (.pair .int (.slice (.slice .int)))]
  results := [.pr (.v .int) (.mv (.slice .int) 1)]
  B := (Int × (List (List Int)))
  run := fun a => laws_toRelation a
  out := fun b => ()
  res := fun b => b

noncomputable def C_laws_toRelation : Cx where
  tt := tblTT tt
  T := tblT [(94, E_laws_toIntSS)]
  L := tblL []
  dep := fun i => 0
  n := 1

noncomputable def D_laws_toRelation : Code := Try.f58.body.getD .skip
noncomputable def N_laws_toRelation (_ : outs [.v (.pair .int (.slice (.slice .int)))]) (r : dens [.pr (.v .int) (.mv (.slice .int) 1)]) : (Int × (List (List Int))) := r

-- laws.toRelationS
noncomputable def E_laws_toRelationS : Entry where
  params := [.v (.slice (.pair .int (.slice (.slice .int))))]
  results := [.mv (.pair .int (.slice (.slice .int))) 2]
  B := (List (Int × (List (List Int))))
  run := fun a => laws_toRelationS a
  out := fun b => ()
  res := fun b => b

noncomputable def S_laws_toRelationS_L3 (n : Nat) : LoopSpec where
  sh := [(0, .v (.slice (.pair .int (.slice (.slice .int))))), (3, .mv (.pair .int (.slice (.slice .int))) 2), (4, .v .int)]
  ex := [(.exit 0, [(3, .mv (.pair .int (.slice (.slice .int))) 2)])]
  run := laws_toRelationS_L3 n

noncomputable def C_laws_toRelationS : Cx where
  tt := tblTT tt
  T := tblT [(58, E_laws_toRelation)]
  L := tblL [(3, S_laws_toRelationS_L3 fuel)]
  dep := fun i => match i with
    | 7 => 2
    | _ => 0
  n := 1

noncomputable def B_laws_toRelationS_L3 : Code := (Try.f20.body.bind (loopBody 3)).getD .skip
noncomputable def D_laws_toRelationS : Code := Try.f20.body.getD .skip
noncomputable def N_laws_toRelationS (_ : outs [.v (.slice (.pair .int (.slice (.slice .int))))]) (r : dens [.mv (.pair .int (.slice (.slice .int))) 2]) : (List (Int × (List (List Int)))) := r

-- spec.l1In
noncomputable def E_spec_l1In : Entry where
  params := [.v .int, .v .int, .v .int]
  results := [.v .bool]
  B := Bool
  run := fun a => spec_l1In a.1 a.2.1 a.2.2
  out := fun b => ((), (), ())
  res := fun b => b

noncomputable def C_spec_l1In : Cx where
  tt := tblTT tt
  T := tblT []
  L := tblL []
  dep := fun i => 0
  n := 3

noncomputable def D_spec_l1In : Code := Try.f56.body.getD .skip
noncomputable def N_spec_l1In (_ : outs [.v .int, .v .int, .v .int]) (r : dens [.v .bool]) : Bool := r

-- spec.l14Size
noncomputable def E_spec_l14Size : Entry where
  params := [.v .int]
  results := [.v .bool]
  B := Bool
  run := fun a => spec_l14Size a
  out := fun b => ()
  res := fun b => b

noncomputable def C_spec_l14Size : Cx where
  tt := tblTT tt
  T := tblT [(56, E_spec_l1In)]
  L := tblL []
  dep := fun i => 0
  n := 1

noncomputable def D_spec_l14Size : Code := Try.f99.body.getD .skip
noncomputable def N_spec_l14Size (_ : outs [.v .int]) (r : dens [.v .bool]) : Bool := r

-- spec.l2Pow
noncomputable def E_spec_l2Pow : Entry where
  params := [.v .int, .v .int]
  results := [.v .int]
  B := Int
  run := fun a => spec_l2Pow a.1 a.2
  out := fun b => ((), ())
  res := fun b => b

noncomputable def S_spec_l2Pow_L2 (n : Nat) : LoopSpec where
  sh := [(0, .v .int), (1, .v .int), (5, .v .int)]
  ex := [(.exit 0, [(5, .v .int)])]
  run := spec_l2Pow_L2 n

noncomputable def C_spec_l2Pow : Cx where
  tt := tblTT tt
  T := tblT []
  L := tblL [(2, S_spec_l2Pow_L2 fuel)]
  dep := fun i => 0
  n := 2

noncomputable def B_spec_l2Pow_L2 : Code := (Try.f55.body.bind (loopBody 2)).getD .skip
noncomputable def D_spec_l2Pow : Code := Try.f55.body.getD .skip
noncomputable def N_spec_l2Pow (_ : outs [.v .int, .v .int]) (r : dens [.v .int]) : Int := r

-- spec.l2Elements
noncomputable def E_spec_l2Elements : Entry where
  params := [.v .int, .v (.slice .int)]
  results := [.v .bool]
  B := Bool
  run := fun a => spec_l2Elements a.1 a.2
  out := fun b => ((), ())
  res := fun b => b

noncomputable def S_spec_l2Elements_L2 (n : Nat) : LoopSpec where
  sh := [(0, .v .int), (1, .v (.slice .int)), (5, .v .int)]
  ex := [(.exit 0, []), (.ret, [(4, .v .bool)])]
  run := spec_l2Elements_L2 n

noncomputable def C_spec_l2Elements : Cx where
  tt := tblTT tt
  T := tblT [(56, E_spec_l1In)]
  L := tblL [(2, S_spec_l2Elements_L2 fuel)]
  dep := fun i => 0
  n := 2

noncomputable def B_spec_l2Elements_L2 : Code := (Try.f130.body.bind (loopBody 2)).getD .skip
noncomputable def D_spec_l2Elements : Code := Try.f130.body.getD .skip
noncomputable def N_spec_l2Elements (_ : outs [.v .int, .v (.slice .int)]) (r : dens [.v .bool]) : Bool := r

-- spec.l8Tuple
noncomputable def E_spec_l8Tuple : Entry where
  params := [.v .int, .v .int, .v (.slice .int)]
  results := [.v .bool]
  B := Bool
  run := fun a => spec_l8Tuple a.1 a.2.1 a.2.2
  out := fun b => ((), (), ())
  res := fun b => b

noncomputable def C_spec_l8Tuple : Cx where
  tt := tblTT tt
  T := tblT [(130, E_spec_l2Elements)]
  L := tblL []
  dep := fun i => 0
  n := 3

noncomputable def D_spec_l8Tuple : Code := Try.f125.body.getD .skip
noncomputable def N_spec_l8Tuple (_ : outs [.v .int, .v .int, .v (.slice .int)]) (r : dens [.v .bool]) : Bool := r

-- spec.l3Less
noncomputable def E_spec_l3Less : Entry where
  params := [.v (.slice .int), .v (.slice .int)]
  results := [.v .bool]
  B := Bool
  run := fun a => spec_l3Less a.1 a.2
  out := fun b => ((), ())
  res := fun b => b

noncomputable def S_spec_l3Less_L2 (n : Nat) : LoopSpec where
  sh := [(0, .v (.slice .int)), (1, .v (.slice .int)), (5, .v .int)]
  ex := [(.exit 0, []), (.ret, [(4, .v .bool)])]
  run := spec_l3Less_L2 n

noncomputable def C_spec_l3Less : Cx where
  tt := tblTT tt
  T := tblT []
  L := tblL [(2, S_spec_l3Less_L2 fuel)]
  dep := fun i => 0
  n := 2

noncomputable def B_spec_l3Less_L2 : Code := (Try.f126.body.bind (loopBody 2)).getD .skip
noncomputable def D_spec_l3Less : Code := Try.f126.body.getD .skip
noncomputable def N_spec_l3Less (_ : outs [.v (.slice .int), .v (.slice .int)]) (r : dens [.v .bool]) : Bool := r

-- spec.l13Good
noncomputable def E_spec_l13Good : Entry where
  params := [.v .int, .v (.pair .int (.slice (.slice .int)))]
  results := [.v .bool]
  B := Bool
  run := fun a => spec_l13Good a.1 a.2
  out := fun b => ((), ())
  res := fun b => b

noncomputable def S_spec_l13Good_L4 (n : Nat) : LoopSpec where
  sh := [(0, .v .int), (3, .bx (.v (.pair .int (.slice (.slice .int))))), (5, .v .int)]
  ex := [(.exit 0, []), (.ret, [(4, .v .bool)])]
  run := spec_l13Good_L4 n

noncomputable def C_spec_l13Good : Cx where
  tt := tblTT tt
  T := tblT [(55, E_spec_l2Pow), (56, E_spec_l1In), (125, E_spec_l8Tuple), (126, E_spec_l3Less)]
  L := tblL [(4, S_spec_l13Good_L4 fuel)]
  dep := fun i => 0
  n := 2

noncomputable def B_spec_l13Good_L4 : Code := (Try.f119.body.bind (loopBody 4)).getD .skip
noncomputable def D_spec_l13Good : Code := Try.f119.body.getD .skip
noncomputable def N_spec_l13Good (_ : outs [.v .int, .v (.pair .int (.slice (.slice .int)))]) (r : dens [.v .bool]) : Bool := r

-- spec.l14Rels
noncomputable def E_spec_l14Rels : Entry where
  params := [.v .int, .v (.slice (.pair .int (.slice (.slice .int))))]
  results := [.v .bool]
  B := Bool
  run := fun a => spec_l14Rels a.1 a.2
  out := fun b => ((), ())
  res := fun b => b

noncomputable def S_spec_l14Rels_L4 (n : Nat) : LoopSpec where
  sh := [(0, .v .int), (1, .v (.slice (.pair .int (.slice (.slice .int))))), (5, .v .int)]
  ex := [(.exit 0, []), (.ret, [(4, .v .bool)])]
  run := spec_l14Rels_L4 n

noncomputable def C_spec_l14Rels : Cx where
  tt := tblTT tt
  T := tblT [(119, E_spec_l13Good)]
  L := tblL [(4, S_spec_l14Rels_L4 fuel)]
  dep := fun i => 0
  n := 2

noncomputable def B_spec_l14Rels_L4 : Code := (Try.f100.body.bind (loopBody 4)).getD .skip
noncomputable def D_spec_l14Rels : Code := Try.f100.body.getD .skip
noncomputable def N_spec_l14Rels (_ : outs [.v .int, .v (.slice (.pair .int (.slice (.slice .int))))]) (r : dens [.v .bool]) : Bool := r

-- spec.l14Takes
noncomputable def E_spec_l14Takes : Entry where
  params := [.v .int, .v (.slice (.pair .int (.slice (.slice .int)))), .v .int]
  results := [.v .bool]
  B := Bool
  run := fun a => spec_l14Takes a.1 a.2.1 a.2.2
  out := fun b => ((), (), ())
  res := fun b => b

noncomputable def S_spec_l14Takes_L4 (n : Nat) : LoopSpec where
  sh := [(1, .v (.slice (.pair .int (.slice (.slice .int))))), (2, .v .int), (7, .v .int)]
  ex := [(.exit 0, []), (.ret, [(6, .v .bool)])]
  run := spec_l14Takes_L4 n

noncomputable def C_spec_l14Takes : Cx where
  tt := tblTT tt
  T := tblT [(56, E_spec_l1In), (99, E_spec_l14Size), (100, E_spec_l14Rels)]
  L := tblL [(4, S_spec_l14Takes_L4 fuel)]
  dep := fun i => 0
  n := 3

noncomputable def B_spec_l14Takes_L4 : Code := (Try.f66.body.bind (loopBody 4)).getD .skip
noncomputable def D_spec_l14Takes : Code := Try.f66.body.getD .skip
noncomputable def N_spec_l14Takes (_ : outs [.v .int, .v (.slice (.pair .int (.slice (.slice .int)))), .v .int]) (r : dens [.v .bool]) : Bool := r

-- spec.l14Free
noncomputable def E_spec_l14Free : Entry where
  params := [.v .int]
  results := [.mv .int 0]
  B := (List Int)
  run := fun a => spec_l14Free a
  out := fun b => ()
  res := fun b => b

noncomputable def S_spec_l14Free_L3 (n : Nat) : LoopSpec where
  sh := [(0, .v .int), (3, .mv .int 0), (4, .v .int)]
  ex := [(.exit 0, [(3, .mv .int 0)])]
  run := spec_l14Free_L3 n

noncomputable def C_spec_l14Free : Cx where
  tt := tblTT tt
  T := tblT []
  L := tblL [(3, S_spec_l14Free_L3 fuel)]
  dep := fun i => 0
  n := 1

noncomputable def B_spec_l14Free_L3 : Code := (Try.f67.body.bind (loopBody 3)).getD .skip
noncomputable def D_spec_l14Free : Code := Try.f67.body.getD .skip
noncomputable def N_spec_l14Free (_ : outs [.v .int]) (r : dens [.mv .int 0]) : (List Int) := r

-- spec.l2Args
noncomputable def E_spec_l2Args : Entry where
  params := [.v .int, .v .int, .v .int]
  results := [.mv .int 0]
  B := (List Int)
  run := fun a => spec_l2Args a.1 a.2.1 a.2.2
  out := fun b => ((), (), ())
  res := fun b => b

noncomputable def S_spec_l2Args_L3 (n : Nat) : LoopSpec where
  sh := [(0, .v .int), (2, .v .int), (7, .mv .int 0), (8, .v .int)]
  ex := [(.exit 0, [(7, .mv .int 0)])]
  run := spec_l2Args_L3 n

noncomputable def C_spec_l2Args : Cx where
  tt := tblTT tt
  T := tblT []
  L := tblL [(3, S_spec_l2Args_L3 fuel)]
  dep := fun i => 0
  n := 3

noncomputable def B_spec_l2Args_L3 : Code := (Try.f116.body.bind (loopBody 3)).getD .skip
noncomputable def D_spec_l2Args : Code := Try.f116.body.getD .skip
noncomputable def N_spec_l2Args (_ : outs [.v .int, .v .int, .v .int]) (r : dens [.mv .int 0]) : (List Int) := r

-- spec.l1Most
noncomputable def E_spec_l1Most : Entry where
  params := [.v .int, .v .int]
  results := [.v .int]
  B := Int
  run := fun a => spec_l1Most a.1 a.2
  out := fun b => ((), ())
  res := fun b => b

noncomputable def C_spec_l1Most : Cx where
  tt := tblTT tt
  T := tblT []
  L := tblL []
  dep := fun i => 0
  n := 2

noncomputable def D_spec_l1Most : Code := Try.f117.body.getD .skip
noncomputable def N_spec_l1Most (_ : outs [.v .int, .v .int]) (r : dens [.v .int]) : Int := r

-- spec.l14Needs
noncomputable def E_spec_l14Needs : Entry where
  params := [.v .int, .v (.slice (.pair .int (.slice (.slice .int)))), .v .int]
  results := [.mv (.slice (.pair (.slice .int) (.pair .int (.slice (.slice .int))))) 1]
  B := (List (List ((List Int) × Int × (List (List Int)))))
  run := fun a => spec_l14Needs a.1 a.2.1 a.2.2
  out := fun b => ((), (), ())
  res := fun b => b

noncomputable def S_spec_l14Needs_L3 (n : Nat) : LoopSpec where
  sh := [(0, .v .int), (1, .v (.slice (.pair .int (.slice (.slice .int))))), (2, .v .int), (7, .mv (.slice (.pair (.slice .int) (.pair .int (.slice (.slice .int))))) 1), (8, .v .int)]
  ex := [(.exit 0, [(0, .v .int), (1, .v (.slice (.pair .int (.slice (.slice .int))))), (2, .v .int), (7, .mv (.slice (.pair (.slice .int) (.pair .int (.slice (.slice .int))))) 1)])]
  run := spec_l14Needs_L3 n

noncomputable def S_spec_l14Needs_L21 (n : Nat) : LoopSpec where
  sh := [(0, .v .int), (1, .v (.slice (.pair .int (.slice (.slice .int))))), (2, .v .int), (7, .mv (.slice (.pair (.slice .int) (.pair .int (.slice (.slice .int))))) 1), (9, .v .int), (10, .v .int), (11, .v .int), (12, .mv .int 0), (13, .bx (.pr (.mv .int 0) (.v (.pair .int (.slice (.slice .int)))))), (14, .v .int), (15, .v .int), (16, .v .int), (17, .v .int)]
  ex := [(.exit 8, [(0, .v .int), (1, .v (.slice (.pair .int (.slice (.slice .int))))), (2, .v .int), (7, .mv (.slice (.pair (.slice .int) (.pair .int (.slice (.slice .int))))) 1), (9, .v .int), (10, .v .int), (11, .v .int), (12, .mv .int 0), (13, .bx (.pr (.mv .int 0) (.v (.pair .int (.slice (.slice .int)))))), (14, .v .int), (15, .v .int), (16, .v .int)])]
  run := spec_l14Needs_L21 n

noncomputable def S_spec_l14Needs_L17 (n : Nat) : LoopSpec where
  sh := [(0, .v .int), (1, .v (.slice (.pair .int (.slice (.slice .int))))), (2, .v .int), (7, .mv (.slice (.pair (.slice .int) (.pair .int (.slice (.slice .int))))) 1), (9, .v .int), (10, .v .int), (11, .v .int), (12, .mv .int 0), (13, .bx (.pr (.mv .int 0) (.v (.pair .int (.slice (.slice .int)))))), (14, .v .int), (15, .v .int)]
  ex := [(.exit 6, [(0, .v .int), (1, .v (.slice (.pair .int (.slice (.slice .int))))), (2, .v .int), (7, .mv (.slice (.pair (.slice .int) (.pair .int (.slice (.slice .int))))) 1), (9, .v .int), (10, .v .int), (11, .v .int), (13, .bx (.pr (.mv .int 0) (.v (.pair .int (.slice (.slice .int)))))), (14, .v .int)])]
  run := spec_l14Needs_L17 n

noncomputable def S_spec_l14Needs_L11 (n : Nat) : LoopSpec where
  sh := [(0, .v .int), (1, .v (.slice (.pair .int (.slice (.slice .int))))), (2, .v .int), (7, .mv (.slice (.pair (.slice .int) (.pair .int (.slice (.slice .int))))) 1), (9, .v .int), (10, .v .int), (11, .v .int)]
  ex := [(.exit 4, [(0, .v .int), (1, .v (.slice (.pair .int (.slice (.slice .int))))), (2, .v .int), (7, .mv (.slice (.pair (.slice .int) (.pair .int (.slice (.slice .int))))) 1), (9, .v .int)])]
  run := spec_l14Needs_L11 n

noncomputable def S_spec_l14Needs_L7 (n : Nat) : LoopSpec where
  sh := [(0, .v .int), (1, .v (.slice (.pair .int (.slice (.slice .int))))), (2, .v .int), (7, .mv (.slice (.pair (.slice .int) (.pair .int (.slice (.slice .int))))) 1), (9, .v .int)]
  ex := [(.exit 2, [(7, .mv (.slice (.pair (.slice .int) (.pair .int (.slice (.slice .int))))) 1)])]
  run := spec_l14Needs_L7 n

noncomputable def C_spec_l14Needs : Cx where
  tt := tblTT tt
  T := tblT [(55, E_spec_l2Pow), (116, E_spec_l2Args), (117, E_spec_l1Most)]
  L := tblL [(3, S_spec_l14Needs_L3 fuel), (21, S_spec_l14Needs_L21 fuel), (17, S_spec_l14Needs_L17 fuel), (11, S_spec_l14Needs_L11 fuel), (7, S_spec_l14Needs_L7 fuel)]
  dep := fun i => match i with
    | 18 => 1
    | 28 => 1
    | 29 => 1
    | _ => 0
  n := 3
  fine := true

noncomputable def B_spec_l14Needs_L3 : Code := (Try.f93.body.bind (loopBody 3)).getD .skip
noncomputable def B_spec_l14Needs_L21 : Code := (Try.f93.body.bind (loopBody 21)).getD .skip
noncomputable def B_spec_l14Needs_L17 : Code := (Try.f93.body.bind (loopBody 17)).getD .skip
noncomputable def B_spec_l14Needs_L11 : Code := (Try.f93.body.bind (loopBody 11)).getD .skip
noncomputable def B_spec_l14Needs_L7 : Code := (Try.f93.body.bind (loopBody 7)).getD .skip
noncomputable def D_spec_l14Needs : Code := Try.f93.body.getD .skip
noncomputable def N_spec_l14Needs (_ : outs [.v .int, .v (.slice (.pair .int (.slice (.slice .int)))), .v .int]) (r : dens [.mv (.slice (.pair (.slice .int) (.pair .int (.slice (.slice .int))))) 1]) : (List (List ((List Int) × Int × (List (List Int))))) := r

-- spec.l1Own
noncomputable def E_spec_l1Own : Entry where
  params := [.v (.slice .int)]
  results := [.mv .int 0]
  B := (List Int)
  run := fun a => spec_l1Own a
  out := fun b => ()
  res := fun b => b

noncomputable def C_spec_l1Own : Cx where
  tt := tblTT tt
  T := tblT []
  L := tblL []
  dep := fun i => 0
  n := 1

noncomputable def D_spec_l1Own : Code := Try.f75.body.getD .skip
noncomputable def N_spec_l1Own (_ : outs [.v (.slice .int)]) (r : dens [.mv .int 0]) : (List Int) := r

-- spec.l1Same
noncomputable def E_spec_l1Same : Entry where
  params := [.v (.slice .int), .v (.slice .int)]
  results := [.v .bool]
  B := Bool
  run := fun a => spec_l1Same a.1 a.2
  out := fun b => ((), ())
  res := fun b => b

noncomputable def S_spec_l1Same_L4 (n : Nat) : LoopSpec where
  sh := [(0, .v (.slice .int)), (1, .v (.slice .int)), (5, .v .int)]
  ex := [(.exit 0, []), (.ret, [(4, .v .bool)])]
  run := spec_l1Same_L4 n

noncomputable def C_spec_l1Same : Cx where
  tt := tblTT tt
  T := tblT []
  L := tblL [(4, S_spec_l1Same_L4 fuel)]
  dep := fun i => 0
  n := 2

noncomputable def B_spec_l1Same_L4 : Code := (Try.f132.body.bind (loopBody 4)).getD .skip
noncomputable def D_spec_l1Same : Code := Try.f132.body.getD .skip
noncomputable def N_spec_l1Same (_ : outs [.v (.slice .int), .v (.slice .int)]) (r : dens [.v .bool]) : Bool := r

-- spec.l8Find
noncomputable def E_spec_l8Find : Entry where
  params := [.v (.slice (.slice .int)), .v (.slice .int)]
  results := [.v .int, .v .bool]
  B := Int × Bool
  run := fun a => spec_l8Find a.1 a.2
  out := fun b => ((), ())
  res := fun b => (b.1, b.2)

noncomputable def S_spec_l8Find_L2 (n : Nat) : LoopSpec where
  sh := [(0, .v (.slice (.slice .int))), (1, .v (.slice .int)), (6, .v .int), (7, .v .int)]
  ex := [(.exit 0, [(0, .v (.slice (.slice .int))), (1, .v (.slice .int)), (6, .v .int)])]
  run := spec_l8Find_L2 n

noncomputable def C_spec_l8Find : Cx where
  tt := tblTT tt
  T := tblT [(126, E_spec_l3Less), (132, E_spec_l1Same)]
  L := tblL [(2, S_spec_l8Find_L2 fuel)]
  dep := fun i => 0
  n := 2

noncomputable def B_spec_l8Find_L2 : Code := (Try.f129.body.bind (loopBody 2)).getD .skip
noncomputable def D_spec_l8Find : Code := Try.f129.body.getD .skip
noncomputable def N_spec_l8Find (_ : outs [.v (.slice (.slice .int)), .v (.slice .int)]) (r : dens [.v .int, .v .bool]) : Int × Bool := (r.1, r.2)

-- spec.l13Has
noncomputable def E_spec_l13Has : Entry where
  params := [.v (.pair .int (.slice (.slice .int))), .v (.slice .int)]
  results := [.v .bool]
  B := Bool
  run := fun a => spec_l13Has a.1 a.2
  out := fun b => ((), ())
  res := fun b => b

noncomputable def C_spec_l13Has : Cx where
  tt := tblTT tt
  T := tblT [(129, E_spec_l8Find)]
  L := tblL []
  dep := fun i => 0
  n := 2

noncomputable def D_spec_l13Has : Code := Try.f123.body.getD .skip
noncomputable def N_spec_l13Has (_ : outs [.v (.pair .int (.slice (.slice .int))), .v (.slice .int)]) (r : dens [.v .bool]) : Bool := r

-- spec.l14Holds
noncomputable def E_spec_l14Holds : Entry where
  params := [.v (.slice (.pair (.slice .int) (.pair .int (.slice (.slice .int))))), .v (.slice .int)]
  results := [.v .bool]
  B := Bool
  run := fun a => spec_l14Holds a.1 a.2
  out := fun b => ((), ())
  res := fun b => b

noncomputable def S_spec_l14Holds_L6 (n : Nat) : LoopSpec where
  sh := [(0, .v (.slice (.pair (.slice .int) (.pair .int (.slice (.slice .int)))))), (1, .v (.slice .int)), (5, .v .int), (6, .mv .int 0), (7, .v .int)]
  ex := [(.exit 2, [(0, .v (.slice (.pair (.slice .int) (.pair .int (.slice (.slice .int)))))), (1, .v (.slice .int)), (5, .v .int), (6, .mv .int 0)])]
  run := spec_l14Holds_L6 n

noncomputable def S_spec_l14Holds_L2 (n : Nat) : LoopSpec where
  sh := [(0, .v (.slice (.pair (.slice .int) (.pair .int (.slice (.slice .int)))))), (1, .v (.slice .int)), (5, .v .int)]
  ex := [(.exit 0, []), (.ret, [(4, .v .bool)])]
  run := spec_l14Holds_L2 n

noncomputable def C_spec_l14Holds : Cx where
  tt := tblTT tt
  T := tblT [(123, E_spec_l13Has)]
  L := tblL [(6, S_spec_l14Holds_L6 fuel), (2, S_spec_l14Holds_L2 fuel)]
  dep := fun i => 0
  n := 2

noncomputable def B_spec_l14Holds_L6 : Code := (Try.f115.body.bind (loopBody 6)).getD .skip
noncomputable def B_spec_l14Holds_L2 : Code := (Try.f115.body.bind (loopBody 2)).getD .skip
noncomputable def D_spec_l14Holds : Code := Try.f115.body.getD .skip
noncomputable def N_spec_l14Holds (_ : outs [.v (.slice (.pair (.slice .int) (.pair .int (.slice (.slice .int))))), .v (.slice .int)]) (r : dens [.v .bool]) : Bool := r

-- spec.l14Go
noncomputable def E_spec_l14Go_of (rec : (Int × (List (List ((List Int) × Int × (List (List Int))))) × (List Int) × (List Int) × ((List (List Int)) × (Int × Int))) → Option (((List (List Int)) × (Int × Int)))) : Entry where
  params := [.v .int, .v (.slice (.slice (.pair (.slice .int) (.pair .int (.slice (.slice .int)))))), .v (.slice .int), .v (.slice .int), .pr (.mv (.slice .int) 1) (.v (.pair .int .int))]
  results := [.pr (.mv (.slice .int) 1) (.v (.pair .int .int))]
  B := ((List (List Int)) × (Int × Int))
  run := rec
  out := fun b => ((), (), (), (), ((), ()))
  res := fun b => b

noncomputable def E_spec_l14Go (d : Nat) : Entry := E_spec_l14Go_of (spec_l14Go d)

noncomputable def S_spec_l14Go_L8 (rec : (Int × (List (List ((List Int) × Int × (List (List Int))))) × (List Int) × (List Int) × ((List (List Int)) × (Int × Int))) → Option (((List (List Int)) × (Int × Int)))) (n : Nat) : LoopSpec where
  sh := [(0, .v .int), (1, .v (.slice (.slice (.pair (.slice .int) (.pair .int (.slice (.slice .int))))))), (2, .v (.slice .int)), (3, .v (.slice .int)), (9, .bx (.pr (.mv (.slice .int) 1) (.v (.pair .int .int)))), (10, .bx (.pr (.mv (.slice .int) 1) (.v (.pair .int .int)))), (11, .v .int), (12, .v .int)]
  ex := [(.exit 0, [(9, .bx (.pr (.mv (.slice .int) 1) (.v (.pair .int .int)))), (10, .bx (.pr (.mv (.slice .int) 1) (.v (.pair .int .int))))]), (.ret, [(10, .bx (.pr (.mv (.slice .int) 1) (.v (.pair .int .int))))])]
  run := spec_l14Go_L8 rec n

noncomputable def C_spec_l14Go (rec : (Int × (List (List ((List Int) × Int × (List (List Int))))) × (List Int) × (List Int) × ((List (List Int)) × (Int × Int))) → Option (((List (List Int)) × (Int × Int)))) : Cx where
  tt := tblTT tt
  T := tblT [(75, E_spec_l1Own), (92, E_spec_l14Go_of rec), (115, E_spec_l14Holds)]
  L := tblL [(8, S_spec_l14Go_L8 rec fuel)]
  dep := fun i => match i with
    | 34 => 1
    | 35 => 1
    | _ => 0
  n := 5

noncomputable def B_spec_l14Go_L8 : Code := (Try.f92.body.bind (loopBody 8)).getD .skip
noncomputable def D_spec_l14Go : Code := Try.f92.body.getD .skip
noncomputable def N_spec_l14Go (_ : outs [.v .int, .v (.slice (.slice (.pair (.slice .int) (.pair .int (.slice (.slice .int)))))), .v (.slice .int), .v (.slice .int), .pr (.mv (.slice .int) 1) (.v (.pair .int .int))]) (r : dens [.pr (.mv (.slice .int) 1) (.v (.pair .int .int))]) : ((List (List Int)) × (Int × Int)) := r

-- spec.l14All
noncomputable def E_spec_l14All : Entry where
  params := [.v .int, .v (.slice (.pair .int (.slice (.slice .int)))), .v .int, .v (.slice .int), .v .int]
  results := [.pr (.mv (.slice .int) 1) (.v (.pair .int .int))]
  B := ((List (List Int)) × (Int × Int))
  run := fun a => spec_l14All a.1 a.2.1 a.2.2.1 a.2.2.2.1 a.2.2.2.2
  out := fun b => ((), (), (), (), ())
  res := fun b => b

noncomputable def C_spec_l14All : Cx where
  tt := tblTT tt
  T := tblT [(92, E_spec_l14Go fuel), (93, E_spec_l14Needs)]
  L := tblL []
  dep := fun i => 0
  n := 5

noncomputable def D_spec_l14All : Code := Try.f57.body.getD .skip
noncomputable def N_spec_l14All (_ : outs [.v .int, .v (.slice (.pair .int (.slice (.slice .int)))), .v .int, .v (.slice .int), .v .int]) (r : dens [.pr (.mv (.slice .int) 1) (.v (.pair .int .int))]) : ((List (List Int)) × (Int × Int)) := r

-- spec.l1Put
noncomputable def E_spec_l1Put : Entry where
  params := [.v (.slice .int), .v .int]
  results := [.v (.slice .int)]
  B := (List Int)
  run := fun a => spec_l1Put a.1 a.2
  out := fun b => ((), ())
  res := fun b => b

noncomputable def S_spec_l1Put_L2 (n : Nat) : LoopSpec where
  sh := [(0, .v (.slice .int)), (1, .v .int), (5, .v .int)]
  ex := [(.exit 0, [(0, .v (.slice .int)), (1, .v .int), (5, .v .int)])]
  run := spec_l1Put_L2 n

noncomputable def C_spec_l1Put : Cx where
  tt := tblTT tt
  T := tblT []
  L := tblL [(2, S_spec_l1Put_L2 fuel)]
  dep := fun i => 0
  n := 2

noncomputable def B_spec_l1Put_L2 : Code := (Try.f108.body.bind (loopBody 2)).getD .skip
noncomputable def D_spec_l1Put : Code := Try.f108.body.getD .skip
noncomputable def N_spec_l1Put (_ : outs [.v (.slice .int), .v .int]) (r : dens [.v (.slice .int)]) : (List Int) := r

-- spec.l14Values
noncomputable def E_spec_l14Values : Entry where
  params := [.v (.slice .int)]
  results := [.v (.slice .int)]
  B := (List Int)
  run := fun a => spec_l14Values a
  out := fun b => ()
  res := fun b => b

noncomputable def S_spec_l14Values_L3 (n : Nat) : LoopSpec where
  sh := [(0, .v (.slice .int)), (3, .v (.slice .int)), (4, .v .int)]
  ex := [(.exit 0, [(3, .v (.slice .int))])]
  run := spec_l14Values_L3 n

noncomputable def C_spec_l14Values : Cx where
  tt := tblTT tt
  T := tblT [(108, E_spec_l1Put)]
  L := tblL [(3, S_spec_l14Values_L3 fuel)]
  dep := fun i => 0
  n := 1

noncomputable def B_spec_l14Values_L3 : Code := (Try.f82.body.bind (loopBody 3)).getD .skip
noncomputable def D_spec_l14Values : Code := Try.f82.body.getD .skip
noncomputable def N_spec_l14Values (_ : outs [.v (.slice .int)]) (r : dens [.v (.slice .int)]) : (List Int) := r

-- spec.l14Core
noncomputable def E_spec_l14Core : Entry where
  params := [.v .int, .v (.slice (.pair .int (.slice (.slice .int))))]
  results := [.v (.slice .int)]
  B := (List Int)
  run := fun a => spec_l14Core a.1 a.2
  out := fun b => ((), ())
  res := fun b => b

noncomputable def S_spec_l14Core_L4 (n : Nat) : LoopSpec where
  sh := [(6, .v (.slice .int)), (5, .v (.slice (.slice .int))), (7, .v .int)]
  ex := [(.exit 0, [(6, .v (.slice .int))])]
  run := spec_l14Core_L4 n

noncomputable def C_spec_l14Core : Cx where
  tt := tblTT tt
  T := tblT [(57, E_spec_l14All), (67, E_spec_l14Free), (82, E_spec_l14Values)]
  L := tblL [(4, S_spec_l14Core_L4 fuel)]
  dep := fun i => 0
  n := 2

noncomputable def B_spec_l14Core_L4 : Code := (Try.f76.body.bind (loopBody 4)).getD .skip
noncomputable def D_spec_l14Core : Code := Try.f76.body.getD .skip
noncomputable def N_spec_l14Core (_ : outs [.v .int, .v (.slice (.pair .int (.slice (.slice .int))))]) (r : dens [.v (.slice .int)]) : (List Int) := r

-- spec.l5Place
noncomputable def E_spec_l5Place : Entry where
  params := [.v (.slice .int), .v .int]
  results := [.v .int]
  B := Int
  run := fun a => spec_l5Place a.1 a.2
  out := fun b => ((), ())
  res := fun b => b

noncomputable def S_spec_l5Place_L2 (n : Nat) : LoopSpec where
  sh := [(0, .v (.slice .int)), (1, .v .int), (5, .v .int)]
  ex := [(.exit 0, []), (.ret, [(4, .v .int)])]
  run := spec_l5Place_L2 n

noncomputable def C_spec_l5Place : Cx where
  tt := tblTT tt
  T := tblT []
  L := tblL [(2, S_spec_l5Place_L2 fuel)]
  dep := fun i => 0
  n := 2

noncomputable def B_spec_l5Place_L2 : Code := (Try.f83.body.bind (loopBody 2)).getD .skip
noncomputable def D_spec_l5Place : Code := Try.f83.body.getD .skip
noncomputable def N_spec_l5Place (_ : outs [.v (.slice .int), .v .int]) (r : dens [.v .int]) : Int := r

-- spec.CoreTemplate
noncomputable def E_spec_CoreTemplate : Entry where
  params := [.v .int, .v (.slice (.pair .int (.slice (.slice .int))))]
  results := [.v .int, .mv (.pair .int (.slice (.slice .int))) 0, .v .bool]
  B := Int × (List (Int × (List (List Int)))) × Bool
  run := fun a => spec_CoreTemplate a.1 a.2
  out := fun b => ((), ())
  res := fun b => (b.1, b.2.1, b.2.2)

noncomputable def S_spec_CoreTemplate_L14 (n : Nat) : LoopSpec where
  sh := [(1, .v (.slice (.pair .int (.slice (.slice .int))))), (7, .mv (.pair .int (.slice (.slice .int))) 0), (8, .v (.slice .int)), (9, .v .int), (10, .bx (.pr (.v .int) (.mv (.slice .int) 0))), (11, .v .int), (12, .mv .int 0), (13, .v .int)]
  ex := [(.exit 4, [(1, .v (.slice (.pair .int (.slice (.slice .int))))), (7, .mv (.pair .int (.slice (.slice .int))) 0), (8, .v (.slice .int)), (9, .v .int), (10, .bx (.pr (.v .int) (.mv (.slice .int) 0))), (11, .v .int), (12, .mv .int 0)])]
  run := spec_CoreTemplate_L14 n

noncomputable def S_spec_CoreTemplate_L10 (n : Nat) : LoopSpec where
  sh := [(1, .v (.slice (.pair .int (.slice (.slice .int))))), (7, .mv (.pair .int (.slice (.slice .int))) 0), (8, .v (.slice .int)), (9, .v .int), (10, .bx (.pr (.v .int) (.mv (.slice .int) 0))), (11, .v .int)]
  ex := [(.exit 2, [(1, .v (.slice (.pair .int (.slice (.slice .int))))), (7, .mv (.pair .int (.slice (.slice .int))) 0), (8, .v (.slice .int)), (9, .v .int), (10, .bx (.pr (.v .int) (.mv (.slice .int) 0)))])]
  run := spec_CoreTemplate_L10 n

noncomputable def S_spec_CoreTemplate_L6 (n : Nat) : LoopSpec where
  sh := [(1, .v (.slice (.pair .int (.slice (.slice .int))))), (7, .mv (.pair .int (.slice (.slice .int))) 0), (8, .v (.slice .int)), (9, .v .int)]
  ex := [(.exit 0, [(7, .mv (.pair .int (.slice (.slice .int))) 0), (8, .v (.slice .int))])]
  run := spec_CoreTemplate_L6 n

noncomputable def C_spec_CoreTemplate : Cx where
  tt := tblTT tt
  T := tblT [(66, E_spec_l14Takes), (76, E_spec_l14Core), (82, E_spec_l14Values), (83, E_spec_l5Place)]
  L := tblL [(14, S_spec_CoreTemplate_L14 fuel), (10, S_spec_CoreTemplate_L10 fuel), (6, S_spec_CoreTemplate_L6 fuel)]
  dep := fun i => 0
  n := 2

noncomputable def B_spec_CoreTemplate_L14 : Code := (Try.f42.body.bind (loopBody 14)).getD .skip
noncomputable def B_spec_CoreTemplate_L10 : Code := (Try.f42.body.bind (loopBody 10)).getD .skip
noncomputable def B_spec_CoreTemplate_L6 : Code := (Try.f42.body.bind (loopBody 6)).getD .skip
noncomputable def D_spec_CoreTemplate : Code := Try.f42.body.getD .skip
noncomputable def N_spec_CoreTemplate (_ : outs [.v .int, .v (.slice (.pair .int (.slice (.slice .int))))]) (r : dens [.v .int, .mv (.pair .int (.slice (.slice .int))) 0, .v .bool]) : Int × (List (Int × (List (List Int)))) × Bool := (r.1, r.2.1, r.2.2)

-- impl.isTemplateSize
noncomputable def E_impl_isTemplateSize : Entry where
  params := [.v .int]
  results := [.v .bool]
  B := Bool
  run := fun a => impl_isTemplateSize a
  out := fun b => ()
  res := fun b => b

noncomputable def C_impl_isTemplateSize : Cx where
  tt := tblTT tt
  T := tblT []
  L := tblL []
  dep := fun i => 0
  n := 1

noncomputable def D_impl_isTemplateSize : Code := Try.f95.body.getD .skip
noncomputable def N_impl_isTemplateSize (_ : outs [.v .int]) (r : dens [.v .bool]) : Bool := r

-- impl.inSize
noncomputable def E_impl_inSize : Entry where
  params := [.v (.slice .int), .v .int]
  results := [.v .bool]
  B := Bool
  run := fun a => impl_inSize a.1 a.2
  out := fun b => ((), ())
  res := fun b => b

noncomputable def S_impl_inSize_L2 (n : Nat) : LoopSpec where
  sh := [(1, .v .int), (7, .v (.slice .int)), (8, .v .int), (9, .v .int)]
  ex := [(.exit 0, []), (.ret, [(4, .v .bool)])]
  run := impl_inSize_L2 n

noncomputable def C_impl_inSize : Cx where
  tt := tblTT tt
  T := tblT []
  L := tblL [(2, S_impl_inSize_L2 fuel)]
  dep := fun i => 0
  n := 2

noncomputable def B_impl_inSize_L2 : Code := (Try.f85.body.bind (loopBody 2)).getD .skip
noncomputable def D_impl_inSize : Code := Try.f85.body.getD .skip
noncomputable def N_impl_inSize (_ : outs [.v (.slice .int), .v .int]) (r : dens [.v .bool]) : Bool := r

-- impl.compareLists
noncomputable def E_impl_compareLists : Entry where
  params := [.v (.slice .int), .v (.slice .int)]
  results := [.v .int]
  B := Int
  run := fun a => impl_compareLists a.1 a.2
  out := fun b => ((), ())
  res := fun b => b

noncomputable def S_impl_compareLists_L2 (n : Nat) : LoopSpec where
  sh := [(0, .v (.slice .int)), (1, .v (.slice .int)), (5, .v .int)]
  ex := [(.exit 0, [(0, .v (.slice .int)), (1, .v (.slice .int))]), (.ret, [(4, .v .int)])]
  run := impl_compareLists_L2 n

noncomputable def C_impl_compareLists : Cx where
  tt := tblTT tt
  T := tblT []
  L := tblL [(2, S_impl_compareLists_L2 fuel)]
  dep := fun i => 0
  n := 2

noncomputable def B_impl_compareLists_L2 : Code := (Try.f124.body.bind (loopBody 2)).getD .skip
noncomputable def D_impl_compareLists : Code := Try.f124.body.getD .skip
noncomputable def N_impl_compareLists (_ : outs [.v (.slice .int), .v (.slice .int)]) (r : dens [.v .int]) : Int := r

-- impl.isRelation
noncomputable def E_impl_isRelation : Entry where
  params := [.v .int, .v (.pair .int (.slice (.slice .int)))]
  results := [.v .bool]
  B := Bool
  run := fun a => impl_isRelation a.1 a.2
  out := fun b => ((), ())
  res := fun b => b

noncomputable def S_impl_isRelation_L4 (n : Nat) : LoopSpec where
  sh := [(0, .v .int), (3, .bx (.v (.pair .int (.slice (.slice .int))))), (16, .v (.slice (.slice .int))), (17, .v .int), (18, .v .int)]
  ex := [(.exit 0, []), (.ret, [(4, .v .bool)])]
  run := impl_isRelation_L4 n

noncomputable def C_impl_isRelation : Cx where
  tt := tblTT tt
  T := tblT [(85, E_impl_inSize), (124, E_impl_compareLists)]
  L := tblL [(4, S_impl_isRelation_L4 fuel)]
  dep := fun i => 0
  n := 2

noncomputable def B_impl_isRelation_L4 : Code := (Try.f118.body.bind (loopBody 4)).getD .skip
noncomputable def D_impl_isRelation : Code := Try.f118.body.getD .skip
noncomputable def N_impl_isRelation (_ : outs [.v .int, .v (.pair .int (.slice (.slice .int)))]) (r : dens [.v .bool]) : Bool := r

-- impl.isTemplate
noncomputable def E_impl_isTemplate : Entry where
  params := [.v .int, .v (.slice (.pair .int (.slice (.slice .int))))]
  results := [.v .bool]
  B := Bool
  run := fun a => impl_isTemplate a.1 a.2
  out := fun b => ((), ())
  res := fun b => b

noncomputable def S_impl_isTemplate_L4 (n : Nat) : LoopSpec where
  sh := [(0, .v .int), (10, .v (.slice (.pair .int (.slice (.slice .int))))), (11, .v .int), (12, .v .int)]
  ex := [(.exit 0, []), (.ret, [(4, .v .bool)])]
  run := impl_isTemplate_L4 n

noncomputable def C_impl_isTemplate : Cx where
  tt := tblTT tt
  T := tblT [(118, E_impl_isRelation)]
  L := tblL [(4, S_impl_isTemplate_L4 fuel)]
  dep := fun i => 0
  n := 2

noncomputable def B_impl_isTemplate_L4 : Code := (Try.f96.body.bind (loopBody 4)).getD .skip
noncomputable def D_impl_isTemplate : Code := Try.f96.body.getD .skip
noncomputable def N_impl_isTemplate (_ : outs [.v .int, .v (.slice (.pair .int (.slice (.slice .int))))]) (r : dens [.v .bool]) : Bool := r

-- impl.canAsk
noncomputable def E_impl_canAsk : Entry where
  params := [.v .int, .v (.slice (.pair .int (.slice (.slice .int)))), .v .int]
  results := [.v .bool]
  B := Bool
  run := fun a => impl_canAsk a.1 a.2.1 a.2.2
  out := fun b => ((), (), ())
  res := fun b => b

noncomputable def S_impl_canAsk_L4 (n : Nat) : LoopSpec where
  sh := [(2, .v .int), (18, .v (.slice (.pair .int (.slice (.slice .int))))), (19, .v .int), (20, .v .int)]
  ex := [(.exit 0, []), (.ret, [(6, .v .bool)])]
  run := impl_canAsk_L4 n

noncomputable def C_impl_canAsk : Cx where
  tt := tblTT tt
  T := tblT [(95, E_impl_isTemplateSize), (96, E_impl_isTemplate)]
  L := tblL [(4, S_impl_canAsk_L4 fuel)]
  dep := fun i => 0
  n := 3

noncomputable def B_impl_canAsk_L4 : Code := (Try.f59.body.bind (loopBody 4)).getD .skip
noncomputable def D_impl_canAsk : Code := Try.f59.body.getD .skip
noncomputable def N_impl_canAsk (_ : outs [.v .int, .v (.slice (.pair .int (.slice (.slice .int)))), .v .int]) (r : dens [.v .bool]) : Bool := r

-- impl.power
noncomputable def E_impl_power : Entry where
  params := [.v .int, .v .int]
  results := [.v .int]
  B := Int
  run := fun a => impl_power a.1 a.2
  out := fun b => ((), ())
  res := fun b => b

noncomputable def S_impl_power_L2 (n : Nat) : LoopSpec where
  sh := [(0, .v .int), (1, .v .int), (5, .v .int)]
  ex := [(.exit 0, [(5, .v .int)])]
  run := impl_power_L2 n

noncomputable def C_impl_power : Cx where
  tt := tblTT tt
  T := tblT []
  L := tblL [(2, S_impl_power_L2 fuel)]
  dep := fun i => 0
  n := 2

noncomputable def B_impl_power_L2 : Code := (Try.f61.body.bind (loopBody 2)).getD .skip
noncomputable def D_impl_power : Code := Try.f61.body.getD .skip
noncomputable def N_impl_power (_ : outs [.v .int, .v .int]) (r : dens [.v .int]) : Int := r

-- impl.keyOf
noncomputable def E_impl_keyOf : Entry where
  params := [.v (.slice .int)]
  results := [.v .str]
  B := ByteArray
  run := fun a => impl_keyOf a
  out := fun b => ()
  res := fun b => b

noncomputable def S_impl_keyOf_L3 (n : Nat) : LoopSpec where
  sh := [(3, .mv (.num .u8) 0), (10, .v (.slice .int)), (11, .v .int), (12, .v .int)]
  ex := [(.exit 0, [(3, .mv (.num .u8) 0)])]
  run := impl_keyOf_L3 n

noncomputable def C_impl_keyOf : Cx where
  tt := tblTT tt
  T := tblT []
  L := tblL [(3, S_impl_keyOf_L3 fuel)]
  dep := fun i => 0
  n := 1

noncomputable def B_impl_keyOf_L3 : Code := (Try.f103.body.bind (loopBody 3)).getD .skip
noncomputable def D_impl_keyOf : Code := Try.f103.body.getD .skip
noncomputable def N_impl_keyOf (_ : outs [.v (.slice .int)]) (r : dens [.v .str]) : ByteArray := r

-- impl.tupleSet
noncomputable def E_impl_tupleSet : Entry where
  params := [.v (.pair .int (.slice (.slice .int)))]
  results := [.v .smap]
  B := (List ByteArray)
  run := fun a => impl_tupleSet a
  out := fun b => ()
  res := fun b => b

noncomputable def S_impl_tupleSet_L3 (n : Nat) : LoopSpec where
  sh := [(3, .mp), (8, .v (.slice (.slice .int))), (9, .v .int), (10, .v .int)]
  ex := [(.exit 0, [(3, .mp)])]
  run := impl_tupleSet_L3 n

noncomputable def C_impl_tupleSet : Cx where
  tt := tblTT tt
  T := tblT [(103, E_impl_keyOf)]
  L := tblL [(3, S_impl_tupleSet_L3 fuel)]
  dep := fun i => 0
  n := 1

noncomputable def B_impl_tupleSet_L3 : Code := (Try.f102.body.bind (loopBody 3)).getD .skip
noncomputable def D_impl_tupleSet : Code := Try.f102.body.getD .skip
noncomputable def N_impl_tupleSet (_ : outs [.v (.pair .int (.slice (.slice .int)))]) (r : dens [.v .smap]) : (List ByteArray) := r

-- impl.argsAt
noncomputable def E_impl_argsAt : Entry where
  params := [.v .int, .v .int, .v .int]
  results := [.mv .int 0]
  B := (List Int)
  run := fun a => impl_argsAt a.1 a.2.1 a.2.2
  out := fun b => ((), (), ())
  res := fun b => b

noncomputable def S_impl_argsAt_L3 (n : Nat) : LoopSpec where
  sh := [(0, .v .int), (2, .v .int), (7, .mv .int 0), (8, .v .int)]
  ex := [(.exit 0, [(7, .mv .int 0)])]
  run := impl_argsAt_L3 n

noncomputable def C_impl_argsAt : Cx where
  tt := tblTT tt
  T := tblT []
  L := tblL [(3, S_impl_argsAt_L3 fuel)]
  dep := fun i => 0
  n := 3

noncomputable def B_impl_argsAt_L3 : Code := (Try.f70.body.bind (loopBody 3)).getD .skip
noncomputable def D_impl_argsAt : Code := Try.f70.body.getD .skip
noncomputable def N_impl_argsAt (_ : outs [.v .int, .v .int, .v .int]) (r : dens [.mv .int 0]) : (List Int) := r

-- impl.newPolySearch
noncomputable def E_impl_newPolySearch : Entry where
  params := [.v .int, .v (.slice (.pair .int (.slice (.slice .int)))), .v .int]
  results := [.v (.ptr (.pair .int (.pair .int (.slice (.slice (.pair (.slice .int) .smap))))))]
  B := (Bool × Int × Int × (List (List ((List Int) × (List ByteArray)))))
  run := fun a => impl_newPolySearch a.1 a.2.1 a.2.2
  out := fun b => ((), (), ())
  res := fun b => b

noncomputable def S_impl_newPolySearch_L17 (n : Nat) : LoopSpec where
  sh := [(917564, .jk 1), (0, .v .int), (2, .v .int), (7, .bx (.pr (.v .int) (.pr (.v .int) (.mv (.slice (.pair (.slice .int) .smap)) 1)))), (9, .bx (.v (.pair .int (.slice (.slice .int))))), (10, .v .smap), (11, .mp), (12, .v .int), (13, .mv .int 0), (14, .mv .int 0), (15, .v .int), (16, .v .int), (28, .v (.slice (.pair .int (.slice (.slice .int))))), (29, .v .int), (30, .v .int), (56, .v .int), (57, .v .int), (61, .v .int), (62, .v .int)]
  ex := [(.exit 6, [(0, .v .int), (2, .v .int), (7, .bx (.pr (.v .int) (.pr (.v .int) (.mv (.slice (.pair (.slice .int) .smap)) 1)))), (9, .bx (.v (.pair .int (.slice (.slice .int))))), (10, .v .smap), (11, .mp), (12, .v .int), (13, .mv .int 0), (14, .mv .int 0), (15, .v .int), (16, .v .int), (28, .v (.slice (.pair .int (.slice (.slice .int))))), (29, .v .int), (30, .v .int), (56, .v .int), (57, .v .int)])]
  run := impl_newPolySearch_L17 n

noncomputable def S_impl_newPolySearch_L14 (n : Nat) : LoopSpec where
  sh := [(0, .v .int), (2, .v .int), (7, .bx (.pr (.v .int) (.pr (.v .int) (.mv (.slice (.pair (.slice .int) .smap)) 1)))), (9, .bx (.v (.pair .int (.slice (.slice .int))))), (10, .v .smap), (11, .mp), (12, .v .int), (13, .mv .int 0), (14, .mv .int 0), (15, .v .int), (28, .v (.slice (.pair .int (.slice (.slice .int))))), (29, .v .int), (30, .v .int), (56, .v .int), (57, .v .int)]
  ex := [(.exit 4, [(0, .v .int), (2, .v .int), (7, .bx (.pr (.v .int) (.pr (.v .int) (.mv (.slice (.pair (.slice .int) .smap)) 1)))), (9, .bx (.v (.pair .int (.slice (.slice .int))))), (10, .v .smap), (11, .mp), (12, .v .int), (14, .mv .int 0), (15, .v .int), (28, .v (.slice (.pair .int (.slice (.slice .int))))), (29, .v .int), (30, .v .int)])]
  run := impl_newPolySearch_L14 n

noncomputable def S_impl_newPolySearch_L8 (n : Nat) : LoopSpec where
  sh := [(0, .v .int), (2, .v .int), (7, .bx (.pr (.v .int) (.pr (.v .int) (.mv (.slice (.pair (.slice .int) .smap)) 1)))), (9, .bx (.v (.pair .int (.slice (.slice .int))))), (10, .v .smap), (11, .mp), (12, .v .int), (28, .v (.slice (.pair .int (.slice (.slice .int))))), (29, .v .int), (30, .v .int)]
  ex := [(.exit 2, [(0, .v .int), (2, .v .int), (7, .bx (.pr (.v .int) (.pr (.v .int) (.mv (.slice (.pair (.slice .int) .smap)) 1)))), (28, .v (.slice (.pair .int (.slice (.slice .int))))), (29, .v .int), (30, .v .int)])]
  run := impl_newPolySearch_L8 n

noncomputable def S_impl_newPolySearch_L3 (n : Nat) : LoopSpec where
  sh := [(0, .v .int), (2, .v .int), (7, .bx (.pr (.v .int) (.pr (.v .int) (.mv (.slice (.pair (.slice .int) .smap)) 1)))), (28, .v (.slice (.pair .int (.slice (.slice .int))))), (29, .v .int), (30, .v .int)]
  ex := [(.exit 0, [(7, .bx (.pr (.v .int) (.pr (.v .int) (.mv (.slice (.pair (.slice .int) .smap)) 1))))])]
  run := impl_newPolySearch_L3 n

noncomputable def C_impl_newPolySearch : Cx where
  tt := tblTT tt
  T := tblT [(61, E_impl_power), (70, E_impl_argsAt), (102, E_impl_tupleSet), (103, E_impl_keyOf)]
  L := tblL [(17, S_impl_newPolySearch_L17 fuel), (14, S_impl_newPolySearch_L14 fuel), (8, S_impl_newPolySearch_L8 fuel), (3, S_impl_newPolySearch_L3 fuel)]
  dep := fun i => match i with
    | 25 => 1
    | _ => 0
  n := 3
  fine := true

noncomputable def B_impl_newPolySearch_L17 : Code := (Try.f77.body.bind (loopBody 17)).getD .skip
noncomputable def B_impl_newPolySearch_L14 : Code := (Try.f77.body.bind (loopBody 14)).getD .skip
noncomputable def B_impl_newPolySearch_L8 : Code := (Try.f77.body.bind (loopBody 8)).getD .skip
noncomputable def B_impl_newPolySearch_L3 : Code := (Try.f77.body.bind (loopBody 3)).getD .skip
noncomputable def D_impl_newPolySearch : Code := Try.f77.body.getD .skip
noncomputable def N_impl_newPolySearch (_ : outs [.v .int, .v (.slice (.pair .int (.slice (.slice .int)))), .v .int]) (r : dens [.v (.ptr (.pair .int (.pair .int (.slice (.slice (.pair (.slice .int) .smap))))))]) : (Bool × Int × Int × (List (List ((List Int) × (List ByteArray))))) := r

-- impl.freeTable
noncomputable def E_impl_freeTable : Entry where
  params := [.v .int]
  results := [.mv .int 0]
  B := (List Int)
  run := fun a => impl_freeTable a
  out := fun b => ()
  res := fun b => b

noncomputable def S_impl_freeTable_L3 (n : Nat) : LoopSpec where
  sh := [(3, .mv .int 0), (8, .v .int), (9, .v .int)]
  ex := [(.exit 0, [(3, .mv .int 0)])]
  run := impl_freeTable_L3 n

noncomputable def C_impl_freeTable : Cx where
  tt := tblTT tt
  T := tblT []
  L := tblL [(3, S_impl_freeTable_L3 fuel)]
  dep := fun i => 0
  n := 1

noncomputable def B_impl_freeTable_L3 : Code := (Try.f69.body.bind (loopBody 3)).getD .skip
noncomputable def D_impl_freeTable : Code := Try.f69.body.getD .skip
noncomputable def N_impl_freeTable (_ : outs [.v .int]) (r : dens [.mv .int 0]) : (List Int) := r

-- impl.marks
noncomputable def E_impl_marks : Entry where
  params := [.v (.slice .int), .v .int]
  results := [.mv .bool 0]
  B := (List Bool)
  run := fun a => impl_marks a.1 a.2
  out := fun b => ((), ())
  res := fun b => b

noncomputable def S_impl_marks_L3 (n : Nat) : LoopSpec where
  sh := [(5, .mv .bool 0), (10, .v (.slice .int)), (11, .v .int), (12, .v .int)]
  ex := [(.exit 0, [(5, .mv .bool 0)])]
  run := impl_marks_L3 n

noncomputable def C_impl_marks : Cx where
  tt := tblTT tt
  T := tblT []
  L := tblL [(3, S_impl_marks_L3 fuel)]
  dep := fun i => 0
  n := 2

noncomputable def B_impl_marks_L3 : Code := (Try.f107.body.bind (loopBody 3)).getD .skip
noncomputable def D_impl_marks : Code := Try.f107.body.getD .skip
noncomputable def N_impl_marks (_ : outs [.v (.slice .int), .v .int]) (r : dens [.mv .bool 0]) : (List Bool) := r

-- impl.marked
noncomputable def E_impl_marked : Entry where
  params := [.v (.slice .bool)]
  results := [.mv .int 0]
  B := (List Int)
  run := fun a => impl_marked a
  out := fun b => ()
  res := fun b => b

noncomputable def S_impl_marked_L3 (n : Nat) : LoopSpec where
  sh := [(3, .mv .int 0), (7, .v (.slice .bool)), (8, .v .int), (9, .v .int)]
  ex := [(.exit 0, [(3, .mv .int 0)])]
  run := impl_marked_L3 n

noncomputable def C_impl_marked : Cx where
  tt := tblTT tt
  T := tblT []
  L := tblL [(3, S_impl_marked_L3 fuel)]
  dep := fun i => 0
  n := 1

noncomputable def B_impl_marked_L3 : Code := (Try.f106.body.bind (loopBody 3)).getD .skip
noncomputable def D_impl_marked : Code := Try.f106.body.getD .skip
noncomputable def N_impl_marked (_ : outs [.v (.slice .bool)]) (r : dens [.mv .int 0]) : (List Int) := r

-- impl.imagesOf
noncomputable def E_impl_imagesOf : Entry where
  params := [.v (.slice .int), .v .int]
  results := [.mv .int 0]
  B := (List Int)
  run := fun a => impl_imagesOf a.1 a.2
  out := fun b => ((), ())
  res := fun b => b

noncomputable def C_impl_imagesOf : Cx where
  tt := tblTT tt
  T := tblT [(106, E_impl_marked), (107, E_impl_marks)]
  L := tblL []
  dep := fun i => 0
  n := 2

noncomputable def D_impl_imagesOf : Code := Try.f80.body.getD .skip
noncomputable def N_impl_imagesOf (_ : outs [.v (.slice .int), .v .int]) (r : dens [.mv .int 0]) : (List Int) := r

-- impl.clone
noncomputable def E_impl_clone : Entry where
  params := [.v (.slice .int)]
  results := [.mv .int 0]
  B := (List Int)
  run := fun a => impl_clone a
  out := fun b => ()
  res := fun b => b

noncomputable def C_impl_clone : Cx where
  tt := tblTT tt
  T := tblT []
  L := tblL []
  dep := fun i => 0
  n := 1

noncomputable def D_impl_clone : Code := Try.f81.body.getD .skip
noncomputable def N_impl_clone (_ : outs [.v (.slice .int)]) (r : dens [.mv .int 0]) : (List Int) := r

-- impl.CoreMap$1
noncomputable def E_impl_CoreMap_c1 : Entry where
  params := [.v (.slice .int), .bx (.v .int), .bx (.v .int), .bx (.pr (.v .int) (.mv .int 0))]
  results := [.v .bool]
  B := Int × Int × (Int × (List Int)) × Bool
  run := fun a => impl_CoreMap_c1 a.1 a.2.1 a.2.2.1 a.2.2.2
  out := fun b => ((), b.1, b.2.1, b.2.2.1)
  res := fun b => b.2.2.2

noncomputable def C_impl_CoreMap_c1 : Cx where
  tt := tblTT tt
  T := tblT [(80, E_impl_imagesOf), (81, E_impl_clone)]
  L := tblL []
  dep := fun i => 0
  n := 4

noncomputable def D_impl_CoreMap_c1 : Code := Try.f79.body.getD .skip
noncomputable def N_impl_CoreMap_c1 (o : outs [.v (.slice .int), .bx (.v .int), .bx (.v .int), .bx (.pr (.v .int) (.mv .int 0))]) (r : dens [.v .bool]) : Int × Int × (Int × (List Int)) × Bool := (o.2.1, o.2.2.1, o.2.2.2, r)

-- impl.compose
noncomputable def E_impl_compose : Entry where
  params := [.v (.slice .int), .v (.slice .int)]
  results := [.mv .int 0]
  B := (List Int)
  run := fun a => impl_compose a.1 a.2
  out := fun b => ((), ())
  res := fun b => b

noncomputable def S_impl_compose_L3 (n : Nat) : LoopSpec where
  sh := [(1, .v (.slice .int)), (5, .mv .int 0), (11, .v (.slice .int)), (12, .v .int), (13, .v .int)]
  ex := [(.exit 0, [(5, .mv .int 0)])]
  run := impl_compose_L3 n

noncomputable def C_impl_compose : Cx where
  tt := tblTT tt
  T := tblT []
  L := tblL [(3, S_impl_compose_L3 fuel)]
  dep := fun i => 0
  n := 2

noncomputable def B_impl_compose_L3 : Code := (Try.f84.body.bind (loopBody 3)).getD .skip
noncomputable def D_impl_compose : Code := Try.f84.body.getD .skip
noncomputable def N_impl_compose (_ : outs [.v (.slice .int), .v (.slice .int)]) (r : dens [.mv .int 0]) : (List Int) := r

-- impl.polySearch).fits
noncomputable def E_impl_polySearch_fits_p : Entry where
  params := [.v (.ptr (.pair .int (.pair .int (.slice (.slice (.pair (.slice .int) .smap)))))), .v (.slice .int), .v .int]
  results := [.v .bool]
  B := Bool
  run := fun a => impl_polySearch_fits_p a.1 a.2.1 a.2.2
  out := fun b => ((), (), ())
  res := fun b => b

noncomputable def S_impl_polySearch_fits_p_L2 (n : Nat) : LoopSpec where
  sh := [(1, .v (.slice .int)), (15, .v (.slice (.pair (.slice .int) .smap))), (16, .v .int), (17, .v .int)]
  ex := [(.exit 0, []), (.ret, [(6, .v .bool)])]
  run := impl_polySearch_fits_p_L2 n

noncomputable def C_impl_polySearch_fits_p : Cx where
  tt := tblTT tt
  T := tblT [(84, E_impl_compose), (103, E_impl_keyOf)]
  L := tblL [(2, S_impl_polySearch_fits_p_L2 fuel)]
  dep := fun i => 0
  n := 3

noncomputable def B_impl_polySearch_fits_p_L2 : Code := (Try.f105.body.bind (loopBody 2)).getD .skip
noncomputable def D_impl_polySearch_fits_p : Code := Try.f105.body.getD .skip
noncomputable def N_impl_polySearch_fits_p (_ : outs [.v (.ptr (.pair .int (.pair .int (.slice (.slice (.pair (.slice .int) .smap)))))), .v (.slice .int), .v .int]) (r : dens [.v .bool]) : Bool := r

-- impl.polySearch).each$1
noncomputable def E_impl_polySearch_each_c1_impl_CoreMap_c1_of (rec : (Int × (List Int) × (Int × (Int × (Int × (List Int)))) × (Bool × Int × Int × (List (List ((List Int) × (List ByteArray))))) × (List Int) × Unit) → Option ((List Int) × (Int × (Int × (Int × (List Int)))) × (Bool × Int × Int × (List (List ((List Int) × (List ByteArray))))) × (List Int) × Bool)) : Entry where
  params := [.v .int, .bx (.mv .int 0), .pr (.bx (.v .int)) (.pr (.bx (.v .int)) (.bx (.pr (.v .int) (.mv .int 0)))), .bx (.v (.ptr (.pair .int (.pair .int (.slice (.slice (.pair (.slice .int) .smap))))))), .bx (.v (.slice .int)), .jk 1]
  results := [.v .bool]
  cod := [(2, .kb 79), (5, .kn 104 1 5)]
  B := (List Int) × (Int × (Int × (Int × (List Int)))) × (Bool × Int × Int × (List (List ((List Int) × (List ByteArray))))) × (List Int) × Bool
  run := rec
  out := fun b => ((), b.1, b.2.1, b.2.2.1, b.2.2.2.1, ())
  res := fun b => b.2.2.2.2

noncomputable def E_impl_polySearch_each_c1_impl_CoreMap_c1 (d : Nat) : Entry := E_impl_polySearch_each_c1_impl_CoreMap_c1_of (impl_polySearch_each_c1_impl_CoreMap_c1 d)

noncomputable def S_impl_polySearch_each_c1_impl_CoreMap_c1_L4 (rec : (Int × (List Int) × (Int × (Int × (Int × (List Int)))) × (Bool × Int × Int × (List (List ((List Int) × (List ByteArray))))) × (List Int) × Unit) → Option ((List Int) × (Int × (Int × (Int × (List Int)))) × (Bool × Int × Int × (List (List ((List Int) × (List ByteArray))))) × (List Int) × Bool)) (n : Nat) : LoopSpec where
  sh := [(0, .v .int), (1, .bx (.mv .int 0)), (2, .pr (.bx (.v .int)) (.pr (.bx (.v .int)) (.bx (.pr (.v .int) (.mv .int 0))))), (3, .bx (.v (.ptr (.pair .int (.pair .int (.slice (.slice (.pair (.slice .int) .smap)))))))), (4, .bx (.v (.slice .int))), (5, .jk 1), (8, .v .int)]
  ex := [(.exit 0, [(1, .bx (.mv .int 0)), (2, .pr (.bx (.v .int)) (.pr (.bx (.v .int)) (.bx (.pr (.v .int) (.mv .int 0))))), (3, .bx (.v (.ptr (.pair .int (.pair .int (.slice (.slice (.pair (.slice .int) .smap)))))))), (4, .bx (.v (.slice .int))), (5, .jk 1)]), (.ret, [(1, .bx (.mv .int 0)), (2, .pr (.bx (.v .int)) (.pr (.bx (.v .int)) (.bx (.pr (.v .int) (.mv .int 0))))), (3, .bx (.v (.ptr (.pair .int (.pair .int (.slice (.slice (.pair (.slice .int) .smap)))))))), (4, .bx (.v (.slice .int))), (5, .jk 1), (7, .v .bool)])]
  run := impl_polySearch_each_c1_impl_CoreMap_c1_L4 rec n

noncomputable def C_impl_polySearch_each_c1_impl_CoreMap_c1 (rec : (Int × (List Int) × (Int × (Int × (Int × (List Int)))) × (Bool × Int × Int × (List (List ((List Int) × (List ByteArray))))) × (List Int) × Unit) → Option ((List Int) × (Int × (Int × (Int × (List Int)))) × (Bool × Int × Int × (List (List ((List Int) × (List ByteArray))))) × (List Int) × Bool)) : Cx where
  tt := tblTT tt
  T := tblT [(79, E_impl_CoreMap_c1), (105, E_impl_polySearch_fits_p), (5242984, E_impl_polySearch_each_c1_impl_CoreMap_c1_of rec)]
  L := tblL [(4, S_impl_polySearch_each_c1_impl_CoreMap_c1_L4 rec fuel)]
  dep := fun i => 0
  n := 6
  cod := [(2, .kb 79), (5, .kn 104 1 5)]

noncomputable def B_impl_polySearch_each_c1_impl_CoreMap_c1_L4 : Code := (Try.f104.body.bind (loopBody 4)).getD .skip
noncomputable def D_impl_polySearch_each_c1_impl_CoreMap_c1 : Code := Try.f104.body.getD .skip
noncomputable def N_impl_polySearch_each_c1_impl_CoreMap_c1 (o : outs [.v .int, .bx (.mv .int 0), .pr (.bx (.v .int)) (.pr (.bx (.v .int)) (.bx (.pr (.v .int) (.mv .int 0)))), .bx (.v (.ptr (.pair .int (.pair .int (.slice (.slice (.pair (.slice .int) .smap))))))), .bx (.v (.slice .int)), .jk 1]) (r : dens [.v .bool]) : (List Int) × (Int × (Int × (Int × (List Int)))) × (Bool × Int × Int × (List (List ((List Int) × (List ByteArray))))) × (List Int) × Bool := (o.2.1, o.2.2.1, o.2.2.2.1, o.2.2.2.2.1, r)

-- impl.polySearch).each
noncomputable def E_impl_polySearch_each_impl_CoreMap_c1 : Entry where
  params := [.v (.ptr (.pair .int (.pair .int (.slice (.slice (.pair (.slice .int) .smap)))))), .v (.slice .int), .pr (.bx (.v .int)) (.pr (.bx (.v .int)) (.bx (.pr (.v .int) (.mv .int 0))))]
  results := []
  cod := [(2, .cl 79)]
  B := (Int × (Int × (Int × (List Int))))
  run := fun a => impl_polySearch_each_impl_CoreMap_c1 a.1 a.2.1 a.2.2
  out := fun b => ((), (), b)
  res := fun b => ()

noncomputable def C_impl_polySearch_each_impl_CoreMap_c1 : Cx where
  tt := tblTT tt
  T := tblT [(5242984, E_impl_polySearch_each_c1_impl_CoreMap_c1 fuel)]
  L := tblL []
  dep := fun i => 0
  n := 3
  cod := [(2, .cl 79)]

noncomputable def D_impl_polySearch_each_impl_CoreMap_c1 : Code := Try.f78.body.getD .skip
noncomputable def N_impl_polySearch_each_impl_CoreMap_c1 (o : outs [.v (.ptr (.pair .int (.pair .int (.slice (.slice (.pair (.slice .int) .smap)))))), .v (.slice .int), .pr (.bx (.v .int)) (.pr (.bx (.v .int)) (.bx (.pr (.v .int) (.mv .int 0))))]) (_ : dens []) : (Int × (Int × (Int × (List Int)))) := o.2.2

-- impl.CoreMap
noncomputable def E_impl_CoreMap : Entry where
  params := [.v .int, .v (.slice (.pair .int (.slice (.slice .int))))]
  results := [.pr (.v .int) (.mv .int 0), .v .bool]
  B := (Int × (List Int)) × Bool
  run := fun a => impl_CoreMap a.1 a.2
  out := fun b => ((), ())
  res := fun b => (b.1, b.2)

noncomputable def C_impl_CoreMap : Cx where
  tt := tblTT tt
  T := tblT [(59, E_impl_canAsk), (69, E_impl_freeTable), (77, E_impl_newPolySearch), (5242958, E_impl_polySearch_each_impl_CoreMap_c1)]
  L := tblL []
  dep := fun i => 0
  n := 2

noncomputable def D_impl_CoreMap : Code := Try.f41.body.getD .skip
noncomputable def N_impl_CoreMap (_ : outs [.v .int, .v (.slice (.pair .int (.slice (.slice .int))))]) (r : dens [.pr (.v .int) (.mv .int 0), .v .bool]) : (Int × (List Int)) × Bool := (r.1, r.2)

-- impl.CoreTemplate
noncomputable def E_impl_CoreTemplate : Entry where
  params := [.v .int, .v (.slice (.pair .int (.slice (.slice .int))))]
  results := [.v .int, .mv (.pair .int (.slice (.slice .int))) 2, .v .bool]
  B := Int × (List (Int × (List (List Int)))) × Bool
  run := fun a => impl_CoreTemplate a.1 a.2
  out := fun b => ((), ())
  res := fun b => (b.1, b.2.1, b.2.2)

noncomputable def S_impl_CoreTemplate_L7 (n : Nat) : LoopSpec where
  sh := [(0, .v .int), (1, .v (.slice (.pair .int (.slice (.slice .int))))), (9, .mv .int 0), (10, .mv .int 0), (37, .v .int), (38, .v .int)]
  ex := [(.exit 0, [(0, .v .int), (1, .v (.slice (.pair .int (.slice (.slice .int))))), (9, .mv .int 0), (10, .mv .int 0)])]
  run := impl_CoreTemplate_L7 n

noncomputable def S_impl_CoreTemplate_L12 (n : Nat) : LoopSpec where
  sh := [(655405, .jk 1), (0, .v .int), (1, .v (.slice (.pair .int (.slice (.slice .int))))), (9, .mv .int 0), (10, .mv .int 0), (46, .v .int), (47, .v .int)]
  ex := [(.exit 2, [(0, .v .int), (1, .v (.slice (.pair .int (.slice (.slice .int))))), (9, .mv .int 0), (10, .mv .int 0)])]
  run := impl_CoreTemplate_L12 n

noncomputable def S_impl_CoreTemplate_L22 (n : Nat) : LoopSpec where
  sh := [(0, .v .int), (9, .mv .int 0), (10, .mv .int 0), (14, .mv (.pair .int (.slice (.slice .int))) 2), (17, .bx (.pr (.v .int) (.mv (.slice .int) 1))), (58, .v (.slice (.pair .int (.slice (.slice .int))))), (59, .v .int), (60, .v .int), (68, .v (.slice (.slice .int))), (69, .v .int), (70, .v .int)]
  ex := [(.exit 6, [(0, .v .int), (9, .mv .int 0), (10, .mv .int 0), (14, .mv (.pair .int (.slice (.slice .int))) 2), (17, .bx (.pr (.v .int) (.mv (.slice .int) 1))), (58, .v (.slice (.pair .int (.slice (.slice .int))))), (59, .v .int), (60, .v .int)])]
  run := impl_CoreTemplate_L22 n

noncomputable def S_impl_CoreTemplate_L18 (n : Nat) : LoopSpec where
  sh := [(0, .v .int), (9, .mv .int 0), (10, .mv .int 0), (14, .mv (.pair .int (.slice (.slice .int))) 2), (58, .v (.slice (.pair .int (.slice (.slice .int))))), (59, .v .int), (60, .v .int)]
  ex := [(.exit 4, [(9, .mv .int 0), (14, .mv (.pair .int (.slice (.slice .int))) 2)])]
  run := impl_CoreTemplate_L18 n

noncomputable def C_impl_CoreTemplate : Cx where
  tt := tblTT tt
  T := tblT [(41, E_impl_CoreMap), (80, E_impl_imagesOf), (84, E_impl_compose), (85, E_impl_inSize)]
  L := tblL [(7, S_impl_CoreTemplate_L7 fuel), (12, S_impl_CoreTemplate_L12 fuel), (22, S_impl_CoreTemplate_L22 fuel), (18, S_impl_CoreTemplate_L18 fuel)]
  dep := fun i => match i with
    | 29 => 2
    | 57 => 2
    | 83 => 1
    | 84 => 1
    | 89 => 2
    | 90 => 2
    | _ => 0
  n := 2

noncomputable def B_impl_CoreTemplate_L7 : Code := (Try.f43.body.bind (loopBody 7)).getD .skip
noncomputable def B_impl_CoreTemplate_L12 : Code := (Try.f43.body.bind (loopBody 12)).getD .skip
noncomputable def B_impl_CoreTemplate_L22 : Code := (Try.f43.body.bind (loopBody 22)).getD .skip
noncomputable def B_impl_CoreTemplate_L18 : Code := (Try.f43.body.bind (loopBody 18)).getD .skip
noncomputable def D_impl_CoreTemplate : Code := Try.f43.body.getD .skip
noncomputable def N_impl_CoreTemplate (_ : outs [.v .int, .v (.slice (.pair .int (.slice (.slice .int))))]) (r : dens [.v .int, .mv (.pair .int (.slice (.slice .int))) 2, .v .bool]) : Int × (List (Int × (List (List Int)))) × Bool := (r.1, r.2.1, r.2.2)

-- laws.eqIntS
noncomputable def E_laws_eqIntS : Entry where
  params := [.v (.slice .int), .v (.slice .int)]
  results := [.v .bool]
  B := Bool
  run := fun a => laws_eqIntS a.1 a.2
  out := fun b => ((), ())
  res := fun b => b

noncomputable def S_laws_eqIntS_L4 (n : Nat) : LoopSpec where
  sh := [(0, .v (.slice .int)), (1, .v (.slice .int)), (5, .v .int)]
  ex := [(.exit 0, []), (.ret, [(4, .v .bool)])]
  run := laws_eqIntS_L4 n

noncomputable def C_laws_eqIntS : Cx where
  tt := tblTT tt
  T := tblT []
  L := tblL [(4, S_laws_eqIntS_L4 fuel)]
  dep := fun i => 0
  n := 2

noncomputable def B_laws_eqIntS_L4 : Code := (Try.f24.body.bind (loopBody 4)).getD .skip
noncomputable def D_laws_eqIntS : Code := Try.f24.body.getD .skip
noncomputable def N_laws_eqIntS (_ : outs [.v (.slice .int), .v (.slice .int)]) (r : dens [.v .bool]) : Bool := r

-- laws.eqIntSS
noncomputable def E_laws_eqIntSS : Entry where
  params := [.v (.slice (.slice .int)), .v (.slice (.slice .int))]
  results := [.v .bool]
  B := Bool
  run := fun a => laws_eqIntSS a.1 a.2
  out := fun b => ((), ())
  res := fun b => b

noncomputable def S_laws_eqIntSS_L4 (n : Nat) : LoopSpec where
  sh := [(0, .v (.slice (.slice .int))), (1, .v (.slice (.slice .int))), (5, .v .int)]
  ex := [(.exit 0, []), (.ret, [(4, .v .bool)])]
  run := laws_eqIntSS_L4 n

noncomputable def C_laws_eqIntSS : Cx where
  tt := tblTT tt
  T := tblT [(24, E_laws_eqIntS)]
  L := tblL [(4, S_laws_eqIntSS_L4 fuel)]
  dep := fun i => 0
  n := 2

noncomputable def B_laws_eqIntSS_L4 : Code := (Try.f98.body.bind (loopBody 4)).getD .skip
noncomputable def D_laws_eqIntSS : Code := Try.f98.body.getD .skip
noncomputable def N_laws_eqIntSS (_ : outs [.v (.slice (.slice .int)), .v (.slice (.slice .int))]) (r : dens [.v .bool]) : Bool := r

-- laws.eqRelation
noncomputable def E_laws_eqRelation : Entry where
  params := [.v (.pair .int (.slice (.slice .int))), .v (.pair .int (.slice (.slice .int)))]
  results := [.v .bool]
  B := Bool
  run := fun a => laws_eqRelation a.1 a.2
  out := fun b => ((), ())
  res := fun b => b

noncomputable def C_laws_eqRelation : Cx where
  tt := tblTT tt
  T := tblT [(98, E_laws_eqIntSS)]
  L := tblL []
  dep := fun i => 0
  n := 2

noncomputable def D_laws_eqRelation : Code := Try.f64.body.getD .skip
noncomputable def N_laws_eqRelation (_ : outs [.v (.pair .int (.slice (.slice .int))), .v (.pair .int (.slice (.slice .int)))]) (r : dens [.v .bool]) : Bool := r

-- laws.eqRelationS
noncomputable def E_laws_eqRelationS : Entry where
  params := [.v (.slice (.pair .int (.slice (.slice .int)))), .v (.slice (.pair .int (.slice (.slice .int))))]
  results := [.v .bool]
  B := Bool
  run := fun a => laws_eqRelationS a.1 a.2
  out := fun b => ((), ())
  res := fun b => b

noncomputable def S_laws_eqRelationS_L4 (n : Nat) : LoopSpec where
  sh := [(0, .v (.slice (.pair .int (.slice (.slice .int))))), (1, .v (.slice (.pair .int (.slice (.slice .int))))), (5, .v .int)]
  ex := [(.exit 0, []), (.ret, [(4, .v .bool)])]
  run := laws_eqRelationS_L4 n

noncomputable def C_laws_eqRelationS : Cx where
  tt := tblTT tt
  T := tblT [(64, E_laws_eqRelation)]
  L := tblL [(4, S_laws_eqRelationS_L4 fuel)]
  dep := fun i => 0
  n := 2

noncomputable def B_laws_eqRelationS_L4 : Code := (Try.f23.body.bind (loopBody 4)).getD .skip
noncomputable def D_laws_eqRelationS : Code := Try.f23.body.getD .skip
noncomputable def N_laws_eqRelationS (_ : outs [.v (.slice (.pair .int (.slice (.slice .int)))), .v (.slice (.pair .int (.slice (.slice .int))))]) (r : dens [.v .bool]) : Bool := r

-- laws.markIntS
noncomputable def E_laws_markIntS : Entry where
  params := [.io .int 0, .v .int]
  results := [.v .int]
  B := (List Int) × Int
  run := fun a => laws_markIntS a.1 a.2
  out := fun b => (b.1, ())
  res := fun b => b.2

noncomputable def S_laws_markIntS_L2 (n : Nat) : LoopSpec where
  sh := [(0, .io .int 0), (1, .v .int), (5, .v .int)]
  ex := [(.exit 0, [(0, .io .int 0), (1, .v .int)])]
  run := laws_markIntS_L2 n

noncomputable def C_laws_markIntS : Cx where
  tt := tblTT tt
  T := tblT []
  L := tblL [(2, S_laws_markIntS_L2 fuel)]
  dep := fun i => 0
  n := 2

noncomputable def B_laws_markIntS_L2 : Code := (Try.f26.body.bind (loopBody 2)).getD .skip
noncomputable def D_laws_markIntS : Code := Try.f26.body.getD .skip
noncomputable def N_laws_markIntS (o : outs [.io .int 0, .v .int]) (r : dens [.v .int]) : (List Int) × Int := (o.1, r)

-- laws.markIntSS
noncomputable def E_laws_markIntSS : Entry where
  params := [.io (.slice .int) 1, .v .int]
  results := [.v .int]
  B := (List (List Int)) × Int
  run := fun a => laws_markIntSS a.1 a.2
  out := fun b => (b.1, ())
  res := fun b => b.2

noncomputable def S_laws_markIntSS_L2 (n : Nat) : LoopSpec where
  sh := [(0, .io (.slice .int) 1), (1, .v .int), (5, .v .int)]
  ex := [(.exit 0, [(0, .io (.slice .int) 1), (1, .v .int)])]
  run := laws_markIntSS_L2 n

noncomputable def C_laws_markIntSS : Cx where
  tt := tblTT tt
  T := tblT [(26, E_laws_markIntS)]
  L := tblL [(2, S_laws_markIntSS_L2 fuel)]
  dep := fun i => 0
  n := 2

noncomputable def B_laws_markIntSS_L2 : Code := (Try.f65.body.bind (loopBody 2)).getD .skip
noncomputable def D_laws_markIntSS : Code := Try.f65.body.getD .skip
noncomputable def N_laws_markIntSS (o : outs [.io (.slice .int) 1, .v .int]) (r : dens [.v .int]) : (List (List Int)) × Int := (o.1, r)

-- laws.markRelationS
noncomputable def E_laws_markRelationS : Entry where
  params := [.io (.pair .int (.slice (.slice .int))) 2, .v .int]
  results := [.v .int]
  B := (List (Int × (List (List Int)))) × Int
  run := fun a => laws_markRelationS a.1 a.2
  out := fun b => (b.1, ())
  res := fun b => b.2

noncomputable def S_laws_markRelationS_L2 (n : Nat) : LoopSpec where
  sh := [(0, .io (.pair .int (.slice (.slice .int))) 2), (1, .v .int), (5, .v .int)]
  ex := [(.exit 0, [(0, .io (.pair .int (.slice (.slice .int))) 2), (1, .v .int)])]
  run := laws_markRelationS_L2 n

noncomputable def C_laws_markRelationS : Cx where
  tt := tblTT tt
  T := tblT [(65, E_laws_markIntSS)]
  L := tblL [(2, S_laws_markRelationS_L2 fuel)]
  dep := fun i => 0
  n := 2

noncomputable def B_laws_markRelationS_L2 : Code := (Try.f25.body.bind (loopBody 2)).getD .skip
noncomputable def D_laws_markRelationS : Code := Try.f25.body.getD .skip
noncomputable def N_laws_markRelationS (o : outs [.io (.pair .int (.slice (.slice .int))) 2, .v .int]) (r : dens [.v .int]) : (List (Int × (List (List Int)))) × Int := (o.1, r)

-- laws.heldIntS
noncomputable def E_laws_heldIntS : Entry where
  params := [.v (.slice .int), .v .int]
  results := [.v .int]
  B := Int
  run := fun a => laws_heldIntS a.1 a.2
  out := fun b => ((), ())
  res := fun b => b

noncomputable def S_laws_heldIntS_L2 (n : Nat) : LoopSpec where
  sh := [(0, .v (.slice .int)), (1, .v .int), (5, .v .int)]
  ex := [(.exit 0, [(1, .v .int)]), (.ret, [(4, .v .int)])]
  run := laws_heldIntS_L2 n

noncomputable def C_laws_heldIntS : Cx where
  tt := tblTT tt
  T := tblT []
  L := tblL [(2, S_laws_heldIntS_L2 fuel)]
  dep := fun i => 0
  n := 2

noncomputable def B_laws_heldIntS_L2 : Code := (Try.f52.body.bind (loopBody 2)).getD .skip
noncomputable def D_laws_heldIntS : Code := Try.f52.body.getD .skip
noncomputable def N_laws_heldIntS (_ : outs [.v (.slice .int), .v .int]) (r : dens [.v .int]) : Int := r

-- laws.heldIntSS
noncomputable def E_laws_heldIntSS : Entry where
  params := [.v (.slice (.slice .int)), .v .int]
  results := [.v .int]
  B := Int
  run := fun a => laws_heldIntSS a.1 a.2
  out := fun b => ((), ())
  res := fun b => b

noncomputable def S_laws_heldIntSS_L2 (n : Nat) : LoopSpec where
  sh := [(0, .v (.slice (.slice .int))), (1, .v .int), (5, .v .int)]
  ex := [(.exit 0, [(1, .v .int)]), (.ret, [(4, .v .int)])]
  run := laws_heldIntSS_L2 n

noncomputable def C_laws_heldIntSS : Cx where
  tt := tblTT tt
  T := tblT [(52, E_laws_heldIntS)]
  L := tblL [(2, S_laws_heldIntSS_L2 fuel)]
  dep := fun i => 0
  n := 2

noncomputable def B_laws_heldIntSS_L2 : Code := (Try.f86.body.bind (loopBody 2)).getD .skip
noncomputable def D_laws_heldIntSS : Code := Try.f86.body.getD .skip
noncomputable def N_laws_heldIntSS (_ : outs [.v (.slice (.slice .int)), .v .int]) (r : dens [.v .int]) : Int := r

-- laws.heldRelationS
noncomputable def E_laws_heldRelationS : Entry where
  params := [.v (.slice (.pair .int (.slice (.slice .int)))), .v .int]
  results := [.v .int]
  B := Int
  run := fun a => laws_heldRelationS a.1 a.2
  out := fun b => ((), ())
  res := fun b => b

noncomputable def S_laws_heldRelationS_L2 (n : Nat) : LoopSpec where
  sh := [(0, .v (.slice (.pair .int (.slice (.slice .int))))), (1, .v .int), (5, .v .int)]
  ex := [(.exit 0, [(1, .v .int)]), (.ret, [(4, .v .int)])]
  run := laws_heldRelationS_L2 n

noncomputable def C_laws_heldRelationS : Cx where
  tt := tblTT tt
  T := tblT [(86, E_laws_heldIntSS)]
  L := tblL [(2, S_laws_heldRelationS_L2 fuel)]
  dep := fun i => 0
  n := 2

noncomputable def B_laws_heldRelationS_L2 : Code := (Try.f44.body.bind (loopBody 2)).getD .skip
noncomputable def D_laws_heldRelationS : Code := Try.f44.body.getD .skip
noncomputable def N_laws_heldRelationS (_ : outs [.v (.slice (.pair .int (.slice (.slice .int)))), .v .int]) (r : dens [.v .int]) : Int := r

-- laws.FnExactCoreTemplate
noncomputable def E_laws_FnExactCoreTemplate : Entry where
  params := [.v .int, .v (.slice (.pair .int (.slice (.slice .int))))]
  results := [.v .bool]
  B := Bool
  run := fun a => laws_FnExactCoreTemplate a.1 a.2
  out := fun b => ((), ())
  res := fun b => b

noncomputable def C_laws_FnExactCoreTemplate : Cx where
  tt := tblTT tt
  T := tblT [(18, E_laws_szRelationS), (20, E_laws_toRelationS), (23, E_laws_eqRelationS), (25, E_laws_markRelationS), (42, E_spec_CoreTemplate), (43, E_impl_CoreTemplate), (44, E_laws_heldRelationS)]
  L := tblL []
  dep := fun i => 0
  n := 2

noncomputable def D_laws_FnExactCoreTemplate : Code := Try.f11.body.getD .skip
noncomputable def N_laws_FnExactCoreTemplate (_ : outs [.v .int, .v (.slice (.pair .int (.slice (.slice .int))))]) (r : dens [.v .bool]) : Bool := r
end T
