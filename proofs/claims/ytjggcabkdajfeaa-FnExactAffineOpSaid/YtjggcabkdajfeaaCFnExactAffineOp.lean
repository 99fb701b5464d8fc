/- Contexts of the typed functions; no conditions. -/
import Derived.Test.YtjggcabkdajfeaaV5
import Derived.Test.YtjggcabkdajfeaaProg
import Derived.Test.YtjggcabkdajfeaaPFnExactAffineOp
import Derived.KernelRfl
set_option linter.all false
set_option linter.unusedVariables false
set_option maxRecDepth 10000
open Go Go.Va Go.Proofs
namespace T
noncomputable def tt : List (Nat × TI) := [
  (3, { ty := .int }),
  (4, { ty := .bool }),
  (22, { ty := (.slice .int), elem := 3 }),
  (24, { ty := (.pair .int (.slice .int)), fields := [3, 22] })]
theorem tabT : tabOk Try.prog tt = true := by kernel_rfl
theorem mixT : Try.prog.follows .mixedOrders = true := by kernel_rfl

-- spec.l1In
noncomputable def E_spec_l1In : Entry where
  params := [.v .int, .v .int, .v .int]
  results := [.v .bool]
  B := Bool
  run := fun a => spec_l1In a.1 a.2.1 a.2.2
  out := fun b => ((), (), ())
  res := fun b => b

noncomputable def C_spec_l1In : Cx where
  tt := tblTT tt
  T := tblT []
  L := tblL []
  dep := fun i => 0
  n := 3

noncomputable def D_spec_l1In : Code := Try.f56.body.getD .skip
noncomputable def N_spec_l1In (_ : outs [.v .int, .v .int, .v .int]) (r : dens [.v .bool]) : Bool := r

-- spec.l6Size
noncomputable def E_spec_l6Size : Entry where
  params := [.v .int]
  results := [.v .bool]
  B := Bool
  run := fun a => spec_l6Size a
  out := fun b => ()
  res := fun b => b

noncomputable def C_spec_l6Size : Cx where
  tt := tblTT tt
  T := tblT [(56, E_spec_l1In)]
  L := tblL []
  dep := fun i => 0
  n := 1

noncomputable def D_spec_l6Size : Code := Try.f47.body.getD .skip
noncomputable def N_spec_l6Size (_ : outs [.v .int]) (r : dens [.v .bool]) : Bool := r

-- spec.l2Affine
noncomputable def E_spec_l2Affine : Entry where
  params := [.v .int]
  results := [.pr (.v .int) (.mv .int 0)]
  B := (Int × (List Int))
  run := fun a => spec_l2Affine a
  out := fun b => ()
  res := fun b => b

noncomputable def S_spec_l2Affine_L3 (n : Nat) : LoopSpec where
  sh := [(0, .v .int), (2, .bx (.pr (.v .int) (.mv .int 0))), (3, .bx (.pr (.v .int) (.mv .int 0))), (4, .v .int)]
  ex := [(.exit 0, [(2, .bx (.pr (.v .int) (.mv .int 0))), (3, .bx (.pr (.v .int) (.mv .int 0)))])]
  run := spec_l2Affine_L3 n

noncomputable def C_spec_l2Affine : Cx where
  tt := tblTT tt
  T := tblT []
  L := tblL [(3, S_spec_l2Affine_L3 fuel)]
  dep := fun i => 0
  n := 1

noncomputable def B_spec_l2Affine_L3 : Code := (Try.f48.body.bind (loopBody 3)).getD .skip
noncomputable def D_spec_l2Affine : Code := Try.f48.body.getD .skip
noncomputable def N_spec_l2Affine (_ : outs [.v .int]) (r : dens [.pr (.v .int) (.mv .int 0)]) : (Int × (List Int)) := r

-- spec.AffineOp
noncomputable def E_spec_AffineOp : Entry where
  params := [.v .int]
  results := [.pr (.v .int) (.mv .int 0), .v .bool]
  B := (Int × (List Int)) × Bool
  run := fun a => spec_AffineOp a
  out := fun b => ()
  res := fun b => (b.1, b.2)

noncomputable def C_spec_AffineOp : Cx where
  tt := tblTT tt
  T := tblT [(47, E_spec_l6Size), (48, E_spec_l2Affine)]
  L := tblL []
  dep := fun i => 0
  n := 1

noncomputable def D_spec_AffineOp : Code := Try.f13.body.getD .skip
noncomputable def N_spec_AffineOp (_ : outs [.v .int]) (r : dens [.pr (.v .int) (.mv .int 0), .v .bool]) : (Int × (List Int)) × Bool := (r.1, r.2)

-- impl.isSize
noncomputable def E_impl_isSize : Entry where
  params := [.v .int]
  results := [.v .bool]
  B := Bool
  run := fun a => impl_isSize a
  out := fun b => ()
  res := fun b => b

noncomputable def C_impl_isSize : Cx where
  tt := tblTT tt
  T := tblT []
  L := tblL []
  dep := fun i => 0
  n := 1

noncomputable def D_impl_isSize : Code := Try.f49.body.getD .skip
noncomputable def N_impl_isSize (_ : outs [.v .int]) (r : dens [.v .bool]) : Bool := r

-- impl.AffineOp$1
noncomputable def E_impl_AffineOp_c1 : Entry where
  params := [.v .int, .v .int, .v .int, .bx (.v .int)]
  results := [.v .int]
  B := Int × Int
  run := fun a => impl_AffineOp_c1 a.1 a.2.1 a.2.2.1 a.2.2.2
  out := fun b => ((), (), (), b.1)
  res := fun b => b.2

noncomputable def C_impl_AffineOp_c1 : Cx where
  tt := tblTT tt
  T := tblT []
  L := tblL []
  dep := fun i => 0
  n := 4

noncomputable def D_impl_AffineOp_c1 : Code := Try.f51.body.getD .skip
noncomputable def N_impl_AffineOp_c1 (o : outs [.v .int, .v .int, .v .int, .bx (.v .int)]) (r : dens [.v .int]) : Int × Int := (o.2.2.2, r)

-- impl.ternary
noncomputable def E_impl_ternary_impl_AffineOp_c1 : Entry where
  params := [.v .int, .bx (.v .int)]
  results := [.pr (.v .int) (.mv .int 0)]
  cod := [(1, .cl 51)]
  B := Int × (Int × (List Int))
  run := fun a => impl_ternary_impl_AffineOp_c1 a.1 a.2
  out := fun b => ((), b.1)
  res := fun b => b.2

noncomputable def S_impl_ternary_impl_AffineOp_c1_L3 (n : Nat) : LoopSpec where
  sh := [(0, .v .int), (1, .bx (.v .int)), (4, .bx (.pr (.v .int) (.mv .int 0))), (5, .bx (.pr (.v .int) (.mv .int 0))), (6, .v .int)]
  ex := [(.exit 0, [(1, .bx (.v .int)), (4, .bx (.pr (.v .int) (.mv .int 0))), (5, .bx (.pr (.v .int) (.mv .int 0)))])]
  run := impl_ternary_impl_AffineOp_c1_L3 n

noncomputable def C_impl_ternary_impl_AffineOp_c1 : Cx where
  tt := tblTT tt
  T := tblT [(51, E_impl_AffineOp_c1)]
  L := tblL [(3, S_impl_ternary_impl_AffineOp_c1_L3 fuel)]
  dep := fun i => 0
  n := 2
  cod := [(1, .cl 51)]

noncomputable def B_impl_ternary_impl_AffineOp_c1_L3 : Code := (Try.f50.body.bind (loopBody 3)).getD .skip
noncomputable def D_impl_ternary_impl_AffineOp_c1 : Code := Try.f50.body.getD .skip
noncomputable def N_impl_ternary_impl_AffineOp_c1 (o : outs [.v .int, .bx (.v .int)]) (r : dens [.pr (.v .int) (.mv .int 0)]) : Int × (Int × (List Int)) := (o.2, r)

-- impl.AffineOp
noncomputable def E_impl_AffineOp : Entry where
  params := [.v .int]
  results := [.pr (.v .int) (.mv .int 0), .v .bool]
  B := (Int × (List Int)) × Bool
  run := fun a => impl_AffineOp a
  out := fun b => ()
  res := fun b => (b.1, b.2)

noncomputable def C_impl_AffineOp : Cx where
  tt := tblTT tt
  T := tblT [(49, E_impl_isSize), (3407922, E_impl_ternary_impl_AffineOp_c1)]
  L := tblL []
  dep := fun i => 0
  n := 1

noncomputable def D_impl_AffineOp : Code := Try.f14.body.getD .skip
noncomputable def N_impl_AffineOp (_ : outs [.v .int]) (r : dens [.pr (.v .int) (.mv .int 0), .v .bool]) : (Int × (List Int)) × Bool := (r.1, r.2)

-- laws.eqIntS
noncomputable def E_laws_eqIntS : Entry where
  params := [.v (.slice .int), .v (.slice .int)]
  results := [.v .bool]
  B := Bool
  run := fun a => laws_eqIntS a.1 a.2
  out := fun b => ((), ())
  res := fun b => b

noncomputable def S_laws_eqIntS_L4 (n : Nat) : LoopSpec where
  sh := [(0, .v (.slice .int)), (1, .v (.slice .int)), (5, .v .int)]
  ex := [(.exit 0, []), (.ret, [(4, .v .bool)])]
  run := laws_eqIntS_L4 n

noncomputable def C_laws_eqIntS : Cx where
  tt := tblTT tt
  T := tblT []
  L := tblL [(4, S_laws_eqIntS_L4 fuel)]
  dep := fun i => 0
  n := 2

noncomputable def B_laws_eqIntS_L4 : Code := (Try.f24.body.bind (loopBody 4)).getD .skip
noncomputable def D_laws_eqIntS : Code := Try.f24.body.getD .skip
noncomputable def N_laws_eqIntS (_ : outs [.v (.slice .int), .v (.slice .int)]) (r : dens [.v .bool]) : Bool := r

-- laws.eqOp
noncomputable def E_laws_eqOp : Entry where
  params := [.v (.pair .int (.slice .int)), .v (.pair .int (.slice .int))]
  results := [.v .bool]
  B := Bool
  run := fun a => laws_eqOp a.1 a.2
  out := fun b => ((), ())
  res := fun b => b

noncomputable def C_laws_eqOp : Cx where
  tt := tblTT tt
  T := tblT [(24, E_laws_eqIntS)]
  L := tblL []
  dep := fun i => 0
  n := 2

noncomputable def D_laws_eqOp : Code := Try.f15.body.getD .skip
noncomputable def N_laws_eqOp (_ : outs [.v (.pair .int (.slice .int)), .v (.pair .int (.slice .int))]) (r : dens [.v .bool]) : Bool := r

-- laws.markIntS
noncomputable def E_laws_markIntS : Entry where
  params := [.io .int 0, .v .int]
  results := [.v .int]
  B := (List Int) × Int
  run := fun a => laws_markIntS a.1 a.2
  out := fun b => (b.1, ())
  res := fun b => b.2

noncomputable def S_laws_markIntS_L2 (n : Nat) : LoopSpec where
  sh := [(0, .io .int 0), (1, .v .int), (5, .v .int)]
  ex := [(.exit 0, [(0, .io .int 0), (1, .v .int)])]
  run := laws_markIntS_L2 n

noncomputable def C_laws_markIntS : Cx where
  tt := tblTT tt
  T := tblT []
  L := tblL [(2, S_laws_markIntS_L2 fuel)]
  dep := fun i => 0
  n := 2

noncomputable def B_laws_markIntS_L2 : Code := (Try.f26.body.bind (loopBody 2)).getD .skip
noncomputable def D_laws_markIntS : Code := Try.f26.body.getD .skip
noncomputable def N_laws_markIntS (o : outs [.io .int 0, .v .int]) (r : dens [.v .int]) : (List Int) × Int := (o.1, r)

-- laws.markOp
noncomputable def E_laws_markOp : Entry where
  params := [.pr (.v .int) (.io .int 0), .v .int]
  results := [.v .int]
  B := (Unit × (List Int)) × Int
  run := fun a => laws_markOp a.1 a.2
  out := fun b => (b.1, ())
  res := fun b => b.2

noncomputable def C_laws_markOp : Cx where
  tt := tblTT tt
  T := tblT [(26, E_laws_markIntS)]
  L := tblL []
  dep := fun i => 0
  n := 2

noncomputable def D_laws_markOp : Code := Try.f16.body.getD .skip
noncomputable def N_laws_markOp (o : outs [.pr (.v .int) (.io .int 0), .v .int]) (r : dens [.v .int]) : (Unit × (List Int)) × Int := (o.1, r)

-- laws.heldIntS
noncomputable def E_laws_heldIntS : Entry where
  params := [.v (.slice .int), .v .int]
  results := [.v .int]
  B := Int
  run := fun a => laws_heldIntS a.1 a.2
  out := fun b => ((), ())
  res := fun b => b

noncomputable def S_laws_heldIntS_L2 (n : Nat) : LoopSpec where
  sh := [(0, .v (.slice .int)), (1, .v .int), (5, .v .int)]
  ex := [(.exit 0, [(1, .v .int)]), (.ret, [(4, .v .int)])]
  run := laws_heldIntS_L2 n

noncomputable def C_laws_heldIntS : Cx where
  tt := tblTT tt
  T := tblT []
  L := tblL [(2, S_laws_heldIntS_L2 fuel)]
  dep := fun i => 0
  n := 2

noncomputable def B_laws_heldIntS_L2 : Code := (Try.f52.body.bind (loopBody 2)).getD .skip
noncomputable def D_laws_heldIntS : Code := Try.f52.body.getD .skip
noncomputable def N_laws_heldIntS (_ : outs [.v (.slice .int), .v .int]) (r : dens [.v .int]) : Int := r

-- laws.heldOp
noncomputable def E_laws_heldOp : Entry where
  params := [.v (.pair .int (.slice .int)), .v .int]
  results := [.v .int]
  B := Int
  run := fun a => laws_heldOp a.1 a.2
  out := fun b => ((), ())
  res := fun b => b

noncomputable def C_laws_heldOp : Cx where
  tt := tblTT tt
  T := tblT [(52, E_laws_heldIntS)]
  L := tblL []
  dep := fun i => 0
  n := 2

noncomputable def D_laws_heldOp : Code := Try.f17.body.getD .skip
noncomputable def N_laws_heldOp (_ : outs [.v (.pair .int (.slice .int)), .v .int]) (r : dens [.v .int]) : Int := r

-- laws.FnExactAffineOp
noncomputable def E_laws_FnExactAffineOp : Entry where
  params := [.v .int]
  results := [.v .bool]
  B := Bool
  run := fun a => laws_FnExactAffineOp a
  out := fun b => ()
  res := fun b => b

noncomputable def C_laws_FnExactAffineOp : Cx where
  tt := tblTT tt
  T := tblT [(13, E_spec_AffineOp), (14, E_impl_AffineOp), (15, E_laws_eqOp), (16, E_laws_markOp), (17, E_laws_heldOp)]
  L := tblL []
  dep := fun i => 0
  n := 1

noncomputable def D_laws_FnExactAffineOp : Code := Try.f3.body.getD .skip
noncomputable def N_laws_FnExactAffineOp (_ : outs [.v .int]) (r : dens [.v .bool]) : Bool := r
end T
