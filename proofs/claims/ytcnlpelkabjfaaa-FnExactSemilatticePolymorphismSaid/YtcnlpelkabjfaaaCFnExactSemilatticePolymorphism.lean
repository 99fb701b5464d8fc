/- Contexts of the typed functions; no conditions. -/
import Derived.Test.YtcnlpelkabjfaaaV5
import Derived.Test.YtcnlpelkabjfaaaProg
import Derived.Test.YtcnlpelkabjfaaaPFnExactSemilatticePolymorphism
import Derived.KernelRfl
set_option linter.all false
set_option linter.unusedVariables false
set_option maxRecDepth 10000
open Go Go.Va Go.Proofs
namespace T
noncomputable def tt : List (Nat × TI) := [
 (2, { ty := .int }),
 (3, { ty := .int }),
 (4, { ty := .bool }),
 (5, { ty := (.num .u8) }),
 (9, { ty := .str }),
 (22, { ty := (.slice (.pair .int (.slice (.slice .int)))), elem := 57 }),
 (24, { ty := (.slice .int), elem := 3 }),
 (26, { ty := (.pair .int (.slice .int)), fields := [3, 24] }),
 (29, { ty := (.slice (.pair .int (.slice (.slice .int)))), elem := 44 }),
 (36, { ty := (.slice (.num .u8)), elem := 5 }),
 (42, { ty := (.slice (.slice .int)), elem := 24 }),
 (44, { ty := (.pair .int (.slice (.slice .int))), fields := [3, 42] }),
 (52, { ty := (.slice (.pair .int (.slice .int))), elem := 26 }),
 (57, { ty := (.pair .int (.slice (.slice .int))), fields := [3, 42] }),
 (60, { ty := (.pair (.slice (.slice .int)) (.pair .int .int)), fields := [42, 3, 3] }),
 (64, { ty := (.pair .int (.slice (.pair .int (.slice .int)))), fields := [3, 52] }),
 (69, { ty := (.op false) }),
 (79, { ty := (.op true) }),
 (88, { ty := (.op false) }),
 (92, { ty := (.slice (.slice (.pair (.slice .int) (.pair .int (.slice (.slice .int)))))), elem := 122 }),
 (106, { ty := (.slice (.slice (.pair (.slice .int) .smap))), elem := 113 }),
 (108, { ty := (.pair .int (.pair .int (.slice (.slice (.pair (.slice .int) .smap))))), fields := [3, 3, 106] }),
 (109, { ty := .smap }),
 (113, { ty := (.slice (.pair (.slice .int) .smap)), elem := 115 }),
 (115, { ty := (.pair (.slice .int) .smap), fields := [24, 109] }),
 (122, { ty := (.slice (.pair (.slice .int) (.pair .int (.slice (.slice .int))))), elem := 124 }),
 (124, { ty := (.pair (.slice .int) (.pair .int (.slice (.slice .int)))), fields := [24, 44] }),
 (130, { ty := (.num .u64) })]
theorem tabT : tabOk Try.prog tt = true := by kernel_rfl
theorem mixT : Try.prog.follows .mixedOrders = true := by kernel_rfl
noncomputable def E_1 : Entry where
 params := [.v (.slice .int), .v .int]
 results := [.v .int]
 B := Int
 run := fun a => laws_szIntS a.1 a.2
 out := fun b => ((), ())
 res := fun b => b
noncomputable def C_1 : Cx where
 tt := tblTT tt
 T := tblT []
 L := tblL []
 dep := fun i => 0
 n := 2
noncomputable def D_1 : Code := Try.f100.body.getD .skip
noncomputable def N_1 (_ : outs [.v (.slice .int), .v .int]) (r : dens [.v .int]) : Int := r
noncomputable def E_2 : Entry where
 params := [.v (.slice (.slice .int)), .v .int]
 results := [.v .int]
 B := Int
 run := fun a => laws_szIntSS a.1 a.2
 out := fun b => ((), ())
 res := fun b => b
noncomputable def S_2L5 (n : Nat) : LoopSpec where
 sh := [(0, .v (.slice (.slice .int))), (1, .v .int), (5, .v .int)]
 ex := [(.exit 0, [(1, .v .int)]), (.ret, [(4, .v .int)])]
 run := laws_szIntSS_L5 n
noncomputable def C_2 : Cx where
 tt := tblTT tt
 T := tblT [(100, E_1)]
 L := tblL [(5, S_2L5 fuel)]
 dep := fun i => 0
 n := 2
noncomputable def B_2L5 : Code := (Try.f69.body.bind (loopBody 5)).getD .skip
noncomputable def D_2 : Code := Try.f69.body.getD .skip
noncomputable def N_2 (_ : outs [.v (.slice (.slice .int)), .v .int]) (r : dens [.v .int]) : Int := r
noncomputable def E_3 : Entry where
 params := [.v (.pair .int (.slice (.slice .int))), .v .int]
 results := [.v .int]
 B := Int
 run := fun a => laws_szRelation a.1 a.2
 out := fun b => ((), ())
 res := fun b => b
noncomputable def C_3 : Cx where
 tt := tblTT tt
 T := tblT [(69, E_2)]
 L := tblL []
 dep := fun i => 0
 n := 2
noncomputable def D_3 : Code := Try.f31.body.getD .skip
noncomputable def N_3 (_ : outs [.v (.pair .int (.slice (.slice .int))), .v .int]) (r : dens [.v .int]) : Int := r
noncomputable def E_4 : Entry where
 params := [.v (.slice (.pair .int (.slice (.slice .int)))), .v .int]
 results := [.v .int]
 B := Int
 run := fun a => laws_szRelationS a.1 a.2
 out := fun b => ((), ())
 res := fun b => b
noncomputable def S_4L5 (n : Nat) : LoopSpec where
 sh := [(0, .v (.slice (.pair .int (.slice (.slice .int))))), (1, .v .int), (5, .v .int)]
 ex := [(.exit 0, [(1, .v .int)]), (.ret, [(4, .v .int)])]
 run := laws_szRelationS_L5 n
noncomputable def C_4 : Cx where
 tt := tblTT tt
 T := tblT [(31, E_3)]
 L := tblL [(5, S_4L5 fuel)]
 dep := fun i => 0
 n := 2
noncomputable def B_4L5 : Code := (Try.f5.body.bind (loopBody 5)).getD .skip
noncomputable def D_4 : Code := Try.f5.body.getD .skip
noncomputable def N_4 (_ : outs [.v (.slice (.pair .int (.slice (.slice .int)))), .v .int]) (r : dens [.v .int]) : Int := r
noncomputable def E_5 : Entry where
 params := [.v (.slice .int)]
 results := [.mv .int 0]
 B := (List Int)
 run := fun a => laws_toIntS a
 out := fun b => ()
 res := fun b => b
noncomputable def S_5L3 (n : Nat) : LoopSpec where
 sh := [(0, .v (.slice .int)), (3, .mv .int 0), (4, .v .int)]
 ex := [(.exit 0, [(3, .mv .int 0)])]
 run := laws_toIntS_L3 n
noncomputable def C_5 : Cx where
 tt := tblTT tt
 T := tblT []
 L := tblL [(3, S_5L3 fuel)]
 dep := fun i => 0
 n := 1
noncomputable def B_5L3 : Code := (Try.f106.body.bind (loopBody 3)).getD .skip
noncomputable def D_5 : Code := Try.f106.body.getD .skip
noncomputable def N_5 (_ : outs [.v (.slice .int)]) (r : dens [.mv .int 0]) : (List Int) := r
noncomputable def E_6 : Entry where
 params := [.v (.slice (.slice .int))]
 results := [.mv (.slice .int) 1]
 B := (List (List Int))
 run := fun a => laws_toIntSS a
 out := fun b => ()
 res := fun b => b
noncomputable def S_6L3 (n : Nat) : LoopSpec where
 sh := [(0, .v (.slice (.slice .int))), (3, .mv (.slice .int) 1), (4, .v .int)]
 ex := [(.exit 0, [(3, .mv (.slice .int) 1)])]
 run := laws_toIntSS_L3 n
noncomputable def C_6 : Cx where
 tt := tblTT tt
 T := tblT [(106, E_5)]
 L := tblL [(3, S_6L3 fuel)]
 dep := fun i => match i with
  | 7 => 1
  | _ => 0
 n := 1
noncomputable def B_6L3 : Code := (Try.f79.body.bind (loopBody 3)).getD .skip
noncomputable def D_6 : Code := Try.f79.body.getD .skip
noncomputable def N_6 (_ : outs [.v (.slice (.slice .int))]) (r : dens [.mv (.slice .int) 1]) : (List (List Int)) := r
noncomputable def E_7 : Entry where
 params := [.v (.pair .int (.slice (.slice .int)))]
 results := [.pr (.v .int) (.mv (.slice .int) 1)]
 B := (Int × (List (List Int)))
 run := fun a => laws_toRelation a
 out := fun b => ()
 res := fun b => b
noncomputable def C_7 : Cx where
 tt := tblTT tt
 T := tblT [(79, E_6)]
 L := tblL []
 dep := fun i => 0
 n := 1
noncomputable def D_7 : Code := Try.f37.body.getD .skip
noncomputable def N_7 (_ : outs [.v (.pair .int (.slice (.slice .int)))]) (r : dens [.pr (.v .int) (.mv (.slice .int) 1)]) : (Int × (List (List Int))) := r
noncomputable def E_8 : Entry where
 params := [.v (.slice (.pair .int (.slice (.slice .int))))]
 results := [.mv (.pair .int (.slice (.slice .int))) 2]
 B := (List (Int × (List (List Int))))
 run := fun a => laws_toRelationS a
 out := fun b => ()
 res := fun b => b
noncomputable def S_8L3 (n : Nat) : LoopSpec where
 sh := [(0, .v (.slice (.pair .int (.slice (.slice .int))))), (3, .mv (.pair .int (.slice (.slice .int))) 2), (4, .v .int)]
 ex := [(.exit 0, [(3, .mv (.pair .int (.slice (.slice .int))) 2)])]
 run := laws_toRelationS_L3 n
noncomputable def C_8 : Cx where
 tt := tblTT tt
 T := tblT [(37, E_7)]
 L := tblL [(3, S_8L3 fuel)]
 dep := fun i => match i with
  | 7 => 2
  | _ => 0
 n := 1
noncomputable def B_8L3 : Code := (Try.f7.body.bind (loopBody 3)).getD .skip
noncomputable def D_8 : Code := Try.f7.body.getD .skip
noncomputable def N_8 (_ : outs [.v (.slice (.pair .int (.slice (.slice .int))))]) (r : dens [.mv (.pair .int (.slice (.slice .int))) 2]) : (List (Int × (List (List Int)))) := r
noncomputable def E_9 : Entry where
 params := [.v .int, .v .int, .v .int]
 results := [.v .bool]
 B := Bool
 run := fun a => spec_l1In a.1 a.2.1 a.2.2
 out := fun b => ((), (), ())
 res := fun b => b
noncomputable def C_9 : Cx where
 tt := tblTT tt
 T := tblT []
 L := tblL []
 dep := fun i => 0
 n := 3
noncomputable def D_9 : Code := Try.f72.body.getD .skip
noncomputable def N_9 (_ : outs [.v .int, .v .int, .v .int]) (r : dens [.v .bool]) : Bool := r
noncomputable def E_10 : Entry where
 params := [.v .int]
 results := [.v .bool]
 B := Bool
 run := fun a => spec_l14Size a
 out := fun b => ()
 res := fun b => b
noncomputable def C_10 : Cx where
 tt := tblTT tt
 T := tblT [(72, E_9)]
 L := tblL []
 dep := fun i => 0
 n := 1
noncomputable def D_10 : Code := Try.f70.body.getD .skip
noncomputable def N_10 (_ : outs [.v .int]) (r : dens [.v .bool]) : Bool := r
noncomputable def E_11 : Entry where
 params := [.v .int, .v .int]
 results := [.v .int]
 B := Int
 run := fun a => spec_l2Pow a.1 a.2
 out := fun b => ((), ())
 res := fun b => b
noncomputable def S_11L2 (n : Nat) : LoopSpec where
 sh := [(0, .v .int), (1, .v .int), (5, .v .int)]
 ex := [(.exit 0, [(5, .v .int)])]
 run := spec_l2Pow_L2 n
noncomputable def C_11 : Cx where
 tt := tblTT tt
 T := tblT []
 L := tblL [(2, S_11L2 fuel)]
 dep := fun i => 0
 n := 2
noncomputable def B_11L2 : Code := (Try.f76.body.bind (loopBody 2)).getD .skip
noncomputable def D_11 : Code := Try.f76.body.getD .skip
noncomputable def N_11 (_ : outs [.v .int, .v .int]) (r : dens [.v .int]) : Int := r
noncomputable def E_12 : Entry where
 params := [.v .int, .v (.slice .int)]
 results := [.v .bool]
 B := Bool
 run := fun a => spec_l2Elements a.1 a.2
 out := fun b => ((), ())
 res := fun b => b
noncomputable def S_12L2 (n : Nat) : LoopSpec where
 sh := [(0, .v .int), (1, .v (.slice .int)), (5, .v .int)]
 ex := [(.exit 0, []), (.ret, [(4, .v .bool)])]
 run := spec_l2Elements_L2 n
noncomputable def C_12 : Cx where
 tt := tblTT tt
 T := tblT [(72, E_9)]
 L := tblL [(2, S_12L2 fuel)]
 dep := fun i => 0
 n := 2
noncomputable def B_12L2 : Code := (Try.f127.body.bind (loopBody 2)).getD .skip
noncomputable def D_12 : Code := Try.f127.body.getD .skip
noncomputable def N_12 (_ : outs [.v .int, .v (.slice .int)]) (r : dens [.v .bool]) : Bool := r
noncomputable def E_13 : Entry where
 params := [.v .int, .v .int, .v (.slice .int)]
 results := [.v .bool]
 B := Bool
 run := fun a => spec_l8Tuple a.1 a.2.1 a.2.2
 out := fun b => ((), (), ())
 res := fun b => b
noncomputable def C_13 : Cx where
 tt := tblTT tt
 T := tblT [(127, E_12)]
 L := tblL []
 dep := fun i => 0
 n := 3
noncomputable def D_13 : Code := Try.f117.body.getD .skip
noncomputable def N_13 (_ : outs [.v .int, .v .int, .v (.slice .int)]) (r : dens [.v .bool]) : Bool := r
noncomputable def E_14 : Entry where
 params := [.v (.slice .int), .v (.slice .int)]
 results := [.v .bool]
 B := Bool
 run := fun a => spec_l3Less a.1 a.2
 out := fun b => ((), ())
 res := fun b => b
noncomputable def S_14L2 (n : Nat) : LoopSpec where
 sh := [(0, .v (.slice .int)), (1, .v (.slice .int)), (5, .v .int)]
 ex := [(.exit 0, []), (.ret, [(4, .v .bool)])]
 run := spec_l3Less_L2 n
noncomputable def C_14 : Cx where
 tt := tblTT tt
 T := tblT []
 L := tblL [(2, S_14L2 fuel)]
 dep := fun i => 0
 n := 2
noncomputable def B_14L2 : Code := (Try.f115.body.bind (loopBody 2)).getD .skip
noncomputable def D_14 : Code := Try.f115.body.getD .skip
noncomputable def N_14 (_ : outs [.v (.slice .int), .v (.slice .int)]) (r : dens [.v .bool]) : Bool := r
noncomputable def E_15 : Entry where
 params := [.v .int, .v (.pair .int (.slice (.slice .int)))]
 results := [.v .bool]
 B := Bool
 run := fun a => spec_l13Good a.1 a.2
 out := fun b => ((), ())
 res := fun b => b
noncomputable def S_15L4 (n : Nat) : LoopSpec where
 sh := [(0, .v .int), (3, .bx (.v (.pair .int (.slice (.slice .int))))), (5, .v .int)]
 ex := [(.exit 0, []), (.ret, [(4, .v .bool)])]
 run := spec_l13Good_L4 n
noncomputable def C_15 : Cx where
 tt := tblTT tt
 T := tblT [(72, E_9), (76, E_11), (115, E_14), (117, E_13)]
 L := tblL [(4, S_15L4 fuel)]
 dep := fun i => 0
 n := 2
noncomputable def B_15L4 : Code := (Try.f101.body.bind (loopBody 4)).getD .skip
noncomputable def D_15 : Code := Try.f101.body.getD .skip
noncomputable def N_15 (_ : outs [.v .int, .v (.pair .int (.slice (.slice .int)))]) (r : dens [.v .bool]) : Bool := r
noncomputable def E_16 : Entry where
 params := [.v .int, .v (.slice (.pair .int (.slice (.slice .int))))]
 results := [.v .bool]
 B := Bool
 run := fun a => spec_l14Rels a.1 a.2
 out := fun b => ((), ())
 res := fun b => b
noncomputable def S_16L4 (n : Nat) : LoopSpec where
 sh := [(0, .v .int), (1, .v (.slice (.pair .int (.slice (.slice .int))))), (5, .v .int)]
 ex := [(.exit 0, []), (.ret, [(4, .v .bool)])]
 run := spec_l14Rels_L4 n
noncomputable def C_16 : Cx where
 tt := tblTT tt
 T := tblT [(101, E_15)]
 L := tblL [(4, S_16L4 fuel)]
 dep := fun i => 0
 n := 2
noncomputable def B_16L4 : Code := (Try.f71.body.bind (loopBody 4)).getD .skip
noncomputable def D_16 : Code := Try.f71.body.getD .skip
noncomputable def N_16 (_ : outs [.v .int, .v (.slice (.pair .int (.slice (.slice .int))))]) (r : dens [.v .bool]) : Bool := r
noncomputable def E_17 : Entry where
 params := [.v .int, .v (.slice (.pair .int (.slice (.slice .int)))), .v .int]
 results := [.v .bool]
 B := Bool
 run := fun a => spec_l14Takes a.1 a.2.1 a.2.2
 out := fun b => ((), (), ())
 res := fun b => b
noncomputable def S_17L4 (n : Nat) : LoopSpec where
 sh := [(1, .v (.slice (.pair .int (.slice (.slice .int))))), (2, .v .int), (7, .v .int)]
 ex := [(.exit 0, []), (.ret, [(6, .v .bool)])]
 run := spec_l14Takes_L4 n
noncomputable def C_17 : Cx where
 tt := tblTT tt
 T := tblT [(70, E_10), (71, E_16), (72, E_9)]
 L := tblL [(4, S_17L4 fuel)]
 dep := fun i => 0
 n := 3
noncomputable def B_17L4 : Code := (Try.f32.body.bind (loopBody 4)).getD .skip
noncomputable def D_17 : Code := Try.f32.body.getD .skip
noncomputable def N_17 (_ : outs [.v .int, .v (.slice (.pair .int (.slice (.slice .int)))), .v .int]) (r : dens [.v .bool]) : Bool := r
noncomputable def E_18 : Entry where
 params := [.v .int]
 results := [.mv .int 0]
 B := (List Int)
 run := fun a => spec_l14Free a
 out := fun b => ()
 res := fun b => b
noncomputable def S_18L3 (n : Nat) : LoopSpec where
 sh := [(0, .v .int), (3, .mv .int 0), (4, .v .int)]
 ex := [(.exit 0, [(3, .mv .int 0)])]
 run := spec_l14Free_L3 n
noncomputable def C_18 : Cx where
 tt := tblTT tt
 T := tblT []
 L := tblL [(3, S_18L3 fuel)]
 dep := fun i => 0
 n := 1
noncomputable def B_18L3 : Code := (Try.f75.body.bind (loopBody 3)).getD .skip
noncomputable def D_18 : Code := Try.f75.body.getD .skip
noncomputable def N_18 (_ : outs [.v .int]) (r : dens [.mv .int 0]) : (List Int) := r
noncomputable def E_19 : Entry where
 params := [.v .int, .v .int]
 results := [.mv .int 0]
 B := (List Int)
 run := fun a => spec_l14Idempotent a.1 a.2
 out := fun b => ((), ())
 res := fun b => b
noncomputable def S_19L7 (n : Nat) : LoopSpec where
 sh := [(0, .v .int), (1, .v .int), (5, .mv .int 0), (6, .v .int), (7, .v .int), (8, .v .int)]
 ex := [(.exit 2, [(0, .v .int), (1, .v .int), (5, .mv .int 0), (6, .v .int), (7, .v .int)])]
 run := spec_l14Idempotent_L7 n
noncomputable def S_19L3 (n : Nat) : LoopSpec where
 sh := [(0, .v .int), (1, .v .int), (5, .mv .int 0), (6, .v .int)]
 ex := [(.exit 0, [(5, .mv .int 0)])]
 run := spec_l14Idempotent_L3 n
noncomputable def C_19 : Cx where
 tt := tblTT tt
 T := tblT [(75, E_18), (76, E_11)]
 L := tblL [(7, S_19L7 fuel), (3, S_19L3 fuel)]
 dep := fun i => 0
 n := 2
noncomputable def B_19L7 : Code := (Try.f34.body.bind (loopBody 7)).getD .skip
noncomputable def B_19L3 : Code := (Try.f34.body.bind (loopBody 3)).getD .skip
noncomputable def D_19 : Code := Try.f34.body.getD .skip
noncomputable def N_19 (_ : outs [.v .int, .v .int]) (r : dens [.mv .int 0]) : (List Int) := r
noncomputable def E_20 : Entry where
 params := [.v .int, .v .int, .v .int]
 results := [.mv .int 0]
 B := (List Int)
 run := fun a => spec_l2Args a.1 a.2.1 a.2.2
 out := fun b => ((), (), ())
 res := fun b => b
noncomputable def S_20L3 (n : Nat) : LoopSpec where
 sh := [(0, .v .int), (2, .v .int), (7, .mv .int 0), (8, .v .int)]
 ex := [(.exit 0, [(7, .mv .int 0)])]
 run := spec_l2Args_L3 n
noncomputable def C_20 : Cx where
 tt := tblTT tt
 T := tblT []
 L := tblL [(3, S_20L3 fuel)]
 dep := fun i => 0
 n := 3
noncomputable def B_20L3 : Code := (Try.f103.body.bind (loopBody 3)).getD .skip
noncomputable def D_20 : Code := Try.f103.body.getD .skip
noncomputable def N_20 (_ : outs [.v .int, .v .int, .v .int]) (r : dens [.mv .int 0]) : (List Int) := r
noncomputable def E_21 : Entry where
 params := [.v .int, .v .int]
 results := [.v .int]
 B := Int
 run := fun a => spec_l1Most a.1 a.2
 out := fun b => ((), ())
 res := fun b => b
noncomputable def C_21 : Cx where
 tt := tblTT tt
 T := tblT []
 L := tblL []
 dep := fun i => 0
 n := 2
noncomputable def D_21 : Code := Try.f104.body.getD .skip
noncomputable def N_21 (_ : outs [.v .int, .v .int]) (r : dens [.v .int]) : Int := r
noncomputable def E_22 : Entry where
 params := [.v .int, .v (.slice (.pair .int (.slice (.slice .int)))), .v .int]
 results := [.mv (.slice (.pair (.slice .int) (.pair .int (.slice (.slice .int))))) 1]
 B := (List (List ((List Int) × Int × (List (List Int)))))
 run := fun a => spec_l14Needs a.1 a.2.1 a.2.2
 out := fun b => ((), (), ())
 res := fun b => b
noncomputable def S_22L3 (n : Nat) : LoopSpec where
 sh := [(0, .v .int), (1, .v (.slice (.pair .int (.slice (.slice .int))))), (2, .v .int), (7, .mv (.slice (.pair (.slice .int) (.pair .int (.slice (.slice .int))))) 1), (8, .v .int)]
 ex := [(.exit 0, [(0, .v .int), (1, .v (.slice (.pair .int (.slice (.slice .int))))), (2, .v .int), (7, .mv (.slice (.pair (.slice .int) (.pair .int (.slice (.slice .int))))) 1)])]
 run := spec_l14Needs_L3 n
noncomputable def S_22L21 (n : Nat) : LoopSpec where
 sh := [(0, .v .int), (1, .v (.slice (.pair .int (.slice (.slice .int))))), (2, .v .int), (7, .mv (.slice (.pair (.slice .int) (.pair .int (.slice (.slice .int))))) 1), (9, .v .int), (10, .v .int), (11, .v .int), (12, .mv .int 0), (13, .bx (.pr (.mv .int 0) (.v (.pair .int (.slice (.slice .int)))))), (14, .v .int), (15, .v .int), (16, .v .int), (17, .v .int)]
 ex := [(.exit 8, [(0, .v .int), (1, .v (.slice (.pair .int (.slice (.slice .int))))), (2, .v .int), (7, .mv (.slice (.pair (.slice .int) (.pair .int (.slice (.slice .int))))) 1), (9, .v .int), (10, .v .int), (11, .v .int), (12, .mv .int 0), (13, .bx (.pr (.mv .int 0) (.v (.pair .int (.slice (.slice .int)))))), (14, .v .int), (15, .v .int), (16, .v .int)])]
 run := spec_l14Needs_L21 n
noncomputable def S_22L17 (n : Nat) : LoopSpec where
 sh := [(0, .v .int), (1, .v (.slice (.pair .int (.slice (.slice .int))))), (2, .v .int), (7, .mv (.slice (.pair (.slice .int) (.pair .int (.slice (.slice .int))))) 1), (9, .v .int), (10, .v .int), (11, .v .int), (12, .mv .int 0), (13, .bx (.pr (.mv .int 0) (.v (.pair .int (.slice (.slice .int)))))), (14, .v .int), (15, .v .int)]
 ex := [(.exit 6, [(0, .v .int), (1, .v (.slice (.pair .int (.slice (.slice .int))))), (2, .v .int), (7, .mv (.slice (.pair (.slice .int) (.pair .int (.slice (.slice .int))))) 1), (9, .v .int), (10, .v .int), (11, .v .int), (13, .bx (.pr (.mv .int 0) (.v (.pair .int (.slice (.slice .int)))))), (14, .v .int)])]
 run := spec_l14Needs_L17 n
noncomputable def S_22L11 (n : Nat) : LoopSpec where
 sh := [(0, .v .int), (1, .v (.slice (.pair .int (.slice (.slice .int))))), (2, .v .int), (7, .mv (.slice (.pair (.slice .int) (.pair .int (.slice (.slice .int))))) 1), (9, .v .int), (10, .v .int), (11, .v .int)]
 ex := [(.exit 4, [(0, .v .int), (1, .v (.slice (.pair .int (.slice (.slice .int))))), (2, .v .int), (7, .mv (.slice (.pair (.slice .int) (.pair .int (.slice (.slice .int))))) 1), (9, .v .int)])]
 run := spec_l14Needs_L11 n
noncomputable def S_22L7 (n : Nat) : LoopSpec where
 sh := [(0, .v .int), (1, .v (.slice (.pair .int (.slice (.slice .int))))), (2, .v .int), (7, .mv (.slice (.pair (.slice .int) (.pair .int (.slice (.slice .int))))) 1), (9, .v .int)]
 ex := [(.exit 2, [(7, .mv (.slice (.pair (.slice .int) (.pair .int (.slice (.slice .int))))) 1)])]
 run := spec_l14Needs_L7 n
noncomputable def C_22 : Cx where
 tt := tblTT tt
 T := tblT [(76, E_11), (103, E_20), (104, E_21)]
 L := tblL [(3, S_22L3 fuel), (21, S_22L21 fuel), (17, S_22L17 fuel), (11, S_22L11 fuel), (7, S_22L7 fuel)]
 dep := fun i => match i with
  | 18 => 1
  | 28 => 1
  | 29 => 1
  | _ => 0
 n := 3
 fine := true
noncomputable def B_22L3 : Code := (Try.f74.body.bind (loopBody 3)).getD .skip
noncomputable def B_22L21 : Code := (Try.f74.body.bind (loopBody 21)).getD .skip
noncomputable def B_22L17 : Code := (Try.f74.body.bind (loopBody 17)).getD .skip
noncomputable def B_22L11 : Code := (Try.f74.body.bind (loopBody 11)).getD .skip
noncomputable def B_22L7 : Code := (Try.f74.body.bind (loopBody 7)).getD .skip
noncomputable def D_22 : Code := Try.f74.body.getD .skip
noncomputable def N_22 (_ : outs [.v .int, .v (.slice (.pair .int (.slice (.slice .int)))), .v .int]) (r : dens [.mv (.slice (.pair (.slice .int) (.pair .int (.slice (.slice .int))))) 1]) : (List (List ((List Int) × Int × (List (List Int))))) := r
noncomputable def E_23 : Entry where
 params := [.v (.slice .int)]
 results := [.mv .int 0]
 B := (List Int)
 run := fun a => spec_l1Own a
 out := fun b => ()
 res := fun b => b
noncomputable def C_23 : Cx where
 tt := tblTT tt
 T := tblT []
 L := tblL []
 dep := fun i => 0
 n := 1
noncomputable def D_23 : Code := Try.f61.body.getD .skip
noncomputable def N_23 (_ : outs [.v (.slice .int)]) (r : dens [.mv .int 0]) : (List Int) := r
noncomputable def E_24 : Entry where
 params := [.v (.slice .int), .v (.slice .int)]
 results := [.v .bool]
 B := Bool
 run := fun a => spec_l1Same a.1 a.2
 out := fun b => ((), ())
 res := fun b => b
noncomputable def S_24L4 (n : Nat) : LoopSpec where
 sh := [(0, .v (.slice .int)), (1, .v (.slice .int)), (5, .v .int)]
 ex := [(.exit 0, []), (.ret, [(4, .v .bool)])]
 run := spec_l1Same_L4 n
noncomputable def C_24 : Cx where
 tt := tblTT tt
 T := tblT []
 L := tblL [(4, S_24L4 fuel)]
 dep := fun i => 0
 n := 2
noncomputable def B_24L4 : Code := (Try.f116.body.bind (loopBody 4)).getD .skip
noncomputable def D_24 : Code := Try.f116.body.getD .skip
noncomputable def N_24 (_ : outs [.v (.slice .int), .v (.slice .int)]) (r : dens [.v .bool]) : Bool := r
noncomputable def E_25 : Entry where
 params := [.v (.slice (.slice .int)), .v (.slice .int)]
 results := [.v .int, .v .bool]
 B := Int × Bool
 run := fun a => spec_l8Find a.1 a.2
 out := fun b => ((), ())
 res := fun b => (b.1, b.2)
noncomputable def S_25L2 (n : Nat) : LoopSpec where
 sh := [(0, .v (.slice (.slice .int))), (1, .v (.slice .int)), (6, .v .int), (7, .v .int)]
 ex := [(.exit 0, [(0, .v (.slice (.slice .int))), (1, .v (.slice .int)), (6, .v .int)])]
 run := spec_l8Find_L2 n
noncomputable def C_25 : Cx where
 tt := tblTT tt
 T := tblT [(115, E_14), (116, E_24)]
 L := tblL [(2, S_25L2 fuel)]
 dep := fun i => 0
 n := 2
noncomputable def B_25L2 : Code := (Try.f98.body.bind (loopBody 2)).getD .skip
noncomputable def D_25 : Code := Try.f98.body.getD .skip
noncomputable def N_25 (_ : outs [.v (.slice (.slice .int)), .v (.slice .int)]) (r : dens [.v .int, .v .bool]) : Int × Bool := (r.1, r.2)
noncomputable def E_26 : Entry where
 params := [.v (.pair .int (.slice (.slice .int))), .v (.slice .int)]
 results := [.v .bool]
 B := Bool
 run := fun a => spec_l13Has a.1 a.2
 out := fun b => ((), ())
 res := fun b => b
noncomputable def C_26 : Cx where
 tt := tblTT tt
 T := tblT [(98, E_25)]
 L := tblL []
 dep := fun i => 0
 n := 2
noncomputable def D_26 : Code := Try.f64.body.getD .skip
noncomputable def N_26 (_ : outs [.v (.pair .int (.slice (.slice .int))), .v (.slice .int)]) (r : dens [.v .bool]) : Bool := r
noncomputable def E_27 : Entry where
 params := [.v (.slice (.pair (.slice .int) (.pair .int (.slice (.slice .int))))), .v (.slice .int)]
 results := [.v .bool]
 B := Bool
 run := fun a => spec_l14Holds a.1 a.2
 out := fun b => ((), ())
 res := fun b => b
noncomputable def S_27L6 (n : Nat) : LoopSpec where
 sh := [(0, .v (.slice (.pair (.slice .int) (.pair .int (.slice (.slice .int)))))), (1, .v (.slice .int)), (5, .v .int), (6, .mv .int 0), (7, .v .int)]
 ex := [(.exit 2, [(0, .v (.slice (.pair (.slice .int) (.pair .int (.slice (.slice .int)))))), (1, .v (.slice .int)), (5, .v .int), (6, .mv .int 0)])]
 run := spec_l14Holds_L6 n
noncomputable def S_27L2 (n : Nat) : LoopSpec where
 sh := [(0, .v (.slice (.pair (.slice .int) (.pair .int (.slice (.slice .int)))))), (1, .v (.slice .int)), (5, .v .int)]
 ex := [(.exit 0, []), (.ret, [(4, .v .bool)])]
 run := spec_l14Holds_L2 n
noncomputable def C_27 : Cx where
 tt := tblTT tt
 T := tblT [(64, E_26)]
 L := tblL [(6, S_27L6 fuel), (2, S_27L2 fuel)]
 dep := fun i => 0
 n := 2
noncomputable def B_27L6 : Code := (Try.f102.body.bind (loopBody 6)).getD .skip
noncomputable def B_27L2 : Code := (Try.f102.body.bind (loopBody 2)).getD .skip
noncomputable def D_27 : Code := Try.f102.body.getD .skip
noncomputable def N_27 (_ : outs [.v (.slice (.pair (.slice .int) (.pair .int (.slice (.slice .int))))), .v (.slice .int)]) (r : dens [.v .bool]) : Bool := r
noncomputable def E_28_of (rec : (Int × (List (List ((List Int) × Int × (List (List Int))))) × (List Int) × (List Int) × ((List (List Int)) × (Int × Int))) → Option (((List (List Int)) × (Int × Int)))) : Entry where
 params := [.v .int, .v (.slice (.slice (.pair (.slice .int) (.pair .int (.slice (.slice .int)))))), .v (.slice .int), .v (.slice .int), .pr (.mv (.slice .int) 1) (.v (.pair .int .int))]
 results := [.pr (.mv (.slice .int) 1) (.v (.pair .int .int))]
 B := ((List (List Int)) × (Int × Int))
 run := rec
 out := fun b => ((), (), (), (), ((), ()))
 res := fun b => b
noncomputable def E_28 (d : Nat) : Entry := E_28_of (spec_l14Go d)
noncomputable def S_28L8 (rec : (Int × (List (List ((List Int) × Int × (List (List Int))))) × (List Int) × (List Int) × ((List (List Int)) × (Int × Int))) → Option (((List (List Int)) × (Int × Int)))) (n : Nat) : LoopSpec where
 sh := [(0, .v .int), (1, .v (.slice (.slice (.pair (.slice .int) (.pair .int (.slice (.slice .int))))))), (2, .v (.slice .int)), (3, .v (.slice .int)), (9, .bx (.pr (.mv (.slice .int) 1) (.v (.pair .int .int)))), (10, .bx (.pr (.mv (.slice .int) 1) (.v (.pair .int .int)))), (11, .v .int), (12, .v .int)]
 ex := [(.exit 0, [(9, .bx (.pr (.mv (.slice .int) 1) (.v (.pair .int .int)))), (10, .bx (.pr (.mv (.slice .int) 1) (.v (.pair .int .int))))]), (.ret, [(10, .bx (.pr (.mv (.slice .int) 1) (.v (.pair .int .int))))])]
 run := spec_l14Go_L8 rec n
noncomputable def C_28 (rec : (Int × (List (List ((List Int) × Int × (List (List Int))))) × (List Int) × (List Int) × ((List (List Int)) × (Int × Int))) → Option (((List (List Int)) × (Int × Int)))) : Cx where
 tt := tblTT tt
 T := tblT [(61, E_23), (73, E_28_of rec), (102, E_27)]
 L := tblL [(8, S_28L8 rec fuel)]
 dep := fun i => match i with
  | 34 => 1
  | 35 => 1
  | _ => 0
 n := 5
noncomputable def B_28L8 : Code := (Try.f73.body.bind (loopBody 8)).getD .skip
noncomputable def D_28 : Code := Try.f73.body.getD .skip
noncomputable def N_28 (_ : outs [.v .int, .v (.slice (.slice (.pair (.slice .int) (.pair .int (.slice (.slice .int)))))), .v (.slice .int), .v (.slice .int), .pr (.mv (.slice .int) 1) (.v (.pair .int .int))]) (r : dens [.pr (.mv (.slice .int) 1) (.v (.pair .int .int))]) : ((List (List Int)) × (Int × Int)) := r
noncomputable def E_29 : Entry where
 params := [.v .int, .v (.slice (.pair .int (.slice (.slice .int)))), .v .int, .v (.slice .int), .v .int]
 results := [.pr (.mv (.slice .int) 1) (.v (.pair .int .int))]
 B := ((List (List Int)) × (Int × Int))
 run := fun a => spec_l14All a.1 a.2.1 a.2.2.1 a.2.2.2.1 a.2.2.2.2
 out := fun b => ((), (), (), (), ())
 res := fun b => b
noncomputable def C_29 : Cx where
 tt := tblTT tt
 T := tblT [(73, E_28 fuel), (74, E_22)]
 L := tblL []
 dep := fun i => 0
 n := 5
noncomputable def D_29 : Code := Try.f33.body.getD .skip
noncomputable def N_29 (_ : outs [.v .int, .v (.slice (.pair .int (.slice (.slice .int)))), .v .int, .v (.slice .int), .v .int]) (r : dens [.pr (.mv (.slice .int) 1) (.v (.pair .int .int))]) : ((List (List Int)) × (Int × Int)) := r
noncomputable def E_30 : Entry where
 params := [.v .int, .v (.pair .int (.slice .int))]
 results := [.v .bool]
 B := Bool
 run := fun a => spec_l2Op a.1 a.2
 out := fun b => ((), ())
 res := fun b => b
noncomputable def S_30L4 (n : Nat) : LoopSpec where
 sh := [(0, .v .int), (3, .bx (.v (.pair .int (.slice .int)))), (5, .v .int)]
 ex := [(.exit 0, []), (.ret, [(4, .v .bool)])]
 run := spec_l2Op_L4 n
noncomputable def C_30 : Cx where
 tt := tblTT tt
 T := tblT [(72, E_9), (76, E_11)]
 L := tblL [(4, S_30L4 fuel)]
 dep := fun i => 0
 n := 2
noncomputable def B_30L4 : Code := (Try.f118.body.bind (loopBody 4)).getD .skip
noncomputable def D_30 : Code := Try.f118.body.getD .skip
noncomputable def N_30 (_ : outs [.v .int, .v (.pair .int (.slice .int))]) (r : dens [.v .bool]) : Bool := r
noncomputable def E_31 : Entry where
 params := [.v (.pair .int (.slice (.pair .int (.slice .int))))]
 results := [.v .bool]
 B := Bool
 run := fun a => spec_l2Good a
 out := fun b => ()
 res := fun b => b
noncomputable def S_31L4 (n : Nat) : LoopSpec where
 sh := [(1, .bx (.v (.pair .int (.slice (.pair .int (.slice .int)))))), (3, .v .int)]
 ex := [(.exit 0, []), (.ret, [(2, .v .bool)])]
 run := spec_l2Good_L4 n
noncomputable def C_31 : Cx where
 tt := tblTT tt
 T := tblT [(72, E_9), (118, E_30)]
 L := tblL [(4, S_31L4 fuel)]
 dep := fun i => 0
 n := 1
noncomputable def B_31L4 : Code := (Try.f105.body.bind (loopBody 4)).getD .skip
noncomputable def D_31 : Code := Try.f105.body.getD .skip
noncomputable def N_31 (_ : outs [.v (.pair .int (.slice (.pair .int (.slice .int))))]) (r : dens [.v .bool]) : Bool := r
noncomputable def E_32 : Entry where
 params := [.v (.pair .int (.slice (.pair .int (.slice .int)))), .v .int]
 results := [.v .bool]
 B := Bool
 run := fun a => spec_l2Takes a.1 a.2
 out := fun b => ((), ())
 res := fun b => b
noncomputable def C_32 : Cx where
 tt := tblTT tt
 T := tblT [(72, E_9), (105, E_31)]
 L := tblL []
 dep := fun i => 0
 n := 2
noncomputable def D_32 : Code := Try.f77.body.getD .skip
noncomputable def N_32 (_ : outs [.v (.pair .int (.slice (.pair .int (.slice .int)))), .v .int]) (r : dens [.v .bool]) : Bool := r
noncomputable def E_33 : Entry where
 params := [.v (.pair .int (.slice (.pair .int (.slice .int)))), .v .int, .v (.slice .int)]
 results := [.v .int]
 B := Int
 run := fun a => spec_l2Value a.1 a.2.1 a.2.2
 out := fun b => ((), (), ())
 res := fun b => b
noncomputable def S_33L3 (n : Nat) : LoopSpec where
 sh := [(1, .v .int), (2, .v (.slice .int)), (3, .bx (.v (.pair .int (.slice (.pair .int (.slice .int)))))), (7, .v .int), (8, .v .int)]
 ex := [(.exit 0, [(1, .v .int), (3, .bx (.v (.pair .int (.slice (.pair .int (.slice .int)))))), (7, .v .int)])]
 run := spec_l2Value_L3 n
noncomputable def C_33 : Cx where
 tt := tblTT tt
 T := tblT []
 L := tblL [(3, S_33L3 fuel)]
 dep := fun i => 0
 n := 3
noncomputable def B_33L3 : Code := (Try.f78.body.bind (loopBody 3)).getD .skip
noncomputable def D_33 : Code := Try.f78.body.getD .skip
noncomputable def N_33 (_ : outs [.v (.pair .int (.slice (.pair .int (.slice .int)))), .v .int, .v (.slice .int)]) (r : dens [.v .int]) : Int := r
noncomputable def E_34 : Entry where
 params := [.v (.pair .int (.slice (.pair .int (.slice .int)))), .v .int]
 results := [.v .bool, .v .bool]
 B := Bool × Bool
 run := fun a => spec_IsCommutative a.1 a.2
 out := fun b => ((), ())
 res := fun b => (b.1, b.2)
noncomputable def S_34L7 (n : Nat) : LoopSpec where
 sh := [(1, .v .int), (2, .bx (.v (.pair .int (.slice (.pair .int (.slice .int)))))), (6, .v .int), (7, .v .int)]
 ex := [(.exit 2, [(1, .v .int), (2, .bx (.v (.pair .int (.slice (.pair .int (.slice .int)))))), (6, .v .int)]), (.ret, [(4, .v .bool), (5, .v .bool)])]
 run := spec_IsCommutative_L7 n
noncomputable def S_34L4 (n : Nat) : LoopSpec where
 sh := [(1, .v .int), (2, .bx (.v (.pair .int (.slice (.pair .int (.slice .int)))))), (6, .v .int)]
 ex := [(.exit 0, []), (.ret, [(4, .v .bool), (5, .v .bool)])]
 run := spec_IsCommutative_L4 n
noncomputable def C_34 : Cx where
 tt := tblTT tt
 T := tblT [(77, E_32), (78, E_33)]
 L := tblL [(7, S_34L7 fuel), (4, S_34L4 fuel)]
 dep := fun i => 0
 n := 2
noncomputable def B_34L7 : Code := (Try.f35.body.bind (loopBody 7)).getD .skip
noncomputable def B_34L4 : Code := (Try.f35.body.bind (loopBody 4)).getD .skip
noncomputable def D_34 : Code := Try.f35.body.getD .skip
noncomputable def N_34 (_ : outs [.v (.pair .int (.slice (.pair .int (.slice .int)))), .v .int]) (r : dens [.v .bool, .v .bool]) : Bool × Bool := (r.1, r.2)
noncomputable def E_35 : Entry where
 params := [.v (.pair .int (.slice (.pair .int (.slice .int)))), .v .int]
 results := [.v .bool, .v .bool]
 B := Bool × Bool
 run := fun a => spec_IsAssociative a.1 a.2
 out := fun b => ((), ())
 res := fun b => (b.1, b.2)
noncomputable def S_35L10 (n : Nat) : LoopSpec where
 sh := [(1, .v .int), (2, .bx (.v (.pair .int (.slice (.pair .int (.slice .int)))))), (6, .v .int), (7, .v .int), (8, .v .int)]
 ex := [(.exit 4, [(1, .v .int), (2, .bx (.v (.pair .int (.slice (.pair .int (.slice .int)))))), (6, .v .int), (7, .v .int)]), (.ret, [(4, .v .bool), (5, .v .bool)])]
 run := spec_IsAssociative_L10 n
noncomputable def S_35L7 (n : Nat) : LoopSpec where
 sh := [(1, .v .int), (2, .bx (.v (.pair .int (.slice (.pair .int (.slice .int)))))), (6, .v .int), (7, .v .int)]
 ex := [(.exit 2, [(1, .v .int), (2, .bx (.v (.pair .int (.slice (.pair .int (.slice .int)))))), (6, .v .int)]), (.ret, [(4, .v .bool), (5, .v .bool)])]
 run := spec_IsAssociative_L7 n
noncomputable def S_35L4 (n : Nat) : LoopSpec where
 sh := [(1, .v .int), (2, .bx (.v (.pair .int (.slice (.pair .int (.slice .int)))))), (6, .v .int)]
 ex := [(.exit 0, []), (.ret, [(4, .v .bool), (5, .v .bool)])]
 run := spec_IsAssociative_L4 n
noncomputable def C_35 : Cx where
 tt := tblTT tt
 T := tblT [(77, E_32), (78, E_33)]
 L := tblL [(10, S_35L10 fuel), (7, S_35L7 fuel), (4, S_35L4 fuel)]
 dep := fun i => 0
 n := 2
noncomputable def B_35L10 : Code := (Try.f36.body.bind (loopBody 10)).getD .skip
noncomputable def B_35L7 : Code := (Try.f36.body.bind (loopBody 7)).getD .skip
noncomputable def B_35L4 : Code := (Try.f36.body.bind (loopBody 4)).getD .skip
noncomputable def D_35 : Code := Try.f36.body.getD .skip
noncomputable def N_35 (_ : outs [.v (.pair .int (.slice (.pair .int (.slice .int)))), .v .int]) (r : dens [.v .bool, .v .bool]) : Bool × Bool := (r.1, r.2)
noncomputable def E_36 : Entry where
 params := [.v .int, .v (.slice (.pair .int (.slice (.slice .int))))]
 results := [.v (.pair .int (.slice .int)), .v .bool]
 B := (Int × (List Int)) × Bool
 run := fun a => spec_SemilatticePolymorphism a.1 a.2
 out := fun b => ((), ())
 res := fun b => (b.1, b.2)
noncomputable def S_36L5 (n : Nat) : LoopSpec where
 sh := [(0, .v .int), (4, .bx (.pr (.v .int) (.mv .int 0))), (6, .v (.slice (.slice .int))), (7, .v .int)]
 ex := [(.exit 0, [(4, .bx (.pr (.v .int) (.mv .int 0)))]), (.ret, [(4, .bx (.v (.pair .int (.slice .int)))), (5, .v .bool)])]
 run := spec_SemilatticePolymorphism_L5 n
noncomputable def C_36 : Cx where
 tt := tblTT tt
 T := tblT [(32, E_17), (33, E_29), (34, E_19), (35, E_34), (36, E_35)]
 L := tblL [(5, S_36L5 fuel)]
 dep := fun i => 0
 n := 2
noncomputable def B_36L5 : Code := (Try.f6.body.bind (loopBody 5)).getD .skip
noncomputable def D_36 : Code := Try.f6.body.getD .skip
noncomputable def N_36 (_ : outs [.v .int, .v (.slice (.pair .int (.slice (.slice .int))))]) (r : dens [.v (.pair .int (.slice .int)), .v .bool]) : (Int × (List Int)) × Bool := (r.1, r.2)
noncomputable def E_37 : Entry where
 params := [.v .int]
 results := [.v .bool]
 B := Bool
 run := fun a => impl_isTemplateSize a
 out := fun b => ()
 res := fun b => b
noncomputable def C_37 : Cx where
 tt := tblTT tt
 T := tblT []
 L := tblL []
 dep := fun i => 0
 n := 1
noncomputable def D_37 : Code := Try.f80.body.getD .skip
noncomputable def N_37 (_ : outs [.v .int]) (r : dens [.v .bool]) : Bool := r
noncomputable def E_38 : Entry where
 params := [.v (.slice .int), .v .int]
 results := [.v .bool]
 B := Bool
 run := fun a => impl_inSize a.1 a.2
 out := fun b => ((), ())
 res := fun b => b
noncomputable def S_38L2 (n : Nat) : LoopSpec where
 sh := [(1, .v .int), (7, .v (.slice .int)), (8, .v .int), (9, .v .int)]
 ex := [(.exit 0, []), (.ret, [(4, .v .bool)])]
 run := impl_inSize_L2 n
noncomputable def C_38 : Cx where
 tt := tblTT tt
 T := tblT []
 L := tblL [(2, S_38L2 fuel)]
 dep := fun i => 0
 n := 2
noncomputable def B_38L2 : Code := (Try.f51.body.bind (loopBody 2)).getD .skip
noncomputable def D_38 : Code := Try.f51.body.getD .skip
noncomputable def N_38 (_ : outs [.v (.slice .int), .v .int]) (r : dens [.v .bool]) : Bool := r
noncomputable def E_39 : Entry where
 params := [.v (.slice .int), .v (.slice .int)]
 results := [.v .int]
 B := Int
 run := fun a => impl_compareLists a.1 a.2
 out := fun b => ((), ())
 res := fun b => b
noncomputable def S_39L2 (n : Nat) : LoopSpec where
 sh := [(0, .v (.slice .int)), (1, .v (.slice .int)), (5, .v .int)]
 ex := [(.exit 0, [(0, .v (.slice .int)), (1, .v (.slice .int))]), (.ret, [(4, .v .int)])]
 run := impl_compareLists_L2 n
noncomputable def C_39 : Cx where
 tt := tblTT tt
 T := tblT []
 L := tblL [(2, S_39L2 fuel)]
 dep := fun i => 0
 n := 2
noncomputable def B_39L2 : Code := (Try.f119.body.bind (loopBody 2)).getD .skip
noncomputable def D_39 : Code := Try.f119.body.getD .skip
noncomputable def N_39 (_ : outs [.v (.slice .int), .v (.slice .int)]) (r : dens [.v .int]) : Int := r
noncomputable def E_40 : Entry where
 params := [.v .int, .v (.pair .int (.slice (.slice .int)))]
 results := [.v .bool]
 B := Bool
 run := fun a => impl_isRelation a.1 a.2
 out := fun b => ((), ())
 res := fun b => b
noncomputable def S_40L4 (n : Nat) : LoopSpec where
 sh := [(0, .v .int), (3, .bx (.v (.pair .int (.slice (.slice .int))))), (16, .v (.slice (.slice .int))), (17, .v .int), (18, .v .int)]
 ex := [(.exit 0, []), (.ret, [(4, .v .bool)])]
 run := impl_isRelation_L4 n
noncomputable def C_40 : Cx where
 tt := tblTT tt
 T := tblT [(51, E_38), (119, E_39)]
 L := tblL [(4, S_40L4 fuel)]
 dep := fun i => 0
 n := 2
noncomputable def B_40L4 : Code := (Try.f107.body.bind (loopBody 4)).getD .skip
noncomputable def D_40 : Code := Try.f107.body.getD .skip
noncomputable def N_40 (_ : outs [.v .int, .v (.pair .int (.slice (.slice .int)))]) (r : dens [.v .bool]) : Bool := r
noncomputable def E_41 : Entry where
 params := [.v .int, .v (.slice (.pair .int (.slice (.slice .int))))]
 results := [.v .bool]
 B := Bool
 run := fun a => impl_isTemplate a.1 a.2
 out := fun b => ((), ())
 res := fun b => b
noncomputable def S_41L4 (n : Nat) : LoopSpec where
 sh := [(0, .v .int), (10, .v (.slice (.pair .int (.slice (.slice .int))))), (11, .v .int), (12, .v .int)]
 ex := [(.exit 0, []), (.ret, [(4, .v .bool)])]
 run := impl_isTemplate_L4 n
noncomputable def C_41 : Cx where
 tt := tblTT tt
 T := tblT [(107, E_40)]
 L := tblL [(4, S_41L4 fuel)]
 dep := fun i => 0
 n := 2
noncomputable def B_41L4 : Code := (Try.f81.body.bind (loopBody 4)).getD .skip
noncomputable def D_41 : Code := Try.f81.body.getD .skip
noncomputable def N_41 (_ : outs [.v .int, .v (.slice (.pair .int (.slice (.slice .int))))]) (r : dens [.v .bool]) : Bool := r
noncomputable def E_42 : Entry where
 params := [.v .int, .v (.slice (.pair .int (.slice (.slice .int)))), .v .int]
 results := [.v .bool]
 B := Bool
 run := fun a => impl_canAsk a.1 a.2.1 a.2.2
 out := fun b => ((), (), ())
 res := fun b => b
noncomputable def S_42L4 (n : Nat) : LoopSpec where
 sh := [(2, .v .int), (18, .v (.slice (.pair .int (.slice (.slice .int))))), (19, .v .int), (20, .v .int)]
 ex := [(.exit 0, []), (.ret, [(6, .v .bool)])]
 run := impl_canAsk_L4 n
noncomputable def C_42 : Cx where
 tt := tblTT tt
 T := tblT [(80, E_37), (81, E_41)]
 L := tblL [(4, S_42L4 fuel)]
 dep := fun i => 0
 n := 3
noncomputable def B_42L4 : Code := (Try.f38.body.bind (loopBody 4)).getD .skip
noncomputable def D_42 : Code := Try.f38.body.getD .skip
noncomputable def N_42 (_ : outs [.v .int, .v (.slice (.pair .int (.slice (.slice .int)))), .v .int]) (r : dens [.v .bool]) : Bool := r
noncomputable def E_43 : Entry where
 params := [.v .int, .v .int]
 results := [.v .int]
 B := Int
 run := fun a => impl_power a.1 a.2
 out := fun b => ((), ())
 res := fun b => b
noncomputable def S_43L2 (n : Nat) : LoopSpec where
 sh := [(0, .v .int), (1, .v .int), (5, .v .int)]
 ex := [(.exit 0, [(5, .v .int)])]
 run := impl_power_L2 n
noncomputable def C_43 : Cx where
 tt := tblTT tt
 T := tblT []
 L := tblL [(2, S_43L2 fuel)]
 dep := fun i => 0
 n := 2
noncomputable def B_43L2 : Code := (Try.f83.body.bind (loopBody 2)).getD .skip
noncomputable def D_43 : Code := Try.f83.body.getD .skip
noncomputable def N_43 (_ : outs [.v .int, .v .int]) (r : dens [.v .int]) : Int := r
noncomputable def E_44 : Entry where
 params := [.v .int]
 results := [.mv .int 0]
 B := (List Int)
 run := fun a => impl_freeTable a
 out := fun b => ()
 res := fun b => b
noncomputable def S_44L3 (n : Nat) : LoopSpec where
 sh := [(3, .mv .int 0), (8, .v .int), (9, .v .int)]
 ex := [(.exit 0, [(3, .mv .int 0)])]
 run := impl_freeTable_L3 n
noncomputable def C_44 : Cx where
 tt := tblTT tt
 T := tblT []
 L := tblL [(3, S_44L3 fuel)]
 dep := fun i => 0
 n := 1
noncomputable def B_44L3 : Code := (Try.f55.body.bind (loopBody 3)).getD .skip
noncomputable def D_44 : Code := Try.f55.body.getD .skip
noncomputable def N_44 (_ : outs [.v .int]) (r : dens [.mv .int 0]) : (List Int) := r
noncomputable def E_45 : Entry where
 params := [.v .int, .v .int]
 results := [.mv .int 0]
 B := (List Int)
 run := fun a => impl_idempotentTable a.1 a.2
 out := fun b => ((), ())
 res := fun b => b
noncomputable def S_45L7 (n : Nat) : LoopSpec where
 sh := [(0, .v .int), (1, .v .int), (5, .mv .int 0), (6, .v .int), (7, .v .int), (8, .v .int)]
 ex := [(.exit 2, [(0, .v .int), (1, .v .int), (5, .mv .int 0), (6, .v .int), (7, .v .int)])]
 run := impl_idempotentTable_L7 n
noncomputable def S_45L3 (n : Nat) : LoopSpec where
 sh := [(0, .v .int), (1, .v .int), (5, .mv .int 0), (6, .v .int)]
 ex := [(.exit 0, [(5, .mv .int 0)])]
 run := impl_idempotentTable_L3 n
noncomputable def C_45 : Cx where
 tt := tblTT tt
 T := tblT [(55, E_44), (83, E_43)]
 L := tblL [(7, S_45L7 fuel), (3, S_45L3 fuel)]
 dep := fun i => 0
 n := 2
noncomputable def B_45L7 : Code := (Try.f40.body.bind (loopBody 7)).getD .skip
noncomputable def B_45L3 : Code := (Try.f40.body.bind (loopBody 3)).getD .skip
noncomputable def D_45 : Code := Try.f40.body.getD .skip
noncomputable def N_45 (_ : outs [.v .int, .v .int]) (r : dens [.mv .int 0]) : (List Int) := r
noncomputable def E_46 : Entry where
 params := [.v (.slice .int)]
 results := [.v .str]
 B := ByteArray
 run := fun a => impl_keyOf a
 out := fun b => ()
 res := fun b => b
noncomputable def S_46L3 (n : Nat) : LoopSpec where
 sh := [(3, .mv (.num .u8) 0), (10, .v (.slice .int)), (11, .v .int), (12, .v .int)]
 ex := [(.exit 0, [(3, .mv (.num .u8) 0)])]
 run := impl_keyOf_L3 n
noncomputable def C_46 : Cx where
 tt := tblTT tt
 T := tblT []
 L := tblL [(3, S_46L3 fuel)]
 dep := fun i => 0
 n := 1
noncomputable def B_46L3 : Code := (Try.f94.body.bind (loopBody 3)).getD .skip
noncomputable def D_46 : Code := Try.f94.body.getD .skip
noncomputable def N_46 (_ : outs [.v (.slice .int)]) (r : dens [.v .str]) : ByteArray := r
noncomputable def E_47 : Entry where
 params := [.v (.pair .int (.slice (.slice .int)))]
 results := [.v .smap]
 B := (List ByteArray)
 run := fun a => impl_tupleSet a
 out := fun b => ()
 res := fun b => b
noncomputable def S_47L3 (n : Nat) : LoopSpec where
 sh := [(3, .mp), (8, .v (.slice (.slice .int))), (9, .v .int), (10, .v .int)]
 ex := [(.exit 0, [(3, .mp)])]
 run := impl_tupleSet_L3 n
noncomputable def C_47 : Cx where
 tt := tblTT tt
 T := tblT [(94, E_46)]
 L := tblL [(3, S_47L3 fuel)]
 dep := fun i => 0
 n := 1
noncomputable def B_47L3 : Code := (Try.f92.body.bind (loopBody 3)).getD .skip
noncomputable def D_47 : Code := Try.f92.body.getD .skip
noncomputable def N_47 (_ : outs [.v (.pair .int (.slice (.slice .int)))]) (r : dens [.v .smap]) : (List ByteArray) := r
noncomputable def E_48 : Entry where
 params := [.v .int, .v .int, .v .int]
 results := [.mv .int 0]
 B := (List Int)
 run := fun a => impl_argsAt a.1 a.2.1 a.2.2
 out := fun b => ((), (), ())
 res := fun b => b
noncomputable def S_48L3 (n : Nat) : LoopSpec where
 sh := [(0, .v .int), (2, .v .int), (7, .mv .int 0), (8, .v .int)]
 ex := [(.exit 0, [(7, .mv .int 0)])]
 run := impl_argsAt_L3 n
noncomputable def C_48 : Cx where
 tt := tblTT tt
 T := tblT []
 L := tblL [(3, S_48L3 fuel)]
 dep := fun i => 0
 n := 3
noncomputable def B_48L3 : Code := (Try.f93.body.bind (loopBody 3)).getD .skip
noncomputable def D_48 : Code := Try.f93.body.getD .skip
noncomputable def N_48 (_ : outs [.v .int, .v .int, .v .int]) (r : dens [.mv .int 0]) : (List Int) := r
noncomputable def E_49 : Entry where
 params := [.v .int, .v (.slice (.pair .int (.slice (.slice .int)))), .v .int]
 results := [.v (.ptr (.pair .int (.pair .int (.slice (.slice (.pair (.slice .int) .smap))))))]
 B := (Bool × Int × Int × (List (List ((List Int) × (List ByteArray)))))
 run := fun a => impl_newPolySearch a.1 a.2.1 a.2.2
 out := fun b => ((), (), ())
 res := fun b => b
noncomputable def S_49L17 (n : Nat) : LoopSpec where
 sh := [(917564, .jk 1), (0, .v .int), (2, .v .int), (7, .bx (.pr (.v .int) (.pr (.v .int) (.mv (.slice (.pair (.slice .int) .smap)) 1)))), (9, .bx (.v (.pair .int (.slice (.slice .int))))), (10, .v .smap), (11, .mp), (12, .v .int), (13, .mv .int 0), (14, .mv .int 0), (15, .v .int), (16, .v .int), (28, .v (.slice (.pair .int (.slice (.slice .int))))), (29, .v .int), (30, .v .int), (56, .v .int), (57, .v .int), (61, .v .int), (62, .v .int)]
 ex := [(.exit 6, [(0, .v .int), (2, .v .int), (7, .bx (.pr (.v .int) (.pr (.v .int) (.mv (.slice (.pair (.slice .int) .smap)) 1)))), (9, .bx (.v (.pair .int (.slice (.slice .int))))), (10, .v .smap), (11, .mp), (12, .v .int), (13, .mv .int 0), (14, .mv .int 0), (15, .v .int), (16, .v .int), (28, .v (.slice (.pair .int (.slice (.slice .int))))), (29, .v .int), (30, .v .int), (56, .v .int), (57, .v .int)])]
 run := impl_newPolySearch_L17 n
noncomputable def S_49L14 (n : Nat) : LoopSpec where
 sh := [(0, .v .int), (2, .v .int), (7, .bx (.pr (.v .int) (.pr (.v .int) (.mv (.slice (.pair (.slice .int) .smap)) 1)))), (9, .bx (.v (.pair .int (.slice (.slice .int))))), (10, .v .smap), (11, .mp), (12, .v .int), (13, .mv .int 0), (14, .mv .int 0), (15, .v .int), (28, .v (.slice (.pair .int (.slice (.slice .int))))), (29, .v .int), (30, .v .int), (56, .v .int), (57, .v .int)]
 ex := [(.exit 4, [(0, .v .int), (2, .v .int), (7, .bx (.pr (.v .int) (.pr (.v .int) (.mv (.slice (.pair (.slice .int) .smap)) 1)))), (9, .bx (.v (.pair .int (.slice (.slice .int))))), (10, .v .smap), (11, .mp), (12, .v .int), (14, .mv .int 0), (15, .v .int), (28, .v (.slice (.pair .int (.slice (.slice .int))))), (29, .v .int), (30, .v .int)])]
 run := impl_newPolySearch_L14 n
noncomputable def S_49L8 (n : Nat) : LoopSpec where
 sh := [(0, .v .int), (2, .v .int), (7, .bx (.pr (.v .int) (.pr (.v .int) (.mv (.slice (.pair (.slice .int) .smap)) 1)))), (9, .bx (.v (.pair .int (.slice (.slice .int))))), (10, .v .smap), (11, .mp), (12, .v .int), (28, .v (.slice (.pair .int (.slice (.slice .int))))), (29, .v .int), (30, .v .int)]
 ex := [(.exit 2, [(0, .v .int), (2, .v .int), (7, .bx (.pr (.v .int) (.pr (.v .int) (.mv (.slice (.pair (.slice .int) .smap)) 1)))), (28, .v (.slice (.pair .int (.slice (.slice .int))))), (29, .v .int), (30, .v .int)])]
 run := impl_newPolySearch_L8 n
noncomputable def S_49L3 (n : Nat) : LoopSpec where
 sh := [(0, .v .int), (2, .v .int), (7, .bx (.pr (.v .int) (.pr (.v .int) (.mv (.slice (.pair (.slice .int) .smap)) 1)))), (28, .v (.slice (.pair .int (.slice (.slice .int))))), (29, .v .int), (30, .v .int)]
 ex := [(.exit 0, [(7, .bx (.pr (.v .int) (.pr (.v .int) (.mv (.slice (.pair (.slice .int) .smap)) 1))))])]
 run := impl_newPolySearch_L3 n
noncomputable def C_49 : Cx where
 tt := tblTT tt
 T := tblT [(83, E_43), (92, E_47), (93, E_48), (94, E_46)]
 L := tblL [(17, S_49L17 fuel), (14, S_49L14 fuel), (8, S_49L8 fuel), (3, S_49L3 fuel)]
 dep := fun i => match i with
  | 25 => 1
  | _ => 0
 n := 3
 fine := true
noncomputable def B_49L17 : Code := (Try.f57.body.bind (loopBody 17)).getD .skip
noncomputable def B_49L14 : Code := (Try.f57.body.bind (loopBody 14)).getD .skip
noncomputable def B_49L8 : Code := (Try.f57.body.bind (loopBody 8)).getD .skip
noncomputable def B_49L3 : Code := (Try.f57.body.bind (loopBody 3)).getD .skip
noncomputable def D_49 : Code := Try.f57.body.getD .skip
noncomputable def N_49 (_ : outs [.v .int, .v (.slice (.pair .int (.slice (.slice .int)))), .v .int]) (r : dens [.v (.ptr (.pair .int (.pair .int (.slice (.slice (.pair (.slice .int) .smap))))))]) : (Bool × Int × Int × (List (List ((List Int) × (List ByteArray))))) := r
noncomputable def E_50 : Entry where
 params := [.v (.pair .int (.slice .int)), .v .int]
 results := [.v .bool]
 B := Bool
 run := fun a => impl_isOp a.1 a.2
 out := fun b => ((), ())
 res := fun b => b
noncomputable def C_50 : Cx where
 tt := tblTT tt
 T := tblT [(51, E_38), (83, E_43)]
 L := tblL []
 dep := fun i => 0
 n := 2
noncomputable def D_50 : Code := Try.f62.body.getD .skip
noncomputable def N_50 (_ : outs [.v (.pair .int (.slice .int)), .v .int]) (r : dens [.v .bool]) : Bool := r
noncomputable def E_51 : Entry where
 params := [.v (.pair .int (.slice (.pair .int (.slice .int))))]
 results := [.v .bool]
 B := Bool
 run := fun a => impl_IsAlgebra a
 out := fun b => ()
 res := fun b => b
noncomputable def S_51L4 (n : Nat) : LoopSpec where
 sh := [(1, .bx (.v (.pair .int (.slice (.pair .int (.slice .int)))))), (20, .v (.slice (.pair .int (.slice .int)))), (21, .v .int), (22, .v .int)]
 ex := [(.exit 0, []), (.ret, [(2, .v .bool)])]
 run := impl_IsAlgebra_L4 n
noncomputable def C_51 : Cx where
 tt := tblTT tt
 T := tblT [(62, E_50)]
 L := tblL [(4, S_51L4 fuel)]
 dep := fun i => 0
 n := 1
noncomputable def B_51L4 : Code := (Try.f120.body.bind (loopBody 4)).getD .skip
noncomputable def D_51 : Code := Try.f120.body.getD .skip
noncomputable def N_51 (_ : outs [.v (.pair .int (.slice (.pair .int (.slice .int))))]) (r : dens [.v .bool]) : Bool := r
noncomputable def E_52 : Entry where
 params := [.v (.pair .int (.slice (.pair .int (.slice .int)))), .v .int]
 results := [.v .bool]
 B := Bool
 run := fun a => impl_hasOp a.1 a.2
 out := fun b => ((), ())
 res := fun b => b
noncomputable def C_52 : Cx where
 tt := tblTT tt
 T := tblT [(120, E_51)]
 L := tblL []
 dep := fun i => 0
 n := 2
noncomputable def D_52 : Code := Try.f108.body.getD .skip
noncomputable def N_52 (_ : outs [.v (.pair .int (.slice (.pair .int (.slice .int)))), .v .int]) (r : dens [.v .bool]) : Bool := r
noncomputable def E_53 : Entry where
 params := [.v (.pair .int (.slice (.pair .int (.slice .int)))), .v .int]
 results := [.v .bool, .v .bool]
 B := Bool × Bool
 run := fun a => impl_IsIdempotent a.1 a.2
 out := fun b => ((), ())
 res := fun b => (b.1, b.2)
noncomputable def S_53L11 (n : Nat) : LoopSpec where
 sh := [(2, .bx (.v (.pair .int (.slice (.pair .int (.slice .int)))))), (6, .bx (.v (.pair .int (.slice .int)))), (7, .v .int), (8, .v .int), (9, .v .int)]
 ex := [(.exit 2, [(2, .bx (.v (.pair .int (.slice (.pair .int (.slice .int)))))), (6, .bx (.v (.pair .int (.slice .int)))), (7, .v .int), (8, .v .int)])]
 run := impl_IsIdempotent_L11 n
noncomputable def S_53L7 (n : Nat) : LoopSpec where
 sh := [(2, .bx (.v (.pair .int (.slice (.pair .int (.slice .int)))))), (6, .bx (.v (.pair .int (.slice .int)))), (7, .v .int)]
 ex := [(.exit 0, []), (.ret, [(4, .v .bool), (5, .v .bool)])]
 run := impl_IsIdempotent_L7 n
noncomputable def C_53 : Cx where
 tt := tblTT tt
 T := tblT [(108, E_52)]
 L := tblL [(11, S_53L11 fuel), (7, S_53L7 fuel)]
 dep := fun i => 0
 n := 2
noncomputable def B_53L11 : Code := (Try.f84.body.bind (loopBody 11)).getD .skip
noncomputable def B_53L7 : Code := (Try.f84.body.bind (loopBody 7)).getD .skip
noncomputable def D_53 : Code := Try.f84.body.getD .skip
noncomputable def N_53 (_ : outs [.v (.pair .int (.slice (.pair .int (.slice .int)))), .v .int]) (r : dens [.v .bool, .v .bool]) : Bool × Bool := (r.1, r.2)
noncomputable def E_54 : Entry where
 params := [.v (.pair .int (.slice (.pair .int (.slice .int)))), .v .int]
 results := [.v .bool]
 B := Bool
 run := fun a => impl_isBinary a.1 a.2
 out := fun b => ((), ())
 res := fun b => b
noncomputable def C_54 : Cx where
 tt := tblTT tt
 T := tblT [(108, E_52)]
 L := tblL []
 dep := fun i => 0
 n := 2
noncomputable def D_54 : Code := Try.f109.body.getD .skip
noncomputable def N_54 (_ : outs [.v (.pair .int (.slice (.pair .int (.slice .int)))), .v .int]) (r : dens [.v .bool]) : Bool := r
noncomputable def E_55 : Entry where
 params := [.v (.pair .int (.slice (.pair .int (.slice .int)))), .v .int]
 results := [.v .bool, .v .bool]
 B := Bool × Bool
 run := fun a => impl_IsCommutative a.1 a.2
 out := fun b => ((), ())
 res := fun b => (b.1, b.2)
noncomputable def S_55L8 (n : Nat) : LoopSpec where
 sh := [(6, .v .int), (7, .v (.slice .int)), (8, .v .int), (9, .v .int)]
 ex := [(.exit 2, [(6, .v .int), (7, .v (.slice .int)), (8, .v .int)]), (.ret, [(4, .v .bool), (5, .v .bool)])]
 run := impl_IsCommutative_L8 n
noncomputable def S_55L5 (n : Nat) : LoopSpec where
 sh := [(6, .v .int), (7, .v (.slice .int)), (8, .v .int)]
 ex := [(.exit 0, []), (.ret, [(4, .v .bool), (5, .v .bool)])]
 run := impl_IsCommutative_L5 n
noncomputable def C_55 : Cx where
 tt := tblTT tt
 T := tblT [(109, E_54)]
 L := tblL [(8, S_55L8 fuel), (5, S_55L5 fuel)]
 dep := fun i => 0
 n := 2
noncomputable def B_55L8 : Code := (Try.f85.body.bind (loopBody 8)).getD .skip
noncomputable def B_55L5 : Code := (Try.f85.body.bind (loopBody 5)).getD .skip
noncomputable def D_55 : Code := Try.f85.body.getD .skip
noncomputable def N_55 (_ : outs [.v (.pair .int (.slice (.pair .int (.slice .int)))), .v .int]) (r : dens [.v .bool, .v .bool]) : Bool × Bool := (r.1, r.2)
noncomputable def E_56 : Entry where
 params := [.v (.pair .int (.slice (.pair .int (.slice .int)))), .v .int]
 results := [.v .bool, .v .bool]
 B := Bool × Bool
 run := fun a => impl_IsAssociative a.1 a.2
 out := fun b => ((), ())
 res := fun b => (b.1, b.2)
noncomputable def S_56L11 (n : Nat) : LoopSpec where
 sh := [(6, .v .int), (7, .v (.slice .int)), (8, .v .int), (9, .v .int), (10, .v .int)]
 ex := [(.exit 4, [(6, .v .int), (7, .v (.slice .int)), (8, .v .int), (9, .v .int)]), (.ret, [(4, .v .bool), (5, .v .bool)])]
 run := impl_IsAssociative_L11 n
noncomputable def S_56L8 (n : Nat) : LoopSpec where
 sh := [(6, .v .int), (7, .v (.slice .int)), (8, .v .int), (9, .v .int)]
 ex := [(.exit 2, [(6, .v .int), (7, .v (.slice .int)), (8, .v .int)]), (.ret, [(4, .v .bool), (5, .v .bool)])]
 run := impl_IsAssociative_L8 n
noncomputable def S_56L5 (n : Nat) : LoopSpec where
 sh := [(6, .v .int), (7, .v (.slice .int)), (8, .v .int)]
 ex := [(.exit 0, []), (.ret, [(4, .v .bool), (5, .v .bool)])]
 run := impl_IsAssociative_L5 n
noncomputable def C_56 : Cx where
 tt := tblTT tt
 T := tblT [(109, E_54)]
 L := tblL [(11, S_56L11 fuel), (8, S_56L8 fuel), (5, S_56L5 fuel)]
 dep := fun i => 0
 n := 2
noncomputable def B_56L11 : Code := (Try.f86.body.bind (loopBody 11)).getD .skip
noncomputable def B_56L8 : Code := (Try.f86.body.bind (loopBody 8)).getD .skip
noncomputable def B_56L5 : Code := (Try.f86.body.bind (loopBody 5)).getD .skip
noncomputable def D_56 : Code := Try.f86.body.getD .skip
noncomputable def N_56 (_ : outs [.v (.pair .int (.slice (.pair .int (.slice .int)))), .v .int]) (r : dens [.v .bool, .v .bool]) : Bool × Bool := (r.1, r.2)
noncomputable def E_57 : Entry where
 params := [.v .int, .v (.slice .int)]
 results := [.v .bool]
 B := Bool
 run := fun a => impl_isSemilattice a.1 a.2
 out := fun b => ((), ())
 res := fun b => b
noncomputable def C_57 : Cx where
 tt := tblTT tt
 T := tblT [(84, E_53), (85, E_55), (86, E_56)]
 L := tblL []
 dep := fun i => 0
 n := 2
noncomputable def D_57 : Code := Try.f42.body.getD .skip
noncomputable def N_57 (_ : outs [.v .int, .v (.slice .int)]) (r : dens [.v .bool]) : Bool := r
noncomputable def E_58 : Entry where
 params := [.v (.slice .int), .v (.ptr .int)]
 results := [.v .bool]
 B := Bool
 run := fun a => impl_SemilatticePolymorphism_c1_p a.1 a.2
 out := fun b => ((), ())
 res := fun b => b
noncomputable def C_58 : Cx where
 tt := tblTT tt
 T := tblT [(42, E_57)]
 L := tblL []
 dep := fun i => 0
 n := 2
noncomputable def D_58 : Code := Try.f41.body.getD .skip
noncomputable def N_58 (_ : outs [.v (.slice .int), .v (.ptr .int)]) (r : dens [.v .bool]) : Bool := r
noncomputable def E_59 : Entry where
 params := [.v (.slice .int)]
 results := [.mv .int 0]
 B := (List Int)
 run := fun a => impl_clone a
 out := fun b => ()
 res := fun b => b
noncomputable def C_59 : Cx where
 tt := tblTT tt
 T := tblT []
 L := tblL []
 dep := fun i => 0
 n := 1
noncomputable def D_59 : Code := Try.f60.body.getD .skip
noncomputable def N_59 (_ : outs [.v (.slice .int)]) (r : dens [.mv .int 0]) : (List Int) := r
noncomputable def E_60 : Entry where
 params := [.v (.slice .int), .pz (.fc 41 (.ptr .int)), .bx (.v .int), .bx (.pr (.v .int) (.mv .int 0)), .bx (.v .bool)]
 results := [.v .bool]
 B := Int × (Int × (List Int)) × Bool × Bool
 run := fun a => impl_firstPoly_c1_impl_SemilatticePolymorphism_c1 a.1 a.2.1 a.2.2.1 a.2.2.2.1 a.2.2.2.2
 out := fun b => ((), (), b.1, b.2.1, b.2.2.1)
 res := fun b => b.2.2.2
noncomputable def C_60 : Cx where
 tt := tblTT tt
 T := tblT [(41, E_58), (60, E_59)]
 L := tblL []
 dep := fun i => 0
 n := 5
noncomputable def D_60 : Code := Try.f82.body.getD .skip
noncomputable def N_60 (o : outs [.v (.slice .int), .pz (.fc 41 (.ptr .int)), .bx (.v .int), .bx (.pr (.v .int) (.mv .int 0)), .bx (.v .bool)]) (r : dens [.v .bool]) : Int × (Int × (List Int)) × Bool × Bool := (o.2.2.1, o.2.2.2.1, o.2.2.2.2, r)
noncomputable def E_61 : Entry where
 params := [.v (.slice .int), .v (.slice .int)]
 results := [.mv .int 0]
 B := (List Int)
 run := fun a => impl_compose a.1 a.2
 out := fun b => ((), ())
 res := fun b => b
noncomputable def S_61L3 (n : Nat) : LoopSpec where
 sh := [(1, .v (.slice .int)), (5, .mv .int 0), (11, .v (.slice .int)), (12, .v .int), (13, .v .int)]
 ex := [(.exit 0, [(5, .mv .int 0)])]
 run := impl_compose_L3 n
noncomputable def C_61 : Cx where
 tt := tblTT tt
 T := tblT []
 L := tblL [(3, S_61L3 fuel)]
 dep := fun i => 0
 n := 2
noncomputable def B_61L3 : Code := (Try.f50.body.bind (loopBody 3)).getD .skip
noncomputable def D_61 : Code := Try.f50.body.getD .skip
noncomputable def N_61 (_ : outs [.v (.slice .int), .v (.slice .int)]) (r : dens [.mv .int 0]) : (List Int) := r
noncomputable def E_62 : Entry where
 params := [.v (.ptr (.pair .int (.pair .int (.slice (.slice (.pair (.slice .int) .smap)))))), .v (.slice .int), .v .int]
 results := [.v .bool]
 B := Bool
 run := fun a => impl_polySearch_fits_p a.1 a.2.1 a.2.2
 out := fun b => ((), (), ())
 res := fun b => b
noncomputable def S_62L2 (n : Nat) : LoopSpec where
 sh := [(1, .v (.slice .int)), (15, .v (.slice (.pair (.slice .int) .smap))), (16, .v .int), (17, .v .int)]
 ex := [(.exit 0, []), (.ret, [(6, .v .bool)])]
 run := impl_polySearch_fits_p_L2 n
noncomputable def C_62 : Cx where
 tt := tblTT tt
 T := tblT [(50, E_61), (94, E_46)]
 L := tblL [(2, S_62L2 fuel)]
 dep := fun i => 0
 n := 3
noncomputable def B_62L2 : Code := (Try.f96.body.bind (loopBody 2)).getD .skip
noncomputable def D_62 : Code := Try.f96.body.getD .skip
noncomputable def N_62 (_ : outs [.v (.ptr (.pair .int (.pair .int (.slice (.slice (.pair (.slice .int) .smap)))))), .v (.slice .int), .v .int]) (r : dens [.v .bool]) : Bool := r
noncomputable def E_63_of (rec : (Int × (List Int) × ((Bool × Int) × (Int × ((Int × (List Int)) × Bool))) × (Bool × Int × Int × (List (List ((List Int) × (List ByteArray))))) × (List Int) × Unit) → Option ((List Int) × (Unit × (Int × ((Int × (List Int)) × Bool))) × (Bool × Int × Int × (List (List ((List Int) × (List ByteArray))))) × (List Int) × Bool)) : Entry where
 params := [.v .int, .bx (.mv .int 0), .pr (.pz (.fc 41 (.ptr .int))) (.pr (.bx (.v .int)) (.pr (.bx (.pr (.v .int) (.mv .int 0))) (.bx (.v .bool)))), .bx (.v (.ptr (.pair .int (.pair .int (.slice (.slice (.pair (.slice .int) .smap))))))), .bx (.v (.slice .int)), .jk 1]
 results := [.v .bool]
 cod := [(2, .kb 82), (5, .kn 95 1 5)]
 B := (List Int) × (Unit × (Int × ((Int × (List Int)) × Bool))) × (Bool × Int × Int × (List (List ((List Int) × (List ByteArray))))) × (List Int) × Bool
 run := rec
 out := fun b => ((), b.1, b.2.1, b.2.2.1, b.2.2.2.1, ())
 res := fun b => b.2.2.2.2
noncomputable def E_63 (d : Nat) : Entry := E_63_of (impl_polySearch_each_c1_impl_firstPoly_c1_impl_SemilatticePolymorphism_c1 d)
noncomputable def S_63L4 (rec : (Int × (List Int) × ((Bool × Int) × (Int × ((Int × (List Int)) × Bool))) × (Bool × Int × Int × (List (List ((List Int) × (List ByteArray))))) × (List Int) × Unit) → Option ((List Int) × (Unit × (Int × ((Int × (List Int)) × Bool))) × (Bool × Int × Int × (List (List ((List Int) × (List ByteArray))))) × (List Int) × Bool)) (n : Nat) : LoopSpec where
 sh := [(0, .v .int), (1, .bx (.mv .int 0)), (2, .pr (.pz (.fc 41 (.ptr .int))) (.pr (.bx (.v .int)) (.pr (.bx (.pr (.v .int) (.mv .int 0))) (.bx (.v .bool))))), (3, .bx (.v (.ptr (.pair .int (.pair .int (.slice (.slice (.pair (.slice .int) .smap)))))))), (4, .bx (.v (.slice .int))), (5, .jk 1), (8, .v .int)]
 ex := [(.exit 0, [(1, .bx (.mv .int 0)), (2, .pr (.pz (.fc 41 (.ptr .int))) (.pr (.bx (.v .int)) (.pr (.bx (.pr (.v .int) (.mv .int 0))) (.bx (.v .bool))))), (3, .bx (.v (.ptr (.pair .int (.pair .int (.slice (.slice (.pair (.slice .int) .smap)))))))), (4, .bx (.v (.slice .int))), (5, .jk 1)]), (.ret, [(1, .bx (.mv .int 0)), (2, .pr (.pz (.fc 41 (.ptr .int))) (.pr (.bx (.v .int)) (.pr (.bx (.pr (.v .int) (.mv .int 0))) (.bx (.v .bool))))), (3, .bx (.v (.ptr (.pair .int (.pair .int (.slice (.slice (.pair (.slice .int) .smap)))))))), (4, .bx (.v (.slice .int))), (5, .jk 1), (7, .v .bool)])]
 run := impl_polySearch_each_c1_impl_firstPoly_c1_impl_SemilatticePolymorphism_c1_L4 rec n
noncomputable def C_63 (rec : (Int × (List Int) × ((Bool × Int) × (Int × ((Int × (List Int)) × Bool))) × (Bool × Int × Int × (List (List ((List Int) × (List ByteArray))))) × (List Int) × Unit) → Option ((List Int) × (Unit × (Int × ((Int × (List Int)) × Bool))) × (Bool × Int × Int × (List (List ((List Int) × (List ByteArray))))) × (List Int) × Bool)) : Cx where
 tt := tblTT tt
 T := tblT [(82, E_60), (96, E_62), (5439583, E_63_of rec)]
 L := tblL [(4, S_63L4 rec fuel)]
 dep := fun i => 0
 n := 6
 cod := [(2, .kb 82), (5, .kn 95 1 5)]
noncomputable def B_63L4 : Code := (Try.f95.body.bind (loopBody 4)).getD .skip
noncomputable def D_63 : Code := Try.f95.body.getD .skip
noncomputable def N_63 (o : outs [.v .int, .bx (.mv .int 0), .pr (.pz (.fc 41 (.ptr .int))) (.pr (.bx (.v .int)) (.pr (.bx (.pr (.v .int) (.mv .int 0))) (.bx (.v .bool)))), .bx (.v (.ptr (.pair .int (.pair .int (.slice (.slice (.pair (.slice .int) .smap))))))), .bx (.v (.slice .int)), .jk 1]) (r : dens [.v .bool]) : (List Int) × (Unit × (Int × ((Int × (List Int)) × Bool))) × (Bool × Int × Int × (List (List ((List Int) × (List ByteArray))))) × (List Int) × Bool := (o.2.1, o.2.2.1, o.2.2.2.1, o.2.2.2.2.1, r)
noncomputable def E_64 : Entry where
 params := [.v (.ptr (.pair .int (.pair .int (.slice (.slice (.pair (.slice .int) .smap)))))), .v (.slice .int), .pr (.pz (.fc 41 (.ptr .int))) (.pr (.bx (.v .int)) (.pr (.bx (.pr (.v .int) (.mv .int 0))) (.bx (.v .bool))))]
 results := []
 cod := [(2, .cl 82)]
 B := (Unit × (Int × ((Int × (List Int)) × Bool)))
 run := fun a => impl_polySearch_each_impl_firstPoly_c1_impl_SemilatticePolymorphism_c1 a.1 a.2.1 a.2.2
 out := fun b => ((), (), b)
 res := fun b => ()
noncomputable def C_64 : Cx where
 tt := tblTT tt
 T := tblT [(5439583, E_63 fuel)]
 L := tblL []
 dep := fun i => 0
 n := 3
 cod := [(2, .cl 82)]
noncomputable def D_64 : Code := Try.f58.body.getD .skip
noncomputable def N_64 (o : outs [.v (.ptr (.pair .int (.pair .int (.slice (.slice (.pair (.slice .int) .smap)))))), .v (.slice .int), .pr (.pz (.fc 41 (.ptr .int))) (.pr (.bx (.v .int)) (.pr (.bx (.pr (.v .int) (.mv .int 0))) (.bx (.v .bool))))]) (_ : dens []) : (Unit × (Int × ((Int × (List Int)) × Bool))) := o.2.2
noncomputable def E_65 : Entry where
 params := [.v .int, .v (.slice (.pair .int (.slice (.slice .int)))), .v .int, .v (.slice .int), .v (.fc 41 (.ptr .int))]
 results := [.pr (.v .int) (.mv .int 0), .v .bool]
 B := (Int × (List Int)) × Bool
 run := fun a => impl_firstPoly_impl_SemilatticePolymorphism_c1 a.1 a.2.1 a.2.2.1 a.2.2.2.1 a.2.2.2.2
 out := fun b => ((), (), (), (), ())
 res := fun b => (b.1, b.2)
noncomputable def C_65 : Cx where
 tt := tblTT tt
 T := tblT [(57, E_49), (5439546, E_64)]
 L := tblL []
 dep := fun i => 0
 n := 5
noncomputable def D_65 : Code := Try.f39.body.getD .skip
noncomputable def N_65 (_ : outs [.v .int, .v (.slice (.pair .int (.slice (.slice .int)))), .v .int, .v (.slice .int), .v (.fc 41 (.ptr .int))]) (r : dens [.pr (.v .int) (.mv .int 0), .v .bool]) : (Int × (List Int)) × Bool := (r.1, r.2)
noncomputable def E_66 : Entry where
 params := [.v .int, .v (.slice (.pair .int (.slice (.slice .int))))]
 results := [.pr (.v .int) (.mv .int 0), .v .bool]
 B := (Int × (List Int)) × Bool
 run := fun a => impl_SemilatticePolymorphism a.1 a.2
 out := fun b => ((), ())
 res := fun b => (b.1, b.2)
noncomputable def C_66 : Cx where
 tt := tblTT tt
 T := tblT [(38, E_42), (40, E_45), (2752551, E_65)]
 L := tblL []
 dep := fun i => 0
 n := 2
 pre := fun i => match i with
  | 3 => [2]
  | _ => []
 fcl := [(41, (.ptr .int))]
noncomputable def D_66 : Code := Try.f8.body.getD .skip
noncomputable def N_66 (_ : outs [.v .int, .v (.slice (.pair .int (.slice (.slice .int))))]) (r : dens [.pr (.v .int) (.mv .int 0), .v .bool]) : (Int × (List Int)) × Bool := (r.1, r.2)
noncomputable def E_67 : Entry where
 params := [.v (.slice .int), .v (.slice .int)]
 results := [.v .bool]
 B := Bool
 run := fun a => laws_eqIntS a.1 a.2
 out := fun b => ((), ())
 res := fun b => b
noncomputable def S_67L4 (n : Nat) : LoopSpec where
 sh := [(0, .v (.slice .int)), (1, .v (.slice .int)), (5, .v .int)]
 ex := [(.exit 0, []), (.ret, [(4, .v .bool)])]
 run := laws_eqIntS_L4 n
noncomputable def C_67 : Cx where
 tt := tblTT tt
 T := tblT []
 L := tblL [(4, S_67L4 fuel)]
 dep := fun i => 0
 n := 2
noncomputable def B_67L4 : Code := (Try.f43.body.bind (loopBody 4)).getD .skip
noncomputable def D_67 : Code := Try.f43.body.getD .skip
noncomputable def N_67 (_ : outs [.v (.slice .int), .v (.slice .int)]) (r : dens [.v .bool]) : Bool := r
noncomputable def E_68 : Entry where
 params := [.v (.pair .int (.slice .int)), .v (.pair .int (.slice .int))]
 results := [.v .bool]
 B := Bool
 run := fun a => laws_eqOp a.1 a.2
 out := fun b => ((), ())
 res := fun b => b
noncomputable def C_68 : Cx where
 tt := tblTT tt
 T := tblT [(43, E_67)]
 L := tblL []
 dep := fun i => 0
 n := 2
noncomputable def D_68 : Code := Try.f9.body.getD .skip
noncomputable def N_68 (_ : outs [.v (.pair .int (.slice .int)), .v (.pair .int (.slice .int))]) (r : dens [.v .bool]) : Bool := r
noncomputable def E_69 : Entry where
 params := [.v (.slice (.slice .int)), .v (.slice (.slice .int))]
 results := [.v .bool]
 B := Bool
 run := fun a => laws_eqIntSS a.1 a.2
 out := fun b => ((), ())
 res := fun b => b
noncomputable def S_69L4 (n : Nat) : LoopSpec where
 sh := [(0, .v (.slice (.slice .int))), (1, .v (.slice (.slice .int))), (5, .v .int)]
 ex := [(.exit 0, []), (.ret, [(4, .v .bool)])]
 run := laws_eqIntSS_L4 n
noncomputable def C_69 : Cx where
 tt := tblTT tt
 T := tblT [(43, E_67)]
 L := tblL [(4, S_69L4 fuel)]
 dep := fun i => 0
 n := 2
noncomputable def B_69L4 : Code := (Try.f87.body.bind (loopBody 4)).getD .skip
noncomputable def D_69 : Code := Try.f87.body.getD .skip
noncomputable def N_69 (_ : outs [.v (.slice (.slice .int)), .v (.slice (.slice .int))]) (r : dens [.v .bool]) : Bool := r
noncomputable def E_70 : Entry where
 params := [.v (.pair .int (.slice (.slice .int))), .v (.pair .int (.slice (.slice .int)))]
 results := [.v .bool]
 B := Bool
 run := fun a => laws_eqRelation a.1 a.2
 out := fun b => ((), ())
 res := fun b => b
noncomputable def C_70 : Cx where
 tt := tblTT tt
 T := tblT [(87, E_69)]
 L := tblL []
 dep := fun i => 0
 n := 2
noncomputable def D_70 : Code := Try.f44.body.getD .skip
noncomputable def N_70 (_ : outs [.v (.pair .int (.slice (.slice .int))), .v (.pair .int (.slice (.slice .int)))]) (r : dens [.v .bool]) : Bool := r
noncomputable def E_71 : Entry where
 params := [.v (.slice (.pair .int (.slice (.slice .int)))), .v (.slice (.pair .int (.slice (.slice .int))))]
 results := [.v .bool]
 B := Bool
 run := fun a => laws_eqRelationS a.1 a.2
 out := fun b => ((), ())
 res := fun b => b
noncomputable def S_71L4 (n : Nat) : LoopSpec where
 sh := [(0, .v (.slice (.pair .int (.slice (.slice .int))))), (1, .v (.slice (.pair .int (.slice (.slice .int))))), (5, .v .int)]
 ex := [(.exit 0, []), (.ret, [(4, .v .bool)])]
 run := laws_eqRelationS_L4 n
noncomputable def C_71 : Cx where
 tt := tblTT tt
 T := tblT [(44, E_70)]
 L := tblL [(4, S_71L4 fuel)]
 dep := fun i => 0
 n := 2
noncomputable def B_71L4 : Code := (Try.f10.body.bind (loopBody 4)).getD .skip
noncomputable def D_71 : Code := Try.f10.body.getD .skip
noncomputable def N_71 (_ : outs [.v (.slice (.pair .int (.slice (.slice .int)))), .v (.slice (.pair .int (.slice (.slice .int))))]) (r : dens [.v .bool]) : Bool := r
noncomputable def E_72 : Entry where
 params := [.io .int 0, .v .int]
 results := [.v .int]
 B := (List Int) × Int
 run := fun a => laws_markIntS a.1 a.2
 out := fun b => (b.1, ())
 res := fun b => b.2
noncomputable def S_72L2 (n : Nat) : LoopSpec where
 sh := [(0, .io .int 0), (1, .v .int), (5, .v .int)]
 ex := [(.exit 0, [(0, .io .int 0), (1, .v .int)])]
 run := laws_markIntS_L2 n
noncomputable def C_72 : Cx where
 tt := tblTT tt
 T := tblT []
 L := tblL [(2, S_72L2 fuel)]
 dep := fun i => 0
 n := 2
noncomputable def B_72L2 : Code := (Try.f46.body.bind (loopBody 2)).getD .skip
noncomputable def D_72 : Code := Try.f46.body.getD .skip
noncomputable def N_72 (o : outs [.io .int 0, .v .int]) (r : dens [.v .int]) : (List Int) × Int := (o.1, r)
noncomputable def E_73 : Entry where
 params := [.io (.slice .int) 1, .v .int]
 results := [.v .int]
 B := (List (List Int)) × Int
 run := fun a => laws_markIntSS a.1 a.2
 out := fun b => (b.1, ())
 res := fun b => b.2
noncomputable def S_73L2 (n : Nat) : LoopSpec where
 sh := [(0, .io (.slice .int) 1), (1, .v .int), (5, .v .int)]
 ex := [(.exit 0, [(0, .io (.slice .int) 1), (1, .v .int)])]
 run := laws_markIntSS_L2 n
noncomputable def C_73 : Cx where
 tt := tblTT tt
 T := tblT [(46, E_72)]
 L := tblL [(2, S_73L2 fuel)]
 dep := fun i => 0
 n := 2
noncomputable def B_73L2 : Code := (Try.f45.body.bind (loopBody 2)).getD .skip
noncomputable def D_73 : Code := Try.f45.body.getD .skip
noncomputable def N_73 (o : outs [.io (.slice .int) 1, .v .int]) (r : dens [.v .int]) : (List (List Int)) × Int := (o.1, r)
noncomputable def E_74 : Entry where
 params := [.io (.pair .int (.slice (.slice .int))) 2, .v .int]
 results := [.v .int]
 B := (List (Int × (List (List Int)))) × Int
 run := fun a => laws_markRelationS a.1 a.2
 out := fun b => (b.1, ())
 res := fun b => b.2
noncomputable def S_74L2 (n : Nat) : LoopSpec where
 sh := [(0, .io (.pair .int (.slice (.slice .int))) 2), (1, .v .int), (5, .v .int)]
 ex := [(.exit 0, [(0, .io (.pair .int (.slice (.slice .int))) 2), (1, .v .int)])]
 run := laws_markRelationS_L2 n
noncomputable def C_74 : Cx where
 tt := tblTT tt
 T := tblT [(45, E_73)]
 L := tblL [(2, S_74L2 fuel)]
 dep := fun i => 0
 n := 2
noncomputable def B_74L2 : Code := (Try.f11.body.bind (loopBody 2)).getD .skip
noncomputable def D_74 : Code := Try.f11.body.getD .skip
noncomputable def N_74 (o : outs [.io (.pair .int (.slice (.slice .int))) 2, .v .int]) (r : dens [.v .int]) : (List (Int × (List (List Int)))) × Int := (o.1, r)
noncomputable def E_75 : Entry where
 params := [.pr (.v .int) (.io .int 0), .v .int]
 results := [.v .int]
 B := (Unit × (List Int)) × Int
 run := fun a => laws_markOp a.1 a.2
 out := fun b => (b.1, ())
 res := fun b => b.2
noncomputable def C_75 : Cx where
 tt := tblTT tt
 T := tblT [(46, E_72)]
 L := tblL []
 dep := fun i => 0
 n := 2
noncomputable def D_75 : Code := Try.f12.body.getD .skip
noncomputable def N_75 (o : outs [.pr (.v .int) (.io .int 0), .v .int]) (r : dens [.v .int]) : (Unit × (List Int)) × Int := (o.1, r)
noncomputable def E_76 : Entry where
 params := [.v (.slice .int), .v .int]
 results := [.v .int]
 B := Int
 run := fun a => laws_heldIntS a.1 a.2
 out := fun b => ((), ())
 res := fun b => b
noncomputable def S_76L2 (n : Nat) : LoopSpec where
 sh := [(0, .v (.slice .int)), (1, .v .int), (5, .v .int)]
 ex := [(.exit 0, [(1, .v .int)]), (.ret, [(4, .v .int)])]
 run := laws_heldIntS_L2 n
noncomputable def C_76 : Cx where
 tt := tblTT tt
 T := tblT []
 L := tblL [(2, S_76L2 fuel)]
 dep := fun i => 0
 n := 2
noncomputable def B_76L2 : Code := (Try.f47.body.bind (loopBody 2)).getD .skip
noncomputable def D_76 : Code := Try.f47.body.getD .skip
noncomputable def N_76 (_ : outs [.v (.slice .int), .v .int]) (r : dens [.v .int]) : Int := r
noncomputable def E_77 : Entry where
 params := [.v (.pair .int (.slice .int)), .v .int]
 results := [.v .int]
 B := Int
 run := fun a => laws_heldOp a.1 a.2
 out := fun b => ((), ())
 res := fun b => b
noncomputable def C_77 : Cx where
 tt := tblTT tt
 T := tblT [(47, E_76)]
 L := tblL []
 dep := fun i => 0
 n := 2
noncomputable def D_77 : Code := Try.f13.body.getD .skip
noncomputable def N_77 (_ : outs [.v (.pair .int (.slice .int)), .v .int]) (r : dens [.v .int]) : Int := r
noncomputable def E_78 : Entry where
 params := [.v .int, .v (.slice (.pair .int (.slice (.slice .int))))]
 results := [.v .bool]
 B := Bool
 run := fun a => laws_FnExactSemilatticePolymorphism a.1 a.2
 out := fun b => ((), ())
 res := fun b => b
noncomputable def C_78 : Cx where
 tt := tblTT tt
 T := tblT [(5, E_4), (6, E_36), (7, E_8), (8, E_66), (9, E_68), (10, E_71), (11, E_74), (12, E_75), (13, E_77)]
 L := tblL []
 dep := fun i => 0
 n := 2
noncomputable def D_78 : Code := Try.f3.body.getD .skip
noncomputable def N_78 (_ : outs [.v .int, .v (.slice (.pair .int (.slice (.slice .int))))]) (r : dens [.v .bool]) : Bool := r
end T
