/- Contexts of the typed functions; no conditions. -/
import Derived.Test.YtijifabdaplmfadV5
import Derived.Test.YtijifabdaplmfadProg
import Derived.Test.YtijifabdaplmfadPFnLinearRefutations
import Derived.KernelRfl
set_option linter.all false
set_option linter.unusedVariables false
set_option maxRecDepth 10000
open Go Go.Va Go.Proofs
namespace T
noncomputable def tt : List (Nat × TI) := [
 (2, { ty := .int }),
 (3, { ty := .int }),
 (4, { ty := .bool }),
 (5, { ty := (.num .u8) }),
 (6, { ty := (.num .u8) }),
 (7, { ty := (.pair .int (.pair .int (.pair .bool (.num .u8)))), fields := [2, 3, 4, 6] }),
 (8, { ty := (.pair .int (.pair .int (.pair .bool (.num .u8)))), fields := [2, 3, 4, 6] }),
 (22, { ty := (.slice (.num .u8)), elem := 5 }),
 (24, { ty := (.slice (.slice .int)), elem := 28 }),
 (26, { ty := (.pair .int (.pair .int (.slice (.slice .int)))), fields := [3, 3, 24] }),
 (28, { ty := (.slice .int), elem := 3 }),
 (68, { ty := (.num .u64) }),
 (70, { ty := (.pair (.slice (.num .u8)) (.pair .int (.num .u64))), fields := [22, 3, 68] }),
 (78, { ty := (.pair (.slice (.slice .int)) (.pair (.slice .int) (.slice (.slice .int)))), fields := [24, 28, 24] }),
 (117, { ty := (.pair .int (.pair .int (.pair (.slice (.slice .int)) (.pair .int (.slice .int))))), fields := [3, 3, 24, 3, 28] }),
 (136, { ty := (.num .u64) })]
theorem tabT : tabOk Try.prog tt = true := by kernel_rfl
theorem mixT : Try.prog.follows .mixedOrders = true := by kernel_rfl
noncomputable def E_1 : Entry where
 params := [.v (.slice (.num .u8))]
 results := [.v .bool]
 B := Bool
 run := fun a => laws_vBig a
 out := fun b => ()
 res := fun b => b
noncomputable def C_1 : Cx where
 tt := tblTT tt
 T := tblT []
 L := tblL []
 dep := fun i => 0
 n := 1
noncomputable def D_1 : Code := Try.f6.body.getD .skip
noncomputable def N_1 (_ : outs [.v (.slice (.num .u8))]) (r : dens [.v .bool]) : Bool := r
noncomputable def E_2 : Entry where
 params := [.bx (.v (.pair (.slice (.num .u8)) (.pair .int (.num .u64))))]
 results := [.v .int]
 B := ((List Int) × Int × Int) × Int
 run := fun a => spec_l1Cur_next a
 out := fun b => b.1
 res := fun b => b.2
noncomputable def C_2 : Cx where
 tt := tblTT tt
 T := tblT []
 L := tblL []
 dep := fun i => 0
 n := 1
noncomputable def D_2 : Code := Try.f104.body.getD .skip
noncomputable def N_2 (o : outs [.bx (.v (.pair (.slice (.num .u8)) (.pair .int (.num .u64))))]) (r : dens [.v .int]) : ((List Int) × Int × Int) × Int := (o, r)
noncomputable def E_3 : Entry where
 params := [.bx (.v (.pair (.slice (.num .u8)) (.pair .int (.num .u64)))), .v .int]
 results := [.v .int]
 B := ((List Int) × Int × Int) × Int
 run := fun a => spec_l1Cur_pick a.1 a.2
 out := fun b => (b.1, ())
 res := fun b => b.2
noncomputable def C_3 : Cx where
 tt := tblTT tt
 T := tblT [(104, E_2)]
 L := tblL []
 dep := fun i => 0
 n := 2
noncomputable def D_3 : Code := Try.f50.body.getD .skip
noncomputable def N_3 (o : outs [.bx (.v (.pair (.slice (.num .u8)) (.pair .int (.num .u64)))), .v .int]) (r : dens [.v .int]) : ((List Int) × Int × Int) × Int := (o.1, r)
noncomputable def E_4 : Entry where
 params := [.bx (.v (.pair (.slice (.num .u8)) (.pair .int (.num .u64)))), .v (.slice .int)]
 results := [.v .int]
 B := ((List Int) × Int × Int) × Int
 run := fun a => spec_l1Cur_among a.1 a.2
 out := fun b => (b.1, ())
 res := fun b => b.2
noncomputable def C_4 : Cx where
 tt := tblTT tt
 T := tblT [(50, E_3)]
 L := tblL []
 dep := fun i => 0
 n := 2
noncomputable def D_4 : Code := Try.f54.body.getD .skip
noncomputable def N_4 (o : outs [.bx (.v (.pair (.slice (.num .u8)) (.pair .int (.num .u64)))), .v (.slice .int)]) (r : dens [.v .int]) : ((List Int) × Int × Int) × Int := (o.1, r)
noncomputable def E_5 : Entry where
 params := [.bx (.v (.pair (.slice (.num .u8)) (.pair .int (.num .u64)))), .v .int]
 results := [.v .bool]
 B := ((List Int) × Int × Int) × Bool
 run := fun a => spec_l1Cur_one a.1 a.2
 out := fun b => (b.1, ())
 res := fun b => b.2
noncomputable def C_5 : Cx where
 tt := tblTT tt
 T := tblT [(50, E_3)]
 L := tblL []
 dep := fun i => 0
 n := 2
noncomputable def D_5 : Code := Try.f53.body.getD .skip
noncomputable def N_5 (o : outs [.bx (.v (.pair (.slice (.num .u8)) (.pair .int (.num .u64)))), .v .int]) (r : dens [.v .bool]) : ((List Int) × Int × Int) × Bool := (o.1, r)
noncomputable def E_6 : Entry where
 params := [.v .int, .v (.slice .int), .v .int]
 results := [.mv .int 0]
 B := (List Int)
 run := fun a => spec_l21Scale a.1 a.2.1 a.2.2
 out := fun b => ((), (), ())
 res := fun b => b
noncomputable def S_6L3 (n : Nat) : LoopSpec where
 sh := [(0, .v .int), (1, .v (.slice .int)), (2, .v .int), (7, .mv .int 0), (8, .v .int)]
 ex := [(.exit 0, [(7, .mv .int 0)])]
 run := spec_l21Scale_L3 n
noncomputable def C_6 : Cx where
 tt := tblTT tt
 T := tblT []
 L := tblL [(3, S_6L3 fuel)]
 dep := fun i => 0
 n := 3
noncomputable def B_6L3 : Code := (Try.f103.body.bind (loopBody 3)).getD .skip
noncomputable def D_6 : Code := Try.f103.body.getD .skip
noncomputable def N_6 (_ : outs [.v .int, .v (.slice .int), .v .int]) (r : dens [.mv .int 0]) : (List Int) := r
noncomputable def E_7 : Entry where
 params := [.bx (.v (.pair (.slice (.num .u8)) (.pair .int (.num .u64))))]
 results := [.pr (.v .int) (.pr (.v .int) (.mv (.slice .int) 1))]
 B := ((List Int) × Int × Int) × (Int × (Int × (List (List Int))))
 run := fun a => spec_l1Cur_linear a
 out := fun b => b.1
 res := fun b => b.2
noncomputable def S_7L8 (n : Nat) : LoopSpec where
 sh := [(0, .bx (.v (.pair (.slice (.num .u8)) (.pair .int (.num .u64))))), (2, .bx (.pr (.v .int) (.pr (.v .int) (.mv (.slice .int) 1)))), (3, .v .int), (4, .bx (.pr (.v .int) (.pr (.v .int) (.mv (.slice .int) 1)))), (5, .v .int), (6, .mv .int 0), (7, .v .int)]
 ex := [(.exit 2, [(0, .bx (.v (.pair (.slice (.num .u8)) (.pair .int (.num .u64))))), (2, .bx (.pr (.v .int) (.pr (.v .int) (.mv (.slice .int) 1)))), (3, .v .int), (4, .bx (.pr (.v .int) (.pr (.v .int) (.mv (.slice .int) 1)))), (5, .v .int), (6, .mv .int 0)])]
 run := spec_l1Cur_linear_L8 n
noncomputable def S_7L4 (n : Nat) : LoopSpec where
 sh := [(0, .bx (.v (.pair (.slice (.num .u8)) (.pair .int (.num .u64))))), (2, .bx (.pr (.v .int) (.pr (.v .int) (.mv (.slice .int) 1)))), (3, .v .int), (4, .bx (.pr (.v .int) (.pr (.v .int) (.mv (.slice .int) 1)))), (5, .v .int)]
 ex := [(.exit 0, [(0, .bx (.v (.pair (.slice (.num .u8)) (.pair .int (.num .u64))))), (2, .bx (.pr (.v .int) (.pr (.v .int) (.mv (.slice .int) 1)))), (3, .v .int), (4, .bx (.pr (.v .int) (.pr (.v .int) (.mv (.slice .int) 1))))])]
 run := spec_l1Cur_linear_L4 n
noncomputable def S_7L22 (n : Nat) : LoopSpec where
 sh := [(0, .bx (.v (.pair (.slice (.num .u8)) (.pair .int (.num .u64))))), (2, .bx (.pr (.v .int) (.pr (.v .int) (.mv (.slice .int) 1)))), (4, .bx (.pr (.v .int) (.pr (.v .int) (.mv (.slice .int) 1))))]
 ex := [(.exit 5, [(0, .bx (.v (.pair (.slice (.num .u8)) (.pair .int (.num .u64))))), (2, .bx (.pr (.v .int) (.pr (.v .int) (.mv (.slice .int) 1)))), (4, .bx (.pr (.v .int) (.pr (.v .int) (.mv (.slice .int) 1))))])]
 run := spec_l1Cur_linear_L22 n
noncomputable def C_7 : Cx where
 tt := tblTT tt
 T := tblT [(50, E_3), (53, E_5), (54, E_4), (103, E_6)]
 L := tblL [(8, S_7L8 fuel), (4, S_7L4 fuel), (22, S_7L22 fuel)]
 dep := fun i => match i with
  | 15 => 1
  | 66 => 1
  | 67 => 1
  | 101 => 1
  | 102 => 1
  | _ => 0
 n := 1
 fine := true
noncomputable def B_7L8 : Code := (Try.f49.body.bind (loopBody 8)).getD .skip
noncomputable def B_7L4 : Code := (Try.f49.body.bind (loopBody 4)).getD .skip
noncomputable def B_7L22 : Code := (Try.f49.body.bind (loopBody 22)).getD .skip
noncomputable def D_7 : Code := Try.f49.body.getD .skip
noncomputable def N_7 (o : outs [.bx (.v (.pair (.slice (.num .u8)) (.pair .int (.num .u64))))]) (r : dens [.pr (.v .int) (.pr (.v .int) (.mv (.slice .int) 1))]) : ((List Int) × Int × Int) × (Int × (Int × (List (List Int)))) := (o, r)
noncomputable def E_8 : Entry where
 params := [.v (.slice (.num .u8))]
 results := [.pr (.v .int) (.pr (.v .int) (.mv (.slice .int) 1))]
 B := (Int × (Int × (List (List Int))))
 run := fun a => spec_DrawIsLinear a
 out := fun b => ()
 res := fun b => b
noncomputable def C_8 : Cx where
 tt := tblTT tt
 T := tblT [(49, E_7)]
 L := tblL []
 dep := fun i => 0
 n := 1
noncomputable def D_8 : Code := Try.f41.body.getD .skip
noncomputable def N_8 (_ : outs [.v (.slice (.num .u8))]) (r : dens [.pr (.v .int) (.pr (.v .int) (.mv (.slice .int) 1))]) : (Int × (Int × (List (List Int)))) := r
noncomputable def E_9 : Entry where
 params := [.v (.slice (.num .u8))]
 results := [.pr (.v .int) (.pr (.v .int) (.mv (.slice .int) 1))]
 B := (Int × (Int × (List (List Int))))
 run := fun a => spec_DrawRefuteLinear a
 out := fun b => ()
 res := fun b => b
noncomputable def C_9 : Cx where
 tt := tblTT tt
 T := tblT [(41, E_8)]
 L := tblL []
 dep := fun i => 0
 n := 1
noncomputable def D_9 : Code := Try.f7.body.getD .skip
noncomputable def N_9 (_ : outs [.v (.slice (.num .u8))]) (r : dens [.pr (.v .int) (.pr (.v .int) (.mv (.slice .int) 1))]) : (Int × (Int × (List (List Int)))) := r
noncomputable def E_10 : Entry where
 params := [.v .int]
 results := [.v .bool]
 B := Bool
 run := fun a => impl_isPrime a
 out := fun b => ()
 res := fun b => b
noncomputable def C_10 : Cx where
 tt := tblTT tt
 T := tblT []
 L := tblL []
 dep := fun i => 0
 n := 1
noncomputable def D_10 : Code := Try.f47.body.getD .skip
noncomputable def N_10 (_ : outs [.v .int]) (r : dens [.v .bool]) : Bool := r
noncomputable def E_11 : Entry where
 params := [.v (.slice .int), .v .int]
 results := [.v .bool]
 B := Bool
 run := fun a => impl_inSize a.1 a.2
 out := fun b => ((), ())
 res := fun b => b
noncomputable def S_11L2 (n : Nat) : LoopSpec where
 sh := [(1, .v .int), (7, .v (.slice .int)), (8, .v .int), (9, .v .int)]
 ex := [(.exit 0, []), (.ret, [(4, .v .bool)])]
 run := impl_inSize_L2 n
noncomputable def C_11 : Cx where
 tt := tblTT tt
 T := tblT []
 L := tblL [(2, S_11L2 fuel)]
 dep := fun i => 0
 n := 2
noncomputable def B_11L2 : Code := (Try.f48.body.bind (loopBody 2)).getD .skip
noncomputable def D_11 : Code := Try.f48.body.getD .skip
noncomputable def N_11 (_ : outs [.v (.slice .int), .v .int]) (r : dens [.v .bool]) : Bool := r
noncomputable def E_12 : Entry where
 params := [.v (.pair .int (.pair .int (.slice (.slice .int))))]
 results := [.v .bool]
 B := Bool
 run := fun a => impl_IsLinear a
 out := fun b => ()
 res := fun b => b
noncomputable def S_12L4 (n : Nat) : LoopSpec where
 sh := [(1, .bx (.v (.pair .int (.pair .int (.slice (.slice .int)))))), (26, .v (.slice (.slice .int))), (27, .v .int), (28, .v .int)]
 ex := [(.exit 0, []), (.ret, [(2, .v .bool)])]
 run := impl_IsLinear_L4 n
noncomputable def C_12 : Cx where
 tt := tblTT tt
 T := tblT [(47, E_10), (48, E_11)]
 L := tblL [(4, S_12L4 fuel)]
 dep := fun i => 0
 n := 1
noncomputable def B_12L4 : Code := (Try.f12.body.bind (loopBody 4)).getD .skip
noncomputable def D_12 : Code := Try.f12.body.getD .skip
noncomputable def N_12 (_ : outs [.v (.pair .int (.pair .int (.slice (.slice .int))))]) (r : dens [.v .bool]) : Bool := r
noncomputable def E_13 : Entry where
 params := [.v (.slice .int)]
 results := [.mv .int 0]
 B := (List Int)
 run := fun a => impl_clone a
 out := fun b => ()
 res := fun b => b
noncomputable def C_13 : Cx where
 tt := tblTT tt
 T := tblT []
 L := tblL []
 dep := fun i => 0
 n := 1
noncomputable def D_13 : Code := Try.f106.body.getD .skip
noncomputable def N_13 (_ : outs [.v (.slice .int)]) (r : dens [.mv .int 0]) : (List Int) := r
noncomputable def E_14 : Entry where
 params := [.v (.slice (.slice .int))]
 results := [.mv (.slice .int) 1]
 B := (List (List Int))
 run := fun a => impl_cloneRows a
 out := fun b => ()
 res := fun b => b
noncomputable def S_14L3 (n : Nat) : LoopSpec where
 sh := [(3, .mv (.slice .int) 1), (7, .v (.slice (.slice .int))), (8, .v .int), (9, .v .int)]
 ex := [(.exit 0, [(3, .mv (.slice .int) 1)])]
 run := impl_cloneRows_L3 n
noncomputable def C_14 : Cx where
 tt := tblTT tt
 T := tblT [(106, E_13)]
 L := tblL [(3, S_14L3 fuel)]
 dep := fun i => match i with
  | 6 => 1
  | 16 => 1
  | 17 => 1
  | _ => 0
 n := 1
noncomputable def B_14L3 : Code := (Try.f96.body.bind (loopBody 3)).getD .skip
noncomputable def D_14 : Code := Try.f96.body.getD .skip
noncomputable def N_14 (_ : outs [.v (.slice (.slice .int))]) (r : dens [.mv (.slice .int) 1]) : (List (List Int)) := r
noncomputable def E_15 : Entry where
 params := [.v .int]
 results := [.mv .int 0]
 B := (List Int)
 run := fun a => impl_freeTable a
 out := fun b => ()
 res := fun b => b
noncomputable def S_15L3 (n : Nat) : LoopSpec where
 sh := [(3, .mv .int 0), (8, .v .int), (9, .v .int)]
 ex := [(.exit 0, [(3, .mv .int 0)])]
 run := impl_freeTable_L3 n
noncomputable def C_15 : Cx where
 tt := tblTT tt
 T := tblT []
 L := tblL [(3, S_15L3 fuel)]
 dep := fun i => 0
 n := 1
noncomputable def B_15L3 : Code := (Try.f97.body.bind (loopBody 3)).getD .skip
noncomputable def D_15 : Code := Try.f97.body.getD .skip
noncomputable def N_15 (_ : outs [.v .int]) (r : dens [.mv .int 0]) : (List Int) := r
noncomputable def E_16 : Entry where
 params := [.v .int, .v .int]
 results := [.v .int]
 B := Int
 run := fun a => impl_inverseOf a.1 a.2
 out := fun b => ((), ())
 res := fun b => b
noncomputable def S_16L2 (n : Nat) : LoopSpec where
 sh := [(0, .v .int), (1, .v .int), (5, .v .int)]
 ex := [(.exit 0, []), (.ret, [(4, .v .int)])]
 run := impl_inverseOf_L2 n
noncomputable def C_16 : Cx where
 tt := tblTT tt
 T := tblT []
 L := tblL [(2, S_16L2 fuel)]
 dep := fun i => 0
 n := 2
noncomputable def B_16L2 : Code := (Try.f98.body.bind (loopBody 2)).getD .skip
noncomputable def D_16 : Code := Try.f98.body.getD .skip
noncomputable def N_16 (_ : outs [.v .int, .v .int]) (r : dens [.v .int]) : Int := r
noncomputable def E_17 : Entry where
 params := [.v .int, .v .int, .v (.slice (.slice .int))]
 results := [.v (.ptr (.pair .int (.pair .int (.pair (.slice (.slice .int)) (.pair .int (.slice .int))))))]
 B := (Bool × Int × Int × (List (List Int)) × Int × (List Int))
 run := fun a => impl_eliminate a.1 a.2.1 a.2.2
 out := fun b => ((), (), ())
 res := fun b => b
noncomputable def S_17L6 (n : Nat) : LoopSpec where
 sh := [(0, .v .int), (1, .v .int), (7, .bx (.pr (.v .int) (.pr (.v .int) (.pr (.mv (.slice .int) 1) (.pr (.v .int) (.mv .int 0)))))), (8, .v .int), (9, .v .int)]
 ex := [(.exit 2, [(0, .v .int), (1, .v .int), (7, .bx (.pr (.v .int) (.pr (.v .int) (.pr (.mv (.slice .int) 1) (.pr (.v .int) (.mv .int 0)))))), (8, .v .int), (9, .v .int)])]
 run := impl_eliminate_L6 n
noncomputable def S_17L14 (n : Nat) : LoopSpec where
 sh := [(12885426186, .v .int), (0, .v .int), (1, .v .int), (7, .bx (.pr (.v .int) (.pr (.v .int) (.pr (.mv (.slice .int) 1) (.pr (.v .int) (.mv .int 0)))))), (8, .v .int), (11, .v .int), (110, .v .int), (111, .v .int)]
 ex := [(.exit 4, [(12885426186, .v .int), (0, .v .int), (1, .v .int), (7, .bx (.pr (.v .int) (.pr (.v .int) (.pr (.mv (.slice .int) 1) (.pr (.v .int) (.mv .int 0)))))), (8, .v .int)])]
 run := impl_eliminate_L14 n
noncomputable def S_17L24 (n : Nat) : LoopSpec where
 sh := [(12885426186, .v .int), (12885426190, .v .int), (12885426305, .jk 1), (0, .v .int), (1, .v .int), (7, .bx (.pr (.v .int) (.pr (.v .int) (.pr (.mv (.slice .int) 1) (.pr (.v .int) (.mv .int 0)))))), (8, .v .int), (15, .v .int), (130, .v .int), (131, .v .int), (151, .v .int), (152, .v .int)]
 ex := [(.exit 8, [(12885426186, .v .int), (12885426305, .jk 1), (0, .v .int), (1, .v .int), (7, .bx (.pr (.v .int) (.pr (.v .int) (.pr (.mv (.slice .int) 1) (.pr (.v .int) (.mv .int 0)))))), (8, .v .int), (130, .v .int), (131, .v .int)])]
 run := impl_eliminate_L24 n
noncomputable def S_17L19 (n : Nat) : LoopSpec where
 sh := [(12885426186, .v .int), (12885426305, .jk 1), (0, .v .int), (1, .v .int), (7, .bx (.pr (.v .int) (.pr (.v .int) (.pr (.mv (.slice .int) 1) (.pr (.v .int) (.mv .int 0)))))), (8, .v .int), (130, .v .int), (131, .v .int)]
 ex := [(.exit 6, [(0, .v .int), (1, .v .int), (7, .bx (.pr (.v .int) (.pr (.v .int) (.pr (.mv (.slice .int) 1) (.pr (.v .int) (.mv .int 0)))))), (8, .v .int)])]
 run := impl_eliminate_L19 n
noncomputable def S_17L3 (n : Nat) : LoopSpec where
 sh := [(0, .v .int), (1, .v .int), (7, .bx (.pr (.v .int) (.pr (.v .int) (.pr (.mv (.slice .int) 1) (.pr (.v .int) (.mv .int 0)))))), (8, .v .int)]
 ex := [(.exit 0, [(7, .bx (.pr (.v .int) (.pr (.v .int) (.pr (.mv (.slice .int) 1) (.pr (.v .int) (.mv .int 0))))))])]
 run := impl_eliminate_L3 n
noncomputable def C_17 : Cx where
 tt := tblTT tt
 T := tblT [(96, E_14), (97, E_15), (98, E_16)]
 L := tblL [(6, S_17L6 fuel), (14, S_17L14 fuel), (24, S_17L24 fuel), (19, S_17L19 fuel), (3, S_17L3 fuel)]
 dep := fun i => match i with
  | 69 => 99
  | _ => 0
 n := 3
noncomputable def B_17L6 : Code := (Try.f42.body.bind (loopBody 6)).getD .skip
noncomputable def B_17L14 : Code := (Try.f42.body.bind (loopBody 14)).getD .skip
noncomputable def B_17L24 : Code := (Try.f42.body.bind (loopBody 24)).getD .skip
noncomputable def B_17L19 : Code := (Try.f42.body.bind (loopBody 19)).getD .skip
noncomputable def B_17L3 : Code := (Try.f42.body.bind (loopBody 3)).getD .skip
noncomputable def D_17 : Code := Try.f42.body.getD .skip
noncomputable def N_17 (_ : outs [.v .int, .v .int, .v (.slice (.slice .int))]) (r : dens [.v (.ptr (.pair .int (.pair .int (.pair (.slice (.slice .int)) (.pair .int (.slice .int))))))]) : (Bool × Int × Int × (List (List Int)) × Int × (List Int)) := r
noncomputable def E_18 : Entry where
 params := [.bx (.pr (.v .int) (.pr (.v .int) (.pr (.mv (.slice .int) 1) (.pr (.v .int) (.mv .int 0)))))]
 results := [.mv .int 0]
 B := (Int × (Int × ((List (List Int)) × (Int × (List Int))))) × (List Int)
 run := fun a => impl_eliminated_freeVars a
 out := fun b => b.1
 res := fun b => b.2
noncomputable def S_18L3 (n : Nat) : LoopSpec where
 sh := [(21474902026, .jk 1), (0, .bx (.pr (.v .int) (.pr (.v .int) (.pr (.mv (.slice .int) 1) (.pr (.v .int) (.mv .int 0)))))), (3, .mv .int 0), (11, .v .int), (12, .v .int)]
 ex := [(.exit 0, [(0, .bx (.pr (.v .int) (.pr (.v .int) (.pr (.mv (.slice .int) 1) (.pr (.v .int) (.mv .int 0)))))), (3, .mv .int 0)])]
 run := impl_eliminated_freeVars_L3 n
noncomputable def C_18 : Cx where
 tt := tblTT tt
 T := tblT []
 L := tblL [(3, S_18L3 fuel)]
 dep := fun i => 0
 n := 1
noncomputable def B_18L3 : Code := (Try.f58.body.bind (loopBody 3)).getD .skip
noncomputable def D_18 : Code := Try.f58.body.getD .skip
noncomputable def N_18 (o : outs [.bx (.pr (.v .int) (.pr (.v .int) (.pr (.mv (.slice .int) 1) (.pr (.v .int) (.mv .int 0)))))]) (r : dens [.mv .int 0]) : (Int × (Int × ((List (List Int)) × (Int × (List Int))))) × (List Int) := (o, r)
noncomputable def E_19 : Entry where
 params := [.bx (.pr (.v .int) (.pr (.v .int) (.pr (.mv (.slice .int) 1) (.pr (.v .int) (.mv .int 0))))), .v (.slice .int)]
 results := [.mv .int 0]
 B := (Int × (Int × ((List (List Int)) × (Int × (List Int))))) × (List Int)
 run := fun a => impl_eliminated_solution a.1 a.2
 out := fun b => (b.1, ())
 res := fun b => b.2
noncomputable def S_19L4 (n : Nat) : LoopSpec where
 sh := [(458773, .jk 1), (0, .bx (.pr (.v .int) (.pr (.v .int) (.pr (.mv (.slice .int) 1) (.pr (.v .int) (.mv .int 0)))))), (1, .v (.slice .int)), (5, .mv .int 0), (6, .mv .int 0), (22, .v .int), (23, .v .int)]
 ex := [(.exit 0, [(0, .bx (.pr (.v .int) (.pr (.v .int) (.pr (.mv (.slice .int) 1) (.pr (.v .int) (.mv .int 0)))))), (1, .v (.slice .int)), (5, .mv .int 0), (6, .mv .int 0)])]
 run := impl_eliminated_solution_L4 n
noncomputable def S_19L14 (n : Nat) : LoopSpec where
 sh := [(21474902055, .jk 1), (458813, .jk 1), (0, .bx (.pr (.v .int) (.pr (.v .int) (.pr (.mv (.slice .int) 1) (.pr (.v .int) (.mv .int 0)))))), (1, .v (.slice .int)), (5, .mv .int 0), (6, .mv .int 0), (9, .v .int), (10, .v .int), (11, .v .int), (40, .v .int), (41, .v .int), (62, .v .int), (63, .v .int)]
 ex := [(.exit 4, [(21474902055, .jk 1), (0, .bx (.pr (.v .int) (.pr (.v .int) (.pr (.mv (.slice .int) 1) (.pr (.v .int) (.mv .int 0)))))), (1, .v (.slice .int)), (5, .mv .int 0), (6, .mv .int 0), (9, .v .int), (11, .v .int), (40, .v .int), (41, .v .int)])]
 run := impl_eliminated_solution_L14 n
noncomputable def S_19L9 (n : Nat) : LoopSpec where
 sh := [(21474902055, .jk 1), (0, .bx (.pr (.v .int) (.pr (.v .int) (.pr (.mv (.slice .int) 1) (.pr (.v .int) (.mv .int 0)))))), (1, .v (.slice .int)), (5, .mv .int 0), (6, .mv .int 0), (40, .v .int), (41, .v .int)]
 ex := [(.exit 2, [(0, .bx (.pr (.v .int) (.pr (.v .int) (.pr (.mv (.slice .int) 1) (.pr (.v .int) (.mv .int 0)))))), (5, .mv .int 0)])]
 run := impl_eliminated_solution_L9 n
noncomputable def C_19 : Cx where
 tt := tblTT tt
 T := tblT [(58, E_18)]
 L := tblL [(4, S_19L4 fuel), (14, S_19L14 fuel), (9, S_19L9 fuel)]
 dep := fun i => 0
 n := 2
noncomputable def B_19L4 : Code := (Try.f66.body.bind (loopBody 4)).getD .skip
noncomputable def B_19L14 : Code := (Try.f66.body.bind (loopBody 14)).getD .skip
noncomputable def B_19L9 : Code := (Try.f66.body.bind (loopBody 9)).getD .skip
noncomputable def D_19 : Code := Try.f66.body.getD .skip
noncomputable def N_19 (o : outs [.bx (.pr (.v .int) (.pr (.v .int) (.pr (.mv (.slice .int) 1) (.pr (.v .int) (.mv .int 0))))), .v (.slice .int)]) (r : dens [.mv .int 0]) : (Int × (Int × ((List (List Int)) × (Int × (List Int))))) × (List Int) := (o.1, r)
noncomputable def E_20 : Entry where
 params := [.v (.ptr (.pair .int (.pair .int (.pair (.slice (.slice .int)) (.pair .int (.slice .int))))))]
 results := [.v .bool]
 B := Bool
 run := fun a => impl_eliminated_fails_p a
 out := fun b => ()
 res := fun b => b
noncomputable def S_20L2 (n : Nat) : LoopSpec where
 sh := [(0, .v (.ptr (.pair .int (.pair .int (.pair (.slice (.slice .int)) (.pair .int (.slice .int))))))), (13, .v (.slice (.slice .int))), (14, .v .int), (15, .v .int)]
 ex := [(.exit 0, []), (.ret, [(2, .v .bool)])]
 run := impl_eliminated_fails_p_L2 n
noncomputable def C_20 : Cx where
 tt := tblTT tt
 T := tblT []
 L := tblL [(2, S_20L2 fuel)]
 dep := fun i => 0
 n := 1
noncomputable def B_20L2 : Code := (Try.f62.body.bind (loopBody 2)).getD .skip
noncomputable def D_20 : Code := Try.f62.body.getD .skip
noncomputable def N_20 (_ : outs [.v (.ptr (.pair .int (.pair .int (.pair (.slice (.slice .int)) (.pair .int (.slice .int))))))]) (r : dens [.v .bool]) : Bool := r
noncomputable def E_21 : Entry where
 params := [.v (.ptr (.pair .int (.pair .int (.pair (.slice (.slice .int)) (.pair .int (.slice .int))))))]
 results := [.mv .int 0]
 B := (List Int)
 run := fun a => impl_eliminated_freeVars_p a
 out := fun b => ()
 res := fun b => b
noncomputable def S_21L3 (n : Nat) : LoopSpec where
 sh := [(3, .mv .int 0), (10, .v (.slice .int)), (11, .v .int), (12, .v .int)]
 ex := [(.exit 0, [(3, .mv .int 0)])]
 run := impl_eliminated_freeVars_p_L3 n
noncomputable def C_21 : Cx where
 tt := tblTT tt
 T := tblT []
 L := tblL [(3, S_21L3 fuel)]
 dep := fun i => 0
 n := 1
noncomputable def B_21L3 : Code := (Try.f58.body.bind (loopBody 3)).getD .skip
noncomputable def D_21 : Code := Try.f58.body.getD .skip
noncomputable def N_21 (_ : outs [.v (.ptr (.pair .int (.pair .int (.pair (.slice (.slice .int)) (.pair .int (.slice .int))))))]) (r : dens [.mv .int 0]) : (List Int) := r
noncomputable def E_22 : Entry where
 params := [.v (.ptr (.pair .int (.pair .int (.pair (.slice (.slice .int)) (.pair .int (.slice .int)))))), .v (.slice .int)]
 results := [.mv .int 0]
 B := (List Int)
 run := fun a => impl_eliminated_solution_p a.1 a.2
 out := fun b => ((), ())
 res := fun b => b
noncomputable def S_22L4 (n : Nat) : LoopSpec where
 sh := [(458773, .jk 1), (0, .v (.ptr (.pair .int (.pair .int (.pair (.slice (.slice .int)) (.pair .int (.slice .int))))))), (1, .v (.slice .int)), (5, .mv .int 0), (6, .mv .int 0), (22, .v .int), (23, .v .int)]
 ex := [(.exit 0, [(0, .v (.ptr (.pair .int (.pair .int (.pair (.slice (.slice .int)) (.pair .int (.slice .int))))))), (1, .v (.slice .int)), (5, .mv .int 0), (6, .mv .int 0)])]
 run := impl_eliminated_solution_p_L4 n
noncomputable def S_22L14 (n : Nat) : LoopSpec where
 sh := [(458813, .jk 1), (0, .v (.ptr (.pair .int (.pair .int (.pair (.slice (.slice .int)) (.pair .int (.slice .int))))))), (1, .v (.slice .int)), (5, .mv .int 0), (6, .mv .int 0), (9, .v .int), (10, .v .int), (11, .v .int), (39, .v (.slice .int)), (40, .v .int), (41, .v .int), (62, .v .int), (63, .v .int)]
 ex := [(.exit 4, [(0, .v (.ptr (.pair .int (.pair .int (.pair (.slice (.slice .int)) (.pair .int (.slice .int))))))), (1, .v (.slice .int)), (5, .mv .int 0), (6, .mv .int 0), (9, .v .int), (11, .v .int), (39, .v (.slice .int)), (40, .v .int), (41, .v .int)])]
 run := impl_eliminated_solution_p_L14 n
noncomputable def S_22L9 (n : Nat) : LoopSpec where
 sh := [(0, .v (.ptr (.pair .int (.pair .int (.pair (.slice (.slice .int)) (.pair .int (.slice .int))))))), (1, .v (.slice .int)), (5, .mv .int 0), (6, .mv .int 0), (39, .v (.slice .int)), (40, .v .int), (41, .v .int)]
 ex := [(.exit 2, [(5, .mv .int 0)])]
 run := impl_eliminated_solution_p_L9 n
noncomputable def C_22 : Cx where
 tt := tblTT tt
 T := tblT [(58, E_21)]
 L := tblL [(4, S_22L4 fuel), (14, S_22L14 fuel), (9, S_22L9 fuel)]
 dep := fun i => 0
 n := 2
noncomputable def B_22L4 : Code := (Try.f66.body.bind (loopBody 4)).getD .skip
noncomputable def B_22L14 : Code := (Try.f66.body.bind (loopBody 14)).getD .skip
noncomputable def B_22L9 : Code := (Try.f66.body.bind (loopBody 9)).getD .skip
noncomputable def D_22 : Code := Try.f66.body.getD .skip
noncomputable def N_22 (_ : outs [.v (.ptr (.pair .int (.pair .int (.pair (.slice (.slice .int)) (.pair .int (.slice .int)))))), .v (.slice .int)]) (r : dens [.mv .int 0]) : (List Int) := r
noncomputable def E_23 : Entry where
 params := [.v (.ptr (.pair .int (.pair .int (.pair (.slice (.slice .int)) (.pair .int (.slice .int))))))]
 results := [.mv .int 0, .v .bool]
 B := (List Int) × Bool
 run := fun a => impl_eliminated_leastSolution_p a
 out := fun b => ()
 res := fun b => (b.1, b.2)
noncomputable def C_23 : Cx where
 tt := tblTT tt
 T := tblT [(62, E_20), (66, E_22)]
 L := tblL []
 dep := fun i => 0
 n := 1
noncomputable def D_23 : Code := Try.f43.body.getD .skip
noncomputable def N_23 (_ : outs [.v (.ptr (.pair .int (.pair .int (.pair (.slice (.slice .int)) (.pair .int (.slice .int))))))]) (r : dens [.mv .int 0, .v .bool]) : (List Int) × Bool := (r.1, r.2)
noncomputable def E_24 : Entry where
 params := [.v (.pair .int (.pair .int (.slice (.slice .int))))]
 results := [.mv .int 0, .v .bool]
 B := (List Int) × Bool
 run := fun a => impl_RefuteLinear a
 out := fun b => ()
 res := fun b => (b.1, b.2)
noncomputable def S_24L9 (n : Nat) : LoopSpec where
 sh := [(1, .bx (.v (.pair .int (.pair .int (.slice (.slice .int)))))), (4, .mv (.slice .int) 1), (5, .v .int), (6, .mv .int 0), (23, .v (.slice (.slice .int))), (24, .v .int), (25, .v .int)]
 ex := [(.exit 2, [(1, .bx (.v (.pair .int (.pair .int (.slice (.slice .int)))))), (4, .mv (.slice .int) 1), (5, .v .int), (6, .mv .int 0)])]
 run := impl_RefuteLinear_L9 n
noncomputable def S_24L5 (n : Nat) : LoopSpec where
 sh := [(1, .bx (.v (.pair .int (.pair .int (.slice (.slice .int)))))), (4, .mv (.slice .int) 1), (5, .v .int)]
 ex := [(.exit 0, [(1, .bx (.v (.pair .int (.pair .int (.slice (.slice .int)))))), (4, .mv (.slice .int) 1)])]
 run := impl_RefuteLinear_L5 n
noncomputable def C_24 : Cx where
 tt := tblTT tt
 T := tblT [(12, E_12), (42, E_17), (43, E_23)]
 L := tblL [(9, S_24L9 fuel), (5, S_24L5 fuel)]
 dep := fun i => match i with
  | 14 => 1
  | 46 => 1
  | 47 => 1
  | _ => 0
 n := 1
noncomputable def B_24L9 : Code := (Try.f8.body.bind (loopBody 9)).getD .skip
noncomputable def B_24L5 : Code := (Try.f8.body.bind (loopBody 5)).getD .skip
noncomputable def D_24 : Code := Try.f8.body.getD .skip
noncomputable def N_24 (_ : outs [.v (.pair .int (.pair .int (.slice (.slice .int))))]) (r : dens [.mv .int 0, .v .bool]) : (List Int) × Bool := (r.1, r.2)
noncomputable def E_25 : Entry where
 params := [.v .int]
 results := [.v .bool]
 B := Bool
 run := fun a => spec_l21Prime a
 out := fun b => ()
 res := fun b => b
noncomputable def C_25 : Cx where
 tt := tblTT tt
 T := tblT []
 L := tblL []
 dep := fun i => 0
 n := 1
noncomputable def D_25 : Code := Try.f99.body.getD .skip
noncomputable def N_25 (_ : outs [.v .int]) (r : dens [.v .bool]) : Bool := r
noncomputable def E_26 : Entry where
 params := [.v .int, .v .int, .v .int]
 results := [.v .bool]
 B := Bool
 run := fun a => spec_l1In a.1 a.2.1 a.2.2
 out := fun b => ((), (), ())
 res := fun b => b
noncomputable def C_26 : Cx where
 tt := tblTT tt
 T := tblT []
 L := tblL []
 dep := fun i => 0
 n := 3
noncomputable def D_26 : Code := Try.f100.body.getD .skip
noncomputable def N_26 (_ : outs [.v .int, .v .int, .v .int]) (r : dens [.v .bool]) : Bool := r
noncomputable def E_27 : Entry where
 params := [.v .int, .v (.slice .int)]
 results := [.v .bool]
 B := Bool
 run := fun a => spec_l2Elements a.1 a.2
 out := fun b => ((), ())
 res := fun b => b
noncomputable def S_27L2 (n : Nat) : LoopSpec where
 sh := [(0, .v .int), (1, .v (.slice .int)), (5, .v .int)]
 ex := [(.exit 0, []), (.ret, [(4, .v .bool)])]
 run := spec_l2Elements_L2 n
noncomputable def C_27 : Cx where
 tt := tblTT tt
 T := tblT [(100, E_26)]
 L := tblL [(2, S_27L2 fuel)]
 dep := fun i => 0
 n := 2
noncomputable def B_27L2 : Code := (Try.f105.body.bind (loopBody 2)).getD .skip
noncomputable def D_27 : Code := Try.f105.body.getD .skip
noncomputable def N_27 (_ : outs [.v .int, .v (.slice .int)]) (r : dens [.v .bool]) : Bool := r
noncomputable def E_28 : Entry where
 params := [.v .int, .v .int, .v (.slice .int)]
 results := [.v .bool]
 B := Bool
 run := fun a => spec_l8Tuple a.1 a.2.1 a.2.2
 out := fun b => ((), (), ())
 res := fun b => b
noncomputable def C_28 : Cx where
 tt := tblTT tt
 T := tblT [(105, E_27)]
 L := tblL []
 dep := fun i => 0
 n := 3
noncomputable def D_28 : Code := Try.f55.body.getD .skip
noncomputable def N_28 (_ : outs [.v .int, .v .int, .v (.slice .int)]) (r : dens [.v .bool]) : Bool := r
noncomputable def E_29 : Entry where
 params := [.v .int, .v .int, .v (.slice (.slice .int))]
 results := [.v .bool]
 B := Bool
 run := fun a => spec_l21Rows a.1 a.2.1 a.2.2
 out := fun b => ((), (), ())
 res := fun b => b
noncomputable def S_29L2 (n : Nat) : LoopSpec where
 sh := [(0, .v .int), (1, .v .int), (2, .v (.slice (.slice .int))), (7, .v .int)]
 ex := [(.exit 0, []), (.ret, [(6, .v .bool)])]
 run := spec_l21Rows_L2 n
noncomputable def C_29 : Cx where
 tt := tblTT tt
 T := tblT [(55, E_28)]
 L := tblL [(2, S_29L2 fuel)]
 dep := fun i => 0
 n := 3
noncomputable def B_29L2 : Code := (Try.f101.body.bind (loopBody 2)).getD .skip
noncomputable def D_29 : Code := Try.f101.body.getD .skip
noncomputable def N_29 (_ : outs [.v .int, .v .int, .v (.slice (.slice .int))]) (r : dens [.v .bool]) : Bool := r
noncomputable def E_30 : Entry where
 params := [.v (.pair .int (.pair .int (.slice (.slice .int))))]
 results := [.v .bool]
 B := Bool
 run := fun a => spec_l21Good a
 out := fun b => ()
 res := fun b => b
noncomputable def C_30 : Cx where
 tt := tblTT tt
 T := tblT [(99, E_25), (100, E_26), (101, E_29)]
 L := tblL []
 dep := fun i => 0
 n := 1
noncomputable def D_30 : Code := Try.f44.body.getD .skip
noncomputable def N_30 (_ : outs [.v (.pair .int (.pair .int (.slice (.slice .int))))]) (r : dens [.v .bool]) : Bool := r
noncomputable def E_31 : Entry where
 params := [.v (.slice .int)]
 results := [.mv .int 0]
 B := (List Int)
 run := fun a => spec_l1Own a
 out := fun b => ()
 res := fun b => b
noncomputable def C_31 : Cx where
 tt := tblTT tt
 T := tblT []
 L := tblL []
 dep := fun i => 0
 n := 1
noncomputable def D_31 : Code := Try.f70.body.getD .skip
noncomputable def N_31 (_ : outs [.v (.slice .int)]) (r : dens [.mv .int 0]) : (List Int) := r
noncomputable def E_32 : Entry where
 params := [.v .int, .v .int]
 results := [.v .int]
 B := Int
 run := fun a => spec_l21Inverse a.1 a.2
 out := fun b => ((), ())
 res := fun b => b
noncomputable def S_32L2 (n : Nat) : LoopSpec where
 sh := [(0, .v .int), (1, .v .int), (5, .v .int)]
 ex := [(.exit 0, [(5, .v .int)])]
 run := spec_l21Inverse_L2 n
noncomputable def C_32 : Cx where
 tt := tblTT tt
 T := tblT []
 L := tblL [(2, S_32L2 fuel)]
 dep := fun i => 0
 n := 2
noncomputable def B_32L2 : Code := (Try.f126.body.bind (loopBody 2)).getD .skip
noncomputable def D_32 : Code := Try.f126.body.getD .skip
noncomputable def N_32 (_ : outs [.v .int, .v .int]) (r : dens [.v .int]) : Int := r
noncomputable def E_33 : Entry where
 params := [.v .int, .v (.slice .int), .v (.slice .int), .v .int]
 results := [.mv .int 0]
 B := (List Int)
 run := fun a => spec_l21Less a.1 a.2.1 a.2.2.1 a.2.2.2
 out := fun b => ((), (), (), ())
 res := fun b => b
noncomputable def S_33L3 (n : Nat) : LoopSpec where
 sh := [(0, .v .int), (1, .v (.slice .int)), (2, .v (.slice .int)), (3, .v .int), (9, .mv .int 0), (10, .v .int)]
 ex := [(.exit 0, [(9, .mv .int 0)])]
 run := spec_l21Less_L3 n
noncomputable def C_33 : Cx where
 tt := tblTT tt
 T := tblT []
 L := tblL [(3, S_33L3 fuel)]
 dep := fun i => 0
 n := 4
noncomputable def B_33L3 : Code := (Try.f72.body.bind (loopBody 3)).getD .skip
noncomputable def D_33 : Code := Try.f72.body.getD .skip
noncomputable def N_33 (_ : outs [.v .int, .v (.slice .int), .v (.slice .int), .v .int]) (r : dens [.mv .int 0]) : (List Int) := r
noncomputable def E_34 : Entry where
 params := [.v .int, .v .int, .v (.slice (.slice .int))]
 results := [.pr (.mv (.slice .int) 0) (.pr (.mv .int 0) (.v (.slice (.slice .int))))]
 B := ((List (List Int)) × ((List Int) × (List (List Int))))
 run := fun a => spec_l21Eliminate a.1 a.2.1 a.2.2
 out := fun b => ((), (), ())
 res := fun b => b
noncomputable def S_34L3 (n : Nat) : LoopSpec where
 sh := [(0, .v .int), (1, .v .int), (2, .v (.slice (.slice .int))), (6, .bx (.pr (.mv (.slice .int) 0) (.pr (.mv .int 0) (.mv (.slice .int) 0)))), (7, .bx (.pr (.mv (.slice .int) 0) (.pr (.mv .int 0) (.mv (.slice .int) 0)))), (8, .v .int)]
 ex := [(.exit 0, [(0, .v .int), (1, .v .int), (6, .bx (.pr (.mv (.slice .int) 0) (.pr (.mv .int 0) (.mv (.slice .int) 0)))), (7, .bx (.pr (.mv (.slice .int) 0) (.pr (.mv .int 0) (.mv (.slice .int) 0))))])]
 run := spec_l21Eliminate_L3 n
noncomputable def S_34L10 (n : Nat) : LoopSpec where
 sh := [(0, .v .int), (1, .v .int), (6, .bx (.pr (.mv (.slice .int) 0) (.pr (.mv .int 0) (.v (.slice (.slice .int)))))), (7, .bx (.pr (.mv (.slice .int) 0) (.pr (.mv .int 0) (.v (.slice (.slice .int)))))), (9, .v .int), (10, .v .int)]
 ex := [(.exit 4, [(0, .v .int), (1, .v .int), (6, .bx (.pr (.mv (.slice .int) 0) (.pr (.mv .int 0) (.v (.slice (.slice .int)))))), (7, .bx (.pr (.mv (.slice .int) 0) (.pr (.mv .int 0) (.v (.slice (.slice .int)))))), (9, .v .int), (10, .v .int)])]
 run := spec_l21Eliminate_L10 n
noncomputable def S_34L16 (n : Nat) : LoopSpec where
 sh := [(0, .v .int), (1, .v .int), (6, .bx (.pr (.mv (.slice .int) 0) (.pr (.mv .int 0) (.v (.slice (.slice .int)))))), (7, .bx (.pr (.mv (.slice .int) 0) (.pr (.mv .int 0) (.v (.slice (.slice .int)))))), (9, .v .int), (11, .mv .int 0), (12, .mv (.slice .int) 0), (13, .v .int)]
 ex := [(.exit 6, [(0, .v .int), (1, .v .int), (6, .bx (.pr (.mv (.slice .int) 0) (.pr (.mv .int 0) (.v (.slice (.slice .int)))))), (7, .bx (.pr (.mv (.slice .int) 0) (.pr (.mv .int 0) (.v (.slice (.slice .int)))))), (9, .v .int), (11, .mv .int 0), (12, .mv (.slice .int) 0)])]
 run := spec_l21Eliminate_L16 n
noncomputable def S_34L20 (n : Nat) : LoopSpec where
 sh := [(0, .v .int), (1, .v .int), (6, .bx (.pr (.mv (.slice .int) 0) (.pr (.mv .int 0) (.v (.slice (.slice .int)))))), (7, .bx (.pr (.mv (.slice .int) 0) (.pr (.mv .int 0) (.v (.slice (.slice .int)))))), (9, .v .int), (11, .mv .int 0), (12, .mv (.slice .int) 0), (14, .v .int)]
 ex := [(.exit 8, [(0, .v .int), (1, .v .int), (6, .bx (.pr (.mv (.slice .int) 0) (.pr (.mv .int 0) (.v (.slice (.slice .int)))))), (7, .bx (.pr (.mv (.slice .int) 0) (.pr (.mv .int 0) (.v (.slice (.slice .int)))))), (9, .v .int), (11, .mv .int 0), (12, .mv (.slice .int) 0)])]
 run := spec_l21Eliminate_L20 n
noncomputable def S_34L7 (n : Nat) : LoopSpec where
 sh := [(0, .v .int), (1, .v .int), (6, .bx (.pr (.mv (.slice .int) 0) (.pr (.mv .int 0) (.v (.slice (.slice .int)))))), (7, .bx (.pr (.mv (.slice .int) 0) (.pr (.mv .int 0) (.v (.slice (.slice .int)))))), (9, .v .int)]
 ex := [(.exit 2, [(6, .bx (.pr (.mv (.slice .int) 0) (.pr (.mv .int 0) (.v (.slice (.slice .int)))))), (7, .bx (.pr (.mv (.slice .int) 0) (.pr (.mv .int 0) (.v (.slice (.slice .int))))))])]
 run := spec_l21Eliminate_L7 n
noncomputable def C_34 : Cx where
 tt := tblTT tt
 T := tblT [(70, E_31), (72, E_33), (103, E_6), (126, E_32)]
 L := tblL [(3, S_34L3 fuel), (10, S_34L10 fuel), (16, S_34L16 fuel), (20, S_34L20 fuel), (7, S_34L7 fuel)]
 dep := fun i => 0
 n := 3
noncomputable def B_34L3 : Code := (Try.f102.body.bind (loopBody 3)).getD .skip
noncomputable def B_34L10 : Code := (Try.f102.body.bind (loopBody 10)).getD .skip
noncomputable def B_34L16 : Code := (Try.f102.body.bind (loopBody 16)).getD .skip
noncomputable def B_34L20 : Code := (Try.f102.body.bind (loopBody 20)).getD .skip
noncomputable def B_34L7 : Code := (Try.f102.body.bind (loopBody 7)).getD .skip
noncomputable def D_34 : Code := Try.f102.body.getD .skip
noncomputable def N_34 (_ : outs [.v .int, .v .int, .v (.slice (.slice .int))]) (r : dens [.pr (.mv (.slice .int) 0) (.pr (.mv .int 0) (.v (.slice (.slice .int))))]) : ((List (List Int)) × ((List Int) × (List (List Int)))) := r
noncomputable def E_35 : Entry where
 params := [.v (.pair (.slice (.slice .int)) (.pair (.slice .int) (.slice (.slice .int)))), .v .int]
 results := [.v .bool]
 B := Bool
 run := fun a => spec_l21Empty a.1 a.2
 out := fun b => ((), ())
 res := fun b => b
noncomputable def S_35L2 (n : Nat) : LoopSpec where
 sh := [(1, .v .int), (2, .bx (.v (.pair (.slice (.slice .int)) (.pair (.slice .int) (.slice (.slice .int)))))), (5, .v .int)]
 ex := [(.exit 0, []), (.ret, [(4, .v .bool)])]
 run := spec_l21Empty_L2 n
noncomputable def C_35 : Cx where
 tt := tblTT tt
 T := tblT []
 L := tblL [(2, S_35L2 fuel)]
 dep := fun i => 0
 n := 2
noncomputable def B_35L2 : Code := (Try.f64.body.bind (loopBody 2)).getD .skip
noncomputable def D_35 : Code := Try.f64.body.getD .skip
noncomputable def N_35 (_ : outs [.v (.pair (.slice (.slice .int)) (.pair (.slice .int) (.slice (.slice .int)))), .v .int]) (r : dens [.v .bool]) : Bool := r
noncomputable def E_36 : Entry where
 params := [.v .int, .v .int, .v (.slice (.slice .int))]
 results := [.mv .int 0, .v .bool]
 B := (List Int) × Bool
 run := fun a => spec_l21Solve a.1 a.2.1 a.2.2
 out := fun b => ((), (), ())
 res := fun b => (b.1, b.2)
noncomputable def S_36L6 (n : Nat) : LoopSpec where
 sh := [(1, .v .int), (8, .bx (.pr (.mv (.slice .int) 0) (.pr (.mv .int 0) (.v (.slice (.slice .int)))))), (9, .mv .int 0), (10, .v .int)]
 ex := [(.exit 0, [(9, .mv .int 0)])]
 run := spec_l21Solve_L6 n
noncomputable def C_36 : Cx where
 tt := tblTT tt
 T := tblT [(64, E_35), (102, E_34)]
 L := tblL [(6, S_36L6 fuel)]
 dep := fun i => 0
 n := 3
noncomputable def B_36L6 : Code := (Try.f45.body.bind (loopBody 6)).getD .skip
noncomputable def D_36 : Code := Try.f45.body.getD .skip
noncomputable def N_36 (_ : outs [.v .int, .v .int, .v (.slice (.slice .int))]) (r : dens [.mv .int 0, .v .bool]) : (List Int) × Bool := (r.1, r.2)
noncomputable def E_37 : Entry where
 params := [.v (.pair .int (.pair .int (.slice (.slice .int))))]
 results := [.mv .int 0, .v .bool]
 B := (List Int) × Bool
 run := fun a => spec_RefuteLinear a
 out := fun b => ()
 res := fun b => (b.1, b.2)
noncomputable def S_37L9 (n : Nat) : LoopSpec where
 sh := [(1, .bx (.v (.pair .int (.pair .int (.slice (.slice .int)))))), (4, .mv (.slice .int) 0), (5, .v .int), (6, .mv .int 0), (7, .v .int)]
 ex := [(.exit 2, [(1, .bx (.v (.pair .int (.pair .int (.slice (.slice .int)))))), (4, .mv (.slice .int) 0), (5, .v .int), (6, .mv .int 0)])]
 run := spec_RefuteLinear_L9 n
noncomputable def S_37L5 (n : Nat) : LoopSpec where
 sh := [(1, .bx (.v (.pair .int (.pair .int (.slice (.slice .int)))))), (4, .mv (.slice .int) 0), (5, .v .int)]
 ex := [(.exit 0, [(1, .bx (.v (.pair .int (.pair .int (.slice (.slice .int)))))), (4, .mv (.slice .int) 0)])]
 run := spec_RefuteLinear_L5 n
noncomputable def C_37 : Cx where
 tt := tblTT tt
 T := tblT [(44, E_30), (45, E_36)]
 L := tblL [(9, S_37L9 fuel), (5, S_37L5 fuel)]
 dep := fun i => 0
 n := 1
noncomputable def B_37L9 : Code := (Try.f9.body.bind (loopBody 9)).getD .skip
noncomputable def B_37L5 : Code := (Try.f9.body.bind (loopBody 5)).getD .skip
noncomputable def D_37 : Code := Try.f9.body.getD .skip
noncomputable def N_37 (_ : outs [.v (.pair .int (.pair .int (.slice (.slice .int))))]) (r : dens [.mv .int 0, .v .bool]) : (List Int) × Bool := (r.1, r.2)
noncomputable def E_38 : Entry where
 params := [.v (.slice .int), .v (.slice .int)]
 results := [.v .bool]
 B := Bool
 run := fun a => laws_vInts a.1 a.2
 out := fun b => ((), ())
 res := fun b => b
noncomputable def S_38L4 (n : Nat) : LoopSpec where
 sh := [(0, .v (.slice .int)), (1, .v (.slice .int)), (5, .v .int)]
 ex := [(.exit 0, []), (.ret, [(4, .v .bool)])]
 run := laws_vInts_L4 n
noncomputable def C_38 : Cx where
 tt := tblTT tt
 T := tblT []
 L := tblL [(4, S_38L4 fuel)]
 dep := fun i => 0
 n := 2
noncomputable def B_38L4 : Code := (Try.f10.body.bind (loopBody 4)).getD .skip
noncomputable def D_38 : Code := Try.f10.body.getD .skip
noncomputable def N_38 (_ : outs [.v (.slice .int), .v (.slice .int)]) (r : dens [.v .bool]) : Bool := r
noncomputable def E_39 : Entry where
 params := [.v (.pair .int (.pair .int (.slice (.slice .int))))]
 results := [.v (.ptr (.pair .int (.pair .int (.pair (.slice (.slice .int)) (.pair .int (.slice .int))))))]
 B := (Bool × Int × Int × (List (List Int)) × Int × (List Int))
 run := fun a => impl_eliminateLinear a
 out := fun b => ()
 res := fun b => b
noncomputable def C_39 : Cx where
 tt := tblTT tt
 T := tblT [(42, E_17)]
 L := tblL []
 dep := fun i => 0
 n := 1
noncomputable def D_39 : Code := Try.f46.body.getD .skip
noncomputable def N_39 (_ : outs [.v (.pair .int (.pair .int (.slice (.slice .int))))]) (r : dens [.v (.ptr (.pair .int (.pair .int (.pair (.slice (.slice .int)) (.pair .int (.slice .int))))))]) : (Bool × Int × Int × (List (List Int)) × Int × (List Int)) := r
noncomputable def E_40 : Entry where
 params := [.v (.pair .int (.pair .int (.slice (.slice .int))))]
 results := [.mv .int 0, .v .bool]
 B := (List Int) × Bool
 run := fun a => impl_SolveLinear a
 out := fun b => ()
 res := fun b => (b.1, b.2)
noncomputable def C_40 : Cx where
 tt := tblTT tt
 T := tblT [(12, E_12), (43, E_23), (46, E_39)]
 L := tblL []
 dep := fun i => 0
 n := 1
noncomputable def D_40 : Code := Try.f11.body.getD .skip
noncomputable def N_40 (_ : outs [.v (.pair .int (.pair .int (.slice (.slice .int))))]) (r : dens [.mv .int 0, .v .bool]) : (List Int) × Bool := (r.1, r.2)
noncomputable def E_41 : Entry where
 params := [.v (.pair .int (.pair .int (.slice (.slice .int)))), .v (.slice .int)]
 results := [.v .bool, .v .bool]
 B := Bool × Bool
 run := fun a => impl_IsLinearRefutation a.1 a.2
 out := fun b => ((), ())
 res := fun b => (b.1, b.2)
noncomputable def S_41L10 (n : Nat) : LoopSpec where
 sh := [(1, .v (.slice .int)), (2, .bx (.v (.pair .int (.pair .int (.slice (.slice .int)))))), (6, .v .int), (7, .v .int), (34, .v (.slice (.slice .int))), (35, .v .int), (36, .v .int)]
 ex := [(.exit 2, [(1, .v (.slice .int)), (2, .bx (.v (.pair .int (.pair .int (.slice (.slice .int)))))), (6, .v .int), (7, .v .int)])]
 run := impl_IsLinearRefutation_L10 n
noncomputable def S_41L6 (n : Nat) : LoopSpec where
 sh := [(1, .v (.slice .int)), (2, .bx (.v (.pair .int (.pair .int (.slice (.slice .int)))))), (6, .v .int)]
 ex := [(.exit 0, []), (.ret, [(4, .v .bool), (5, .v .bool)])]
 run := impl_IsLinearRefutation_L6 n
noncomputable def C_41 : Cx where
 tt := tblTT tt
 T := tblT [(12, E_12), (48, E_11)]
 L := tblL [(10, S_41L10 fuel), (6, S_41L6 fuel)]
 dep := fun i => 0
 n := 2
noncomputable def B_41L10 : Code := (Try.f13.body.bind (loopBody 10)).getD .skip
noncomputable def B_41L6 : Code := (Try.f13.body.bind (loopBody 6)).getD .skip
noncomputable def D_41 : Code := Try.f13.body.getD .skip
noncomputable def N_41 (_ : outs [.v (.pair .int (.pair .int (.slice (.slice .int)))), .v (.slice .int)]) (r : dens [.v .bool, .v .bool]) : Bool × Bool := (r.1, r.2)
noncomputable def E_42 : Entry where
 params := [.v .int, .v .int]
 results := [.v .int]
 B := Int
 run := fun a => spec_l1Least a.1 a.2
 out := fun b => ((), ())
 res := fun b => b
noncomputable def C_42 : Cx where
 tt := tblTT tt
 T := tblT []
 L := tblL []
 dep := fun i => 0
 n := 2
noncomputable def D_42 : Code := Try.f52.body.getD .skip
noncomputable def N_42 (_ : outs [.v .int, .v .int]) (r : dens [.v .int]) : Int := r
noncomputable def E_43 : Entry where
 params := [.v .int, .v .int]
 results := [.v .int]
 B := Int
 run := fun a => spec_l1Most a.1 a.2
 out := fun b => ((), ())
 res := fun b => b
noncomputable def C_43 : Cx where
 tt := tblTT tt
 T := tblT []
 L := tblL []
 dep := fun i => 0
 n := 2
noncomputable def D_43 : Code := Try.f51.body.getD .skip
noncomputable def N_43 (_ : outs [.v .int, .v .int]) (r : dens [.v .int]) : Int := r
noncomputable def E_44 : Entry where
 params := [.v (.slice (.num .u8))]
 results := [.pr (.v .int) (.pr (.v .int) (.mv (.slice .int) 1)), .mv .int 0]
 B := (Int × (Int × (List (List Int)))) × (List Int)
 run := fun a => spec_DrawIsLinearRefutation a
 out := fun b => ()
 res := fun b => (b.1, b.2)
noncomputable def S_44L6 (n : Nat) : LoopSpec where
 sh := [(2, .bx (.pr (.v .int) (.pr (.v .int) (.mv (.slice .int) 0)))), (4, .bx (.v (.pair (.slice (.num .u8)) (.pair .int (.num .u64))))), (5, .bx (.pr (.v .int) (.pr (.v .int) (.mv (.slice .int) 1)))), (6, .mv .int 0), (8, .v .int)]
 ex := [(.exit 0, [(2, .bx (.pr (.v .int) (.pr (.v .int) (.mv (.slice .int) 0)))), (4, .bx (.v (.pair (.slice (.num .u8)) (.pair .int (.num .u64))))), (5, .bx (.pr (.v .int) (.pr (.v .int) (.mv (.slice .int) 1)))), (6, .mv .int 0)])]
 run := spec_DrawIsLinearRefutation_L6 n
noncomputable def C_44 : Cx where
 tt := tblTT tt
 T := tblT [(9, E_37), (49, E_7), (50, E_3), (51, E_43), (52, E_42), (53, E_5), (54, E_4)]
 L := tblL [(6, S_44L6 fuel)]
 dep := fun i => 0
 n := 1
noncomputable def B_44L6 : Code := (Try.f14.body.bind (loopBody 6)).getD .skip
noncomputable def D_44 : Code := Try.f14.body.getD .skip
noncomputable def N_44 (_ : outs [.v (.slice (.num .u8))]) (r : dens [.pr (.v .int) (.pr (.v .int) (.mv (.slice .int) 1)), .mv .int 0]) : (Int × (Int × (List (List Int)))) × (List Int) := (r.1, r.2)
noncomputable def E_45 : Entry where
 params := [.v (.pair .int (.pair .int (.slice (.slice .int)))), .v (.slice .int)]
 results := [.v .bool, .v .bool]
 B := Bool × Bool
 run := fun a => spec_IsLinearRefutation a.1 a.2
 out := fun b => ((), ())
 res := fun b => (b.1, b.2)
noncomputable def S_45L10 (n : Nat) : LoopSpec where
 sh := [(1, .v (.slice .int)), (2, .bx (.v (.pair .int (.pair .int (.slice (.slice .int)))))), (6, .v .int), (7, .v .int), (8, .v .int)]
 ex := [(.exit 2, [(1, .v (.slice .int)), (2, .bx (.v (.pair .int (.pair .int (.slice (.slice .int)))))), (6, .v .int), (7, .v .int)])]
 run := spec_IsLinearRefutation_L10 n
noncomputable def S_45L6 (n : Nat) : LoopSpec where
 sh := [(1, .v (.slice .int)), (2, .bx (.v (.pair .int (.pair .int (.slice (.slice .int)))))), (6, .v .int)]
 ex := [(.exit 0, []), (.ret, [(4, .v .bool), (5, .v .bool)])]
 run := spec_IsLinearRefutation_L6 n
noncomputable def C_45 : Cx where
 tt := tblTT tt
 T := tblT [(44, E_30), (55, E_28)]
 L := tblL [(10, S_45L10 fuel), (6, S_45L6 fuel)]
 dep := fun i => 0
 n := 2
noncomputable def B_45L10 : Code := (Try.f15.body.bind (loopBody 10)).getD .skip
noncomputable def B_45L6 : Code := (Try.f15.body.bind (loopBody 6)).getD .skip
noncomputable def D_45 : Code := Try.f15.body.getD .skip
noncomputable def N_45 (_ : outs [.v (.pair .int (.pair .int (.slice (.slice .int)))), .v (.slice .int)]) (r : dens [.v .bool, .v .bool]) : Bool × Bool := (r.1, r.2)
noncomputable def E_46 : Entry where
 params := [.v (.slice (.num .u8))]
 results := [.v .bool]
 B := Bool
 run := fun a => laws_FnLinearRefutations a
 out := fun b => ()
 res := fun b => b
noncomputable def C_46 : Cx where
 tt := tblTT tt
 T := tblT [(6, E_1), (7, E_9), (8, E_24), (9, E_37), (10, E_38), (11, E_40), (12, E_12), (13, E_41), (14, E_44), (15, E_45)]
 L := tblL []
 dep := fun i => 0
 n := 1
noncomputable def D_46 : Code := Try.f3.body.getD .skip
noncomputable def N_46 (_ : outs [.v (.slice (.num .u8))]) (r : dens [.v .bool]) : Bool := r
end T
