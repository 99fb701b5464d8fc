/- Contexts of the typed functions; no conditions. -/
import Derived.Test.YtcdjlpcapanibacV5
import Derived.Test.YtcdjlpcapanibacProg
import Derived.Test.YtcdjlpcapanibacPFnLinear
import Derived.KernelRfl
set_option linter.all false
set_option linter.unusedVariables false
set_option maxRecDepth 10000
open Go Go.Va Go.Proofs
namespace T
noncomputable def tt : List (Nat × TI) := [
 (2, { ty := .int }),
 (3, { ty := .int }),
 (4, { ty := .bool }),
 (5, { ty := (.num .u8) }),
 (6, { ty := (.num .u8) }),
 (7, { ty := (.pair .int (.pair .int (.pair .bool (.num .u8)))), fields := [2, 3, 4, 6] }),
 (8, { ty := (.pair .int (.pair .int (.pair .bool (.num .u8)))), fields := [2, 3, 4, 6] }),
 (22, { ty := (.slice (.num .u8)), elem := 5 }),
 (33, { ty := (.slice .int), elem := 3 }),
 (34, { ty := (.slice (.slice .int)), elem := 33 }),
 (70, { ty := (.pair .int (.pair .int (.slice (.slice .int)))), fields := [3, 3, 34] }),
 (100, { ty := (.num .u64) }),
 (102, { ty := (.pair (.slice (.num .u8)) (.pair .int (.num .u64))), fields := [22, 3, 100] }),
 (132, { ty := (.pair (.slice (.slice .int)) (.pair (.slice .int) (.slice (.slice .int)))), fields := [34, 33, 34] }),
 (141, { ty := (.op false) }),
 (178, { ty := (.pair .int (.pair .int (.pair (.slice (.slice .int)) (.pair .int (.slice .int))))), fields := [3, 3, 34, 3, 33] }),
 (190, { ty := (.num .u64) })]
theorem tabT : tabOk Try.prog tt = true := by kernel_rfl
theorem mixT : Try.prog.follows .mixedOrders = true := by kernel_rfl
noncomputable def E_1 : Entry where
 params := [.v (.slice (.num .u8))]
 results := [.v .bool]
 B := Bool
 run := fun a => laws_vBig a
 out := fun b => ()
 res := fun b => b
noncomputable def C_1 : Cx where
 tt := tblTT tt
 T := tblT []
 L := tblL []
 dep := fun i => 0
 n := 1
noncomputable def D_1 : Code := Try.f44.body.getD .skip
noncomputable def N_1 (_ : outs [.v (.slice (.num .u8))]) (r : dens [.v .bool]) : Bool := r
noncomputable def E_2 : Entry where
 params := [.bx (.v (.pair (.slice (.num .u8)) (.pair .int (.num .u64))))]
 results := [.v .int]
 B := ((List Int) × Int × Int) × Int
 run := fun a => spec_l1Cur_next a
 out := fun b => b.1
 res := fun b => b.2
noncomputable def C_2 : Cx where
 tt := tblTT tt
 T := tblT []
 L := tblL []
 dep := fun i => 0
 n := 1
noncomputable def D_2 : Code := Try.f199.body.getD .skip
noncomputable def N_2 (o : outs [.bx (.v (.pair (.slice (.num .u8)) (.pair .int (.num .u64))))]) (r : dens [.v .int]) : ((List Int) × Int × Int) × Int := (o, r)
noncomputable def E_3 : Entry where
 params := [.bx (.v (.pair (.slice (.num .u8)) (.pair .int (.num .u64)))), .v .int]
 results := [.v .int]
 B := ((List Int) × Int × Int) × Int
 run := fun a => spec_l1Cur_pick a.1 a.2
 out := fun b => (b.1, ())
 res := fun b => b.2
noncomputable def C_3 : Cx where
 tt := tblTT tt
 T := tblT [(199, E_2)]
 L := tblL []
 dep := fun i => 0
 n := 2
noncomputable def D_3 : Code := Try.f163.body.getD .skip
noncomputable def N_3 (o : outs [.bx (.v (.pair (.slice (.num .u8)) (.pair .int (.num .u64)))), .v .int]) (r : dens [.v .int]) : ((List Int) × Int × Int) × Int := (o.1, r)
noncomputable def E_4 : Entry where
 params := [.bx (.v (.pair (.slice (.num .u8)) (.pair .int (.num .u64)))), .v (.slice .int)]
 results := [.v .int]
 B := ((List Int) × Int × Int) × Int
 run := fun a => spec_l1Cur_among a.1 a.2
 out := fun b => (b.1, ())
 res := fun b => b.2
noncomputable def C_4 : Cx where
 tt := tblTT tt
 T := tblT [(163, E_3)]
 L := tblL []
 dep := fun i => 0
 n := 2
noncomputable def D_4 : Code := Try.f97.body.getD .skip
noncomputable def N_4 (o : outs [.bx (.v (.pair (.slice (.num .u8)) (.pair .int (.num .u64)))), .v (.slice .int)]) (r : dens [.v .int]) : ((List Int) × Int × Int) × Int := (o.1, r)
noncomputable def E_5 : Entry where
 params := [.bx (.v (.pair (.slice (.num .u8)) (.pair .int (.num .u64)))), .v .int]
 results := [.v .bool]
 B := ((List Int) × Int × Int) × Bool
 run := fun a => spec_l1Cur_one a.1 a.2
 out := fun b => (b.1, ())
 res := fun b => b.2
noncomputable def C_5 : Cx where
 tt := tblTT tt
 T := tblT [(163, E_3)]
 L := tblL []
 dep := fun i => 0
 n := 2
noncomputable def D_5 : Code := Try.f96.body.getD .skip
noncomputable def N_5 (o : outs [.bx (.v (.pair (.slice (.num .u8)) (.pair .int (.num .u64)))), .v .int]) (r : dens [.v .bool]) : ((List Int) × Int × Int) × Bool := (o.1, r)
noncomputable def E_6 : Entry where
 params := [.v .int, .v (.slice .int), .v .int]
 results := [.mv .int 0]
 B := (List Int)
 run := fun a => spec_l21Scale a.1 a.2.1 a.2.2
 out := fun b => ((), (), ())
 res := fun b => b
noncomputable def S_6L3 (n : Nat) : LoopSpec where
 sh := [(0, .v .int), (1, .v (.slice .int)), (2, .v .int), (7, .mv .int 0), (8, .v .int)]
 ex := [(.exit 0, [(7, .mv .int 0)])]
 run := spec_l21Scale_L3 n
noncomputable def C_6 : Cx where
 tt := tblTT tt
 T := tblT []
 L := tblL [(3, S_6L3 fuel)]
 dep := fun i => 0
 n := 3
noncomputable def B_6L3 : Code := (Try.f202.body.bind (loopBody 3)).getD .skip
noncomputable def D_6 : Code := Try.f202.body.getD .skip
noncomputable def N_6 (_ : outs [.v .int, .v (.slice .int), .v .int]) (r : dens [.mv .int 0]) : (List Int) := r
noncomputable def E_7 : Entry where
 params := [.bx (.v (.pair (.slice (.num .u8)) (.pair .int (.num .u64))))]
 results := [.pr (.v .int) (.pr (.v .int) (.mv (.slice .int) 1))]
 B := ((List Int) × Int × Int) × (Int × (Int × (List (List Int))))
 run := fun a => spec_l1Cur_linear a
 out := fun b => b.1
 res := fun b => b.2
noncomputable def S_7L8 (n : Nat) : LoopSpec where
 sh := [(0, .bx (.v (.pair (.slice (.num .u8)) (.pair .int (.num .u64))))), (2, .bx (.pr (.v .int) (.pr (.v .int) (.mv (.slice .int) 1)))), (3, .v .int), (4, .bx (.pr (.v .int) (.pr (.v .int) (.mv (.slice .int) 1)))), (5, .v .int), (6, .mv .int 0), (7, .v .int)]
 ex := [(.exit 2, [(0, .bx (.v (.pair (.slice (.num .u8)) (.pair .int (.num .u64))))), (2, .bx (.pr (.v .int) (.pr (.v .int) (.mv (.slice .int) 1)))), (3, .v .int), (4, .bx (.pr (.v .int) (.pr (.v .int) (.mv (.slice .int) 1)))), (5, .v .int), (6, .mv .int 0)])]
 run := spec_l1Cur_linear_L8 n
noncomputable def S_7L4 (n : Nat) : LoopSpec where
 sh := [(0, .bx (.v (.pair (.slice (.num .u8)) (.pair .int (.num .u64))))), (2, .bx (.pr (.v .int) (.pr (.v .int) (.mv (.slice .int) 1)))), (3, .v .int), (4, .bx (.pr (.v .int) (.pr (.v .int) (.mv (.slice .int) 1)))), (5, .v .int)]
 ex := [(.exit 0, [(0, .bx (.v (.pair (.slice (.num .u8)) (.pair .int (.num .u64))))), (2, .bx (.pr (.v .int) (.pr (.v .int) (.mv (.slice .int) 1)))), (3, .v .int), (4, .bx (.pr (.v .int) (.pr (.v .int) (.mv (.slice .int) 1))))])]
 run := spec_l1Cur_linear_L4 n
noncomputable def S_7L22 (n : Nat) : LoopSpec where
 sh := [(0, .bx (.v (.pair (.slice (.num .u8)) (.pair .int (.num .u64))))), (2, .bx (.pr (.v .int) (.pr (.v .int) (.mv (.slice .int) 1)))), (4, .bx (.pr (.v .int) (.pr (.v .int) (.mv (.slice .int) 1))))]
 ex := [(.exit 5, [(0, .bx (.v (.pair (.slice (.num .u8)) (.pair .int (.num .u64))))), (2, .bx (.pr (.v .int) (.pr (.v .int) (.mv (.slice .int) 1)))), (4, .bx (.pr (.v .int) (.pr (.v .int) (.mv (.slice .int) 1))))])]
 run := spec_l1Cur_linear_L22 n
noncomputable def C_7 : Cx where
 tt := tblTT tt
 T := tblT [(96, E_5), (97, E_4), (163, E_3), (202, E_6)]
 L := tblL [(8, S_7L8 fuel), (4, S_7L4 fuel), (22, S_7L22 fuel)]
 dep := fun i => match i with
  | 15 => 1
  | 66 => 1
  | 67 => 1
  | 101 => 1
  | 102 => 1
  | _ => 0
 n := 1
 fine := true
noncomputable def B_7L8 : Code := (Try.f181.body.bind (loopBody 8)).getD .skip
noncomputable def B_7L4 : Code := (Try.f181.body.bind (loopBody 4)).getD .skip
noncomputable def B_7L22 : Code := (Try.f181.body.bind (loopBody 22)).getD .skip
noncomputable def D_7 : Code := Try.f181.body.getD .skip
noncomputable def N_7 (o : outs [.bx (.v (.pair (.slice (.num .u8)) (.pair .int (.num .u64))))]) (r : dens [.pr (.v .int) (.pr (.v .int) (.mv (.slice .int) 1))]) : ((List Int) × Int × Int) × (Int × (Int × (List (List Int)))) := (o, r)
noncomputable def E_8 : Entry where
 params := [.v (.slice (.num .u8))]
 results := [.pr (.v .int) (.pr (.v .int) (.mv (.slice .int) 1))]
 B := (Int × (Int × (List (List Int))))
 run := fun a => spec_DrawIsLinear a
 out := fun b => ()
 res := fun b => b
noncomputable def C_8 : Cx where
 tt := tblTT tt
 T := tblT [(181, E_7)]
 L := tblL []
 dep := fun i => 0
 n := 1
noncomputable def D_8 : Code := Try.f124.body.getD .skip
noncomputable def N_8 (_ : outs [.v (.slice (.num .u8))]) (r : dens [.pr (.v .int) (.pr (.v .int) (.mv (.slice .int) 1))]) : (Int × (Int × (List (List Int)))) := r
noncomputable def E_9 : Entry where
 params := [.v (.slice (.num .u8))]
 results := [.pr (.v .int) (.pr (.v .int) (.mv (.slice .int) 1))]
 B := (Int × (Int × (List (List Int))))
 run := fun a => spec_DrawEliminate a
 out := fun b => ()
 res := fun b => b
noncomputable def C_9 : Cx where
 tt := tblTT tt
 T := tblT [(124, E_8)]
 L := tblL []
 dep := fun i => 0
 n := 1
noncomputable def D_9 : Code := Try.f45.body.getD .skip
noncomputable def N_9 (_ : outs [.v (.slice (.num .u8))]) (r : dens [.pr (.v .int) (.pr (.v .int) (.mv (.slice .int) 1))]) : (Int × (Int × (List (List Int)))) := r
noncomputable def E_10 : Entry where
 params := [.v .int]
 results := [.v .bool]
 B := Bool
 run := fun a => impl_isPrime a
 out := fun b => ()
 res := fun b => b
noncomputable def C_10 : Cx where
 tt := tblTT tt
 T := tblT []
 L := tblL []
 dep := fun i => 0
 n := 1
noncomputable def D_10 : Code := Try.f129.body.getD .skip
noncomputable def N_10 (_ : outs [.v .int]) (r : dens [.v .bool]) : Bool := r
noncomputable def E_11 : Entry where
 params := [.v (.slice .int), .v .int]
 results := [.v .bool]
 B := Bool
 run := fun a => impl_inSize a.1 a.2
 out := fun b => ((), ())
 res := fun b => b
noncomputable def S_11L2 (n : Nat) : LoopSpec where
 sh := [(1, .v .int), (7, .v (.slice .int)), (8, .v .int), (9, .v .int)]
 ex := [(.exit 0, []), (.ret, [(4, .v .bool)])]
 run := impl_inSize_L2 n
noncomputable def C_11 : Cx where
 tt := tblTT tt
 T := tblT []
 L := tblL [(2, S_11L2 fuel)]
 dep := fun i => 0
 n := 2
noncomputable def B_11L2 : Code := (Try.f94.body.bind (loopBody 2)).getD .skip
noncomputable def D_11 : Code := Try.f94.body.getD .skip
noncomputable def N_11 (_ : outs [.v (.slice .int), .v .int]) (r : dens [.v .bool]) : Bool := r
noncomputable def E_12 : Entry where
 params := [.v (.pair .int (.pair .int (.slice (.slice .int))))]
 results := [.v .bool]
 B := Bool
 run := fun a => impl_IsLinear a
 out := fun b => ()
 res := fun b => b
noncomputable def S_12L4 (n : Nat) : LoopSpec where
 sh := [(1, .bx (.v (.pair .int (.pair .int (.slice (.slice .int)))))), (26, .v (.slice (.slice .int))), (27, .v .int), (28, .v .int)]
 ex := [(.exit 0, []), (.ret, [(2, .v .bool)])]
 run := impl_IsLinear_L4 n
noncomputable def C_12 : Cx where
 tt := tblTT tt
 T := tblT [(94, E_11), (129, E_10)]
 L := tblL [(4, S_12L4 fuel)]
 dep := fun i => 0
 n := 1
noncomputable def B_12L4 : Code := (Try.f48.body.bind (loopBody 4)).getD .skip
noncomputable def D_12 : Code := Try.f48.body.getD .skip
noncomputable def N_12 (_ : outs [.v (.pair .int (.pair .int (.slice (.slice .int))))]) (r : dens [.v .bool]) : Bool := r
noncomputable def E_13 : Entry where
 params := [.v (.slice .int)]
 results := [.mv .int 0]
 B := (List Int)
 run := fun a => impl_clone a
 out := fun b => ()
 res := fun b => b
noncomputable def C_13 : Cx where
 tt := tblTT tt
 T := tblT []
 L := tblL []
 dep := fun i => 0
 n := 1
noncomputable def D_13 : Code := Try.f84.body.getD .skip
noncomputable def N_13 (_ : outs [.v (.slice .int)]) (r : dens [.mv .int 0]) : (List Int) := r
noncomputable def E_14 : Entry where
 params := [.v (.slice (.slice .int))]
 results := [.mv (.slice .int) 1]
 B := (List (List Int))
 run := fun a => impl_cloneRows a
 out := fun b => ()
 res := fun b => b
noncomputable def S_14L3 (n : Nat) : LoopSpec where
 sh := [(3, .mv (.slice .int) 1), (7, .v (.slice (.slice .int))), (8, .v .int), (9, .v .int)]
 ex := [(.exit 0, [(3, .mv (.slice .int) 1)])]
 run := impl_cloneRows_L3 n
noncomputable def C_14 : Cx where
 tt := tblTT tt
 T := tblT [(84, E_13)]
 L := tblL [(3, S_14L3 fuel)]
 dep := fun i => match i with
  | 6 => 1
  | 16 => 1
  | 17 => 1
  | _ => 0
 n := 1
noncomputable def B_14L3 : Code := (Try.f148.body.bind (loopBody 3)).getD .skip
noncomputable def D_14 : Code := Try.f148.body.getD .skip
noncomputable def N_14 (_ : outs [.v (.slice (.slice .int))]) (r : dens [.mv (.slice .int) 1]) : (List (List Int)) := r
noncomputable def E_15 : Entry where
 params := [.v .int]
 results := [.mv .int 0]
 B := (List Int)
 run := fun a => impl_freeTable a
 out := fun b => ()
 res := fun b => b
noncomputable def S_15L3 (n : Nat) : LoopSpec where
 sh := [(3, .mv .int 0), (8, .v .int), (9, .v .int)]
 ex := [(.exit 0, [(3, .mv .int 0)])]
 run := impl_freeTable_L3 n
noncomputable def C_15 : Cx where
 tt := tblTT tt
 T := tblT []
 L := tblL [(3, S_15L3 fuel)]
 dep := fun i => 0
 n := 1
noncomputable def B_15L3 : Code := (Try.f81.body.bind (loopBody 3)).getD .skip
noncomputable def D_15 : Code := Try.f81.body.getD .skip
noncomputable def N_15 (_ : outs [.v .int]) (r : dens [.mv .int 0]) : (List Int) := r
noncomputable def E_16 : Entry where
 params := [.v .int, .v .int]
 results := [.v .int]
 B := Int
 run := fun a => impl_inverseOf a.1 a.2
 out := fun b => ((), ())
 res := fun b => b
noncomputable def S_16L2 (n : Nat) : LoopSpec where
 sh := [(0, .v .int), (1, .v .int), (5, .v .int)]
 ex := [(.exit 0, []), (.ret, [(4, .v .int)])]
 run := impl_inverseOf_L2 n
noncomputable def C_16 : Cx where
 tt := tblTT tt
 T := tblT []
 L := tblL [(2, S_16L2 fuel)]
 dep := fun i => 0
 n := 2
noncomputable def B_16L2 : Code := (Try.f203.body.bind (loopBody 2)).getD .skip
noncomputable def D_16 : Code := Try.f203.body.getD .skip
noncomputable def N_16 (_ : outs [.v .int, .v .int]) (r : dens [.v .int]) : Int := r
noncomputable def E_17 : Entry where
 params := [.v .int, .v .int, .v (.slice (.slice .int))]
 results := [.v (.ptr (.pair .int (.pair .int (.pair (.slice (.slice .int)) (.pair .int (.slice .int))))))]
 B := (Bool × Int × Int × (List (List Int)) × Int × (List Int))
 run := fun a => impl_eliminate a.1 a.2.1 a.2.2
 out := fun b => ((), (), ())
 res := fun b => b
noncomputable def S_17L6 (n : Nat) : LoopSpec where
 sh := [(0, .v .int), (1, .v .int), (7, .bx (.pr (.v .int) (.pr (.v .int) (.pr (.mv (.slice .int) 1) (.pr (.v .int) (.mv .int 0)))))), (8, .v .int), (9, .v .int)]
 ex := [(.exit 2, [(0, .v .int), (1, .v .int), (7, .bx (.pr (.v .int) (.pr (.v .int) (.pr (.mv (.slice .int) 1) (.pr (.v .int) (.mv .int 0)))))), (8, .v .int), (9, .v .int)])]
 run := impl_eliminate_L6 n
noncomputable def S_17L14 (n : Nat) : LoopSpec where
 sh := [(12885426186, .v .int), (0, .v .int), (1, .v .int), (7, .bx (.pr (.v .int) (.pr (.v .int) (.pr (.mv (.slice .int) 1) (.pr (.v .int) (.mv .int 0)))))), (8, .v .int), (11, .v .int), (110, .v .int), (111, .v .int)]
 ex := [(.exit 4, [(12885426186, .v .int), (0, .v .int), (1, .v .int), (7, .bx (.pr (.v .int) (.pr (.v .int) (.pr (.mv (.slice .int) 1) (.pr (.v .int) (.mv .int 0)))))), (8, .v .int)])]
 run := impl_eliminate_L14 n
noncomputable def S_17L24 (n : Nat) : LoopSpec where
 sh := [(12885426186, .v .int), (12885426190, .v .int), (12885426305, .jk 1), (0, .v .int), (1, .v .int), (7, .bx (.pr (.v .int) (.pr (.v .int) (.pr (.mv (.slice .int) 1) (.pr (.v .int) (.mv .int 0)))))), (8, .v .int), (15, .v .int), (130, .v .int), (131, .v .int), (151, .v .int), (152, .v .int)]
 ex := [(.exit 8, [(12885426186, .v .int), (12885426305, .jk 1), (0, .v .int), (1, .v .int), (7, .bx (.pr (.v .int) (.pr (.v .int) (.pr (.mv (.slice .int) 1) (.pr (.v .int) (.mv .int 0)))))), (8, .v .int), (130, .v .int), (131, .v .int)])]
 run := impl_eliminate_L24 n
noncomputable def S_17L19 (n : Nat) : LoopSpec where
 sh := [(12885426186, .v .int), (12885426305, .jk 1), (0, .v .int), (1, .v .int), (7, .bx (.pr (.v .int) (.pr (.v .int) (.pr (.mv (.slice .int) 1) (.pr (.v .int) (.mv .int 0)))))), (8, .v .int), (130, .v .int), (131, .v .int)]
 ex := [(.exit 6, [(0, .v .int), (1, .v .int), (7, .bx (.pr (.v .int) (.pr (.v .int) (.pr (.mv (.slice .int) 1) (.pr (.v .int) (.mv .int 0)))))), (8, .v .int)])]
 run := impl_eliminate_L19 n
noncomputable def S_17L3 (n : Nat) : LoopSpec where
 sh := [(0, .v .int), (1, .v .int), (7, .bx (.pr (.v .int) (.pr (.v .int) (.pr (.mv (.slice .int) 1) (.pr (.v .int) (.mv .int 0)))))), (8, .v .int)]
 ex := [(.exit 0, [(7, .bx (.pr (.v .int) (.pr (.v .int) (.pr (.mv (.slice .int) 1) (.pr (.v .int) (.mv .int 0))))))])]
 run := impl_eliminate_L3 n
noncomputable def C_17 : Cx where
 tt := tblTT tt
 T := tblT [(81, E_15), (148, E_14), (203, E_16)]
 L := tblL [(6, S_17L6 fuel), (14, S_17L14 fuel), (24, S_17L24 fuel), (19, S_17L19 fuel), (3, S_17L3 fuel)]
 dep := fun i => match i with
  | 69 => 99
  | _ => 0
 n := 3
noncomputable def B_17L6 : Code := (Try.f182.body.bind (loopBody 6)).getD .skip
noncomputable def B_17L14 : Code := (Try.f182.body.bind (loopBody 14)).getD .skip
noncomputable def B_17L24 : Code := (Try.f182.body.bind (loopBody 24)).getD .skip
noncomputable def B_17L19 : Code := (Try.f182.body.bind (loopBody 19)).getD .skip
noncomputable def B_17L3 : Code := (Try.f182.body.bind (loopBody 3)).getD .skip
noncomputable def D_17 : Code := Try.f182.body.getD .skip
noncomputable def N_17 (_ : outs [.v .int, .v .int, .v (.slice (.slice .int))]) (r : dens [.v (.ptr (.pair .int (.pair .int (.pair (.slice (.slice .int)) (.pair .int (.slice .int))))))]) : (Bool × Int × Int × (List (List Int)) × Int × (List Int)) := r
noncomputable def E_18 : Entry where
 params := [.v (.pair .int (.pair .int (.slice (.slice .int))))]
 results := [.v (.ptr (.pair .int (.pair .int (.pair (.slice (.slice .int)) (.pair .int (.slice .int))))))]
 B := (Bool × Int × Int × (List (List Int)) × Int × (List Int))
 run := fun a => impl_eliminateLinear a
 out := fun b => ()
 res := fun b => b
noncomputable def C_18 : Cx where
 tt := tblTT tt
 T := tblT [(182, E_17)]
 L := tblL []
 dep := fun i => 0
 n := 1
noncomputable def D_18 : Code := Try.f126.body.getD .skip
noncomputable def N_18 (_ : outs [.v (.pair .int (.pair .int (.slice (.slice .int))))]) (r : dens [.v (.ptr (.pair .int (.pair .int (.pair (.slice (.slice .int)) (.pair .int (.slice .int))))))]) : (Bool × Int × Int × (List (List Int)) × Int × (List Int)) := r
noncomputable def E_19 : Entry where
 params := [.v (.ptr (.pair .int (.pair .int (.pair (.slice (.slice .int)) (.pair .int (.slice .int))))))]
 results := [.pr (.v .int) (.pr (.v .int) (.mv (.slice .int) 1))]
 B := (Int × (Int × (List (List Int))))
 run := fun a => impl_linearOf_p a
 out := fun b => ()
 res := fun b => b
noncomputable def S_19L3 (n : Nat) : LoopSpec where
 sh := [(0, .v (.ptr (.pair .int (.pair .int (.pair (.slice (.slice .int)) (.pair .int (.slice .int))))))), (2, .bx (.pr (.v .int) (.pr (.v .int) (.mv (.slice .int) 1)))), (3, .bx (.pr (.v .int) (.pr (.v .int) (.mv (.slice .int) 1)))), (33, .v (.slice (.slice .int))), (34, .v .int), (35, .v .int)]
 ex := [(.exit 0, [(2, .bx (.pr (.v .int) (.pr (.v .int) (.mv (.slice .int) 1)))), (3, .bx (.pr (.v .int) (.pr (.v .int) (.mv (.slice .int) 1))))])]
 run := impl_linearOf_p_L3 n
noncomputable def C_19 : Cx where
 tt := tblTT tt
 T := tblT [(84, E_13), (148, E_14)]
 L := tblL [(3, S_19L3 fuel)]
 dep := fun i => match i with
  | 51 => 1
  | 52 => 1
  | _ => 0
 n := 1
noncomputable def B_19L3 : Code := (Try.f125.body.bind (loopBody 3)).getD .skip
noncomputable def D_19 : Code := Try.f125.body.getD .skip
noncomputable def N_19 (_ : outs [.v (.ptr (.pair .int (.pair .int (.pair (.slice (.slice .int)) (.pair .int (.slice .int))))))]) (r : dens [.pr (.v .int) (.pr (.v .int) (.mv (.slice .int) 1))]) : (Int × (Int × (List (List Int)))) := r
noncomputable def E_20 : Entry where
 params := [.v (.pair .int (.pair .int (.slice (.slice .int))))]
 results := [.pr (.v .int) (.pr (.v .int) (.mv (.slice .int) 1)), .v .bool]
 B := (Int × (Int × (List (List Int)))) × Bool
 run := fun a => impl_Eliminate a
 out := fun b => ()
 res := fun b => (b.1, b.2)
noncomputable def C_20 : Cx where
 tt := tblTT tt
 T := tblT [(48, E_12), (125, E_19), (126, E_18)]
 L := tblL []
 dep := fun i => 0
 n := 1
noncomputable def D_20 : Code := Try.f46.body.getD .skip
noncomputable def N_20 (_ : outs [.v (.pair .int (.pair .int (.slice (.slice .int))))]) (r : dens [.pr (.v .int) (.pr (.v .int) (.mv (.slice .int) 1)), .v .bool]) : (Int × (Int × (List (List Int)))) × Bool := (r.1, r.2)
noncomputable def E_21 : Entry where
 params := [.v .int]
 results := [.v .bool]
 B := Bool
 run := fun a => spec_l21Prime a
 out := fun b => ()
 res := fun b => b
noncomputable def C_21 : Cx where
 tt := tblTT tt
 T := tblT []
 L := tblL []
 dep := fun i => 0
 n := 1
noncomputable def D_21 : Code := Try.f183.body.getD .skip
noncomputable def N_21 (_ : outs [.v .int]) (r : dens [.v .bool]) : Bool := r
noncomputable def E_22 : Entry where
 params := [.v .int, .v .int, .v .int]
 results := [.v .bool]
 B := Bool
 run := fun a => spec_l1In a.1 a.2.1 a.2.2
 out := fun b => ((), (), ())
 res := fun b => b
noncomputable def C_22 : Cx where
 tt := tblTT tt
 T := tblT []
 L := tblL []
 dep := fun i => 0
 n := 3
noncomputable def D_22 : Code := Try.f159.body.getD .skip
noncomputable def N_22 (_ : outs [.v .int, .v .int, .v .int]) (r : dens [.v .bool]) : Bool := r
noncomputable def E_23 : Entry where
 params := [.v .int, .v (.slice .int)]
 results := [.v .bool]
 B := Bool
 run := fun a => spec_l2Elements a.1 a.2
 out := fun b => ((), ())
 res := fun b => b
noncomputable def S_23L2 (n : Nat) : LoopSpec where
 sh := [(0, .v .int), (1, .v (.slice .int)), (5, .v .int)]
 ex := [(.exit 0, []), (.ret, [(4, .v .bool)])]
 run := spec_l2Elements_L2 n
noncomputable def C_23 : Cx where
 tt := tblTT tt
 T := tblT [(159, E_22)]
 L := tblL [(2, S_23L2 fuel)]
 dep := fun i => 0
 n := 2
noncomputable def B_23L2 : Code := (Try.f167.body.bind (loopBody 2)).getD .skip
noncomputable def D_23 : Code := Try.f167.body.getD .skip
noncomputable def N_23 (_ : outs [.v .int, .v (.slice .int)]) (r : dens [.v .bool]) : Bool := r
noncomputable def E_24 : Entry where
 params := [.v .int, .v .int, .v (.slice .int)]
 results := [.v .bool]
 B := Bool
 run := fun a => spec_l8Tuple a.1 a.2.1 a.2.2
 out := fun b => ((), (), ())
 res := fun b => b
noncomputable def C_24 : Cx where
 tt := tblTT tt
 T := tblT [(167, E_23)]
 L := tblL []
 dep := fun i => 0
 n := 3
noncomputable def D_24 : Code := Try.f204.body.getD .skip
noncomputable def N_24 (_ : outs [.v .int, .v .int, .v (.slice .int)]) (r : dens [.v .bool]) : Bool := r
noncomputable def E_25 : Entry where
 params := [.v .int, .v .int, .v (.slice (.slice .int))]
 results := [.v .bool]
 B := Bool
 run := fun a => spec_l21Rows a.1 a.2.1 a.2.2
 out := fun b => ((), (), ())
 res := fun b => b
noncomputable def S_25L2 (n : Nat) : LoopSpec where
 sh := [(0, .v .int), (1, .v .int), (2, .v (.slice (.slice .int))), (7, .v .int)]
 ex := [(.exit 0, []), (.ret, [(6, .v .bool)])]
 run := spec_l21Rows_L2 n
noncomputable def C_25 : Cx where
 tt := tblTT tt
 T := tblT [(204, E_24)]
 L := tblL [(2, S_25L2 fuel)]
 dep := fun i => 0
 n := 3
noncomputable def B_25L2 : Code := (Try.f184.body.bind (loopBody 2)).getD .skip
noncomputable def D_25 : Code := Try.f184.body.getD .skip
noncomputable def N_25 (_ : outs [.v .int, .v .int, .v (.slice (.slice .int))]) (r : dens [.v .bool]) : Bool := r
noncomputable def E_26 : Entry where
 params := [.v (.pair .int (.pair .int (.slice (.slice .int))))]
 results := [.v .bool]
 B := Bool
 run := fun a => spec_l21Good a
 out := fun b => ()
 res := fun b => b
noncomputable def C_26 : Cx where
 tt := tblTT tt
 T := tblT [(159, E_22), (183, E_21), (184, E_25)]
 L := tblL []
 dep := fun i => 0
 n := 1
noncomputable def D_26 : Code := Try.f127.body.getD .skip
noncomputable def N_26 (_ : outs [.v (.pair .int (.pair .int (.slice (.slice .int))))]) (r : dens [.v .bool]) : Bool := r
noncomputable def E_27 : Entry where
 params := [.v (.slice .int)]
 results := [.mv .int 0]
 B := (List Int)
 run := fun a => spec_l1Own a
 out := fun b => ()
 res := fun b => b
noncomputable def C_27 : Cx where
 tt := tblTT tt
 T := tblT []
 L := tblL []
 dep := fun i => 0
 n := 1
noncomputable def D_27 : Code := Try.f141.body.getD .skip
noncomputable def N_27 (_ : outs [.v (.slice .int)]) (r : dens [.mv .int 0]) : (List Int) := r
noncomputable def E_28 : Entry where
 params := [.v .int, .v .int]
 results := [.v .int]
 B := Int
 run := fun a => spec_l21Inverse a.1 a.2
 out := fun b => ((), ())
 res := fun b => b
noncomputable def S_28L2 (n : Nat) : LoopSpec where
 sh := [(0, .v .int), (1, .v .int), (5, .v .int)]
 ex := [(.exit 0, [(5, .v .int)])]
 run := spec_l21Inverse_L2 n
noncomputable def C_28 : Cx where
 tt := tblTT tt
 T := tblT []
 L := tblL [(2, S_28L2 fuel)]
 dep := fun i => 0
 n := 2
noncomputable def B_28L2 : Code := (Try.f205.body.bind (loopBody 2)).getD .skip
noncomputable def D_28 : Code := Try.f205.body.getD .skip
noncomputable def N_28 (_ : outs [.v .int, .v .int]) (r : dens [.v .int]) : Int := r
noncomputable def E_29 : Entry where
 params := [.v .int, .v (.slice .int), .v (.slice .int), .v .int]
 results := [.mv .int 0]
 B := (List Int)
 run := fun a => spec_l21Less a.1 a.2.1 a.2.2.1 a.2.2.2
 out := fun b => ((), (), (), ())
 res := fun b => b
noncomputable def S_29L3 (n : Nat) : LoopSpec where
 sh := [(0, .v .int), (1, .v (.slice .int)), (2, .v (.slice .int)), (3, .v .int), (9, .mv .int 0), (10, .v .int)]
 ex := [(.exit 0, [(9, .mv .int 0)])]
 run := spec_l21Less_L3 n
noncomputable def C_29 : Cx where
 tt := tblTT tt
 T := tblT []
 L := tblL [(3, S_29L3 fuel)]
 dep := fun i => 0
 n := 4
noncomputable def B_29L3 : Code := (Try.f142.body.bind (loopBody 3)).getD .skip
noncomputable def D_29 : Code := Try.f142.body.getD .skip
noncomputable def N_29 (_ : outs [.v .int, .v (.slice .int), .v (.slice .int), .v .int]) (r : dens [.mv .int 0]) : (List Int) := r
noncomputable def E_30 : Entry where
 params := [.v .int, .v .int, .v (.slice (.slice .int))]
 results := [.pr (.mv (.slice .int) 0) (.pr (.mv .int 0) (.v (.slice (.slice .int))))]
 B := ((List (List Int)) × ((List Int) × (List (List Int))))
 run := fun a => spec_l21Eliminate a.1 a.2.1 a.2.2
 out := fun b => ((), (), ())
 res := fun b => b
noncomputable def S_30L3 (n : Nat) : LoopSpec where
 sh := [(0, .v .int), (1, .v .int), (2, .v (.slice (.slice .int))), (6, .bx (.pr (.mv (.slice .int) 0) (.pr (.mv .int 0) (.mv (.slice .int) 0)))), (7, .bx (.pr (.mv (.slice .int) 0) (.pr (.mv .int 0) (.mv (.slice .int) 0)))), (8, .v .int)]
 ex := [(.exit 0, [(0, .v .int), (1, .v .int), (6, .bx (.pr (.mv (.slice .int) 0) (.pr (.mv .int 0) (.mv (.slice .int) 0)))), (7, .bx (.pr (.mv (.slice .int) 0) (.pr (.mv .int 0) (.mv (.slice .int) 0))))])]
 run := spec_l21Eliminate_L3 n
noncomputable def S_30L10 (n : Nat) : LoopSpec where
 sh := [(0, .v .int), (1, .v .int), (6, .bx (.pr (.mv (.slice .int) 0) (.pr (.mv .int 0) (.v (.slice (.slice .int)))))), (7, .bx (.pr (.mv (.slice .int) 0) (.pr (.mv .int 0) (.v (.slice (.slice .int)))))), (9, .v .int), (10, .v .int)]
 ex := [(.exit 4, [(0, .v .int), (1, .v .int), (6, .bx (.pr (.mv (.slice .int) 0) (.pr (.mv .int 0) (.v (.slice (.slice .int)))))), (7, .bx (.pr (.mv (.slice .int) 0) (.pr (.mv .int 0) (.v (.slice (.slice .int)))))), (9, .v .int), (10, .v .int)])]
 run := spec_l21Eliminate_L10 n
noncomputable def S_30L16 (n : Nat) : LoopSpec where
 sh := [(0, .v .int), (1, .v .int), (6, .bx (.pr (.mv (.slice .int) 0) (.pr (.mv .int 0) (.v (.slice (.slice .int)))))), (7, .bx (.pr (.mv (.slice .int) 0) (.pr (.mv .int 0) (.v (.slice (.slice .int)))))), (9, .v .int), (11, .mv .int 0), (12, .mv (.slice .int) 0), (13, .v .int)]
 ex := [(.exit 6, [(0, .v .int), (1, .v .int), (6, .bx (.pr (.mv (.slice .int) 0) (.pr (.mv .int 0) (.v (.slice (.slice .int)))))), (7, .bx (.pr (.mv (.slice .int) 0) (.pr (.mv .int 0) (.v (.slice (.slice .int)))))), (9, .v .int), (11, .mv .int 0), (12, .mv (.slice .int) 0)])]
 run := spec_l21Eliminate_L16 n
noncomputable def S_30L20 (n : Nat) : LoopSpec where
 sh := [(0, .v .int), (1, .v .int), (6, .bx (.pr (.mv (.slice .int) 0) (.pr (.mv .int 0) (.v (.slice (.slice .int)))))), (7, .bx (.pr (.mv (.slice .int) 0) (.pr (.mv .int 0) (.v (.slice (.slice .int)))))), (9, .v .int), (11, .mv .int 0), (12, .mv (.slice .int) 0), (14, .v .int)]
 ex := [(.exit 8, [(0, .v .int), (1, .v .int), (6, .bx (.pr (.mv (.slice .int) 0) (.pr (.mv .int 0) (.v (.slice (.slice .int)))))), (7, .bx (.pr (.mv (.slice .int) 0) (.pr (.mv .int 0) (.v (.slice (.slice .int)))))), (9, .v .int), (11, .mv .int 0), (12, .mv (.slice .int) 0)])]
 run := spec_l21Eliminate_L20 n
noncomputable def S_30L7 (n : Nat) : LoopSpec where
 sh := [(0, .v .int), (1, .v .int), (6, .bx (.pr (.mv (.slice .int) 0) (.pr (.mv .int 0) (.v (.slice (.slice .int)))))), (7, .bx (.pr (.mv (.slice .int) 0) (.pr (.mv .int 0) (.v (.slice (.slice .int)))))), (9, .v .int)]
 ex := [(.exit 2, [(6, .bx (.pr (.mv (.slice .int) 0) (.pr (.mv .int 0) (.v (.slice (.slice .int)))))), (7, .bx (.pr (.mv (.slice .int) 0) (.pr (.mv .int 0) (.v (.slice (.slice .int))))))])]
 run := spec_l21Eliminate_L7 n
noncomputable def C_30 : Cx where
 tt := tblTT tt
 T := tblT [(141, E_27), (142, E_29), (202, E_6), (205, E_28)]
 L := tblL [(3, S_30L3 fuel), (10, S_30L10 fuel), (16, S_30L16 fuel), (20, S_30L20 fuel), (7, S_30L7 fuel)]
 dep := fun i => 0
 n := 3
noncomputable def B_30L3 : Code := (Try.f185.body.bind (loopBody 3)).getD .skip
noncomputable def B_30L10 : Code := (Try.f185.body.bind (loopBody 10)).getD .skip
noncomputable def B_30L16 : Code := (Try.f185.body.bind (loopBody 16)).getD .skip
noncomputable def B_30L20 : Code := (Try.f185.body.bind (loopBody 20)).getD .skip
noncomputable def B_30L7 : Code := (Try.f185.body.bind (loopBody 7)).getD .skip
noncomputable def D_30 : Code := Try.f185.body.getD .skip
noncomputable def N_30 (_ : outs [.v .int, .v .int, .v (.slice (.slice .int))]) (r : dens [.pr (.mv (.slice .int) 0) (.pr (.mv .int 0) (.v (.slice (.slice .int))))]) : ((List (List Int)) × ((List Int) × (List (List Int)))) := r
noncomputable def E_31 : Entry where
 params := [.v (.pair .int (.pair .int (.slice (.slice .int))))]
 results := [.pr (.mv (.slice .int) 0) (.pr (.mv .int 0) (.v (.slice (.slice .int))))]
 B := ((List (List Int)) × ((List Int) × (List (List Int))))
 run := fun a => spec_l21Of a
 out := fun b => ()
 res := fun b => b
noncomputable def C_31 : Cx where
 tt := tblTT tt
 T := tblT [(185, E_30)]
 L := tblL []
 dep := fun i => 0
 n := 1
noncomputable def D_31 : Code := Try.f128.body.getD .skip
noncomputable def N_31 (_ : outs [.v (.pair .int (.pair .int (.slice (.slice .int))))]) (r : dens [.pr (.mv (.slice .int) 0) (.pr (.mv .int 0) (.v (.slice (.slice .int))))]) : ((List (List Int)) × ((List Int) × (List (List Int)))) := r
noncomputable def E_32 : Entry where
 params := [.v (.pair .int (.pair .int (.slice (.slice .int))))]
 results := [.pr (.v .int) (.pr (.v .int) (.mv (.slice .int) 0)), .v .bool]
 B := (Int × (Int × (List (List Int)))) × Bool
 run := fun a => spec_Eliminate a
 out := fun b => ()
 res := fun b => (b.1, b.2)
noncomputable def S_32L6 (n : Nat) : LoopSpec where
 sh := [(1, .bx (.v (.pair .int (.pair .int (.slice (.slice .int)))))), (2, .bx (.pr (.v .int) (.pr (.v .int) (.mv (.slice .int) 0)))), (4, .bx (.pr (.jk 1) (.pr (.mv .int 0) (.v (.slice (.slice .int)))))), (5, .bx (.pr (.v .int) (.pr (.v .int) (.mv (.slice .int) 0)))), (6, .v .int)]
 ex := [(.exit 0, [(2, .bx (.pr (.v .int) (.pr (.v .int) (.mv (.slice .int) 0)))), (5, .bx (.pr (.v .int) (.pr (.v .int) (.mv (.slice .int) 0))))])]
 run := spec_Eliminate_L6 n
noncomputable def C_32 : Cx where
 tt := tblTT tt
 T := tblT [(127, E_26), (128, E_31)]
 L := tblL [(6, S_32L6 fuel)]
 dep := fun i => 0
 n := 1
noncomputable def B_32L6 : Code := (Try.f47.body.bind (loopBody 6)).getD .skip
noncomputable def D_32 : Code := Try.f47.body.getD .skip
noncomputable def N_32 (_ : outs [.v (.pair .int (.pair .int (.slice (.slice .int))))]) (r : dens [.pr (.v .int) (.pr (.v .int) (.mv (.slice .int) 0)), .v .bool]) : (Int × (Int × (List (List Int)))) × Bool := (r.1, r.2)
noncomputable def E_33 : Entry where
 params := [.v (.slice .int), .v (.slice .int)]
 results := [.v .bool]
 B := Bool
 run := fun a => laws_vInts a.1 a.2
 out := fun b => ((), ())
 res := fun b => b
noncomputable def S_33L4 (n : Nat) : LoopSpec where
 sh := [(0, .v (.slice .int)), (1, .v (.slice .int)), (5, .v .int)]
 ex := [(.exit 0, []), (.ret, [(4, .v .bool)])]
 run := laws_vInts_L4 n
noncomputable def C_33 : Cx where
 tt := tblTT tt
 T := tblT []
 L := tblL [(4, S_33L4 fuel)]
 dep := fun i => 0
 n := 2
noncomputable def B_33L4 : Code := (Try.f52.body.bind (loopBody 4)).getD .skip
noncomputable def D_33 : Code := Try.f52.body.getD .skip
noncomputable def N_33 (_ : outs [.v (.slice .int), .v (.slice .int)]) (r : dens [.v .bool]) : Bool := r
noncomputable def E_34 : Entry where
 params := [.v (.slice (.slice .int)), .v (.slice (.slice .int))]
 results := [.v .bool]
 B := Bool
 run := fun a => laws_vTable a.1 a.2
 out := fun b => ((), ())
 res := fun b => b
noncomputable def S_34L4 (n : Nat) : LoopSpec where
 sh := [(0, .v (.slice (.slice .int))), (1, .v (.slice (.slice .int))), (5, .v .int)]
 ex := [(.exit 0, []), (.ret, [(4, .v .bool)])]
 run := laws_vTable_L4 n
noncomputable def C_34 : Cx where
 tt := tblTT tt
 T := tblT [(52, E_33)]
 L := tblL [(4, S_34L4 fuel)]
 dep := fun i => 0
 n := 2
noncomputable def B_34L4 : Code := (Try.f57.body.bind (loopBody 4)).getD .skip
noncomputable def D_34 : Code := Try.f57.body.getD .skip
noncomputable def N_34 (_ : outs [.v (.slice (.slice .int)), .v (.slice (.slice .int))]) (r : dens [.v .bool]) : Bool := r
noncomputable def E_35 : Entry where
 params := [.v (.pair .int (.pair .int (.slice (.slice .int)))), .v (.pair .int (.pair .int (.slice (.slice .int))))]
 results := [.v .bool]
 B := Bool
 run := fun a => laws_vLinear a.1 a.2
 out := fun b => ((), ())
 res := fun b => b
noncomputable def C_35 : Cx where
 tt := tblTT tt
 T := tblT [(57, E_34)]
 L := tblL []
 dep := fun i => 0
 n := 2
noncomputable def D_35 : Code := Try.f49.body.getD .skip
noncomputable def N_35 (_ : outs [.v (.pair .int (.pair .int (.slice (.slice .int)))), .v (.pair .int (.pair .int (.slice (.slice .int))))]) (r : dens [.v .bool]) : Bool := r
noncomputable def E_36 : Entry where
 params := [.bx (.pr (.v .int) (.pr (.v .int) (.pr (.mv (.slice .int) 1) (.pr (.v .int) (.mv .int 0)))))]
 results := [.mv .int 0]
 B := (Int × (Int × ((List (List Int)) × (Int × (List Int))))) × (List Int)
 run := fun a => impl_eliminated_freeVars a
 out := fun b => b.1
 res := fun b => b.2
noncomputable def S_36L3 (n : Nat) : LoopSpec where
 sh := [(21474902026, .jk 1), (0, .bx (.pr (.v .int) (.pr (.v .int) (.pr (.mv (.slice .int) 1) (.pr (.v .int) (.mv .int 0)))))), (3, .mv .int 0), (11, .v .int), (12, .v .int)]
 ex := [(.exit 0, [(0, .bx (.pr (.v .int) (.pr (.v .int) (.pr (.mv (.slice .int) 1) (.pr (.v .int) (.mv .int 0)))))), (3, .mv .int 0)])]
 run := impl_eliminated_freeVars_L3 n
noncomputable def C_36 : Cx where
 tt := tblTT tt
 T := tblT []
 L := tblL [(3, S_36L3 fuel)]
 dep := fun i => 0
 n := 1
noncomputable def B_36L3 : Code := (Try.f132.body.bind (loopBody 3)).getD .skip
noncomputable def D_36 : Code := Try.f132.body.getD .skip
noncomputable def N_36 (o : outs [.bx (.pr (.v .int) (.pr (.v .int) (.pr (.mv (.slice .int) 1) (.pr (.v .int) (.mv .int 0)))))]) (r : dens [.mv .int 0]) : (Int × (Int × ((List (List Int)) × (Int × (List Int))))) × (List Int) := (o, r)
noncomputable def E_37 : Entry where
 params := [.bx (.pr (.v .int) (.pr (.v .int) (.pr (.mv (.slice .int) 1) (.pr (.v .int) (.mv .int 0))))), .v (.slice .int)]
 results := [.mv .int 0]
 B := (Int × (Int × ((List (List Int)) × (Int × (List Int))))) × (List Int)
 run := fun a => impl_eliminated_solution a.1 a.2
 out := fun b => (b.1, ())
 res := fun b => b.2
noncomputable def S_37L4 (n : Nat) : LoopSpec where
 sh := [(458773, .jk 1), (0, .bx (.pr (.v .int) (.pr (.v .int) (.pr (.mv (.slice .int) 1) (.pr (.v .int) (.mv .int 0)))))), (1, .v (.slice .int)), (5, .mv .int 0), (6, .mv .int 0), (22, .v .int), (23, .v .int)]
 ex := [(.exit 0, [(0, .bx (.pr (.v .int) (.pr (.v .int) (.pr (.mv (.slice .int) 1) (.pr (.v .int) (.mv .int 0)))))), (1, .v (.slice .int)), (5, .mv .int 0), (6, .mv .int 0)])]
 run := impl_eliminated_solution_L4 n
noncomputable def S_37L14 (n : Nat) : LoopSpec where
 sh := [(21474902055, .jk 1), (458813, .jk 1), (0, .bx (.pr (.v .int) (.pr (.v .int) (.pr (.mv (.slice .int) 1) (.pr (.v .int) (.mv .int 0)))))), (1, .v (.slice .int)), (5, .mv .int 0), (6, .mv .int 0), (9, .v .int), (10, .v .int), (11, .v .int), (40, .v .int), (41, .v .int), (62, .v .int), (63, .v .int)]
 ex := [(.exit 4, [(21474902055, .jk 1), (0, .bx (.pr (.v .int) (.pr (.v .int) (.pr (.mv (.slice .int) 1) (.pr (.v .int) (.mv .int 0)))))), (1, .v (.slice .int)), (5, .mv .int 0), (6, .mv .int 0), (9, .v .int), (11, .v .int), (40, .v .int), (41, .v .int)])]
 run := impl_eliminated_solution_L14 n
noncomputable def S_37L9 (n : Nat) : LoopSpec where
 sh := [(21474902055, .jk 1), (0, .bx (.pr (.v .int) (.pr (.v .int) (.pr (.mv (.slice .int) 1) (.pr (.v .int) (.mv .int 0)))))), (1, .v (.slice .int)), (5, .mv .int 0), (6, .mv .int 0), (40, .v .int), (41, .v .int)]
 ex := [(.exit 2, [(0, .bx (.pr (.v .int) (.pr (.v .int) (.pr (.mv (.slice .int) 1) (.pr (.v .int) (.mv .int 0)))))), (5, .mv .int 0)])]
 run := impl_eliminated_solution_L9 n
noncomputable def C_37 : Cx where
 tt := tblTT tt
 T := tblT [(132, E_36)]
 L := tblL [(4, S_37L4 fuel), (14, S_37L14 fuel), (9, S_37L9 fuel)]
 dep := fun i => 0
 n := 2
noncomputable def B_37L4 : Code := (Try.f138.body.bind (loopBody 4)).getD .skip
noncomputable def B_37L14 : Code := (Try.f138.body.bind (loopBody 14)).getD .skip
noncomputable def B_37L9 : Code := (Try.f138.body.bind (loopBody 9)).getD .skip
noncomputable def D_37 : Code := Try.f138.body.getD .skip
noncomputable def N_37 (o : outs [.bx (.pr (.v .int) (.pr (.v .int) (.pr (.mv (.slice .int) 1) (.pr (.v .int) (.mv .int 0))))), .v (.slice .int)]) (r : dens [.mv .int 0]) : (Int × (Int × ((List (List Int)) × (Int × (List Int))))) × (List Int) := (o.1, r)
noncomputable def E_38 : Entry where
 params := [.v (.ptr (.pair .int (.pair .int (.pair (.slice (.slice .int)) (.pair .int (.slice .int))))))]
 results := [.v .bool]
 B := Bool
 run := fun a => impl_eliminated_fails_p a
 out := fun b => ()
 res := fun b => b
noncomputable def S_38L2 (n : Nat) : LoopSpec where
 sh := [(0, .v (.ptr (.pair .int (.pair .int (.pair (.slice (.slice .int)) (.pair .int (.slice .int))))))), (13, .v (.slice (.slice .int))), (14, .v .int), (15, .v .int)]
 ex := [(.exit 0, []), (.ret, [(2, .v .bool)])]
 run := impl_eliminated_fails_p_L2 n
noncomputable def C_38 : Cx where
 tt := tblTT tt
 T := tblT []
 L := tblL [(2, S_38L2 fuel)]
 dep := fun i => 0
 n := 1
noncomputable def B_38L2 : Code := (Try.f136.body.bind (loopBody 2)).getD .skip
noncomputable def D_38 : Code := Try.f136.body.getD .skip
noncomputable def N_38 (_ : outs [.v (.ptr (.pair .int (.pair .int (.pair (.slice (.slice .int)) (.pair .int (.slice .int))))))]) (r : dens [.v .bool]) : Bool := r
noncomputable def E_39 : Entry where
 params := [.v (.ptr (.pair .int (.pair .int (.pair (.slice (.slice .int)) (.pair .int (.slice .int))))))]
 results := [.mv .int 0]
 B := (List Int)
 run := fun a => impl_eliminated_freeVars_p a
 out := fun b => ()
 res := fun b => b
noncomputable def S_39L3 (n : Nat) : LoopSpec where
 sh := [(3, .mv .int 0), (10, .v (.slice .int)), (11, .v .int), (12, .v .int)]
 ex := [(.exit 0, [(3, .mv .int 0)])]
 run := impl_eliminated_freeVars_p_L3 n
noncomputable def C_39 : Cx where
 tt := tblTT tt
 T := tblT []
 L := tblL [(3, S_39L3 fuel)]
 dep := fun i => 0
 n := 1
noncomputable def B_39L3 : Code := (Try.f132.body.bind (loopBody 3)).getD .skip
noncomputable def D_39 : Code := Try.f132.body.getD .skip
noncomputable def N_39 (_ : outs [.v (.ptr (.pair .int (.pair .int (.pair (.slice (.slice .int)) (.pair .int (.slice .int))))))]) (r : dens [.mv .int 0]) : (List Int) := r
noncomputable def E_40 : Entry where
 params := [.v (.ptr (.pair .int (.pair .int (.pair (.slice (.slice .int)) (.pair .int (.slice .int)))))), .v (.slice .int)]
 results := [.mv .int 0]
 B := (List Int)
 run := fun a => impl_eliminated_solution_p a.1 a.2
 out := fun b => ((), ())
 res := fun b => b
noncomputable def S_40L4 (n : Nat) : LoopSpec where
 sh := [(458773, .jk 1), (0, .v (.ptr (.pair .int (.pair .int (.pair (.slice (.slice .int)) (.pair .int (.slice .int))))))), (1, .v (.slice .int)), (5, .mv .int 0), (6, .mv .int 0), (22, .v .int), (23, .v .int)]
 ex := [(.exit 0, [(0, .v (.ptr (.pair .int (.pair .int (.pair (.slice (.slice .int)) (.pair .int (.slice .int))))))), (1, .v (.slice .int)), (5, .mv .int 0), (6, .mv .int 0)])]
 run := impl_eliminated_solution_p_L4 n
noncomputable def S_40L14 (n : Nat) : LoopSpec where
 sh := [(458813, .jk 1), (0, .v (.ptr (.pair .int (.pair .int (.pair (.slice (.slice .int)) (.pair .int (.slice .int))))))), (1, .v (.slice .int)), (5, .mv .int 0), (6, .mv .int 0), (9, .v .int), (10, .v .int), (11, .v .int), (39, .v (.slice .int)), (40, .v .int), (41, .v .int), (62, .v .int), (63, .v .int)]
 ex := [(.exit 4, [(0, .v (.ptr (.pair .int (.pair .int (.pair (.slice (.slice .int)) (.pair .int (.slice .int))))))), (1, .v (.slice .int)), (5, .mv .int 0), (6, .mv .int 0), (9, .v .int), (11, .v .int), (39, .v (.slice .int)), (40, .v .int), (41, .v .int)])]
 run := impl_eliminated_solution_p_L14 n
noncomputable def S_40L9 (n : Nat) : LoopSpec where
 sh := [(0, .v (.ptr (.pair .int (.pair .int (.pair (.slice (.slice .int)) (.pair .int (.slice .int))))))), (1, .v (.slice .int)), (5, .mv .int 0), (6, .mv .int 0), (39, .v (.slice .int)), (40, .v .int), (41, .v .int)]
 ex := [(.exit 2, [(5, .mv .int 0)])]
 run := impl_eliminated_solution_p_L9 n
noncomputable def C_40 : Cx where
 tt := tblTT tt
 T := tblT [(132, E_39)]
 L := tblL [(4, S_40L4 fuel), (14, S_40L14 fuel), (9, S_40L9 fuel)]
 dep := fun i => 0
 n := 2
noncomputable def B_40L4 : Code := (Try.f138.body.bind (loopBody 4)).getD .skip
noncomputable def B_40L14 : Code := (Try.f138.body.bind (loopBody 14)).getD .skip
noncomputable def B_40L9 : Code := (Try.f138.body.bind (loopBody 9)).getD .skip
noncomputable def D_40 : Code := Try.f138.body.getD .skip
noncomputable def N_40 (_ : outs [.v (.ptr (.pair .int (.pair .int (.pair (.slice (.slice .int)) (.pair .int (.slice .int)))))), .v (.slice .int)]) (r : dens [.mv .int 0]) : (List Int) := r
noncomputable def E_41 : Entry where
 params := [.v (.ptr (.pair .int (.pair .int (.pair (.slice (.slice .int)) (.pair .int (.slice .int))))))]
 results := [.mv .int 0, .v .bool]
 B := (List Int) × Bool
 run := fun a => impl_eliminated_leastSolution_p a
 out := fun b => ()
 res := fun b => (b.1, b.2)
noncomputable def C_41 : Cx where
 tt := tblTT tt
 T := tblT [(136, E_38), (138, E_40)]
 L := tblL []
 dep := fun i => 0
 n := 1
noncomputable def D_41 : Code := Try.f130.body.getD .skip
noncomputable def N_41 (_ : outs [.v (.ptr (.pair .int (.pair .int (.pair (.slice (.slice .int)) (.pair .int (.slice .int))))))]) (r : dens [.mv .int 0, .v .bool]) : (List Int) × Bool := (r.1, r.2)
noncomputable def E_42 : Entry where
 params := [.v (.pair .int (.pair .int (.slice (.slice .int))))]
 results := [.mv .int 0, .v .bool]
 B := (List Int) × Bool
 run := fun a => impl_SolveLinear a
 out := fun b => ()
 res := fun b => (b.1, b.2)
noncomputable def C_42 : Cx where
 tt := tblTT tt
 T := tblT [(48, E_12), (126, E_18), (130, E_41)]
 L := tblL []
 dep := fun i => 0
 n := 1
noncomputable def D_42 : Code := Try.f50.body.getD .skip
noncomputable def N_42 (_ : outs [.v (.pair .int (.pair .int (.slice (.slice .int))))]) (r : dens [.mv .int 0, .v .bool]) : (List Int) × Bool := (r.1, r.2)
noncomputable def E_43 : Entry where
 params := [.v (.pair (.slice (.slice .int)) (.pair (.slice .int) (.slice (.slice .int)))), .v .int]
 results := [.v .bool]
 B := Bool
 run := fun a => spec_l21Empty a.1 a.2
 out := fun b => ((), ())
 res := fun b => b
noncomputable def S_43L2 (n : Nat) : LoopSpec where
 sh := [(1, .v .int), (2, .bx (.v (.pair (.slice (.slice .int)) (.pair (.slice .int) (.slice (.slice .int)))))), (5, .v .int)]
 ex := [(.exit 0, []), (.ret, [(4, .v .bool)])]
 run := spec_l21Empty_L2 n
noncomputable def C_43 : Cx where
 tt := tblTT tt
 T := tblT []
 L := tblL [(2, S_43L2 fuel)]
 dep := fun i => 0
 n := 2
noncomputable def B_43L2 : Code := (Try.f137.body.bind (loopBody 2)).getD .skip
noncomputable def D_43 : Code := Try.f137.body.getD .skip
noncomputable def N_43 (_ : outs [.v (.pair (.slice (.slice .int)) (.pair (.slice .int) (.slice (.slice .int)))), .v .int]) (r : dens [.v .bool]) : Bool := r
noncomputable def E_44 : Entry where
 params := [.v .int, .v .int, .v (.slice (.slice .int))]
 results := [.mv .int 0, .v .bool]
 B := (List Int) × Bool
 run := fun a => spec_l21Solve a.1 a.2.1 a.2.2
 out := fun b => ((), (), ())
 res := fun b => (b.1, b.2)
noncomputable def S_44L6 (n : Nat) : LoopSpec where
 sh := [(1, .v .int), (8, .bx (.pr (.mv (.slice .int) 0) (.pr (.mv .int 0) (.v (.slice (.slice .int)))))), (9, .mv .int 0), (10, .v .int)]
 ex := [(.exit 0, [(9, .mv .int 0)])]
 run := spec_l21Solve_L6 n
noncomputable def C_44 : Cx where
 tt := tblTT tt
 T := tblT [(137, E_43), (185, E_30)]
 L := tblL [(6, S_44L6 fuel)]
 dep := fun i => 0
 n := 3
noncomputable def B_44L6 : Code := (Try.f131.body.bind (loopBody 6)).getD .skip
noncomputable def D_44 : Code := Try.f131.body.getD .skip
noncomputable def N_44 (_ : outs [.v .int, .v .int, .v (.slice (.slice .int))]) (r : dens [.mv .int 0, .v .bool]) : (List Int) × Bool := (r.1, r.2)
noncomputable def E_45 : Entry where
 params := [.v (.pair .int (.pair .int (.slice (.slice .int))))]
 results := [.mv .int 0, .v .bool]
 B := (List Int) × Bool
 run := fun a => spec_SolveLinear a
 out := fun b => ()
 res := fun b => (b.1, b.2)
noncomputable def C_45 : Cx where
 tt := tblTT tt
 T := tblT [(127, E_26), (131, E_44)]
 L := tblL []
 dep := fun i => 0
 n := 1
noncomputable def D_45 : Code := Try.f51.body.getD .skip
noncomputable def N_45 (_ : outs [.v (.pair .int (.pair .int (.slice (.slice .int))))]) (r : dens [.mv .int 0, .v .bool]) : (List Int) × Bool := (r.1, r.2)
noncomputable def E_46 : Entry where
 params := [.v (.pair .int (.pair .int (.slice (.slice .int))))]
 results := [.mv .int 0, .v .bool]
 B := (List Int) × Bool
 run := fun a => impl_FreeVars a
 out := fun b => ()
 res := fun b => (b.1, b.2)
noncomputable def C_46 : Cx where
 tt := tblTT tt
 T := tblT [(48, E_12), (126, E_18), (132, E_39)]
 L := tblL []
 dep := fun i => 0
 n := 1
noncomputable def D_46 : Code := Try.f53.body.getD .skip
noncomputable def N_46 (_ : outs [.v (.pair .int (.pair .int (.slice (.slice .int))))]) (r : dens [.mv .int 0, .v .bool]) : (List Int) × Bool := (r.1, r.2)
noncomputable def E_47 : Entry where
 params := [.v (.slice .int), .v .int]
 results := [.v .bool]
 B := Bool
 run := fun a => spec_l1Has a.1 a.2
 out := fun b => ((), ())
 res := fun b => b
noncomputable def S_47L2 (n : Nat) : LoopSpec where
 sh := [(0, .v (.slice .int)), (1, .v .int), (5, .v .int)]
 ex := [(.exit 0, []), (.ret, [(4, .v .bool)])]
 run := spec_l1Has_L2 n
noncomputable def C_47 : Cx where
 tt := tblTT tt
 T := tblT []
 L := tblL [(2, S_47L2 fuel)]
 dep := fun i => 0
 n := 2
noncomputable def B_47L2 : Code := (Try.f186.body.bind (loopBody 2)).getD .skip
noncomputable def D_47 : Code := Try.f186.body.getD .skip
noncomputable def N_47 (_ : outs [.v (.slice .int), .v .int]) (r : dens [.v .bool]) : Bool := r
noncomputable def E_48 : Entry where
 params := [.v (.pair (.slice (.slice .int)) (.pair (.slice .int) (.slice (.slice .int)))), .v .int]
 results := [.mv .int 0]
 B := (List Int)
 run := fun a => spec_l21Free a.1 a.2
 out := fun b => ((), ())
 res := fun b => b
noncomputable def S_48L3 (n : Nat) : LoopSpec where
 sh := [(1, .v .int), (2, .bx (.v (.pair (.slice (.slice .int)) (.pair (.slice .int) (.slice (.slice .int)))))), (5, .mv .int 0), (6, .v .int)]
 ex := [(.exit 0, [(5, .mv .int 0)])]
 run := spec_l21Free_L3 n
noncomputable def C_48 : Cx where
 tt := tblTT tt
 T := tblT [(186, E_47)]
 L := tblL [(3, S_48L3 fuel)]
 dep := fun i => 0
 n := 2
noncomputable def B_48L3 : Code := (Try.f133.body.bind (loopBody 3)).getD .skip
noncomputable def D_48 : Code := Try.f133.body.getD .skip
noncomputable def N_48 (_ : outs [.v (.pair (.slice (.slice .int)) (.pair (.slice .int) (.slice (.slice .int)))), .v .int]) (r : dens [.mv .int 0]) : (List Int) := r
noncomputable def E_49 : Entry where
 params := [.v (.pair .int (.pair .int (.slice (.slice .int))))]
 results := [.mv .int 0, .v .bool]
 B := (List Int) × Bool
 run := fun a => spec_FreeVars a
 out := fun b => ()
 res := fun b => (b.1, b.2)
noncomputable def C_49 : Cx where
 tt := tblTT tt
 T := tblT [(127, E_26), (128, E_31), (133, E_48)]
 L := tblL []
 dep := fun i => 0
 n := 1
noncomputable def D_49 : Code := Try.f54.body.getD .skip
noncomputable def N_49 (_ : outs [.v (.pair .int (.pair .int (.slice (.slice .int))))]) (r : dens [.mv .int 0, .v .bool]) : (List Int) × Bool := (r.1, r.2)
noncomputable def E_50 : Entry where
 params := [.bx (.pr (.v .int) (.pr (.v .int) (.pr (.mv (.slice .int) 1) (.pr (.v .int) (.mv .int 0)))))]
 results := [.mv (.slice .int) 1]
 B := (Int × (Int × ((List (List Int)) × (Int × (List Int))))) × (List (List Int))
 run := fun a => impl_eliminated_kernel a
 out := fun b => b.1
 res := fun b => b.2
noncomputable def S_50L2 (n : Nat) : LoopSpec where
 sh := [(12884967436, .jk 1), (0, .bx (.pr (.v .int) (.pr (.v .int) (.pr (.mv (.slice .int) 1) (.pr (.v .int) (.mv .int 0)))))), (13, .v .int), (14, .v .int)]
 ex := [(.exit 0, [(0, .bx (.pr (.v .int) (.pr (.v .int) (.pr (.mv (.slice .int) 1) (.pr (.v .int) (.mv .int 0))))))])]
 run := impl_eliminated_kernel_L2 n
noncomputable def S_50L9 (n : Nat) : LoopSpec where
 sh := [(0, .bx (.pr (.v .int) (.pr (.v .int) (.pr (.mv (.slice .int) 1) (.pr (.v .int) (.mv .int 0)))))), (5, .mv (.slice .int) 1), (6, .mv .int 0), (29, .v .int), (30, .v .int)]
 ex := [(.exit 2, [(0, .bx (.pr (.v .int) (.pr (.v .int) (.pr (.mv (.slice .int) 1) (.pr (.v .int) (.mv .int 0)))))), (5, .mv (.slice .int) 1)])]
 run := impl_eliminated_kernel_L9 n
noncomputable def C_50 : Cx where
 tt := tblTT tt
 T := tblT [(132, E_36), (138, E_37)]
 L := tblL [(2, S_50L2 fuel), (9, S_50L9 fuel)]
 dep := fun i => match i with
  | 25 => 1
  | 43 => 1
  | 44 => 1
  | _ => 0
 n := 1
noncomputable def B_50L2 : Code := (Try.f134.body.bind (loopBody 2)).getD .skip
noncomputable def B_50L9 : Code := (Try.f134.body.bind (loopBody 9)).getD .skip
noncomputable def D_50 : Code := Try.f134.body.getD .skip
noncomputable def N_50 (o : outs [.bx (.pr (.v .int) (.pr (.v .int) (.pr (.mv (.slice .int) 1) (.pr (.v .int) (.mv .int 0)))))]) (r : dens [.mv (.slice .int) 1]) : (Int × (Int × ((List (List Int)) × (Int × (List Int))))) × (List (List Int)) := (o, r)
noncomputable def E_51 : Entry where
 params := [.v .int, .v .int, .v (.slice (.slice .int))]
 results := [.bx (.pr (.v .int) (.pr (.v .int) (.pr (.mv (.slice .int) 1) (.pr (.v .int) (.mv .int 0)))))]
 B := (Int × (Int × ((List (List Int)) × (Int × (List Int)))))
 run := fun a => impl_eliminate_b a.1 a.2.1 a.2.2
 out := fun b => ((), (), ())
 res := fun b => b
noncomputable def S_51L6 (n : Nat) : LoopSpec where
 sh := [(0, .v .int), (1, .v .int), (7, .bx (.pr (.v .int) (.pr (.v .int) (.pr (.mv (.slice .int) 1) (.pr (.v .int) (.mv .int 0)))))), (8, .v .int), (9, .v .int)]
 ex := [(.exit 2, [(0, .v .int), (1, .v .int), (7, .bx (.pr (.v .int) (.pr (.v .int) (.pr (.mv (.slice .int) 1) (.pr (.v .int) (.mv .int 0)))))), (8, .v .int), (9, .v .int)])]
 run := impl_eliminate_b_L6 n
noncomputable def S_51L14 (n : Nat) : LoopSpec where
 sh := [(12885426186, .v .int), (0, .v .int), (1, .v .int), (7, .bx (.pr (.v .int) (.pr (.v .int) (.pr (.mv (.slice .int) 1) (.pr (.v .int) (.mv .int 0)))))), (8, .v .int), (11, .v .int), (110, .v .int), (111, .v .int)]
 ex := [(.exit 4, [(12885426186, .v .int), (0, .v .int), (1, .v .int), (7, .bx (.pr (.v .int) (.pr (.v .int) (.pr (.mv (.slice .int) 1) (.pr (.v .int) (.mv .int 0)))))), (8, .v .int)])]
 run := impl_eliminate_b_L14 n
noncomputable def S_51L24 (n : Nat) : LoopSpec where
 sh := [(12885426186, .v .int), (12885426190, .v .int), (12885426305, .jk 1), (0, .v .int), (1, .v .int), (7, .bx (.pr (.v .int) (.pr (.v .int) (.pr (.mv (.slice .int) 1) (.pr (.v .int) (.mv .int 0)))))), (8, .v .int), (15, .v .int), (130, .v .int), (131, .v .int), (151, .v .int), (152, .v .int)]
 ex := [(.exit 8, [(12885426186, .v .int), (12885426305, .jk 1), (0, .v .int), (1, .v .int), (7, .bx (.pr (.v .int) (.pr (.v .int) (.pr (.mv (.slice .int) 1) (.pr (.v .int) (.mv .int 0)))))), (8, .v .int), (130, .v .int), (131, .v .int)])]
 run := impl_eliminate_b_L24 n
noncomputable def S_51L19 (n : Nat) : LoopSpec where
 sh := [(12885426186, .v .int), (12885426305, .jk 1), (0, .v .int), (1, .v .int), (7, .bx (.pr (.v .int) (.pr (.v .int) (.pr (.mv (.slice .int) 1) (.pr (.v .int) (.mv .int 0)))))), (8, .v .int), (130, .v .int), (131, .v .int)]
 ex := [(.exit 6, [(0, .v .int), (1, .v .int), (7, .bx (.pr (.v .int) (.pr (.v .int) (.pr (.mv (.slice .int) 1) (.pr (.v .int) (.mv .int 0)))))), (8, .v .int)])]
 run := impl_eliminate_b_L19 n
noncomputable def S_51L3 (n : Nat) : LoopSpec where
 sh := [(0, .v .int), (1, .v .int), (7, .bx (.pr (.v .int) (.pr (.v .int) (.pr (.mv (.slice .int) 1) (.pr (.v .int) (.mv .int 0)))))), (8, .v .int)]
 ex := [(.exit 0, [(7, .bx (.pr (.v .int) (.pr (.v .int) (.pr (.mv (.slice .int) 1) (.pr (.v .int) (.mv .int 0))))))])]
 run := impl_eliminate_b_L3 n
noncomputable def C_51 : Cx where
 tt := tblTT tt
 T := tblT [(81, E_15), (148, E_14), (203, E_16)]
 L := tblL [(6, S_51L6 fuel), (14, S_51L14 fuel), (24, S_51L24 fuel), (19, S_51L19 fuel), (3, S_51L3 fuel)]
 dep := fun i => match i with
  | 69 => 99
  | _ => 0
 n := 3
noncomputable def B_51L6 : Code := (Try.f182.body.bind (loopBody 6)).getD .skip
noncomputable def B_51L14 : Code := (Try.f182.body.bind (loopBody 14)).getD .skip
noncomputable def B_51L24 : Code := (Try.f182.body.bind (loopBody 24)).getD .skip
noncomputable def B_51L19 : Code := (Try.f182.body.bind (loopBody 19)).getD .skip
noncomputable def B_51L3 : Code := (Try.f182.body.bind (loopBody 3)).getD .skip
noncomputable def D_51 : Code := Try.f182.body.getD .skip
noncomputable def N_51 (_ : outs [.v .int, .v .int, .v (.slice (.slice .int))]) (r : dens [.bx (.pr (.v .int) (.pr (.v .int) (.pr (.mv (.slice .int) 1) (.pr (.v .int) (.mv .int 0)))))]) : (Int × (Int × ((List (List Int)) × (Int × (List Int))))) := r
noncomputable def E_52 : Entry where
 params := [.v (.pair .int (.pair .int (.slice (.slice .int))))]
 results := [.bx (.pr (.v .int) (.pr (.v .int) (.pr (.mv (.slice .int) 1) (.pr (.v .int) (.mv .int 0)))))]
 B := (Int × (Int × ((List (List Int)) × (Int × (List Int)))))
 run := fun a => impl_eliminateLinear_b a
 out := fun b => ()
 res := fun b => b
noncomputable def C_52 : Cx where
 tt := tblTT tt
 T := tblT [(182, E_51)]
 L := tblL []
 dep := fun i => 0
 n := 1
noncomputable def D_52 : Code := Try.f126.body.getD .skip
noncomputable def N_52 (_ : outs [.v (.pair .int (.pair .int (.slice (.slice .int))))]) (r : dens [.bx (.pr (.v .int) (.pr (.v .int) (.pr (.mv (.slice .int) 1) (.pr (.v .int) (.mv .int 0)))))]) : (Int × (Int × ((List (List Int)) × (Int × (List Int))))) := r
noncomputable def E_53 : Entry where
 params := [.v (.pair .int (.pair .int (.slice (.slice .int))))]
 results := [.mv (.slice .int) 1, .v .bool]
 B := (List (List Int)) × Bool
 run := fun a => impl_LinearKernel a
 out := fun b => ()
 res := fun b => (b.1, b.2)
noncomputable def C_53 : Cx where
 tt := tblTT tt
 T := tblT [(48, E_12), (126, E_52), (134, E_50)]
 L := tblL []
 dep := fun i => match i with
  | 7 => 1
  | _ => 0
 n := 1
noncomputable def D_53 : Code := Try.f55.body.getD .skip
noncomputable def N_53 (_ : outs [.v (.pair .int (.pair .int (.slice (.slice .int))))]) (r : dens [.mv (.slice .int) 1, .v .bool]) : (List (List Int)) × Bool := (r.1, r.2)
noncomputable def E_54 : Entry where
 params := [.v (.pair (.slice (.slice .int)) (.pair (.slice .int) (.slice (.slice .int)))), .v .int, .v .int]
 results := [.mv (.slice .int) 0]
 B := (List (List Int))
 run := fun a => spec_l21Kernel a.1 a.2.1 a.2.2
 out := fun b => ((), (), ())
 res := fun b => b
noncomputable def S_54L8 (n : Nat) : LoopSpec where
 sh := [(1, .v .int), (2, .v .int), (3, .bx (.v (.pair (.slice (.slice .int)) (.pair (.slice .int) (.slice (.slice .int)))))), (7, .mv (.slice .int) 0), (8, .mv .int 0), (9, .v .int), (10, .mv .int 0), (11, .v .int)]
 ex := [(.exit 2, [(1, .v .int), (2, .v .int), (3, .bx (.v (.pair (.slice (.slice .int)) (.pair (.slice .int) (.slice (.slice .int)))))), (7, .mv (.slice .int) 0), (8, .mv .int 0), (9, .v .int), (10, .mv .int 0)])]
 run := spec_l21Kernel_L8 n
noncomputable def S_54L3 (n : Nat) : LoopSpec where
 sh := [(1, .v .int), (2, .v .int), (3, .bx (.v (.pair (.slice (.slice .int)) (.pair (.slice .int) (.slice (.slice .int)))))), (7, .mv (.slice .int) 0), (8, .mv .int 0), (9, .v .int)]
 ex := [(.exit 0, [(7, .mv (.slice .int) 0)])]
 run := spec_l21Kernel_L3 n
noncomputable def C_54 : Cx where
 tt := tblTT tt
 T := tblT [(133, E_48)]
 L := tblL [(8, S_54L8 fuel), (3, S_54L3 fuel)]
 dep := fun i => 0
 n := 3
noncomputable def B_54L8 : Code := (Try.f135.body.bind (loopBody 8)).getD .skip
noncomputable def B_54L3 : Code := (Try.f135.body.bind (loopBody 3)).getD .skip
noncomputable def D_54 : Code := Try.f135.body.getD .skip
noncomputable def N_54 (_ : outs [.v (.pair (.slice (.slice .int)) (.pair (.slice .int) (.slice (.slice .int)))), .v .int, .v .int]) (r : dens [.mv (.slice .int) 0]) : (List (List Int)) := r
noncomputable def E_55 : Entry where
 params := [.v (.pair .int (.pair .int (.slice (.slice .int))))]
 results := [.mv (.slice .int) 0, .v .bool]
 B := (List (List Int)) × Bool
 run := fun a => spec_LinearKernel a
 out := fun b => ()
 res := fun b => (b.1, b.2)
noncomputable def C_55 : Cx where
 tt := tblTT tt
 T := tblT [(127, E_26), (128, E_31), (135, E_54)]
 L := tblL []
 dep := fun i => 0
 n := 1
noncomputable def D_55 : Code := Try.f56.body.getD .skip
noncomputable def N_55 (_ : outs [.v (.pair .int (.pair .int (.slice (.slice .int))))]) (r : dens [.mv (.slice .int) 0, .v .bool]) : (List (List Int)) × Bool := (r.1, r.2)
noncomputable def E_56 : Entry where
 params := [.v .int, .v .int]
 results := [.v .int]
 B := Int
 run := fun a => impl_power a.1 a.2
 out := fun b => ((), ())
 res := fun b => b
noncomputable def S_56L2 (n : Nat) : LoopSpec where
 sh := [(0, .v .int), (1, .v .int), (5, .v .int)]
 ex := [(.exit 0, [(5, .v .int)])]
 run := impl_power_L2 n
noncomputable def C_56 : Cx where
 tt := tblTT tt
 T := tblT []
 L := tblL [(2, S_56L2 fuel)]
 dep := fun i => 0
 n := 2
noncomputable def B_56L2 : Code := (Try.f66.body.bind (loopBody 2)).getD .skip
noncomputable def D_56 : Code := Try.f66.body.getD .skip
noncomputable def N_56 (_ : outs [.v .int, .v .int]) (r : dens [.v .int]) : Int := r
noncomputable def E_57 : Entry where
 params := [.v (.pair .int (.pair .int (.slice (.slice .int))))]
 results := [.v .int, .v .bool]
 B := Int × Bool
 run := fun a => impl_CountLinear a
 out := fun b => ()
 res := fun b => (b.1, b.2)
noncomputable def C_57 : Cx where
 tt := tblTT tt
 T := tblT [(48, E_12), (66, E_56), (126, E_18), (132, E_39), (136, E_38)]
 L := tblL []
 dep := fun i => 0
 n := 1
noncomputable def D_57 : Code := Try.f58.body.getD .skip
noncomputable def N_57 (_ : outs [.v (.pair .int (.pair .int (.slice (.slice .int))))]) (r : dens [.v .int, .v .bool]) : Int × Bool := (r.1, r.2)
noncomputable def E_58 : Entry where
 params := [.v .int, .v .int]
 results := [.v .int]
 B := Int
 run := fun a => spec_l2Pow a.1 a.2
 out := fun b => ((), ())
 res := fun b => b
noncomputable def S_58L2 (n : Nat) : LoopSpec where
 sh := [(0, .v .int), (1, .v .int), (5, .v .int)]
 ex := [(.exit 0, [(5, .v .int)])]
 run := spec_l2Pow_L2 n
noncomputable def C_58 : Cx where
 tt := tblTT tt
 T := tblT []
 L := tblL [(2, S_58L2 fuel)]
 dep := fun i => 0
 n := 2
noncomputable def B_58L2 : Code := (Try.f71.body.bind (loopBody 2)).getD .skip
noncomputable def D_58 : Code := Try.f71.body.getD .skip
noncomputable def N_58 (_ : outs [.v .int, .v .int]) (r : dens [.v .int]) : Int := r
noncomputable def E_59 : Entry where
 params := [.v (.pair .int (.pair .int (.slice (.slice .int))))]
 results := [.v .int, .v .bool]
 B := Int × Bool
 run := fun a => spec_CountLinear a
 out := fun b => ()
 res := fun b => (b.1, b.2)
noncomputable def C_59 : Cx where
 tt := tblTT tt
 T := tblT [(71, E_58), (127, E_26), (128, E_31), (137, E_43)]
 L := tblL []
 dep := fun i => 0
 n := 1
noncomputable def D_59 : Code := Try.f59.body.getD .skip
noncomputable def N_59 (_ : outs [.v (.pair .int (.pair .int (.slice (.slice .int))))]) (r : dens [.v .int, .v .bool]) : Int × Bool := (r.1, r.2)
noncomputable def E_60 : Entry where
 params := [.v .int, .v .int, .v .int]
 results := [.mv .int 0]
 B := (List Int)
 run := fun a => impl_argsAt a.1 a.2.1 a.2.2
 out := fun b => ((), (), ())
 res := fun b => b
noncomputable def S_60L3 (n : Nat) : LoopSpec where
 sh := [(0, .v .int), (2, .v .int), (7, .mv .int 0), (8, .v .int)]
 ex := [(.exit 0, [(7, .mv .int 0)])]
 run := impl_argsAt_L3 n
noncomputable def C_60 : Cx where
 tt := tblTT tt
 T := tblT []
 L := tblL [(3, S_60L3 fuel)]
 dep := fun i => 0
 n := 3
noncomputable def B_60L3 : Code := (Try.f68.body.bind (loopBody 3)).getD .skip
noncomputable def D_60 : Code := Try.f68.body.getD .skip
noncomputable def N_60 (_ : outs [.v .int, .v .int, .v .int]) (r : dens [.mv .int 0]) : (List Int) := r
noncomputable def E_61 : Entry where
 params := [.io (.slice .int) 1, .v (.fn 140)]
 results := []
 B := List (List Int)
 run := fun a => impl_sortRows_impl_compareLists a.1 a.2
 out := fun b => (b, ())
 res := fun b => ()
noncomputable def D_61 : Code := Try.f139.body.getD .skip
noncomputable def E_62 : Entry where
 params := [.v (.pair .int (.pair .int (.slice (.slice .int))))]
 results := [.mv (.slice .int) 1, .v .bool]
 B := (List (List Int)) × Bool
 run := fun a => impl_LinearSolutions a
 out := fun b => ()
 res := fun b => (b.1, b.2)
noncomputable def S_62L8 (n : Nat) : LoopSpec where
 sh := [(1, .bx (.v (.pair .int (.pair .int (.slice (.slice .int)))))), (4, .v .int), (6, .v (.ptr (.pair .int (.pair .int (.pair (.slice (.slice .int)) (.pair .int (.slice .int))))))), (7, .v .int), (8, .mv (.slice .int) 1), (9, .v .int)]
 ex := [(.exit 0, [(8, .mv (.slice .int) 1)])]
 run := impl_LinearSolutions_L8 n
noncomputable def C_62 : Cx where
 tt := tblTT tt
 T := tblT [(58, E_57), (68, E_60), (126, E_18), (132, E_39), (138, E_40), (9240715, E_61)]
 L := tblL [(8, S_62L8 fuel)]
 dep := fun i => match i with
  | 21 => 1
  | 27 => 1
  | 41 => 1
  | 42 => 1
  | _ => 0
 n := 1
noncomputable def B_62L8 : Code := (Try.f60.body.bind (loopBody 8)).getD .skip
noncomputable def D_62 : Code := Try.f60.body.getD .skip
noncomputable def N_62 (_ : outs [.v (.pair .int (.pair .int (.slice (.slice .int))))]) (r : dens [.mv (.slice .int) 1, .v .bool]) : (List (List Int)) × Bool := (r.1, r.2)
noncomputable def E_63 : Entry where
 params := [.v .int, .v .int, .v .int]
 results := [.mv .int 0]
 B := (List Int)
 run := fun a => spec_l2Args a.1 a.2.1 a.2.2
 out := fun b => ((), (), ())
 res := fun b => b
noncomputable def S_63L3 (n : Nat) : LoopSpec where
 sh := [(0, .v .int), (2, .v .int), (7, .mv .int 0), (8, .v .int)]
 ex := [(.exit 0, [(7, .mv .int 0)])]
 run := spec_l2Args_L3 n
noncomputable def C_63 : Cx where
 tt := tblTT tt
 T := tblT []
 L := tblL [(3, S_63L3 fuel)]
 dep := fun i => 0
 n := 3
noncomputable def B_63L3 : Code := (Try.f72.body.bind (loopBody 3)).getD .skip
noncomputable def D_63 : Code := Try.f72.body.getD .skip
noncomputable def N_63 (_ : outs [.v .int, .v .int, .v .int]) (r : dens [.mv .int 0]) : (List Int) := r
noncomputable def E_64 : Entry where
 params := [.v (.slice .int), .v (.slice .int)]
 results := [.v .bool]
 B := Bool
 run := fun a => spec_l3Less a.1 a.2
 out := fun b => ((), ())
 res := fun b => b
noncomputable def S_64L2 (n : Nat) : LoopSpec where
 sh := [(0, .v (.slice .int)), (1, .v (.slice .int)), (5, .v .int)]
 ex := [(.exit 0, []), (.ret, [(4, .v .bool)])]
 run := spec_l3Less_L2 n
noncomputable def C_64 : Cx where
 tt := tblTT tt
 T := tblT []
 L := tblL [(2, S_64L2 fuel)]
 dep := fun i => 0
 n := 2
noncomputable def B_64L2 : Code := (Try.f210.body.bind (loopBody 2)).getD .skip
noncomputable def D_64 : Code := Try.f210.body.getD .skip
noncomputable def N_64 (_ : outs [.v (.slice .int), .v (.slice .int)]) (r : dens [.v .bool]) : Bool := r
noncomputable def E_65 : Entry where
 params := [.v (.slice .int), .v (.slice .int)]
 results := [.v .bool]
 B := Bool
 run := fun a => spec_l1Same a.1 a.2
 out := fun b => ((), ())
 res := fun b => b
noncomputable def S_65L4 (n : Nat) : LoopSpec where
 sh := [(0, .v (.slice .int)), (1, .v (.slice .int)), (5, .v .int)]
 ex := [(.exit 0, []), (.ret, [(4, .v .bool)])]
 run := spec_l1Same_L4 n
noncomputable def C_65 : Cx where
 tt := tblTT tt
 T := tblT []
 L := tblL [(4, S_65L4 fuel)]
 dep := fun i => 0
 n := 2
noncomputable def B_65L4 : Code := (Try.f73.body.bind (loopBody 4)).getD .skip
noncomputable def D_65 : Code := Try.f73.body.getD .skip
noncomputable def N_65 (_ : outs [.v (.slice .int), .v (.slice .int)]) (r : dens [.v .bool]) : Bool := r
noncomputable def E_66 : Entry where
 params := [.v (.slice (.slice .int)), .v (.slice .int)]
 results := [.v .int, .v .bool]
 B := Int × Bool
 run := fun a => spec_l8Find a.1 a.2
 out := fun b => ((), ())
 res := fun b => (b.1, b.2)
noncomputable def S_66L2 (n : Nat) : LoopSpec where
 sh := [(0, .v (.slice (.slice .int))), (1, .v (.slice .int)), (6, .v .int), (7, .v .int)]
 ex := [(.exit 0, [(0, .v (.slice (.slice .int))), (1, .v (.slice .int)), (6, .v .int)])]
 run := spec_l8Find_L2 n
noncomputable def C_66 : Cx where
 tt := tblTT tt
 T := tblT [(73, E_65), (210, E_64)]
 L := tblL [(2, S_66L2 fuel)]
 dep := fun i => 0
 n := 2
noncomputable def B_66L2 : Code := (Try.f189.body.bind (loopBody 2)).getD .skip
noncomputable def D_66 : Code := Try.f189.body.getD .skip
noncomputable def N_66 (_ : outs [.v (.slice (.slice .int)), .v (.slice .int)]) (r : dens [.v .int, .v .bool]) : Int × Bool := (r.1, r.2)
noncomputable def E_67 : Entry where
 params := [.v (.slice (.slice .int)), .v (.slice .int)]
 results := [.v (.slice (.slice .int))]
 B := (List (List Int))
 run := fun a => spec_l8Put a.1 a.2
 out := fun b => ((), ())
 res := fun b => b
noncomputable def C_67 : Cx where
 tt := tblTT tt
 T := tblT [(189, E_66)]
 L := tblL []
 dep := fun i => 0
 n := 2
noncomputable def D_67 : Code := Try.f143.body.getD .skip
noncomputable def N_67 (_ : outs [.v (.slice (.slice .int)), .v (.slice .int)]) (r : dens [.v (.slice (.slice .int))]) : (List (List Int)) := r
noncomputable def E_68 : Entry where
 params := [.v (.pair .int (.pair .int (.slice (.slice .int))))]
 results := [.v (.slice (.slice .int)), .v .bool]
 B := (List (List Int)) × Bool
 run := fun a => spec_LinearSolutions a
 out := fun b => ()
 res := fun b => (b.1, b.2)
noncomputable def S_68L12 (n : Nat) : LoopSpec where
 sh := [(1, .bx (.v (.pair .int (.pair .int (.slice (.slice .int)))))), (4, .v (.slice (.slice .int))), (5, .v .int), (7, .mv .int 0), (8, .v .bool), (9, .mv (.slice .int) 0), (10, .v .int), (11, .mv .int 0), (12, .mv .int 0), (13, .v .int)]
 ex := [(.exit 2, [(1, .bx (.v (.pair .int (.pair .int (.slice (.slice .int)))))), (4, .v (.slice (.slice .int))), (5, .v .int), (7, .mv .int 0), (8, .v .bool), (9, .mv (.slice .int) 0), (10, .v .int), (11, .mv .int 0)])]
 run := spec_LinearSolutions_L12 n
noncomputable def S_68L8 (n : Nat) : LoopSpec where
 sh := [(1, .bx (.v (.pair .int (.pair .int (.slice (.slice .int)))))), (4, .v (.slice (.slice .int))), (5, .v .int), (7, .mv .int 0), (8, .v .bool), (9, .mv (.slice .int) 0), (10, .v .int)]
 ex := [(.exit 0, [(4, .v (.slice (.slice .int)))])]
 run := spec_LinearSolutions_L8 n
noncomputable def C_68 : Cx where
 tt := tblTT tt
 T := tblT [(59, E_59), (72, E_63), (128, E_31), (131, E_44), (135, E_54), (141, E_27), (142, E_29), (143, E_67)]
 L := tblL [(12, S_68L12 fuel), (8, S_68L8 fuel)]
 dep := fun i => 0
 n := 1
noncomputable def B_68L12 : Code := (Try.f61.body.bind (loopBody 12)).getD .skip
noncomputable def B_68L8 : Code := (Try.f61.body.bind (loopBody 8)).getD .skip
noncomputable def D_68 : Code := Try.f61.body.getD .skip
noncomputable def N_68 (_ : outs [.v (.pair .int (.pair .int (.slice (.slice .int))))]) (r : dens [.v (.slice (.slice .int)), .v .bool]) : (List (List Int)) × Bool := (r.1, r.2)
noncomputable def E_69 : Entry where
 params := [.v (.slice (.slice .int)), .v (.slice .int)]
 results := [.v .bool]
 B := Bool
 run := fun a => laws_vIn a.1 a.2
 out := fun b => ((), ())
 res := fun b => b
noncomputable def S_69L2 (n : Nat) : LoopSpec where
 sh := [(0, .v (.slice (.slice .int))), (1, .v (.slice .int)), (5, .v .int)]
 ex := [(.exit 0, []), (.ret, [(4, .v .bool)])]
 run := laws_vIn_L2 n
noncomputable def C_69 : Cx where
 tt := tblTT tt
 T := tblT [(52, E_33)]
 L := tblL [(2, S_69L2 fuel)]
 dep := fun i => 0
 n := 2
noncomputable def B_69L2 : Code := (Try.f62.body.bind (loopBody 2)).getD .skip
noncomputable def D_69 : Code := Try.f62.body.getD .skip
noncomputable def N_69 (_ : outs [.v (.slice (.slice .int)), .v (.slice .int)]) (r : dens [.v .bool]) : Bool := r
noncomputable def E_70 : Entry where
 params := [.v (.slice (.num .u8))]
 results := [.v .bool]
 B := Bool
 run := fun a => laws_FnLinear a
 out := fun b => ()
 res := fun b => b
noncomputable def S_70L32 (n : Nat) : LoopSpec where
 sh := [(3, .bx (.v (.pair .int (.pair .int (.slice (.slice .int)))))), (8, .mv .int 0), (9, .v .bool), (12, .mv .int 0), (16, .mv (.slice .int) 1), (20, .v .int), (28, .v .int), (29, .v .int)]
 ex := [(.exit 0, [(3, .bx (.v (.pair .int (.pair .int (.slice (.slice .int)))))), (8, .mv .int 0), (9, .v .bool), (16, .mv (.slice .int) 1), (20, .v .int), (28, .v .int)])]
 run := laws_FnLinear_L32 n
noncomputable def S_70L42 (n : Nat) : LoopSpec where
 sh := [(3, .bx (.v (.pair .int (.pair .int (.slice (.slice .int)))))), (8, .mv .int 0), (9, .v .bool), (16, .mv (.slice .int) 1), (20, .v .int), (30, .v .int), (31, .v .int), (32, .v .int)]
 ex := [(.exit 4, [(3, .bx (.v (.pair .int (.pair .int (.slice (.slice .int)))))), (8, .mv .int 0), (9, .v .bool), (16, .mv (.slice .int) 1), (20, .v .int), (30, .v .int), (31, .v .int)])]
 run := laws_FnLinear_L42 n
noncomputable def S_70L52 (n : Nat) : LoopSpec where
 sh := [(3, .bx (.v (.pair .int (.pair .int (.slice (.slice .int)))))), (8, .mv .int 0), (9, .v .bool), (16, .mv (.slice .int) 1), (20, .v .int), (30, .v .int), (31, .v .int), (33, .v .int), (34, .v .int)]
 ex := [(.exit 8, [(3, .bx (.v (.pair .int (.pair .int (.slice (.slice .int)))))), (8, .mv .int 0), (9, .v .bool), (16, .mv (.slice .int) 1), (20, .v .int), (30, .v .int), (31, .v .int), (33, .v .int)])]
 run := laws_FnLinear_L52 n
noncomputable def S_70L48 (n : Nat) : LoopSpec where
 sh := [(3, .bx (.v (.pair .int (.pair .int (.slice (.slice .int)))))), (8, .mv .int 0), (9, .v .bool), (16, .mv (.slice .int) 1), (20, .v .int), (30, .v .int), (33, .v .int)]
 ex := [(.exit 6, [(3, .bx (.v (.pair .int (.pair .int (.slice (.slice .int)))))), (8, .mv .int 0), (9, .v .bool), (16, .mv (.slice .int) 1), (20, .v .int), (30, .v .int)]), (.ret, [(2, .v .bool)])]
 run := laws_FnLinear_L48 n
noncomputable def S_70L38 (n : Nat) : LoopSpec where
 sh := [(3, .bx (.v (.pair .int (.pair .int (.slice (.slice .int)))))), (8, .mv .int 0), (9, .v .bool), (16, .mv (.slice .int) 1), (20, .v .int), (30, .v .int)]
 ex := [(.exit 2, [(3, .bx (.v (.pair .int (.pair .int (.slice (.slice .int)))))), (8, .mv .int 0), (9, .v .bool), (20, .v .int)]), (.ret, [(2, .v .bool)])]
 run := laws_FnLinear_L38 n
noncomputable def C_70 : Cx where
 tt := tblTT tt
 T := tblT [(44, E_1), (45, E_9), (46, E_20), (47, E_32), (48, E_12), (49, E_35), (50, E_42), (51, E_45), (52, E_33), (53, E_46), (54, E_49), (55, E_53), (56, E_55), (57, E_34), (58, E_57), (59, E_59), (60, E_62), (61, E_68), (62, E_69)]
 L := tblL [(32, S_70L32 fuel), (42, S_70L42 fuel), (52, S_70L52 fuel), (48, S_70L48 fuel), (38, S_70L38 fuel)]
 dep := fun i => 0
 n := 1
noncomputable def B_70L32 : Code := (Try.f6.body.bind (loopBody 32)).getD .skip
noncomputable def B_70L42 : Code := (Try.f6.body.bind (loopBody 42)).getD .skip
noncomputable def B_70L52 : Code := (Try.f6.body.bind (loopBody 52)).getD .skip
noncomputable def B_70L48 : Code := (Try.f6.body.bind (loopBody 48)).getD .skip
noncomputable def B_70L38 : Code := (Try.f6.body.bind (loopBody 38)).getD .skip
noncomputable def D_70 : Code := Try.f6.body.getD .skip
noncomputable def N_70 (_ : outs [.v (.slice (.num .u8))]) (r : dens [.v .bool]) : Bool := r
end T
