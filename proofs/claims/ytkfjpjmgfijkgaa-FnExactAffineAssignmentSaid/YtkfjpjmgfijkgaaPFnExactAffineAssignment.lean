/- Plain lemmas on the typed functions of the program, and the plain law of FnExactAffineAssignment; no conditions. -/
import Derived.Test.YtkfjpjmgfijkgaaV1
import Derived.Test.YtkfjpjmgfijkgaaV5
import Derived.Test.YtkfjpjmgfijkgaaOFnExactAffineAssignment
set_option linter.all false
open Go Go.Va
namespace T
section
variable {n : Int} {rels : List RelT}
end
def posL (V : List Int) (x : Nat) : Int := match V.findIdx? (fun y => y == (x : Int)) with | some i => (i : Int) | none => -1
section
variable {n : Nat} {t : List Int}
end
section
variable {n m : Nat} {t : List Int} {r : RelT} {rels : List RelT}
end
end T
set_option linter.unusedVariables false
open Go Go.Va
namespace T
def spec_l21Inverse_L2 : Nat → (Int × Int × Int) → Option (Int)
 | 0, _ => none
 | n + 1, (p, x, y) =>
  if p ≠ 0 then
   if (Int.tmod (w64 (x * y)) p) != 1 then
    spec_l21Inverse_L2 n (p, x, w64 (y + 1))
   else
    some y
  else none
def spec_l21Inverse (p : Int) (x : Int) : Option (Int) :=
 (spec_l21Inverse_L2 fuel (p, x, 1)).bind fun s1 =>
  some s1
def spec_l21Scale_L3 : Nat → (Int × (List Int) × Int × (List Int) × Int) → Option ((List Int))
 | 0, _ => none
 | n + 1, (p, row, by_, out, i) =>
  if decide (i < (row.length : Int)) then
   if inb i row then
    if p ≠ 0 then
     if out.length + [Int.tmod (w64 ((gd row i 0) * by_)) p].length ≤ lim then
      spec_l21Scale_L3 n (p, row, by_, out ++ [Int.tmod (w64 ((gd row i 0) * by_)) p], w64 (i + 1))
     else none
    else none
   else none
  else
   some out
def spec_l21Scale (p : Int) (row : List Int) (by_ : Int) : Option ((List Int)) :=
 (spec_l21Scale_L3 fuel (p, row, by_, [], 0)).bind fun s1 =>
  some s1
def spec_l21Eliminate_L3 : Nat → (Int × Int × (List (List Int)) × ((List (List Int)) × ((List Int) × (List (List Int)))) × ((List (List Int)) × ((List Int) × (List (List Int)))) × Int) → Option (Int × Int × ((List (List Int)) × ((List Int) × (List (List Int)))) × ((List (List Int)) × ((List Int) × (List (List Int)))))
 | 0, _ => none
 | n + 1, (t0, t1, t2, t6, t7, t8) =>
  if decide (t8 < (t2.length : Int)) then
   if inb t8 t2 then
    (spec_l1Own (gd t2 t8 [])).bind fun r1 =>
     if t7.2.2.length + [r1].length ≤ lim then
      spec_l21Eliminate_L3 n (t0, t1, t2, (t6.1, (t6.2.1, t6.2.2)), (t7.1, (t7.2.1, t7.2.2 ++ [r1])), w64 (t8 + 1))
     else none
   else none
  else
   some (t0, t1, (t6.1, (t6.2.1, t6.2.2)), (t7.1, (t7.2.1, t7.2.2)))
def spec_l21Eliminate_L10 : Nat → (Int × Int × ((List (List Int)) × ((List Int) × (List (List Int)))) × ((List (List Int)) × ((List Int) × (List (List Int)))) × Int × Int) → Option (Int × Int × ((List (List Int)) × ((List Int) × (List (List Int)))) × ((List (List Int)) × ((List Int) × (List (List Int)))) × Int × Int)
 | 0, _ => none
 | n + 1, (t0, t1, t6, t7, t9, t10) =>
  if decide (t10 < (t7.2.2.length : Int)) then
   if inb t10 t7.2.2 then
    if inb t9 (gd t7.2.2 t10 []) then
     if (gd (gd t7.2.2 t10 []) t9 0) == 0 then
      spec_l21Eliminate_L10 n (t0, t1, (t6.1, (t6.2.1, t6.2.2)), (t7.1, (t7.2.1, t7.2.2)), t9, w64 (t10 + 1))
     else
      some (t0, t1, (t6.1, (t6.2.1, t6.2.2)), (t7.1, (t7.2.1, t7.2.2)), t9, t10)
    else none
   else none
  else
   some (t0, t1, (t6.1, (t6.2.1, t6.2.2)), (t7.1, (t7.2.1, t7.2.2)), t9, t10)
def spec_l21Eliminate_L16 : Nat → (Int × Int × ((List (List Int)) × ((List Int) × (List (List Int)))) × ((List (List Int)) × ((List Int) × (List (List Int)))) × Int × (List Int) × (List (List Int)) × Int) → Option (Int × Int × ((List (List Int)) × ((List Int) × (List (List Int)))) × ((List (List Int)) × ((List Int) × (List (List Int)))) × Int × (List Int) × (List (List Int)))
 | 0, _ => none
 | n + 1, (t0, t1, t6, t7, t9, t11, t12, t13) =>
  if decide (t13 < (t12.length : Int)) then
   if inb t13 t12 then
    if inb t13 t12 then
     if inb t9 (gd t12 t13 []) then
      (spec_l21Less t0 (gd t12 t13 []) t11 (gd (gd t12 t13 []) t9 0)).bind fun r6 =>
       if inb t13 t12 then
        spec_l21Eliminate_L16 n (t0, t1, (t6.1, (t6.2.1, t6.2.2)), (t7.1, (t7.2.1, t7.2.2)), t9, t11, stt t12 t13 r6, w64 (t13 + 1))
       else none
     else none
    else none
   else none
  else
   some (t0, t1, (t6.1, (t6.2.1, t6.2.2)), (t7.1, (t7.2.1, t7.2.2)), t9, t11, t12)
def spec_l21Eliminate_L20 : Nat → (Int × Int × ((List (List Int)) × ((List Int) × (List (List Int)))) × ((List (List Int)) × ((List Int) × (List (List Int)))) × Int × (List Int) × (List (List Int)) × Int) → Option (Int × Int × ((List (List Int)) × ((List Int) × (List (List Int)))) × ((List (List Int)) × ((List Int) × (List (List Int)))) × Int × (List Int) × (List (List Int)))
 | 0, _ => none
 | n + 1, (t0, t1, t6, t7, t9, t11, t12, t14) =>
  if decide (t14 < (t7.1.length : Int)) then
   if inb t14 t7.1 then
    if inb t14 t7.1 then
     if inb t9 (gd t7.1 t14 []) then
      (spec_l21Less t0 (gd t7.1 t14 []) t11 (gd (gd t7.1 t14 []) t9 0)).bind fun r8 =>
       if inb t14 t7.1 then
        spec_l21Eliminate_L20 n (t0, t1, (t6.1, (t6.2.1, t6.2.2)), (stt t7.1 t14 r8, (t7.2.1, t7.2.2)), t9, t11, t12, w64 (t14 + 1))
       else none
     else none
    else none
   else none
  else
   some (t0, t1, (t6.1, (t6.2.1, t6.2.2)), (t7.1, (t7.2.1, t7.2.2)), t9, t11, t12)
def spec_l21Eliminate_L7 : Nat → (Int × Int × ((List (List Int)) × ((List Int) × (List (List Int)))) × ((List (List Int)) × ((List Int) × (List (List Int)))) × Int) → Option (((List (List Int)) × ((List Int) × (List (List Int)))) × ((List (List Int)) × ((List Int) × (List (List Int)))))
 | 0, _ => none
 | n + 1, (t0, t1, t6, t7, t9) =>
  if decide (t9 < t1) then
   (spec_l21Eliminate_L10 fuel (t0, t1, (t6.1, (t6.2.1, t6.2.2)), (t7.1, (t7.2.1, t7.2.2)), t9, 0)).bind fun s3 =>
    if s3.2.2.2.2.2 == (s3.2.2.2.1.2.2.length : Int) then
     spec_l21Eliminate_L7 n (s3.1, s3.2.1, (s3.2.2.1.1, (s3.2.2.1.2.1, s3.2.2.1.2.2)), (s3.2.2.2.1.1, (s3.2.2.2.1.2.1, s3.2.2.2.1.2.2)), w64 (s3.2.2.2.2.1 + 1))
    else
     if inb s3.2.2.2.2.2 s3.2.2.2.1.2.2 then
      if inb s3.2.2.2.2.2 s3.2.2.2.1.2.2 then
       if inb s3.2.2.2.2.1 (gd s3.2.2.2.1.2.2 s3.2.2.2.2.2 []) then
        (spec_l21Inverse s3.1 (gd (gd s3.2.2.2.1.2.2 s3.2.2.2.2.2 []) s3.2.2.2.2.1 0)).bind fun r4 =>
         (spec_l21Scale s3.1 (gd s3.2.2.2.1.2.2 s3.2.2.2.2.2 []) r4).bind fun r5 =>
          if (0 : Int) ≤ 0 ∧ 0 ≤ s3.2.2.2.2.2 ∧ s3.2.2.2.2.2 ≤ (s3.2.2.2.1.2.2.length : Int) then
           if ([] : List (List Int)).length + ((s3.2.2.2.1.2.2.take (Int.toNat s3.2.2.2.2.2)).drop (Int.toNat 0)).length ≤ lim then
            if (0 : Int) ≤ (w64 (s3.2.2.2.2.2 + 1)) ∧ (w64 (s3.2.2.2.2.2 + 1)) ≤ (s3.2.2.2.1.2.2.length : Int) ∧ (s3.2.2.2.1.2.2.length : Int) ≤ (s3.2.2.2.1.2.2.length : Int) then
             if ([] ++ ((s3.2.2.2.1.2.2.take (Int.toNat s3.2.2.2.2.2)).drop (Int.toNat 0))).length + ((s3.2.2.2.1.2.2.take (Int.toNat (s3.2.2.2.1.2.2.length : Int))).drop (Int.toNat (w64 (s3.2.2.2.2.2 + 1)))).length ≤ lim then
              (spec_l21Eliminate_L16 fuel (s3.1, s3.2.1, (s3.2.2.1.1, (s3.2.2.1.2.1, s3.2.2.1.2.2)), (s3.2.2.2.1.1, (s3.2.2.2.1.2.1, s3.2.2.2.1.2.2)), s3.2.2.2.2.1, r5, ([] ++ ((s3.2.2.2.1.2.2.take (Int.toNat s3.2.2.2.2.2)).drop (Int.toNat 0))) ++ ((s3.2.2.2.1.2.2.take (Int.toNat (s3.2.2.2.1.2.2.length : Int))).drop (Int.toNat (w64 (s3.2.2.2.2.2 + 1)))), 0)).bind fun s6 =>
               (spec_l21Eliminate_L20 fuel (s6.1, s6.2.1, (s6.2.2.1.1, (s6.2.2.1.2.1, s6.2.2.1.2.2)), (s6.2.2.2.1.1, (s6.2.2.2.1.2.1, s6.2.2.2.1.2.2)), s6.2.2.2.2.1, s6.2.2.2.2.2.1, s6.2.2.2.2.2.2, 0)).bind fun s7 =>
                if s7.2.2.2.1.1.length + [s7.2.2.2.2.2.1].length ≤ lim then
                 if s7.2.2.2.1.2.1.length + [s7.2.2.2.2.1].length ≤ lim then
                  spec_l21Eliminate_L7 n (s7.1, s7.2.1, (s7.2.2.1.1, (s7.2.2.1.2.1, s7.2.2.1.2.2)), (s7.2.2.2.1.1 ++ [s7.2.2.2.2.2.1], (s7.2.2.2.1.2.1 ++ [s7.2.2.2.2.1], s7.2.2.2.2.2.2)), w64 (s7.2.2.2.2.1 + 1))
                 else none
                else none
             else none
            else none
           else none
          else none
       else none
      else none
     else none
  else
   some ((t6.1, (t6.2.1, t6.2.2)), (t7.1, (t7.2.1, t7.2.2)))
def spec_l21Eliminate (t0 : Int) (t1 : Int) (t2 : List (List Int)) : Option (((List (List Int)) × ((List Int) × (List (List Int))))) :=
 (spec_l21Eliminate_L3 fuel (t0, t1, t2, ([], ([], [])), ([], ([], [])), 0)).bind fun s1 =>
  (spec_l21Eliminate_L7 fuel (s1.1, s1.2.1, (s1.2.2.1.1, (s1.2.2.1.2.1, s1.2.2.1.2.2)), (s1.2.2.2.1, (s1.2.2.2.2.1, s1.2.2.2.2.2)), 0)).bind fun s2 =>
   some (s2.2.1, (s2.2.2.1, s2.2.2.2))
def spec_l21Empty_L2 : Nat → (Int × ((List (List Int)) × (List Int) × (List (List Int))) × Int) → Option ((Unit) ⊕ (Bool))
 | 0, _ => none
 | n + 1, (vars, w, i) =>
  if decide (i < (w.2.2.length : Int)) then
   if inb i w.2.2 then
    if inb vars (gd w.2.2 i []) then
     if (gd (gd w.2.2 i []) vars 0) != 0 then
      some (.inr true)
     else
      spec_l21Empty_L2 n (vars, (w.1, (w.2.1, w.2.2)), w64 (i + 1))
    else none
   else none
  else
   some (.inl ())
def spec_l21Empty (w : (List (List Int)) × (List Int) × (List (List Int))) (vars : Int) : Option (Bool) :=
 (spec_l21Empty_L2 fuel (vars, (w.1, (w.2.1, w.2.2)), 0)).bind fun s1 =>
  match s1 with
  | .inl s2 =>
   some false
  | .inr s3 =>
   some s3
def impl_cloneRows_L3 : Nat → ((List (List Int)) × (List (List Int)) × Int × Int) → Option ((List (List Int)))
 | 0, _ => none
 | n + 1, (list, t7, t8, t9) =>
  if decide (t9 < t8) then
   if inb t9 t7 then
    (impl_clone (gd t7 t9 [])).bind fun r1 =>
     if list.length + [r1].length ≤ lim then
      impl_cloneRows_L3 n (list ++ [r1], t7, t8, w64 (t9 + 1))
     else none
   else none
  else
   some list
def impl_cloneRows (rows : List (List Int)) : Option ((List (List Int))) :=
 (impl_cloneRows_L3 fuel ([], rows, (rows.length : Int), 0)).bind fun s1 =>
  some s1
def impl_inverseOf_L2 : Nat → (Int × Int × Int) → Option ((Unit) ⊕ (Int))
 | 0, _ => none
 | n + 1, (x, p, y) =>
  if decide (y < p) then
   if p ≠ 0 then
    if (Int.tmod (w64 (x * y)) p) == 1 then
     some (.inr y)
    else
     impl_inverseOf_L2 n (x, p, w64 (y + 1))
   else none
  else
   some (.inl ())
def impl_inverseOf (x : Int) (p : Int) : Option (Int) :=
 (impl_inverseOf_L2 fuel (x, p, 1)).bind fun s1 =>
  match s1 with
  | .inl s2 =>
   some 0
  | .inr s3 =>
   some s3
def impl_eliminate_L6 : Nat → (Int × Int × (Int × (Int × ((List (List Int)) × (Int × (List Int))))) × Int × Int) → Option (Int × Int × (Int × (Int × ((List (List Int)) × (Int × (List Int))))) × Int × Int)
 | 0, _ => none
 | n + 1, (t0, t1, t7, t8, t9) =>
  if decide (t9 < (t7.2.2.1.length : Int)) then
   if inb t9 t7.2.2.1 then
    if inb t8 (gd t7.2.2.1 t9 []) then
     if (gd (gd t7.2.2.1 t9 []) t8 0) == 0 then
      impl_eliminate_L6 n (t0, t1, (t7.1, (t7.2.1, (t7.2.2.1, (t7.2.2.2.1, t7.2.2.2.2)))), t8, w64 (t9 + 1))
     else
      some (t0, t1, (t7.1, (t7.2.1, (t7.2.2.1, (t7.2.2.2.1, t7.2.2.2.2)))), t8, t9)
    else none
   else none
  else
   some (t0, t1, (t7.1, (t7.2.1, (t7.2.2.1, (t7.2.2.2.1, t7.2.2.2.2)))), t8, t9)
def impl_eliminate_L14 : Nat → (Int × Int × Int × (Int × (Int × ((List (List Int)) × (Int × (List Int))))) × Int × Int × Int × Int) → Option (Int × Int × Int × (Int × (Int × ((List (List Int)) × (Int × (List Int))))) × Int)
 | 0, _ => none
 | n + 1, (row10, t0, t1, t7, t8, t11, t110, t111) =>
  if decide (t111 < t110) then
   if inb t111 (gd t7.2.2.1 row10 []) then
    if t0 ≠ 0 then
     if inb t111 (gd t7.2.2.1 row10 []) then
      impl_eliminate_L14 n (row10, t0, t1, (t7.1, (t7.2.1, (stt t7.2.2.1 row10 (stt (gd t7.2.2.1 row10 []) t111 (Int.tmod (w64 ((gd (gd t7.2.2.1 row10 []) t111 0) * t11)) t0)), (t7.2.2.2.1, t7.2.2.2.2)))), t8, t11, t110, w64 (t111 + 1))
     else none
    else none
   else none
  else
   some (row10, t0, t1, (t7.1, (t7.2.1, (t7.2.2.1, (t7.2.2.2.1, t7.2.2.2.2)))), t8)
def impl_eliminate_L24 : Nat → (Int × Int × Unit × Int × Int × (Int × (Int × ((List (List Int)) × (Int × (List Int))))) × Int × Int × Int × Int × Int × Int) → Option (Int × Unit × Int × Int × (Int × (Int × ((List (List Int)) × (Int × (List Int))))) × Int × Int × Int)
 | 0, _ => none
 | n + 1, (row10, row14, al129, t0, t1, t7, t8, t15, t130, t131, t151, t152) =>
  if decide (t152 < t151) then
   if inb t152 (gd t7.2.2.1 row14 []) then
    if inb t152 (gd t7.2.2.1 row10 []) then
     if t0 ≠ 0 then
      if inb t152 (gd t7.2.2.1 row14 []) then
       impl_eliminate_L24 n (row10, row14, (), t0, t1, (t7.1, (t7.2.1, (stt t7.2.2.1 row14 (stt (gd t7.2.2.1 row14 []) t152 (Int.tmod (w64 ((gd (gd t7.2.2.1 row14 []) t152 0) + (w64 ((w64 (t0 - t15)) * (gd (gd t7.2.2.1 row10 []) t152 0))))) t0)), (t7.2.2.2.1, t7.2.2.2.2)))), t8, t15, t130, t131, t151, w64 (t152 + 1))
      else none
     else none
    else none
   else none
  else
   some (row10, (), t0, t1, (t7.1, (t7.2.1, (t7.2.2.1, (t7.2.2.2.1, t7.2.2.2.2)))), t8, t130, t131)
def impl_eliminate_L19 : Nat → (Int × Unit × Int × Int × (Int × (Int × ((List (List Int)) × (Int × (List Int))))) × Int × Int × Int) → Option (Int × Int × (Int × (Int × ((List (List Int)) × (Int × (List Int))))) × Int)
 | 0, _ => none
 | n + 1, (row10, al129, t0, t1, t7, t8, t130, t131) =>
  if decide (t131 < t130) then
   if inb t131 t7.2.2.1 then
    if inb t8 (gd t7.2.2.1 t131 []) then
     if t131 != t7.2.2.2.1 then
      if (gd (gd t7.2.2.1 t131 []) t8 0) != 0 then
       (impl_eliminate_L24 fuel (row10, t131, (), t0, t1, (t7.1, (t7.2.1, (t7.2.2.1, (t7.2.2.2.1, t7.2.2.2.2)))), t8, gd (gd t7.2.2.1 t131 []) t8 0, t130, t131, ((gd t7.2.2.1 t131 []).length : Int), 0)).bind fun s6 =>
        impl_eliminate_L19 n (s6.1, (), s6.2.2.1, s6.2.2.2.1, (s6.2.2.2.2.1.1, (s6.2.2.2.2.1.2.1, (s6.2.2.2.2.1.2.2.1, (s6.2.2.2.2.1.2.2.2.1, s6.2.2.2.2.1.2.2.2.2)))), s6.2.2.2.2.2.1, s6.2.2.2.2.2.2.1, w64 (s6.2.2.2.2.2.2.2 + 1))
      else
       impl_eliminate_L19 n (row10, (), t0, t1, (t7.1, (t7.2.1, (t7.2.2.1, (t7.2.2.2.1, t7.2.2.2.2)))), t8, t130, w64 (t131 + 1))
     else
      impl_eliminate_L19 n (row10, (), t0, t1, (t7.1, (t7.2.1, (t7.2.2.1, (t7.2.2.2.1, t7.2.2.2.2)))), t8, t130, w64 (t131 + 1))
    else none
   else none
  else
   some (t0, t1, (t7.1, (t7.2.1, (t7.2.2.1, (t7.2.2.2.1, t7.2.2.2.2)))), t8)
def impl_eliminate_L3 : Nat → (Int × Int × (Int × (Int × ((List (List Int)) × (Int × (List Int))))) × Int) → Option ((Int × (Int × ((List (List Int)) × (Int × (List Int))))))
 | 0, _ => none
 | n + 1, (t0, t1, t7, t8) =>
  if decide (t8 < t1) then
   (impl_eliminate_L6 fuel (t0, t1, (t7.1, (t7.2.1, (t7.2.2.1, (t7.2.2.2.1, t7.2.2.2.2)))), t8, t7.2.2.2.1)).bind fun s3 =>
    if s3.2.2.2.2 == (s3.2.2.1.2.2.1.length : Int) then
     impl_eliminate_L3 n (s3.1, s3.2.1, (s3.2.2.1.1, (s3.2.2.1.2.1, (s3.2.2.1.2.2.1, (s3.2.2.1.2.2.2.1, s3.2.2.1.2.2.2.2)))), w64 (s3.2.2.2.1 + 1))
    else
     if inb s3.2.2.2.2 s3.2.2.1.2.2.1 then
      if (0 : Int) ≤ (w64 (s3.2.2.1.2.2.2.1 + 1)) ∧ (w64 (s3.2.2.1.2.2.2.1 + 1)) ≤ (w64 (s3.2.2.2.2 + 1)) ∧ (w64 (s3.2.2.2.2 + 1)) ≤ (s3.2.2.1.2.2.1.length : Int) then
       if (0 : Int) ≤ s3.2.2.1.2.2.2.1 ∧ s3.2.2.1.2.2.2.1 ≤ s3.2.2.2.2 ∧ s3.2.2.2.2 ≤ (s3.2.2.1.2.2.1.length : Int) then
        if (w64 (s3.2.2.1.2.2.2.1 + 1)) = s3.2.2.1.2.2.2.1 + 1 ∧ (w64 (s3.2.2.2.2 + 1)) = s3.2.2.2.2 + 1 ∧ s3.2.2.2.2 = s3.2.2.2.2 then
         if inb s3.2.2.1.2.2.2.1 (upL s3.2.2.1.2.2.1 (Int.toNat s3.2.2.1.2.2.2.1) (Int.toNat s3.2.2.2.2) []) then
          if s3.2.2.1.2.2.2.1 = s3.2.2.1.2.2.2.1 then
           if inb s3.2.2.2.1 (gd (stt (upL s3.2.2.1.2.2.1 (Int.toNat s3.2.2.1.2.2.2.1) (Int.toNat s3.2.2.2.2) []) s3.2.2.1.2.2.2.1 (gd s3.2.2.1.2.2.1 s3.2.2.2.2 [])) s3.2.2.1.2.2.2.1 []) then
            (impl_inverseOf (gd (gd (stt (upL s3.2.2.1.2.2.1 (Int.toNat s3.2.2.1.2.2.2.1) (Int.toNat s3.2.2.2.2) []) s3.2.2.1.2.2.2.1 (gd s3.2.2.1.2.2.1 s3.2.2.2.2 [])) s3.2.2.1.2.2.2.1 []) s3.2.2.2.1 0) s3.1).bind fun r4 =>
             (impl_eliminate_L14 fuel (s3.2.2.1.2.2.2.1, s3.1, s3.2.1, (s3.2.2.1.1, (s3.2.2.1.2.1, (stt (upL s3.2.2.1.2.2.1 (Int.toNat s3.2.2.1.2.2.2.1) (Int.toNat s3.2.2.2.2) []) s3.2.2.1.2.2.2.1 (gd s3.2.2.1.2.2.1 s3.2.2.2.2 []), (s3.2.2.1.2.2.2.1, s3.2.2.1.2.2.2.2)))), s3.2.2.2.1, r4, ((gd (stt (upL s3.2.2.1.2.2.1 (Int.toNat s3.2.2.1.2.2.2.1) (Int.toNat s3.2.2.2.2) []) s3.2.2.1.2.2.2.1 (gd s3.2.2.1.2.2.1 s3.2.2.2.2 [])) s3.2.2.1.2.2.2.1 []).length : Int), 0)).bind fun s5 =>
              (impl_eliminate_L19 fuel (s5.1, (), s5.2.1, s5.2.2.1, (s5.2.2.2.1.1, (s5.2.2.2.1.2.1, (s5.2.2.2.1.2.2.1, (s5.2.2.2.1.2.2.2.1, s5.2.2.2.1.2.2.2.2)))), s5.2.2.2.2, (s5.2.2.2.1.2.2.1.length : Int), 0)).bind fun s6 =>
               if inb s6.2.2.2 s6.2.2.1.2.2.2.2 then
                impl_eliminate_L3 n (s6.1, s6.2.1, (s6.2.2.1.1, (s6.2.2.1.2.1, (s6.2.2.1.2.2.1, (w64 (s6.2.2.1.2.2.2.1 + 1), stt s6.2.2.1.2.2.2.2 s6.2.2.2 s6.2.2.1.2.2.2.1)))), w64 (s6.2.2.2 + 1))
               else none
           else none
          else none
         else none
        else none
       else none
      else none
     else none
  else
   some (t7.1, (t7.2.1, (t7.2.2.1, (t7.2.2.2.1, t7.2.2.2.2))))
def impl_eliminate (t0 : Int) (t1 : Int) (t2 : List (List Int)) : Option ((Bool × Int × Int × (List (List Int)) × Int × (List Int))) :=
 (impl_cloneRows t2).bind fun r1 =>
  (impl_freeTable t1).bind fun r2 =>
   (impl_eliminate_L3 fuel (t0, t1, (t0, (t1, (r1, (0, r2)))), 0)).bind fun s3 =>
    some (true, (s3.1, (s3.2.1, (s3.2.2.1, (s3.2.2.2.1, s3.2.2.2.2)))))
def impl_eliminated_freeVars_L3 : Nat → (Unit × (Int × (Int × ((List (List Int)) × (Int × (List Int))))) × (List Int) × Int × Int) → Option ((Int × (Int × ((List (List Int)) × (Int × (List Int))))) × (List Int))
 | 0, _ => none
 | n + 1, (al10, e, list, t11, t12) =>
  if decide (t12 < t11) then
   if inb t12 e.2.2.2.2 then
    if decide ((gd e.2.2.2.2 t12 0) < 0) then
     if list.length + [t12].length ≤ lim then
      impl_eliminated_freeVars_L3 n ((), (e.1, (e.2.1, (e.2.2.1, (e.2.2.2.1, e.2.2.2.2)))), list ++ [t12], t11, w64 (t12 + 1))
     else none
    else
     impl_eliminated_freeVars_L3 n ((), (e.1, (e.2.1, (e.2.2.1, (e.2.2.2.1, e.2.2.2.2)))), list, t11, w64 (t12 + 1))
   else none
  else
   some ((e.1, (e.2.1, (e.2.2.1, (e.2.2.2.1, e.2.2.2.2)))), list)
def impl_eliminated_freeVars (e : Int × (Int × ((List (List Int)) × (Int × (List Int))))) : Option ((Int × (Int × ((List (List Int)) × (Int × (List Int))))) × (List Int)) :=
 (impl_eliminated_freeVars_L3 fuel ((), (e.1, (e.2.1, (e.2.2.1, (e.2.2.2.1, e.2.2.2.2)))), [], (e.2.2.2.2.length : Int), 0)).bind fun s1 =>
  some ((s1.1.1, (s1.1.2.1, (s1.1.2.2.1, (s1.1.2.2.2.1, s1.1.2.2.2.2)))), s1.2)
def impl_eliminated_fails_p_L2 : Nat → ((Bool × Int × Int × (List (List Int)) × Int × (List Int)) × (List (List Int)) × Int × Int) → Option ((Unit) ⊕ (Bool))
 | 0, _ => none
 | n + 1, (e, t13, t14, t15) =>
  if decide (t15 < t14) then
   if inb t15 t13 then
    if e.1 = true then
     if inb e.2.2.1 (gd t13 t15 []) then
      if (gd (gd t13 t15 []) e.2.2.1 0) != 0 then
       some (.inr true)
      else
       impl_eliminated_fails_p_L2 n (e, t13, t14, w64 (t15 + 1))
     else none
    else none
   else none
  else
   some (.inl ())
def impl_eliminated_fails_p (e : Bool × Int × Int × (List (List Int)) × Int × (List Int)) : Option (Bool) :=
 if e.1 = true then
  if e.1 = true then
   if (0 : Int) ≤ e.2.2.2.2.1 ∧ e.2.2.2.2.1 ≤ (e.2.2.2.1.length : Int) ∧ (e.2.2.2.1.length : Int) ≤ (e.2.2.2.1.length : Int) then
    (impl_eliminated_fails_p_L2 fuel (e, (e.2.2.2.1.take (Int.toNat (e.2.2.2.1.length : Int))).drop (Int.toNat e.2.2.2.2.1), (((e.2.2.2.1.take (Int.toNat (e.2.2.2.1.length : Int))).drop (Int.toNat e.2.2.2.2.1)).length : Int), 0)).bind fun s1 =>
     match s1 with
     | .inl s2 =>
      some false
     | .inr s3 =>
      some s3
   else none
  else none
 else none
def impl_eliminated_freeVars_p_L3 : Nat → ((List Int) × (List Int) × Int × Int) → Option ((List Int))
 | 0, _ => none
 | n + 1, (list, t10, t11, t12) =>
  if decide (t12 < t11) then
   if inb t12 t10 then
    if decide ((gd t10 t12 0) < 0) then
     if list.length + [t12].length ≤ lim then
      impl_eliminated_freeVars_p_L3 n (list ++ [t12], t10, t11, w64 (t12 + 1))
     else none
    else
     impl_eliminated_freeVars_p_L3 n (list, t10, t11, w64 (t12 + 1))
   else none
  else
   some list
def impl_eliminated_freeVars_p (e : Bool × Int × Int × (List (List Int)) × Int × (List Int)) : Option ((List Int)) :=
 if e.1 = true then
  (impl_eliminated_freeVars_p_L3 fuel ([], e.2.2.2.2.2, (e.2.2.2.2.2.length : Int), 0)).bind fun s1 =>
   some s1
 else none
def spec_l21Free_L3 : Nat → (Int × ((List (List Int)) × (List Int) × (List (List Int))) × (List Int) × Int) → Option ((List Int))
 | 0, _ => none
 | n + 1, (vars, w, out, v) =>
  if decide (v < vars) then
   (spec_l1Has w.2.1 v).bind fun r1 =>
    if !r1 then
     if out.length + [v].length ≤ lim then
      spec_l21Free_L3 n (vars, (w.1, (w.2.1, w.2.2)), out ++ [v], w64 (v + 1))
     else none
    else
     spec_l21Free_L3 n (vars, (w.1, (w.2.1, w.2.2)), out, w64 (v + 1))
  else
   some out
def spec_l21Free (w : (List (List Int)) × (List Int) × (List (List Int))) (vars : Int) : Option ((List Int)) :=
 (spec_l21Free_L3 fuel (vars, (w.1, (w.2.1, w.2.2)), [], 0)).bind fun s1 =>
  some s1
def spec_l21Solve_L6 : Nat → (Int × ((List (List Int)) × ((List Int) × (List (List Int)))) × (List Int) × Int) → Option ((List Int))
 | 0, _ => none
 | n + 1, (vars, w, out, i) =>
  if decide (i < (w.2.1.length : Int)) then
   if inb i w.2.1 then
    if inb i w.1 then
     if inb vars (gd w.1 i []) then
      if inb (gd w.2.1 i 0) out then
       spec_l21Solve_L6 n (vars, (w.1, (w.2.1, w.2.2)), stt out (gd w.2.1 i 0) (gd (gd w.1 i []) vars 0), w64 (i + 1))
      else none
     else none
    else none
   else none
  else
   some out
def spec_l21Solve (p : Int) (vars : Int) (rows : List (List Int)) : Option ((List Int) × Bool) :=
 (spec_l21Eliminate p vars rows).bind fun r1 =>
  (spec_l21Empty (r1.1, (r1.2.1, r1.2.2)) vars).bind fun r2 =>
   if r2 then
    some ([], false)
   else
    if 0 ≤ vars ∧ vars ≤ vars ∧ vars ≤ lim then
     (spec_l21Solve_L6 fuel (vars, (r1.1, (r1.2.1, r1.2.2)), List.replicate (Int.toNat vars) (0 : Int), 0)).bind fun s3 =>
      some (s3, true)
    else none
def impl_eliminated_solution_L4 : Nat → (Unit × (Int × (Int × ((List (List Int)) × (Int × (List Int))))) × (List Int) × (List Int) × (List Int) × Int × Int) → Option ((Int × (Int × ((List (List Int)) × (Int × (List Int))))) × (List Int) × (List Int) × (List Int))
 | 0, _ => none
 | n + 1, (al21, t0, t1, t5, t6, t22, t23) =>
  if decide (t23 < t22) then
   if inb t23 t6 then
    if inb t23 t1 then
     if inb (gd t6 t23 0) t5 then
      impl_eliminated_solution_L4 n ((), (t0.1, (t0.2.1, (t0.2.2.1, (t0.2.2.2.1, t0.2.2.2.2)))), t1, stt t5 (gd t6 t23 0) (gd t1 t23 0), t6, t22, w64 (t23 + 1))
     else none
    else none
   else none
  else
   some ((t0.1, (t0.2.1, (t0.2.2.1, (t0.2.2.2.1, t0.2.2.2.2)))), t1, t5, t6)
def impl_eliminated_solution_L14 : Nat → (Unit × Unit × (Int × (Int × ((List (List Int)) × (Int × (List Int))))) × (List Int) × (List Int) × (List Int) × Int × Int × Int × Int × Int × Int × Int) → Option (Unit × (Int × (Int × ((List (List Int)) × (Int × (List Int))))) × (List Int) × (List Int) × (List Int) × Int × Int × Int × Int)
 | 0, _ => none
 | n + 1, (al39, al61, t0, t1, t5, t6, t9, t10, t11, t40, t41, t62, t63) =>
  if decide (t63 < t62) then
   if inb t63 t6 then
    if inb t10 t0.2.2.1 then
     if inb (gd t6 t63 0) (gd t0.2.2.1 t10 []) then
      if inb t63 t1 then
       impl_eliminated_solution_L14 n ((), (), (t0.1, (t0.2.1, (t0.2.2.1, (t0.2.2.2.1, t0.2.2.2.2)))), t1, t5, t6, t9, t10, w64 (t11 + (w64 ((w64 (t0.1 - (gd (gd t0.2.2.1 t10 []) (gd t6 t63 0) 0))) * (gd t1 t63 0)))), t40, t41, t62, w64 (t63 + 1))
      else none
     else none
    else none
   else none
  else
   some ((), (t0.1, (t0.2.1, (t0.2.2.1, (t0.2.2.2.1, t0.2.2.2.2)))), t1, t5, t6, t9, t11, t40, t41)
def impl_eliminated_solution_L9 : Nat → (Unit × (Int × (Int × ((List (List Int)) × (Int × (List Int))))) × (List Int) × (List Int) × (List Int) × Int × Int) → Option ((Int × (Int × ((List (List Int)) × (Int × (List Int))))) × (List Int))
 | 0, _ => none
 | n + 1, (al39, t0, t1, t5, t6, t40, t41) =>
  if decide (t41 < t40) then
   if inb t41 t0.2.2.2.2 then
    if decide ((gd t0.2.2.2.2 t41 0) < 0) then
     impl_eliminated_solution_L9 n ((), (t0.1, (t0.2.1, (t0.2.2.1, (t0.2.2.2.1, t0.2.2.2.2)))), t1, t5, t6, t40, w64 (t41 + 1))
    else
     if inb (gd t0.2.2.2.2 t41 0) t0.2.2.1 then
      if inb t0.2.1 (gd t0.2.2.1 (gd t0.2.2.2.2 t41 0) []) then
       (impl_eliminated_solution_L14 fuel ((), (), (t0.1, (t0.2.1, (t0.2.2.1, (t0.2.2.2.1, t0.2.2.2.2)))), t1, t5, t6, t41, gd t0.2.2.2.2 t41 0, gd (gd t0.2.2.1 (gd t0.2.2.2.2 t41 0) []) t0.2.1 0, t40, t41, (t6.length : Int), 0)).bind fun s3 =>
        if s3.2.1.1 ≠ 0 then
         if inb s3.2.2.2.2.2.1 s3.2.2.2.1 then
          impl_eliminated_solution_L9 n ((), (s3.2.1.1, (s3.2.1.2.1, (s3.2.1.2.2.1, (s3.2.1.2.2.2.1, s3.2.1.2.2.2.2)))), s3.2.2.1, stt s3.2.2.2.1 s3.2.2.2.2.2.1 (Int.tmod s3.2.2.2.2.2.2.1 s3.2.1.1), s3.2.2.2.2.1, s3.2.2.2.2.2.2.2.1, w64 (s3.2.2.2.2.2.2.2.2 + 1))
         else none
        else none
      else none
     else none
   else none
  else
   some ((t0.1, (t0.2.1, (t0.2.2.1, (t0.2.2.2.1, t0.2.2.2.2)))), t5)
def impl_eliminated_solution (t0 : Int × (Int × ((List (List Int)) × (Int × (List Int))))) (t1 : List Int) : Option ((Int × (Int × ((List (List Int)) × (Int × (List Int))))) × (List Int)) :=
 if 0 ≤ t0.2.1 ∧ t0.2.1 ≤ t0.2.1 ∧ t0.2.1 ≤ lim then
  (impl_eliminated_freeVars (t0.1, (t0.2.1, (t0.2.2.1, (t0.2.2.2.1, t0.2.2.2.2))))).bind fun r1 =>
   (impl_eliminated_solution_L4 fuel ((), (r1.1.1, (r1.1.2.1, (r1.1.2.2.1, (r1.1.2.2.2.1, r1.1.2.2.2.2)))), t1, List.replicate (Int.toNat t0.2.1) (0 : Int), r1.2, (r1.2.length : Int), 0)).bind fun s2 =>
    (impl_eliminated_solution_L9 fuel ((), (s2.1.1, (s2.1.2.1, (s2.1.2.2.1, (s2.1.2.2.2.1, s2.1.2.2.2.2)))), s2.2.1, s2.2.2.1, s2.2.2.2, (s2.1.2.2.2.2.length : Int), 0)).bind fun s3 =>
     some ((s3.1.1, (s3.1.2.1, (s3.1.2.2.1, (s3.1.2.2.2.1, s3.1.2.2.2.2)))), s3.2)
 else none
def impl_eliminated_solution_p_L4 : Nat → (Unit × (Bool × Int × Int × (List (List Int)) × Int × (List Int)) × (List Int) × (List Int) × (List Int) × Int × Int) → Option ((Bool × Int × Int × (List (List Int)) × Int × (List Int)) × (List Int) × (List Int) × (List Int))
 | 0, _ => none
 | n + 1, (al21, t0, t1, t5, t6, t22, t23) =>
  if decide (t23 < t22) then
   if inb t23 t6 then
    if inb t23 t1 then
     if inb (gd t6 t23 0) t5 then
      impl_eliminated_solution_p_L4 n ((), t0, t1, stt t5 (gd t6 t23 0) (gd t1 t23 0), t6, t22, w64 (t23 + 1))
     else none
    else none
   else none
  else
   some (t0, t1, t5, t6)
def impl_eliminated_solution_p_L14 : Nat → (Unit × (Bool × Int × Int × (List (List Int)) × Int × (List Int)) × (List Int) × (List Int) × (List Int) × Int × Int × Int × (List Int) × Int × Int × Int × Int) → Option ((Bool × Int × Int × (List (List Int)) × Int × (List Int)) × (List Int) × (List Int) × (List Int) × Int × Int × (List Int) × Int × Int)
 | 0, _ => none
 | n + 1, (al61, t0, t1, t5, t6, t9, t10, t11, t39, t40, t41, t62, t63) =>
  if decide (t63 < t62) then
   if inb t63 t6 then
    if t0.1 = true then
     if t0.1 = true then
      if inb t10 t0.2.2.2.1 then
       if inb (gd t6 t63 0) (gd t0.2.2.2.1 t10 []) then
        if inb t63 t1 then
         impl_eliminated_solution_p_L14 n ((), t0, t1, t5, t6, t9, t10, w64 (t11 + (w64 ((w64 (t0.2.1 - (gd (gd t0.2.2.2.1 t10 []) (gd t6 t63 0) 0))) * (gd t1 t63 0)))), t39, t40, t41, t62, w64 (t63 + 1))
        else none
       else none
      else none
     else none
    else none
   else none
  else
   some (t0, t1, t5, t6, t9, t11, t39, t40, t41)
def impl_eliminated_solution_p_L9 : Nat → ((Bool × Int × Int × (List (List Int)) × Int × (List Int)) × (List Int) × (List Int) × (List Int) × (List Int) × Int × Int) → Option ((List Int))
 | 0, _ => none
 | n + 1, (t0, t1, t5, t6, t39, t40, t41) =>
  if decide (t41 < t40) then
   if inb t41 t39 then
    if decide ((gd t39 t41 0) < 0) then
     impl_eliminated_solution_p_L9 n (t0, t1, t5, t6, t39, t40, w64 (t41 + 1))
    else
     if t0.1 = true then
      if inb (gd t39 t41 0) t0.2.2.2.1 then
       if t0.1 = true then
        if inb t0.2.2.1 (gd t0.2.2.2.1 (gd t39 t41 0) []) then
         (impl_eliminated_solution_p_L14 fuel ((), t0, t1, t5, t6, t41, gd t39 t41 0, gd (gd t0.2.2.2.1 (gd t39 t41 0) []) t0.2.2.1 0, t39, t40, t41, (t6.length : Int), 0)).bind fun s3 =>
          if s3.1.1 = true then
           if s3.1.2.1 ≠ 0 then
            if inb s3.2.2.2.2.1 s3.2.2.1 then
             impl_eliminated_solution_p_L9 n (s3.1, s3.2.1, stt s3.2.2.1 s3.2.2.2.2.1 (Int.tmod s3.2.2.2.2.2.1 s3.1.2.1), s3.2.2.2.1, s3.2.2.2.2.2.2.1, s3.2.2.2.2.2.2.2.1, w64 (s3.2.2.2.2.2.2.2.2 + 1))
            else none
           else none
          else none
        else none
       else none
      else none
     else none
   else none
  else
   some t5
def impl_eliminated_solution_p (t0 : Bool × Int × Int × (List (List Int)) × Int × (List Int)) (t1 : List Int) : Option ((List Int)) :=
 if t0.1 = true then
  if 0 ≤ t0.2.2.1 ∧ t0.2.2.1 ≤ t0.2.2.1 ∧ t0.2.2.1 ≤ lim then
   (impl_eliminated_freeVars_p t0).bind fun r1 =>
    (impl_eliminated_solution_p_L4 fuel ((), t0, t1, List.replicate (Int.toNat t0.2.2.1) (0 : Int), r1, (r1.length : Int), 0)).bind fun s2 =>
     if s2.1.1 = true then
      (impl_eliminated_solution_p_L9 fuel (s2.1, s2.2.1, s2.2.2.1, s2.2.2.2, s2.1.2.2.2.2.2, (s2.1.2.2.2.2.2.length : Int), 0)).bind fun s3 =>
       some s3
     else none
  else none
 else none
def impl_eliminated_leastSolution_p (e : Bool × Int × Int × (List (List Int)) × Int × (List Int)) : Option ((List Int) × Bool) :=
 (impl_eliminated_fails_p e).bind fun r1 =>
  if r1 then
   some ([], false)
  else
   if e.1 = true then
    if 0 ≤ e.2.2.1 ∧ e.2.2.1 ≤ e.2.2.1 ∧ e.2.2.1 ≤ lim then
     (impl_eliminated_solution_p e (List.replicate (Int.toNat e.2.2.1) (0 : Int))).bind fun r2 =>
      some (r2, true)
    else none
   else none
end T
open Go Go.Va
namespace T
def mix {α : Type} (nw old : Nat → α) (N i : Nat) : List α := (List.range N).map fun q => if q < i then nw q else old q
section
variable {α : Type} {nw old : Nat → α} {N i : Nat}
theorem mix_len : (mix nw old N i).length = N := by simp [mix]
theorem mix_get {q : Nat} {d : α} (h : q < N) : (mix nw old N i).getD q d = if q < i then nw q else old q := by
 rw [getD_of (by rw [mix_len]; exact h)]; simp [mix]
theorem mix_set (h : i < N) : (mix nw old N i).set i (nw i) = mix nw old N (i + 1) := by
 unfold mix
 apply List.ext_getElem
 ·simp
 ·intro q h1 h2
  rw [List.getElem_set]
  simp only [List.getElem_map, List.getElem_range]
  by_cases e : i = q
  ·subst e; rw [if_pos rfl, if_pos (by omega)]
  ·rw [if_neg e]
   by_cases e2 : q < i
   ·rw [if_pos e2, if_pos (by omega)]
   ·rw [if_neg e2, if_neg (by omega)]
theorem mix_same (h : i < N) (he : nw i = old i) : mix nw old N (i + 1) = mix nw old N i := by
 unfold mix
 refine List.map_congr_left fun q hq => ?_
 by_cases e : q = i
 ·subst e; rw [if_pos (by omega), if_neg (by omega), he]
 ·by_cases e2 : q < i
  ·rw [if_pos e2, if_pos (by omega)]
  ·rw [if_neg e2, if_neg (by omega)]
theorem mix_zero {l : List α} {d : α} (h : l.length = N) : mix nw (fun q => l.getD q d) N 0 = l := by
 apply List.ext_getElem
 ·rw [mix_len, h]
 ·intro q h1 h2
  simp only [mix, List.getElem_map, List.getElem_range]
  rw [if_neg (by omega), getD_of h2]
theorem mix_full : mix nw old N N = (List.range N).map nw := by
 unfold mix
 refine List.map_congr_left fun q hq => ?_
 rw [if_pos (List.mem_range.1 hq)]
end
def pr4 (p : Int) : Prop := p = 2 ∨ p = 3 ∨ p = 5 ∨ p = 7
def okRow (p : Int) (W : Nat) (r : List Int) : Prop := r.length = W ∧ ∀ x ∈ r, 0 ≤ x ∧ x < p
def invP (p x : Int) : Int := (impl_inverseOf x p).getD 0
theorem inv_tab : ∀ p : Fin 8, ∀ x : Fin 8, (p.val = 2 ∨ p.val = 3 ∨ p.val = 5 ∨ p.val = 7) → 0 < x.val → x.val < p.val →
    impl_inverseOf (x.val : Int) (p.val : Int) = some (invP (p.val : Int) (x.val : Int)) ∧ spec_l21Inverse (p.val : Int) (x.val : Int) = some (invP (p.val : Int) (x.val : Int)) ∧ 1 ≤ invP (p.val : Int) (x.val : Int) ∧ invP (p.val : Int) (x.val : Int) < (p.val : Int) := by decide +kernel
theorem inv_ok {p x : Int} (hp : pr4 p) (h0 : 0 < x) (h1 : x < p) : impl_inverseOf x p = some (invP p x) ∧ spec_l21Inverse p x = some (invP p x) ∧ 1 ≤ invP p x ∧ invP p x < p := by
 unfold pr4 at hp
 have := inv_tab ⟨p.toNat, by omega⟩ ⟨x.toNat, by omega⟩ (by simp; omega) (by simp; omega) (by simp; omega)
 simp only [Int.toNat_of_nonneg (show 0 ≤ p by omega), Int.toNat_of_nonneg (show 0 ≤ x by omega)] at this
 exact this
def scaleR (p b : Int) (r : List Int) : List Int := (List.range r.length).map fun i => Int.tmod (r.getD i 0 * b) p
def lessR (p : Int) (row : List Int) (v : Nat) (r : List Int) : List Int := (List.range r.length).map fun i => Int.tmod (r.getD i 0 + (p - r.getD v 0) * row.getD i 0) p
section
variable {p : Int} {W : Nat} {r row : List Int}
theorem ok_get (h : okRow p W r) {i : Nat} (hi : i < W) : 0 ≤ r.getD i 0 ∧ r.getD i 0 < p := by
 have : i < r.length := by rw [h.1]; exact hi
 rw [getD_of this]; exact h.2 _ (List.getElem_mem this)
theorem mod_in (hp : pr4 p) {x : Int} (h : 0 ≤ x) : 0 ≤ Int.tmod x p ∧ Int.tmod x p < p := by
 unfold pr4 at hp
 rw [Int.tmod_eq_emod_of_nonneg h]
 exact ⟨Int.emod_nonneg _ (by omega), Int.emod_lt_of_pos _ (by omega)⟩
theorem prod_le {a b : Int} (h0 : 0 ≤ a) (h1 : a ≤ 8) (g0 : 0 ≤ b) (g1 : b ≤ 8) : 0 ≤ a * b ∧ a * b ≤ 64 := by
 have h2 := Int.mul_nonneg h0 g0
 have h3 := Int.mul_le_mul h1 g1 g0 (by omega)
 exact ⟨h2, by omega⟩
theorem scale_ok (hp : pr4 p) (h : okRow p W r) {b : Int} (hb : 0 ≤ b ∧ b < p) : okRow p W (scaleR p b r) := by
 refine ⟨by unfold scaleR; simp; exact h.1, fun x hx => ?_⟩
 unfold scaleR at hx
 obtain ⟨i, hi, rfl⟩ := List.mem_map.1 hx
 have hi := List.mem_range.1 hi
 have := ok_get h (i := i) (by rw [← h.1]; exact hi)
 exact mod_in hp (Int.mul_nonneg this.1 hb.1)
theorem less_ok (hp : pr4 p) (h : okRow p W r) (hr : okRow p W row) {v : Nat} (hv : v < W) : okRow p W (lessR p row v r) := by
 refine ⟨by unfold lessR; simp; exact h.1, fun x hx => ?_⟩
 unfold lessR at hx
 obtain ⟨i, hi, rfl⟩ := List.mem_map.1 hx
 have hi := List.mem_range.1 hi
 have h1 := ok_get h (i := i) (by rw [← h.1]; exact hi)
 have h2 := ok_get hr (i := i) (by rw [← h.1]; exact hi)
 have h3 := ok_get h hv
 exact mod_in hp (by have := Int.mul_nonneg (show 0 ≤ p - r.getD v 0 by omega) h2.1; omega)
theorem less_zero (hp : pr4 p) (h : okRow p W r) (hr : okRow p W row) {v : Nat} (h0 : r.getD v 0 = 0) : lessR p row v r = r := by
 unfold lessR
 apply List.ext_getElem
 ·simp
 ·intro i h1 h2
  simp only [List.getElem_map, List.getElem_range]
  have g := h.2 _ (List.getElem_mem h2)
  have g2 := ok_get hr (i := i) (by rw [← h.1]; exact h2)
  rw [h0, Int.sub_zero, getD_of h2]
  have hnn := Int.mul_nonneg (show 0 ≤ p by unfold pr4 at hp; omega) g2.1
  rw [Int.tmod_eq_emod_of_nonneg (by omega), Int.add_mul_emod_self_left]
  exact Int.emod_eq_of_lt g.1 g.2
theorem w64_small {x : Int} (h0 : -1000000 ≤ x) (h1 : x ≤ 1000000) : w64 x = x := w64_id (by omega) (by omega)
theorem less_w (hp : pr4 p) (h : okRow p W r) (hr : okRow p W row) {v i : Nat} (hv : v < W) (hi : i < W) :
    Int.tmod (w64 (r.getD i 0 + w64 (w64 (p - r.getD v 0) * row.getD i 0))) p = Int.tmod (r.getD i 0 + (p - r.getD v 0) * row.getD i 0) p := by
  have h1 := ok_get h hi
  have h2 := ok_get hr hi
  have h3 := ok_get h hv
  unfold pr4 at hp
  have h4 := prod_le (a := p - r.getD v 0) (b := row.getD i 0) (by omega) (by omega) (by omega) (by omega)
  rw [w64_small (x := p - r.getD v 0) (by omega) (by omega), w64_small (x := (p - r.getD v 0) * row.getD i 0) (by omega) (by omega), w64_small (by omega) (by omega)]
theorem spec_less_ok (hp : pr4 p) (hW : W ≤ 1000) (h : okRow p W r) (hr : okRow p W row) {v : Nat} (hv : v < W) : spec_l21Less p r row (r.getD v 0) = some (lessR p row v r) := by
 unfold spec_l21Less
 have hlr := h.1
 have hlo := hr.1
 have hp0 : p ≠ 0 := by unfold pr4 at hp; omega
 have := forS r.length (fun f o i => spec_l21Less_L3 f (p, r, row, r.getD v 0, o, i)) (fun j => (List.range j).map fun i => Int.tmod (r.getD i 0 + (p - r.getD v 0) * row.getD i 0) p) (r := some (lessR p row v r)) (fun f j hj => ?_) (fun f => ?_) (n := fuel) (by unfold fuel; omega)
 ·have this : spec_l21Less_L3 fuel (p, r, row, r.getD v 0, [], 0) = _ := this
  rw [this]; rfl
 ·have e : (List.range (j + 1)).map (fun i => Int.tmod (r.getD i 0 + (p - r.getD v 0) * row.getD i 0) p) = (List.range j).map (fun i => Int.tmod (r.getD i 0 + (p - r.getD v 0) * row.getD i 0) p) ++ [Int.tmod (r.getD j 0 + (p - r.getD v 0) * row.getD j 0) p] := by rw [List.range_succ, List.map_append]; rfl
  have hjo : j < row.length := by omega
  simp only [spec_l21Less_L3, inb_nat, hj, hjo, gd_D, less_w hp h hr hv (show j < W by omega), e, if_true, w64_succ (show j < 4611686018427387904 by omega)]
  rw [if_pos (by simp; omega), if_pos hp0, if_pos (by simp; unfold lim; omega)]
 ·simp only [spec_l21Less_L3]
  rw [if_neg (by simp)]; rfl
theorem spec_scale_ok (hp : pr4 p) (hW : W ≤ 1000) (h : okRow p W r) {b : Int} (hb : 0 ≤ b ∧ b < p) : spec_l21Scale p r b = some (scaleR p b r) := by
 unfold spec_l21Scale
 have hlr := h.1
 have hp0 : p ≠ 0 := by unfold pr4 at hp; omega
 have := forS r.length (fun f o i => spec_l21Scale_L3 f (p, r, b, o, i)) (fun j => (List.range j).map fun i => Int.tmod (r.getD i 0 * b) p) (r := some (scaleR p b r)) (fun f j hj => ?_) (fun f => ?_) (n := fuel) (by unfold fuel; omega)
 ·have this : spec_l21Scale_L3 fuel (p, r, b, [], 0) = _ := this
  rw [this]; rfl
 ·have e : (List.range (j + 1)).map (fun i => Int.tmod (r.getD i 0 * b) p) = (List.range j).map (fun i => Int.tmod (r.getD i 0 * b) p) ++ [Int.tmod (r.getD j 0 * b) p] := by rw [List.range_succ, List.map_append]; rfl
  have h1 := ok_get h (i := j) (by omega)
  unfold pr4 at hp
  have h4 := prod_le (a := r.getD j 0) (b := b) (by omega) (by omega) (by omega) (by omega)
  simp only [spec_l21Scale_L3, inb_nat, hj, gd_D, w64_small (x := r.getD j 0 * b) (by omega) (by omega), e, if_true, w64_succ (show j < 4611686018427387904 by omega)]
  rw [if_pos (by simp; omega), if_pos hp0, if_pos (by simp; unfold lim; omega)]
 ·simp only [spec_l21Scale_L3]
  rw [if_neg (by simp)]; rfl
end
abbrev ES := List (List Int) × List Int × List (List Int)
def nzB (v : Nat) (r : List Int) : Bool := r.getD v 0 != 0
def elimS (p : Int) (s : ES) (v : Nat) : ES :=
 let at' := s.2.2.findIdx (nzB v)
 if at' < s.2.2.length then
  let row := scaleR p (invP p ((s.2.2.getD at' []).getD v 0)) (s.2.2.getD at' [])
  (s.1.map (lessR p row v) ++ [row], s.2.1 ++ [(v : Int)], (s.2.2.eraseIdx at').map (lessR p row v))
 else s
def elimF (p : Int) (rows : List (List Int)) (V : Nat) : ES := (List.range V).foldl (elimS p) ([], [], rows)
structure ESok (p : Int) (W N v : Nat) (s : ES) : Prop where
 t : ∀ r ∈ s.1, okRow p W r
 l : ∀ r ∈ s.2.2, okRow p W r
 bl : s.2.1.length = s.1.length
 n : s.1.length + s.2.2.length = N
 bv : ∀ x ∈ s.2.1, 0 ≤ x ∧ x < (v : Int)
 bn : s.2.1.Nodup
section
variable {p : Int} {W N : Nat}
theorem find_nz {l : List (List Int)} {v : Nat} (h : l.findIdx (nzB v) < l.length) (hl : ∀ r ∈ l, okRow p W r) (hv : v < W) : 0 < (l.getD (l.findIdx (nzB v)) []).getD v 0 ∧ (l.getD (l.findIdx (nzB v)) []).getD v 0 < p ∧ okRow p W (l.getD (l.findIdx (nzB v)) []) := by
 have h1 := List.findIdx_getElem (p := nzB v) (xs := l) (w := h)
 have h2 := hl _ (List.getElem_mem h)
 rw [getD_of h]
 generalize l[l.findIdx (nzB v)]'h = r at h1 h2 ⊢
 have h3 := ok_get h2 hv
 have h4 : r.getD v 0 ≠ 0 := by unfold nzB at h1; exact bne_iff_ne.1 h1
 exact ⟨by omega, h3.2, h2⟩
theorem elimS_ok (hp : pr4 p) {s : ES} {v : Nat} (h : ESok p W N v s) (hv : v < W) : ESok p W N (v + 1) (elimS p s v) := by
 unfold elimS
 by_cases hc : s.2.2.findIdx (nzB v) < s.2.2.length
 ·obtain ⟨h1, h2, h3⟩ := find_nz hc h.l hv
  obtain ⟨_, _, i1, i2⟩ := inv_ok hp h1 h2
  have hrow := scale_ok hp h3 (b := invP p ((s.2.2.getD (s.2.2.findIdx (nzB v)) []).getD v 0)) ⟨by omega, i2⟩
  dsimp only
  rw [if_pos hc]
  refine ⟨fun r hr => ?_, fun r hr => ?_, by simp; exact h.bl, ?_, fun x hx => ?_, ?_⟩
  ·rcases List.mem_append.1 hr with hr | hr
   ·obtain ⟨q, hq, rfl⟩ := List.mem_map.1 hr
    exact less_ok hp (h.t q hq) hrow hv
   ·rw [List.mem_singleton.1 hr]; exact hrow
  ·obtain ⟨q, hq, rfl⟩ := List.mem_map.1 hr
   exact less_ok hp (h.l q (List.mem_of_mem_eraseIdx hq)) hrow hv
  ·have := h.n
   have h9 : (s.2.2.eraseIdx (s.2.2.findIdx (nzB v))).length = s.2.2.length - 1 := List.length_eraseIdx_of_lt hc
   simp only [List.length_append, List.length_map, List.length_singleton]
   omega
  ·rcases List.mem_append.1 hx with hx | hx
   ·have := h.bv x hx; omega
   ·rw [List.mem_singleton.1 hx]; omega
  ·refine List.nodup_append.2 ⟨h.bn, by simp, fun a ha b hb => ?_⟩
   rw [List.mem_singleton.1 hb]
   have := h.bv a ha
   omega
 ·dsimp only
  rw [if_neg hc]
  exact ⟨h.t, h.l, h.bl, h.n, fun x hx => by have := h.bv x hx; omega, h.bn⟩
theorem elimF_ok (hp : pr4 p) {rows : List (List Int)} (hr : ∀ r ∈ rows, okRow p W r) : ∀ v, v ≤ W → ESok p W rows.length v (elimF p rows v) := by
 intro v
 induction v with
 | zero => intro _; exact ⟨fun r h => by simp [elimF] at h, hr, rfl, by simp [elimF], fun x h => by simp [elimF] at h, by simp [elimF]⟩
 | succ v ih =>
  intro hv
  unfold elimF
  rw [range_fold]
  exact elimS_ok hp (ih (by omega)) (by omega)
end
end T
open Go Go.Va
namespace T
section
variable {p : Int} {W N : Nat}
theorem map_rangeD {α β : Type} (g : α → β) {l : List α} {d : α} : ((List.range l.length).map fun q => g (l.getD q d)) = l.map g := by
 apply List.ext_getElem
 ·simp
 ·intro i h1 h2
  simp only [List.getElem_map, List.getElem_range]
  rw [getD_of (by simpa using h2)]
theorem seekX {β : Type} (l : List (List Int)) (v : Nat) (L : Nat → Int → Option β) (g : Nat → β)
    (hs : ∀ n (k : Nat) (hk : k < l.length), L (n + 1) k = if nzB v l[k] then some (g k) else L n ((k + 1 : Nat) : Int)) (he : ∀ n, L (n + 1) (l.length : Nat) = some (g l.length)) :
    ∀ (c k n : Nat), k + c = l.length → c < n → L n k = some (g (k + (l.drop k).findIdx (nzB v))) := by
  intro c
  induction c with
  | zero =>
    intro k n hk hn
    obtain ⟨n, rfl⟩ : ∃ z, n = z + 1 := ⟨n - 1, by omega⟩
    have : k = l.length := by omega
    subst this
    rw [he, List.drop_length]; rfl
  | succ c ih =>
    intro k n hk hn
    obtain ⟨n, rfl⟩ : ∃ z, n = z + 1 := ⟨n - 1, by omega⟩
    have hkl : k < l.length := by omega
    rw [hs n k hkl, List.drop_eq_getElem_cons hkl, List.findIdx_cons]
    cases hb : nzB v l[k] with
    | true => simp
    | false =>
      simp only [Bool.false_eq_true, if_false]
      rw [ih (k + 1) n (by omega) (by omega)]
      simp only [cond_false]
      congr 2; omega
theorem spec_L10 {s : ES} {v V : Nat} (h : ESok p W N v s) (hv : v < W) (hN : N ≤ 100000) (t6 : ES) :
    spec_l21Eliminate_L10 fuel (p, (V : Int), (t6.1, (t6.2.1, t6.2.2)), (s.1, (s.2.1, s.2.2)), (v : Int), 0) = some (p, (V : Int), (t6.1, (t6.2.1, t6.2.2)), (s.1, (s.2.1, s.2.2)), (v : Int), ((s.2.2.findIdx (nzB v) : Nat) : Int)) := by
  have hn := h.n
  have := seekX s.2.2 v (fun f i => spec_l21Eliminate_L10 f (p, (V : Int), (t6.1, (t6.2.1, t6.2.2)), (s.1, (s.2.1, s.2.2)), (v : Int), i)) (fun k => (p, (V : Int), (t6.1, (t6.2.1, t6.2.2)), (s.1, (s.2.1, s.2.2)), (v : Int), (k : Int))) (fun f k hk => ?_) (fun f => ?_) s.2.2.length 0 fuel (by omega) (by unfold fuel; omega)
  · rw [List.drop_zero, Nat.zero_add] at this
    exact this
  · have hr := h.l _ (List.getElem_mem hk)
    have hvl : v < s.2.2[k].length := by rw [hr.1]; exact hv
    simp only [spec_l21Eliminate_L10, inb_nat, hk, gd_nat hk, hvl, gd_D, if_true, w64_succ (show k < 4611686018427387904 by omega)]
    rw [if_pos (by simp; omega)]
    unfold nzB
    by_cases hz : s.2.2[k].getD v 0 = 0
    · rw [if_pos (by simpa using hz), if_neg (by simpa using hz)]
    · rw [if_neg (by simpa using hz), if_pos (by simpa using hz)]
  · simp only [spec_l21Eliminate_L10]
    rw [if_neg (by simp)]
theorem spec_L16 (hp : pr4 p) (hW : W ≤ 1000) {l : List (List Int)} {row : List Int} (hl : ∀ r ∈ l, okRow p W r) (hlen : l.length ≤ 100000) (hr : okRow p W row) {v : Nat} (hv : v < W) (V : Int) (t6 s : ES) :
    spec_l21Eliminate_L16 fuel (p, V, (t6.1, (t6.2.1, t6.2.2)), (s.1, (s.2.1, s.2.2)), (v : Int), row, l, 0) = some (p, V, (t6.1, (t6.2.1, t6.2.2)), (s.1, (s.2.1, s.2.2)), (v : Int), row, l.map (lessR p row v)) := by
  have := forS l.length (fun f o i => spec_l21Eliminate_L16 f (p, V, (t6.1, (t6.2.1, t6.2.2)), (s.1, (s.2.1, s.2.2)), (v : Int), row, o, i)) (fun k => mix (fun q => lessR p row v (l.getD q [])) (fun q => l.getD q []) l.length k)
    (r := some (p, V, (t6.1, (t6.2.1, t6.2.2)), (s.1, (s.2.1, s.2.2)), (v : Int), row, l.map (lessR p row v))) (fun f k hk => ?_) (fun f => ?_) (n := fuel) (by unfold fuel; omega)
  · rw [mix_zero rfl] at this; exact this
  · have hml : (mix (fun q => lessR p row v (l.getD q [])) (fun q => l.getD q []) l.length k).length = l.length := mix_len
    have hin : k < (mix (fun q => lessR p row v (l.getD q [])) (fun q => l.getD q []) l.length k).length := by rw [hml]; exact hk
    have hg : (mix (fun q => lessR p row v (l.getD q [])) (fun q => l.getD q []) l.length k).getD k [] = l.getD k [] := by rw [mix_get hk, if_neg (by omega)]
    have hrk : okRow p W (l.getD k []) := by rw [getD_of hk]; exact hl _ (List.getElem_mem hk)
    have hvl : v < (l.getD k []).length := by rw [hrk.1]; exact hv
    have hst := mix_set (nw := fun q => lessR p row v (l.getD q [])) (old := fun q => l.getD q []) hk
    simp only [spec_l21Eliminate_L16, inb_nat, hin, gd_D, hg, hvl, spec_less_ok hp hW hrk hr hv, Option.bind_some, stt_nat, hst, if_true, w64_succ (show k < 4611686018427387904 by omega)]
    rw [if_pos (by rw [hml]; simp; omega)]
  · simp only [spec_l21Eliminate_L16, mix_len]
    rw [if_neg (by simp), mix_full]
    rw [map_rangeD (lessR p row v)]
theorem spec_L20 (hp : pr4 p) (hW : W ≤ 1000) {l : List (List Int)} {row : List Int} (hl : ∀ r ∈ l, okRow p W r) (hlen : l.length ≤ 100000) (hr : okRow p W row) {v : Nat} (hv : v < W) (V : Int) (t6 : ES) (b : List Int) (q : List (List Int)) (t12 : List (List Int)) :
    spec_l21Eliminate_L20 fuel (p, V, (t6.1, (t6.2.1, t6.2.2)), (l, (b, q)), (v : Int), row, t12, 0) = some (p, V, (t6.1, (t6.2.1, t6.2.2)), (l.map (lessR p row v), (b, q)), (v : Int), row, t12) := by
  have := forS l.length (fun f o i => spec_l21Eliminate_L20 f (p, V, (t6.1, (t6.2.1, t6.2.2)), (o, (b, q)), (v : Int), row, t12, i)) (fun k => mix (fun q => lessR p row v (l.getD q [])) (fun q => l.getD q []) l.length k)
    (r := some (p, V, (t6.1, (t6.2.1, t6.2.2)), (l.map (lessR p row v), (b, q)), (v : Int), row, t12)) (fun f k hk => ?_) (fun f => ?_) (n := fuel) (by unfold fuel; omega)
  · rw [mix_zero rfl] at this; exact this
  · have hml : (mix (fun q => lessR p row v (l.getD q [])) (fun q => l.getD q []) l.length k).length = l.length := mix_len
    have hin : k < (mix (fun q => lessR p row v (l.getD q [])) (fun q => l.getD q []) l.length k).length := by rw [hml]; exact hk
    have hg : (mix (fun q => lessR p row v (l.getD q [])) (fun q => l.getD q []) l.length k).getD k [] = l.getD k [] := by rw [mix_get hk, if_neg (by omega)]
    have hrk : okRow p W (l.getD k []) := by rw [getD_of hk]; exact hl _ (List.getElem_mem hk)
    have hvl : v < (l.getD k []).length := by rw [hrk.1]; exact hv
    have hst := mix_set (nw := fun q => lessR p row v (l.getD q [])) (old := fun q => l.getD q []) hk
    simp only [spec_l21Eliminate_L20, inb_nat, hin, gd_D, hg, hvl, spec_less_ok hp hW hrk hr hv, Option.bind_some, stt_nat, hst, if_true, w64_succ (show k < 4611686018427387904 by omega)]
    rw [if_pos (by rw [hml]; simp; omega)]
  · simp only [spec_l21Eliminate_L20, mix_len]
    rw [if_neg (by simp), mix_full]
    rw [map_rangeD (lessR p row v)]
theorem erase_take {l : List (List Int)} {k : Nat} : l.eraseIdx k = l.take k ++ l.drop (k + 1) := List.eraseIdx_eq_take_drop_succ l k
theorem spec_Eliminate_ok (hp : pr4 p) {V : Nat} (hVW : V ≤ W) (hW : W ≤ 1000) {rows : List (List Int)} (hr : ∀ r ∈ rows, okRow p W r) (hN : rows.length ≤ 100000) : spec_l21Eliminate p (V : Int) rows = some (elimF p rows V) := by
 unfold spec_l21Eliminate
 have h3 := forS rows.length (fun f o i => spec_l21Eliminate_L3 f (p, (V : Int), rows, ([], ([], [])), ([], ([], o)), i)) (fun k => rows.take k) (r := some (p, (V : Int), ([], ([], [])), ([], ([], rows)))) (fun f k hk => by
  have hrk := hr _ (List.getElem_mem hk)
  have hlr := hrk.1
  simp only [spec_l21Eliminate_L3, inb_nat, hk, gd_nat hk, spec_l1Own_ok (show rows[k].length ≤ 1099511627775 by omega), Option.bind_some, List.take_succ_eq_append_getElem hk, if_true, w64_succ (show k < 4611686018427387904 by omega)]
  rw [if_pos (by simp; omega), if_pos (by simp; unfold lim; omega)]) (fun f => by
  simp only [spec_l21Eliminate_L3, List.take_length]
  rw [if_neg (by simp)]) (n := fuel) (by unfold fuel; omega)
 have h3 : spec_l21Eliminate_L3 fuel (p, (V : Int), rows, ([], ([], [])), ([], ([], [])), 0) = _ := h3
 simp only [h3, Option.bind_some]
 have h7 := forS V (fun f (s : ES) i => spec_l21Eliminate_L7 f (p, (V : Int), ([], ([], [])), (s.1, (s.2.1, s.2.2)), i)) (fun v => elimF p rows v) (r := some (([], ([], [])), elimF p rows V)) (fun f v hv => ?_) (fun f => ?_) (n := fuel) (by unfold fuel; omega)
 ·have h7 : spec_l21Eliminate_L7 fuel (p, (V : Int), ([], ([], [])), ([], ([], rows)), 0) = _ := h7
  rw [h7]; rfl
 ·have hok := elimF_ok hp hr v (by omega)
  have hnx : elimF p rows (v + 1) = elimS p (elimF p rows v) v := by unfold elimF; rw [range_fold]
  rw [hnx]
  generalize elimF p rows v = s at hok
  have hn := hok.n
  have hbl := hok.bl
  have h10 := spec_L10 (V := V) hok (show v < W by omega) hN ([], ([], []))
  have h10 : spec_l21Eliminate_L10 fuel (p, (V : Int), ([], ([], [])), (s.1, (s.2.1, s.2.2)), (v : Int), 0) = _ := h10
  simp only [spec_l21Eliminate_L7, h10, Option.bind_some]
  rw [if_pos (by simp; omega)]
  by_cases hc : s.2.2.findIdx (nzB v) < s.2.2.length
  ·obtain ⟨f1, f2, f3⟩ := find_nz hc hok.l (show v < W by omega)
   obtain ⟨_, i1, i2, i3⟩ := inv_ok hp f1 f2
   have hsc := spec_scale_ok hp hW f3 (b := invP p ((s.2.2.getD (s.2.2.findIdx (nzB v)) []).getD v 0)) ⟨by omega, i3⟩
   have hrow := scale_ok hp f3 (b := invP p ((s.2.2.getD (s.2.2.findIdx (nzB v)) []).getD v 0)) ⟨by omega, i3⟩
   have hS : elimS p s v = (s.1.map (lessR p (scaleR p (invP p ((s.2.2.getD (s.2.2.findIdx (nzB v)) []).getD v 0)) (s.2.2.getD (s.2.2.findIdx (nzB v)) [])) v) ++ [scaleR p (invP p ((s.2.2.getD (s.2.2.findIdx (nzB v)) []).getD v 0)) (s.2.2.getD (s.2.2.findIdx (nzB v)) [])], s.2.1 ++ [(v : Int)], (s.2.2.eraseIdx (s.2.2.findIdx (nzB v))).map (lessR p (scaleR p (invP p ((s.2.2.getD (s.2.2.findIdx (nzB v)) []).getD v 0)) (s.2.2.getD (s.2.2.findIdx (nzB v)) [])) v)) := by
    unfold elimS; dsimp only; rw [if_pos hc]
   rw [hS]
   generalize hK : s.2.2.findIdx (nzB v) = K at *
   generalize hI : invP p ((s.2.2.getD K []).getD v 0) = I at *
   have hvl : v < (s.2.2.getD K []).length := by rw [f3.1]; omega
   have hoth : ([] ++ ((s.2.2.take (Int.toNat (K : Int))).drop (Int.toNat 0))) ++ ((s.2.2.take (Int.toNat (s.2.2.length : Int))).drop (Int.toNat (w64 ((K : Int) + 1)))) = s.2.2.eraseIdx K := by
    rw [w64_succ (show K < 4611686018427387904 by omega), erase_take]; simp
   have hel : (s.2.2.eraseIdx K).length ≤ 100000 := by have := List.length_eraseIdx_le s.2.2 K; omega
   have h16 := spec_L16 hp hW (l := s.2.2.eraseIdx K) (fun r h => hok.l r (List.mem_of_mem_eraseIdx h)) hel hrow (show v < W by omega) (V : Int) ([], ([], [])) s
   have h16 : spec_l21Eliminate_L16 fuel (p, (V : Int), ([], ([], [])), (s.1, (s.2.1, s.2.2)), (v : Int), scaleR p I (s.2.2.getD K []), s.2.2.eraseIdx K, 0) = _ := h16
   have h20 := spec_L20 hp hW (l := s.1) hok.t (by omega) hrow (show v < W by omega) (V : Int) ([], ([], [])) s.2.1 s.2.2 ((s.2.2.eraseIdx K).map (lessR p (scaleR p I (s.2.2.getD K [])) v))
   have h20 : spec_l21Eliminate_L20 fuel (p, (V : Int), ([], ([], [])), (s.1, (s.2.1, s.2.2)), (v : Int), scaleR p I (s.2.2.getD K []), (s.2.2.eraseIdx K).map (lessR p (scaleR p I (s.2.2.getD K [])) v), 0) = _ := h20
   rw [if_neg (by simp; omega)]
   simp only [inb_nat, hc, gd_D, hvl, if_true, i1, hsc, Option.bind_some, hoth, h16, h20, w64_succ (show v < 4611686018427387904 by omega)]
   rw [if_pos (by omega), if_pos (by simp; unfold lim; omega), if_pos (by rw [w64_succ (show K < 4611686018427387904 by omega)]; omega), if_pos (by rw [w64_succ (show K < 4611686018427387904 by omega)]; simp; unfold lim; omega), if_pos (by simp; unfold lim; omega), if_pos (by simp; unfold lim; omega)]
  ·have hS : elimS p s v = s := by unfold elimS; dsimp only; rw [if_neg hc]
   have hle := List.findIdx_le_length (xs := s.2.2) (p := nzB v)
   rw [hS, if_pos (by simp; omega)]
   simp only [w64_succ (show v < 4611686018427387904 by omega)]
 ·simp only [spec_l21Eliminate_L7]
  rw [if_neg (by simp)]
end
end T
open Go Go.Va
namespace T
def barr (V : Nat) (b : List Int) : List Int := (List.range V).map (posL b)
section
variable {p : Int} {W N V : Nat}
theorem posL_snoc {b : List Int} {x : Int} {u : Nat} : posL (b ++ [x]) u = if (u : Int) ∈ b then posL b u else if x = (u : Int) then (b.length : Int) else -1 := by
 unfold posL
 rw [List.findIdx?_append]
 by_cases h : (u : Int) ∈ b
 ·rw [if_pos h]
  have h1 : (b.findIdx? fun y => y == (u : Int)).isSome = true := by
   rw [List.findIdx?_isSome, List.any_eq_true]
   exact ⟨_, h, by simp⟩
  obtain ⟨i, hi⟩ := Option.isSome_iff_exists.1 h1
  rw [hi]; rfl
 ·rw [if_neg h]
  have h1 : (b.findIdx? fun y => y == (u : Int)) = none := by
   rw [List.findIdx?_eq_none_iff]
   intro y hy
   simp only [beq_eq_false_iff_ne]
   intro e; exact h (e ▸ hy)
  rw [h1]
  by_cases hx : x = (u : Int)
  ·rw [if_pos hx, hx]; simp [List.findIdx?_cons]
  ·rw [if_neg hx]
   have : (x == (u : Int)) = false := by simpa using hx
   simp [List.findIdx?_cons, this]
theorem barr_len {b : List Int} : (barr V b).length = V := by simp [barr]
theorem barr_get {b : List Int} {u : Nat} (h : u < V) : (barr V b).getD u 0 = posL b u := by rw [getD_of (by rw [barr_len]; exact h)]; simp [barr]
theorem posL_none {b : List Int} {u : Nat} (h : (u : Int) ∉ b) : posL b u = -1 := by
 unfold posL
 have h1 : (b.findIdx? fun y => y == (u : Int)) = none := by
  rw [List.findIdx?_eq_none_iff]
  intro y hy
  simp only [beq_eq_false_iff_ne]
  intro e; exact h (e ▸ hy)
 rw [h1]
theorem posL_at {b : List Int} {u : Nat} (h : (u : Int) ∈ b) : ∃ i, ∃ hi : i < b.length, posL b u = (i : Int) ∧ b[i] = (u : Int) := by
 unfold posL
 have h1 : (b.findIdx? fun y => y == (u : Int)).isSome = true := by
  rw [List.findIdx?_isSome, List.any_eq_true]
  exact ⟨_, h, by simp⟩
 obtain ⟨i, hi⟩ := Option.isSome_iff_exists.1 h1
 rw [hi]
 obtain ⟨g1, g2, _⟩ := List.findIdx?_eq_some_iff_getElem.1 hi
 exact ⟨i, g1, rfl, by simpa using g2⟩
theorem barr_set {b : List Int} {v : Nat} (hv : v < V) (hb : (v : Int) ∉ b) : (barr V b).set v (b.length : Int) = barr V (b ++ [(v : Int)]) := by
 unfold barr
 apply List.ext_getElem
 ·simp
 ·intro u h1 h2
  rw [List.getElem_set]
  simp only [List.getElem_map, List.getElem_range, posL_snoc]
  by_cases e : v = u
  ·subst e; rw [if_pos rfl, if_neg hb, if_pos rfl]
  ·rw [if_neg e]
   by_cases hu : (u : Int) ∈ b
   ·rw [if_pos hu]
   ·rw [if_neg hu, if_neg (by omega), posL_none hu]
theorem cloneRows_ok {rows : List (List Int)} (hN : rows.length ≤ 100000) (hr : ∀ r ∈ rows, r.length ≤ 100000) : impl_cloneRows rows = some rows := by
 unfold impl_cloneRows
 have := forS rows.length (fun f o i => impl_cloneRows_L3 f (o, rows, (rows.length : Int), i)) (fun k => rows.take k) (r := some rows) (fun f k hk => by
  have hl := hr _ (List.getElem_mem hk)
  have hcl : impl_clone rows[k] = some rows[k] := by
   unfold impl_clone
   rw [if_pos (by simp; unfold lim; omega)]; simp
  simp only [impl_cloneRows_L3, inb_nat, hk, gd_nat hk, hcl, Option.bind_some, List.take_succ_eq_append_getElem hk, if_true, w64_succ (show k < 4611686018427387904 by omega)]
  rw [if_pos (by simp; omega), if_pos (by simp; unfold lim; omega)]) (fun f => by
  simp only [impl_cloneRows_L3, List.take_length]
  rw [if_neg (by simp)]) (n := fuel) (by unfold fuel; omega)
 have this : impl_cloneRows_L3 fuel ([], rows, (rows.length : Int), 0) = _ := this
 rw [this]; rfl
theorem impl_L6 {t l : List (List Int)} {v : Nat} (hl : ∀ r ∈ l, okRow p W r) (hv : v < W) (hN : t.length + l.length ≤ 100000) (a b c : Int) (bd : List Int) :
    impl_eliminate_L6 fuel (p, (V : Int), (a, (b, (t ++ l, (c, bd)))), (v : Int), (t.length : Int)) = some (p, (V : Int), (a, (b, (t ++ l, (c, bd)))), (v : Int), ((t.length + l.findIdx (nzB v) : Nat) : Int)) := by
  have hlen : (t ++ l).length = t.length + l.length := List.length_append
  have key := fun P => seekX (l := l) v (fun f i => impl_eliminate_L6 f (p, (V : Int), (a, (b, (t ++ l, (c, bd)))), (v : Int), (t.length : Int) + i)) (fun k => (p, (V : Int), (a, (b, (t ++ l, (c, bd)))), (v : Int), ((t.length + k : Nat) : Int))) (fun f k hk => ?_) (fun f => ?_) l.length 0 fuel (by omega) P
  · have := key (by unfold fuel; omega)
    rw [List.drop_zero, Nat.zero_add] at this
    have e : ((t.length : Nat) : Int) + ((0 : Nat) : Int) = (t.length : Int) := by omega
    rw [e] at this
    exact this
  · have hr := hl _ (List.getElem_mem hk)
    have hkk : t.length + k < (t ++ l).length := by omega
    have hg : (t ++ l).getD (t.length + k) [] = l[k] := by rw [getD_of hkk, List.getElem_append_right (by omega)]; simp
    have hvl : v < l[k].length := by rw [hr.1]; exact hv
    have e : (t.length : Int) + (k : Int) = ((t.length + k : Nat) : Int) := by push_cast; rfl
    have e2 : (t.length : Int) + ((k + 1 : Nat) : Int) = ((t.length + k + 1 : Nat) : Int) := by push_cast; omega
    simp only [impl_eliminate_L6, e, e2, inb_nat, hkk, gd_D, hg, hvl, if_true, w64_succ (show t.length + k < 4611686018427387904 by omega)]
    rw [if_pos (decide_eq_true (Int.ofNat_lt.2 hkk))]
    unfold nzB
    by_cases hz : l[k].getD v 0 = 0
    · rw [if_pos (by simpa using hz), if_neg (by simpa using hz)]
    · rw [if_neg (by simpa using hz), if_pos (by simpa using hz)]
  · have e : (t.length : Int) + (l.length : Int) = ((t.length + l.length : Nat) : Int) := by push_cast; rfl
    simp only [impl_eliminate_L6, hlen, e]
    rw [if_neg (by simp)]
theorem impl_L14 (hp : pr4 p) (hW : W ≤ 1000) {R : List (List Int)} {T : Nat} (hT : T < R.length) (hr : okRow p W (R.getD T [])) {f0 : Int} (hf : 0 ≤ f0 ∧ f0 < p) (a b c : Int) (bd : List Int) (v : Int) :
    impl_eliminate_L14 fuel ((T : Int), p, (V : Int), (a, (b, (R, (c, bd)))), v, f0, ((R.getD T []).length : Int), 0) = some ((T : Int), p, (V : Int), (a, (b, (R.set T (scaleR p f0 (R.getD T [])), (c, bd)))), v) := by
  have hp0 : p ≠ 0 := by unfold pr4 at hp; omega
  generalize hq : R.getD T [] = r at hr
  have hrl := hr.1
  have := forS r.length (fun f (o : List (List Int)) i => impl_eliminate_L14 f ((T : Int), p, (V : Int), (a, (b, (o, (c, bd)))), v, f0, (r.length : Int), i)) (fun k => R.set T (mix (fun i => Int.tmod (r.getD i 0 * f0) p) (fun i => r.getD i 0) r.length k))
    (r := some ((T : Int), p, (V : Int), (a, (b, (R.set T (scaleR p f0 r), (c, bd)))), v)) (fun f k hk => ?_) (fun f => ?_) (n := fuel) (by unfold fuel; omega)
  · have e : R.set T (mix (fun i => Int.tmod (r.getD i 0 * f0) p) (fun i => r.getD i 0) r.length 0) = R := by
      rw [mix_zero rfl, ← hq, getD_of hT, List.set_getElem_self]
    rw [e] at this
    exact this
  · have hTl : T < (R.set T (mix (fun i => Int.tmod (r.getD i 0 * f0) p) (fun i => r.getD i 0) r.length k)).length := by simpa using hT
    have hg : gd (R.set T (mix (fun i => Int.tmod (r.getD i 0 * f0) p) (fun i => r.getD i 0) r.length k)) (T : Int) [] = mix (fun i => Int.tmod (r.getD i 0 * f0) p) (fun i => r.getD i 0) r.length k := by
      rw [gd_D, getD_of hTl]; simp
    have hkl : k < (mix (fun i => Int.tmod (r.getD i 0 * f0) p) (fun i => r.getD i 0) r.length k).length := by rw [mix_len]; exact hk
    have hgk : (mix (fun i => Int.tmod (r.getD i 0 * f0) p) (fun i => r.getD i 0) r.length k).getD k 0 = r.getD k 0 := by rw [mix_get hk, if_neg (by omega)]
    have hst := mix_set (nw := fun i => Int.tmod (r.getD i 0 * f0) p) (old := fun i => r.getD i 0) hk
    have h1 := ok_get hr (i := k) (by omega)
    have h4 := prod_le (a := r.getD k 0) (b := f0) (by omega) (by unfold pr4 at hp; omega) (by omega) (by unfold pr4 at hp; omega)
    simp only [impl_eliminate_L14, hg, inb_nat, hkl, gd_D, hgk, w64_small (x := r.getD k 0 * f0) (by omega) (by omega), stt_nat, List.set_set, hst, if_true, w64_succ (show k < 4611686018427387904 by omega)]
    rw [if_pos (by simp; omega), if_pos hp0]
  · simp only [impl_eliminate_L14, mix_full]
    rw [if_neg (by simp)]; rfl
theorem impl_L24 (hp : pr4 p) (hW : W ≤ 1000) {R : List (List Int)} {T K : Nat} (hT : T < R.length) (hK : K < R.length) (hne : K ≠ T) (hrT : okRow p W (R.getD T [])) (hrK : okRow p W (R.getD K [])) {v : Nat} (hv : v < W) (a b c : Int) (bd : List Int) (t130 t131 : Int) :
    impl_eliminate_L24 fuel ((T : Int), (K : Int), (), p, (V : Int), (a, (b, (R, (c, bd)))), (v : Int), (R.getD K []).getD v 0, t130, t131, ((R.getD K []).length : Int), 0) = some ((T : Int), (), p, (V : Int), (a, (b, (R.set K (lessR p (R.getD T []) v (R.getD K [])), (c, bd)))), (v : Int), t130, t131) := by
  have hp0 : p ≠ 0 := by unfold pr4 at hp; omega
  generalize hq : R.getD K [] = r at hrK
  generalize hq2 : R.getD T [] = row at hrT
  have hrl := hrK.1
  have := forS r.length (fun f (o : List (List Int)) i => impl_eliminate_L24 f ((T : Int), (K : Int), (), p, (V : Int), (a, (b, (o, (c, bd)))), (v : Int), r.getD v 0, t130, t131, (r.length : Int), i)) (fun k => R.set K (mix (fun i => Int.tmod (r.getD i 0 + (p - r.getD v 0) * row.getD i 0) p) (fun i => r.getD i 0) r.length k))
    (r := some ((T : Int), (), p, (V : Int), (a, (b, (R.set K (lessR p row v r), (c, bd)))), (v : Int), t130, t131)) (fun f k hk => ?_) (fun f => ?_) (n := fuel) (by unfold fuel; omega)
  · have e : R.set K (mix (fun i => Int.tmod (r.getD i 0 + (p - r.getD v 0) * row.getD i 0) p) (fun i => r.getD i 0) r.length 0) = R := by
      rw [mix_zero rfl, ← hq, getD_of hK, List.set_getElem_self]
    rw [e] at this
    exact this
  · have hKl : K < (R.set K (mix (fun i => Int.tmod (r.getD i 0 + (p - r.getD v 0) * row.getD i 0) p) (fun i => r.getD i 0) r.length k)).length := by simpa using hK
    have hTl : T < (R.set K (mix (fun i => Int.tmod (r.getD i 0 + (p - r.getD v 0) * row.getD i 0) p) (fun i => r.getD i 0) r.length k)).length := by simpa using hT
    have hg : gd (R.set K (mix (fun i => Int.tmod (r.getD i 0 + (p - r.getD v 0) * row.getD i 0) p) (fun i => r.getD i 0) r.length k)) (K : Int) [] = mix (fun i => Int.tmod (r.getD i 0 + (p - r.getD v 0) * row.getD i 0) p) (fun i => r.getD i 0) r.length k := by
      rw [gd_D, getD_of hKl]; simp
    have hg2 : gd (R.set K (mix (fun i => Int.tmod (r.getD i 0 + (p - r.getD v 0) * row.getD i 0) p) (fun i => r.getD i 0) r.length k)) (T : Int) [] = row := by
      have hRT : R[T] = row := by rw [getD_of hT] at hq2; exact hq2
      rw [gd_D, getD_of hTl, List.getElem_set_ne (by omega)]; exact hRT
    have hkl : k < (mix (fun i => Int.tmod (r.getD i 0 + (p - r.getD v 0) * row.getD i 0) p) (fun i => r.getD i 0) r.length k).length := by rw [mix_len]; exact hk
    have hkr : k < row.length := by rw [hrT.1]; omega
    have hgk : (mix (fun i => Int.tmod (r.getD i 0 + (p - r.getD v 0) * row.getD i 0) p) (fun i => r.getD i 0) r.length k).getD k 0 = r.getD k 0 := by rw [mix_get hk, if_neg (by omega)]
    have hst := mix_set (nw := fun i => Int.tmod (r.getD i 0 + (p - r.getD v 0) * row.getD i 0) p) (old := fun i => r.getD i 0) hk
    simp only [impl_eliminate_L24, hg, hg2, inb_nat, hkl, hkr, gd_D, hgk, less_w hp hrK hrT hv (show k < W by omega), stt_nat, List.set_set, hst, if_true, w64_succ (show k < 4611686018427387904 by omega)]
    rw [if_pos (by simp; omega), if_pos hp0]
  · simp only [impl_eliminate_L24, mix_full]
    rw [if_neg (by simp)]; rfl
def othR (p : Int) (R : List (List Int)) (T v k : Nat) : List Int := if k = T then R.getD k [] else lessR p (R.getD T []) v (R.getD k [])
theorem impl_L19 (hp : pr4 p) (hW : W ≤ 1000) {R : List (List Int)} {T : Nat} (hT : T < R.length) (hR : ∀ k, k < R.length → okRow p W (R.getD k [])) (hN : R.length ≤ 100000) {v : Nat} (hv : v < W) (a b : Int) (bd : List Int) :
    impl_eliminate_L19 fuel ((T : Int), (), p, (V : Int), (a, (b, (R, ((T : Int), bd)))), (v : Int), (R.length : Int), 0) = some (p, (V : Int), (a, (b, ((List.range R.length).map (othR p R T v), ((T : Int), bd)))), (v : Int)) := by
  have := forS R.length (fun f (o : List (List Int)) i => impl_eliminate_L19 f ((T : Int), (), p, (V : Int), (a, (b, (o, ((T : Int), bd)))), (v : Int), (R.length : Int), i)) (fun k => mix (othR p R T v) (fun k => R.getD k []) R.length k)
    (r := some (p, (V : Int), (a, (b, ((List.range R.length).map (othR p R T v), ((T : Int), bd)))), (v : Int))) (fun f k hk => ?_) (fun f => ?_) (n := fuel) (by unfold fuel; omega)
  · rw [mix_zero rfl] at this
    exact this
  · generalize hM : mix (othR p R T v) (fun k => R.getD k []) R.length k = M
    have hMl : M.length = R.length := by rw [← hM]; exact mix_len
    have hMk : M.getD k [] = R.getD k [] := by rw [← hM, mix_get hk, if_neg (by omega)]
    have hMT : M.getD T [] = R.getD T [] := by
      rw [← hM, mix_get hT]
      split
      · unfold othR; rw [if_pos rfl]
      · rfl
    have hin : k < M.length := by omega
    have hrk := hR k hk
    have hvl : v < (R.getD k []).length := by rw [hrk.1]; exact hv
    have hnx : k ≠ T → M.set k (lessR p (R.getD T []) v (R.getD k [])) = mix (othR p R T v) (fun k => R.getD k []) R.length (k + 1) := fun hne => by
      have := mix_set (nw := othR p R T v) (old := fun k => R.getD k []) hk
      rw [← this, hM]
      unfold othR; rw [if_neg hne]
    have hsame : othR p R T v k = R.getD k [] → mix (othR p R T v) (fun k => R.getD k []) R.length (k + 1) = M := fun h => by rw [mix_same hk h, hM]
    simp only [impl_eliminate_L19, inb_nat, hin, gd_D, hMk, hvl, if_true, w64_succ (show k < 4611686018427387904 by omega)]
    rw [if_pos (by simp; omega)]
    by_cases hkT : k = T
    · rw [if_neg (by simp [hkT]), hsame (by unfold othR; rw [if_pos hkT])]
    · rw [if_pos (by simp; omega)]
      by_cases hz : (R.getD k []).getD v 0 = 0
      · rw [if_neg (by simpa using hz), hsame (by unfold othR; rw [if_neg hkT, less_zero hp hrk (hR T hT) hz])]
      · rw [if_pos (by simpa using hz)]
        have h24 := impl_L24 (V := V) hp hW (R := M) (T := T) (K := k) (by omega) hin hkT (by rw [hMT]; exact hR T hT) (by rw [hMk]; exact hrk) hv a b (T : Int) bd (R.length : Int) (k : Int)
        rw [hMk, hMT] at h24
        simp only [h24, Option.bind_some, hnx hkT, w64_succ (show k < 4611686018427387904 by omega)]
  · simp only [impl_eliminate_L19, mix_full]
    rw [if_neg (by simp)]
theorem upL_app {t l : List (List Int)} {K : Nat} (hK : K < l.length) : upL (t ++ l) t.length (t.length + K) [] = t ++ l.getD K [] :: l.eraseIdx K := by
 unfold upL
 have e1 : (t ++ l).take t.length = t := by simp
 have e2 : (t ++ l).getD (t.length + K) [] = l.getD K [] := by
  rw [getD_of (by simp; omega), getD_of hK, List.getElem_append_right (by omega)]; simp
 have e3 : (t ++ l).drop t.length = l := by simp
 have e4 : (t ++ l).drop (t.length + K + 1) = l.drop (K + 1) := by
  rw [List.drop_append, List.drop_of_length_le (by omega), show t.length + K + 1 - t.length = K + 1 by omega]; rfl
 rw [e1, e2, e3, e4, Nat.add_sub_cancel_left, erase_take]
theorem impl_eliminate_ok (hp : pr4 p) (hVW : V ≤ W) (hW : W ≤ 1000) {rows : List (List Int)} (hr : ∀ r ∈ rows, okRow p W r) (hN : rows.length ≤ 100000) :
    impl_eliminate p (V : Int) rows = some (true, (p, ((V : Int), ((elimF p rows V).1 ++ (elimF p rows V).2.2, (((elimF p rows V).1.length : Int), barr V (elimF p rows V).2.1))))) := by
  unfold impl_eliminate
  rw [cloneRows_ok hN fun r h => by have := (hr r h).1; omega, freeI_ok (N := V) (by omega)]
  simp only [Option.bind_some]
  have h3 := forS V (fun f (s : List (List Int) × (Int × List Int)) i => impl_eliminate_L3 f (p, (V : Int), (p, ((V : Int), (s.1, (s.2.1, s.2.2)))), i)) (fun v => ((elimF p rows v).1 ++ (elimF p rows v).2.2, (((elimF p rows v).1.length : Int), barr V (elimF p rows v).2.1)))
    (r := some (p, ((V : Int), ((elimF p rows V).1 ++ (elimF p rows V).2.2, (((elimF p rows V).1.length : Int), barr V (elimF p rows V).2.1))))) (fun f v hv => ?_) (fun f => ?_) (n := fuel) (by unfold fuel; omega)
  · have e0 : barr V (elimF p rows 0).2.1 = List.replicate V (-1) := by
      apply List.ext_getElem
      · simp [barr]
      · intro i h1 h2
        have : posL ([] : List Int) i = -1 := posL_none (by simp)
        simp only [barr, elimF, List.range_zero, List.foldl_nil, List.getElem_map, List.getElem_range, this, List.getElem_replicate]
    have h3 : impl_eliminate_L3 fuel (p, (V : Int), (p, ((V : Int), (([] : List (List Int)) ++ rows, (0, barr V (elimF p rows 0).2.1)))), 0) = _ := h3
    rw [e0] at h3
    rw [List.nil_append] at h3
    rw [h3]; rfl
  · have hok := elimF_ok hp hr v (by omega)
    have hnx : elimF p rows (v + 1) = elimS p (elimF p rows v) v := by unfold elimF; rw [range_fold]
    rw [hnx]
    generalize elimF p rows v = s at hok
    have hn := hok.n
    have hbl := hok.bl
    obtain ⟨t, bo, l⟩ := s
    dsimp only at hn hbl hok ⊢
    have h6 := impl_L6 (V := V) (p := p) (W := W) (t := t) (l := l) (v := v) hok.l (show v < W by omega) (by omega) p (V : Int) (t.length : Int) (barr V bo)
    simp only [impl_eliminate_L3, h6, Option.bind_some]
    rw [if_pos (by simp; omega)]
    have hlen : (t ++ l).length = t.length + l.length := List.length_append
    by_cases hc : l.findIdx (nzB v) < l.length
    · obtain ⟨f1, f2, f3⟩ := find_nz hc hok.l (show v < W by omega)
      obtain ⟨i0, i1, i2, i3⟩ := inv_ok hp f1 f2
      have hrow := scale_ok hp f3 (b := invP p ((l.getD (l.findIdx (nzB v)) []).getD v 0)) ⟨by omega, i3⟩
      have hS : elimS p (t, bo, l) v = (t.map (lessR p (scaleR p (invP p ((l.getD (l.findIdx (nzB v)) []).getD v 0)) (l.getD (l.findIdx (nzB v)) [])) v) ++ [scaleR p (invP p ((l.getD (l.findIdx (nzB v)) []).getD v 0)) (l.getD (l.findIdx (nzB v)) [])], bo ++ [(v : Int)], (l.eraseIdx (l.findIdx (nzB v))).map (lessR p (scaleR p (invP p ((l.getD (l.findIdx (nzB v)) []).getD v 0)) (l.getD (l.findIdx (nzB v)) [])) v)) := by
        unfold elimS; dsimp only; rw [if_pos hc]
      rw [hS]
      generalize hK : l.findIdx (nzB v) = K at *
      generalize hx : l.getD K [] = x at *
      generalize hI : invP p (x.getD v 0) = I at *
      have hvx : v < x.length := by rw [f3.1]; omega
      have hup : upL (t ++ l) (Int.toNat (t.length : Int)) (Int.toNat ((t.length + K : Nat) : Int)) [] = t ++ x :: l.eraseIdx K := by
        rw [Int.toNat_natCast, Int.toNat_natCast, upL_app hc, hx]
      have hgx : gd (t ++ l) ((t.length + K : Nat) : Int) [] = x := by
        rw [gd_D, getD_of (by omega), List.getElem_append_right (by omega), ← hx, getD_of hc]; simp
      have hTl : t.length < (t ++ x :: l.eraseIdx K).length := by simp
      have hsx : stt (t ++ x :: l.eraseIdx K) (t.length : Int) x = t ++ x :: l.eraseIdx K := by
        rw [stt_nat]; simp
      have hgT : gd (t ++ x :: l.eraseIdx K) (t.length : Int) [] = x := by rw [gd_D, getD_of hTl]; simp
      have hgTD : (t ++ x :: l.eraseIdx K).getD t.length [] = x := hgT
      have w1 : w64 ((t.length : Int) + 1) = ((t.length + 1 : Nat) : Int) := w64_succ (by omega)
      have w2 : w64 (((t.length + K : Nat) : Int) + 1) = ((t.length + K + 1 : Nat) : Int) := w64_succ (by omega)
      have hR0l : (t ++ x :: l.eraseIdx K).length = rows.length := by
        have h9 : (l.eraseIdx K).length = l.length - 1 := List.length_eraseIdx_of_lt hc
        simp only [List.length_append, List.length_cons]; omega
      have h14 := impl_L14 (V := V) hp hW (R := t ++ x :: l.eraseIdx K) (T := t.length) hTl (by rw [hgTD]; exact f3) (f0 := I) ⟨by omega, i3⟩ p (V : Int) (t.length : Int) (barr V bo) (v : Int)
      rw [hgTD] at h14
      have hset : (t ++ x :: l.eraseIdx K).set t.length (scaleR p I x) = t ++ scaleR p I x :: l.eraseIdx K := by simp
      rw [hset] at h14
      have hR1 : ∀ k, k < (t ++ scaleR p I x :: l.eraseIdx K).length → okRow p W ((t ++ scaleR p I x :: l.eraseIdx K).getD k []) := fun k hk => by
        have hm : (t ++ scaleR p I x :: l.eraseIdx K).getD k [] ∈ t ++ scaleR p I x :: l.eraseIdx K := by rw [getD_of hk]; exact List.getElem_mem hk
        rcases List.mem_append.1 hm with h | h
        · exact hok.t _ h
        · rcases List.mem_cons.1 h with h | h
          · rw [h]; exact hrow
          · exact hok.l _ (List.mem_of_mem_eraseIdx h)
      have hR1l : (t ++ scaleR p I x :: l.eraseIdx K).length = rows.length := by rw [← hR0l]; simp
      have h19 := impl_L19 (V := V) hp hW (R := t ++ scaleR p I x :: l.eraseIdx K) (T := t.length) (by simp) hR1 (by omega) (show v < W by omega) p (V : Int) (barr V bo)
      have hfin : (List.range (t ++ scaleR p I x :: l.eraseIdx K).length).map (othR p (t ++ scaleR p I x :: l.eraseIdx K) t.length v) = (t.map (lessR p (scaleR p I x) v) ++ [scaleR p I x]) ++ (l.eraseIdx K).map (lessR p (scaleR p I x) v) := by
        have hgt : (t ++ scaleR p I x :: l.eraseIdx K).getD t.length [] = scaleR p I x := by rw [getD_of (by simp)]; simp
        rw [List.append_assoc, List.singleton_append]
        apply List.ext_getElem
        · simp
        · intro k h1 h2
          simp only [List.getElem_map, List.getElem_range]
          unfold othR
          rw [hgt]
          have hk : k < (t ++ scaleR p I x :: l.eraseIdx K).length := by simpa using h1
          by_cases c1 : k < t.length
          · rw [if_neg (by omega), getD_of hk, List.getElem_append_left c1, List.getElem_append_left (by simpa using c1), List.getElem_map]
          · by_cases c2 : k = t.length
            · subst c2
              rw [if_pos rfl, hgt, List.getElem_append_right (by simp)]; simp
            · rw [if_neg c2, getD_of hk, List.getElem_append_right (by omega), List.getElem_append_right (by simp; omega)]
              simp only [List.length_map]
              rw [List.getElem_cons, dif_neg (by omega), List.getElem_cons, dif_neg (by omega), List.getElem_map]
      rw [hfin] at h19
      have hvb : v < (barr V bo).length := by rw [barr_len]; exact hv
      have hnb : (v : Int) ∉ bo := fun h => by have := hok.bv _ h; omega
      have hbs : (barr V bo).set v (t.length : Int) = barr V (bo ++ [(v : Int)]) := by
        have := barr_set hv hnb
        rw [hbl] at this
        exact this
      rw [if_neg (by rw [hlen]; simp; omega), if_pos (by rw [inb_nat]; omega)]
      simp only [hup, hgx, hsx, hgT, inb_nat, hTl, hvx, i0, Option.bind_some, h14, h19, hvb, stt_nat, hbs, if_true, w1, w2, w64_succ (show v < 4611686018427387904 by omega)]
      rw [if_pos (by rw [hlen]; omega), if_pos (by rw [hlen]; omega)]
      have hgv : gd x (v : Int) 0 = x.getD v 0 := gd_D
      simp only [hgv, i0, Option.bind_some, h14]
      rw [if_pos ⟨by omega, by omega, trivial⟩]
      rw [h19]
      simp only [Option.bind_some, inb_nat, hvb, stt_nat, hbs, if_true, w1, w64_succ (show v < 4611686018427387904 by omega)]
      rw [show (List.map (lessR p (scaleR p I x) v) t ++ [scaleR p I x]).length = t.length + 1 by simp]
    · have hS : elimS p (t, bo, l) v = (t, bo, l) := by unfold elimS; dsimp only; rw [if_neg hc]
      have hle := List.findIdx_le_length (xs := l) (p := nzB v)
      rw [hS, if_pos (by rw [hlen]; simp; omega)]
      simp only [w64_succ (show v < 4611686018427387904 by omega)]
  · simp only [impl_eliminate_L3]
    rw [if_neg (by simp)]
end
end T
open Go Go.Va
namespace T
def freeL (N : Nat) (b : List Int) : List Int := ((List.range N).filter fun v : Nat => !decide ((v : Int) ∈ b)).map fun v : Nat => (v : Int)
theorem freeL_succ {N : Nat} {b : List Int} : freeL (N + 1) b = freeL N b ++ (if (N : Int) ∈ b then [] else [(N : Int)]) := by
 unfold freeL
 rw [List.range_succ, List.filter_append, List.map_append]
 congr 1
 by_cases h : (N : Int) ∈ b <;> simp [h]
theorem freeL_mem {N : Nat} {b : List Int} {x : Int} (h : x ∈ freeL N b) : ∃ u : Nat, u < N ∧ x = (u : Int) := by
 unfold freeL at h
 obtain ⟨u, hu, rfl⟩ := List.mem_map.1 h
 exact ⟨u, List.mem_range.1 (List.mem_filter.1 hu).1, rfl⟩
theorem freeL_le {N : Nat} {b : List Int} : (freeL N b).length ≤ N := by
 unfold freeL
 rw [List.length_map]
 have := List.length_filter_le (fun v : Nat => !decide ((v : Int) ∈ b)) (List.range N)
 rw [List.length_range] at this
 exact this
section
variable {p : Int} {W N V : Nat}
theorem posL_uniq {b : List Int} (hb : b.Nodup) {i : Nat} (hi : i < b.length) {u : Nat} (h : b[i] = (u : Int)) : posL b u = (i : Int) := by
 obtain ⟨j, hj, h1, h2⟩ := posL_at (b := b) (u := u) (h ▸ List.getElem_mem hi)
 rw [h1]
 rcases Nat.lt_trichotomy i j with h3 | h3 | h3
 ·exact absurd (h.trans h2.symm) (List.pairwise_iff_getElem.1 hb i j hi hj h3)
 ·rw [h3]
 ·exact absurd (h2.trans h.symm) (List.pairwise_iff_getElem.1 hb j i hj hi h3)
theorem posL_neg {b : List Int} {u : Nat} : posL b u < 0 ↔ (u : Int) ∉ b := by
 by_cases h : (u : Int) ∈ b
 ·obtain ⟨i, hi, h1, _⟩ := posL_at h
  rw [h1]; simp [h]
 ·rw [posL_none h]; simp [h]
def keptE (p : Int) (V : Nat) (s : ES) : Bool × Int × Int × List (List Int) × Int × List Int := (true, (p, ((V : Int), (s.1 ++ s.2.2, ((s.1.length : Int), barr V s.2.1)))))
def failB (V : Nat) (s : ES) : Bool := s.2.2.any (nzB V)
theorem fails_ok {s : ES} (hs : ESok p W N V s) (hV : V < W) (hN : N ≤ 100000) : impl_eliminated_fails_p (keptE p V s) = some (failB V s) := by
 obtain ⟨t, b, l⟩ := s
 have hn := hs.n
 dsimp only at hn
 unfold impl_eliminated_fails_p
 have e1 : (((t ++ l).take (Int.toNat ((t ++ l).length : Int))).drop (Int.toNat (t.length : Int))) = l := by rw [Int.toNat_natCast, Int.toNat_natCast, List.take_length]; simp
 have key := allX l (fun m i => impl_eliminated_fails_p_L2 m (keptE p V (t, b, l), l, (l.length : Int), i)) (fun r => !nzB V r) (.inr true) (.inl ()) (fun m k hk => ?_) (fun m => ?_) (n := fuel) (by unfold fuel; omega)
 ·have h1 : (keptE p V (t, b, l)).1 = true := rfl
  have h2 : (keptE p V (t, b, l)).2.2.2.1 = t ++ l := rfl
  have h3 : (keptE p V (t, b, l)).2.2.2.2.1 = (t.length : Int) := rfl
  rw [if_pos h1, if_pos h1, h2, h3, if_pos ⟨by omega, by rw [List.length_append]; omega, by omega⟩, e1, key]
  unfold failB
  have e : (l.all fun r => !nzB V r) = !(l.any (nzB V)) := by rw [List.not_any_eq_all_not]
  rw [e]
  cases l.any (nzB V) <;> simp
 ·have hr := hs.l _ (List.getElem_mem hk)
  have hvl : V < l[k].length := by rw [hr.1]; exact hV
  have h1 : (keptE p V (t, b, l)).1 = true := rfl
  have h2 : (keptE p V (t, b, l)).2.2.1 = (V : Int) := rfl
  simp only [impl_eliminated_fails_p_L2, inb_nat, hk, gd_nat hk, h1, h2, hvl, gd_D, if_true, w64_succ (show k < 4611686018427387904 by omega)]
  rw [if_pos (by simp; omega)]
  unfold nzB
  by_cases hz : l[k].getD V 0 = 0
  ·rw [if_neg (by simpa using hz), if_pos (by simpa using hz)]
  ·rw [if_pos (by simpa using hz), if_neg (by simpa using hz)]
 ·simp only [impl_eliminated_fails_p_L2]
  rw [if_neg (by simp)]
theorem empty_ok {s : ES} (hs : ESok p W N V s) (hV : V < W) (hN : N ≤ 100000) : spec_l21Empty s (V : Int) = some (failB V s) := by
 obtain ⟨t, b, l⟩ := s
 have hn := hs.n
 dsimp only at hn
 unfold spec_l21Empty
 have key := allX l (fun m i => spec_l21Empty_L2 m ((V : Int), (t, (b, l)), i)) (fun r => !nzB V r) (.inr true) (.inl ()) (fun m k hk => ?_) (fun m => ?_) (n := fuel) (by unfold fuel; omega)
 ·dsimp only
  rw [key]
  unfold failB
  have e : (l.all fun r => !nzB V r) = !(l.any (nzB V)) := by rw [List.not_any_eq_all_not]
  rw [e]
  cases l.any (nzB V) <;> simp
 ·have hr := hs.l _ (List.getElem_mem hk)
  have hvl : V < l[k].length := by rw [hr.1]; exact hV
  simp only [spec_l21Empty_L2, inb_nat, hk, gd_nat hk, hvl, gd_D, if_true, w64_succ (show k < 4611686018427387904 by omega)]
  rw [if_pos (by simp; omega)]
  unfold nzB
  by_cases hz : l[k].getD V 0 = 0
  ·rw [if_neg (by simpa using hz), if_pos (by simpa using hz)]
  ·rw [if_pos (by simpa using hz), if_neg (by simpa using hz)]
 ·simp only [spec_l21Empty_L2]
  rw [if_neg (by simp)]
theorem freeVars_ok {s : ES} (hV : V ≤ 1000) : impl_eliminated_freeVars_p (keptE p V s) = some (freeL V s.2.1) := by
 unfold impl_eliminated_freeVars_p
 have h1 : (keptE p V s).1 = true := rfl
 have h2 : (keptE p V s).2.2.2.2.2 = barr V s.2.1 := rfl
 have := forS V (fun f o i => impl_eliminated_freeVars_p_L3 f (o, barr V s.2.1, (V : Int), i)) (fun k => freeL k s.2.1) (r := some (freeL V s.2.1)) (fun f k hk => ?_) (fun f => ?_) (n := fuel) (by unfold fuel; omega)
 ·have this : impl_eliminated_freeVars_p_L3 fuel ([], barr V s.2.1, (V : Int), 0) = _ := this
  rw [if_pos h1, h2, barr_len, this]; rfl
 ·have hl : k < (barr V s.2.1).length := by rw [barr_len]; exact hk
  have hle := freeL_le (N := k) (b := s.2.1)
  simp only [impl_eliminated_freeVars_p_L3, inb_nat, hl, gd_D, barr_get hk, if_true, w64_succ (show k < 4611686018427387904 by omega), freeL_succ]
  rw [if_pos (by simp; omega)]
  by_cases hm : (k : Int) ∈ s.2.1
  ·rw [if_neg (by rw [decide_eq_true_iff, posL_neg]; exact fun h => h hm), if_pos hm, List.append_nil]
  ·rw [if_pos (by rw [decide_eq_true_iff, posL_neg]; exact hm), if_neg hm, if_pos (by simp; unfold lim; omega)]
 ·simp only [impl_eliminated_freeVars_p_L3]
  rw [if_neg (by simp)]
theorem free_ok {s : ES} (hs : ESok p W N V s) (hN : N ≤ 100000) (hV : V ≤ 1000) : spec_l21Free s (V : Int) = some (freeL V s.2.1) := by
 unfold spec_l21Free
 have hb := hs.bl
 have hn := hs.n
 have := forS V (fun f o i => spec_l21Free_L3 f ((V : Int), (s.1, (s.2.1, s.2.2)), o, i)) (fun k => freeL k s.2.1) (r := some (freeL V s.2.1)) (fun f k hk => ?_) (fun f => ?_) (n := fuel) (by unfold fuel; omega)
 ·have this : spec_l21Free_L3 fuel ((V : Int), (s.1, (s.2.1, s.2.2)), [], 0) = _ := this
  rw [this]; rfl
 ·have hle := freeL_le (N := k) (b := s.2.1)
  simp only [spec_l21Free_L3, spec_l1Has_ok (show s.2.1.length ≤ 1048576 by omega), Option.bind_some, w64_succ (show k < 4611686018427387904 by omega), freeL_succ]
  rw [if_pos (by simp; omega)]
  by_cases hm : (k : Int) ∈ s.2.1
  ·rw [if_neg (by simpa using hm), if_pos hm, List.append_nil]
  ·rw [if_pos (by simpa using hm), if_neg hm, if_pos (by simp; unfold lim; omega)]
 ·simp only [spec_l21Free_L3]
  rw [if_neg (by simp)]
def solV (V : Nat) (s : ES) (u : Nat) : Int := if posL s.2.1 u < 0 then 0 else (s.1.getD (posL s.2.1 u).toNat []).getD V 0
def solL (V : Nat) (s : ES) : List Int := (List.range V).map (solV V s)
theorem getD_repl {V k : Nat} : (List.replicate V (0 : Int)).getD k 0 = 0 := by
 rw [List.getD_eq_getElem?_getD, List.getElem?_replicate]; split <;> rfl
theorem solution_ok (hp : pr4 p) {s : ES} (hs : ESok p W N V s) (hV : V < W) (hN : N ≤ 100000) (hW : W ≤ 1000) : impl_eliminated_solution_p (keptE p V s) (List.replicate V 0) = some (solL V s) := by
 have hp0 : p ≠ 0 := by unfold pr4 at hp; omega
 have hpb : 2 ≤ p ∧ p ≤ 7 := by unfold pr4 at hp; omega
 obtain ⟨t, b, l⟩ := s
 have hn := hs.n
 have hbl := hs.bl
 dsimp only at hn hbl
 generalize hE : keptE p V (t, b, l) = E
 have h1 : E.1 = true := by rw [← hE]; rfl
 have h2 : E.2.1 = p := by rw [← hE]; rfl
 have h3 : E.2.2.1 = (V : Int) := by rw [← hE]; rfl
 have h4 : E.2.2.2.1 = t ++ l := by rw [← hE]; rfl
 have h5 : E.2.2.2.2.2 = barr V b := by rw [← hE]; rfl
 have hfr : impl_eliminated_freeVars_p E = some (freeL V b) := by rw [← hE]; exact freeVars_ok (by omega)
 generalize hF : freeL V b = F at hfr
 have hFl : F.length ≤ V := by rw [← hF]; exact freeL_le
 have hFm : ∀ k (hk : k < F.length), ∃ u : Nat, u < V ∧ F[k] = (u : Int) := fun k hk => freeL_mem (b := b) (by rw [hF]; exact List.getElem_mem hk)
 have l4 := forS F.length (fun f (_ : Unit) i => impl_eliminated_solution_p_L4 f ((), E, List.replicate V (0 : Int), List.replicate V (0 : Int), F, (F.length : Int), i)) (fun _ => ()) (r := some (E, List.replicate V (0 : Int), List.replicate V (0 : Int), F)) (fun f k hk => by
  obtain ⟨u, hu, e⟩ := hFm k hk
  have hk2 : k < (List.replicate V (0 : Int)).length := by simp; omega
  have hu2 : u < (List.replicate V (0 : Int)).length := by simp; omega
  simp only [impl_eliminated_solution_p_L4, inb_nat, hk, gd_nat hk, e, hk2, hu2, gd_D, getD_repl, stt_nat, if_true, w64_succ (show k < 4611686018427387904 by omega)]
  rw [if_pos (by simp; omega), List.set_replicate_self]) (fun f => by
  simp only [impl_eliminated_solution_p_L4]
  rw [if_neg (by simp)]) (n := fuel) (by unfold fuel; omega)
 have l14 : ∀ (out : List Int) (v i : Nat) (x : Int), i < t.length → 0 ≤ x ∧ x < p → impl_eliminated_solution_p_L14 fuel ((), E, List.replicate V (0 : Int), out, F, (v : Int), (i : Int), x, barr V b, (V : Int), (v : Int), (F.length : Int), 0) = some (E, List.replicate V (0 : Int), out, F, (v : Int), x, barr V b, (V : Int), (v : Int)) := by
  intro out v i x hi hx
  refine forS F.length (fun f (_ : Unit) j => impl_eliminated_solution_p_L14 f ((), E, List.replicate V (0 : Int), out, F, (v : Int), (i : Int), x, barr V b, (V : Int), (v : Int), (F.length : Int), j)) (fun _ => ()) (r := some (E, List.replicate V (0 : Int), out, F, (v : Int), x, barr V b, (V : Int), (v : Int))) (fun f k hk => ?_) (fun f => ?_) (n := fuel) (by unfold fuel; omega)
  ·obtain ⟨u, hu, e⟩ := hFm k hk
   have hil : i < (t ++ l).length := by rw [List.length_append]; omega
   have hrow : okRow p W ((t ++ l).getD i []) := by rw [getD_of hil, List.getElem_append_left hi]; exact hs.t _ (List.getElem_mem hi)
   have hk2 : k < (List.replicate V (0 : Int)).length := by simp; omega
   have hul : u < ((t ++ l).getD i []).length := by rw [hrow.1]; omega
   simp only [impl_eliminated_solution_p_L14, inb_nat, hk, gd_nat hk, e, h1, h2, h4, hil, hul, hk2, gd_D, getD_repl, Int.mul_zero, if_true, w64_succ (show k < 4611686018427387904 by omega)]
   rw [if_pos (by simp; omega), w64_small (x := 0) (by omega) (by omega), Int.add_zero, w64_small (x := x) (by omega) (by omega)]
  ·simp only [impl_eliminated_solution_p_L14]
   rw [if_neg (by simp)]
 have l9 := forS V (fun f (o : List Int) i => impl_eliminated_solution_p_L9 f (E, List.replicate V (0 : Int), o, F, barr V b, (V : Int), i)) (fun v => mix (solV V (t, b, l)) (fun _ => 0) V v) (r := some (solL V (t, b, l))) (fun f v hv => ?_) (fun f => ?_) (n := fuel) (by unfold fuel; omega)
 ·have e0 : mix (solV V (t, b, l)) (fun _ => 0) V 0 = List.replicate V (0 : Int) := by
   apply List.ext_getElem
   ·rw [mix_len]; simp
   ·intro i _ _; simp [mix]
  rw [e0] at l9
  have l9 : impl_eliminated_solution_p_L9 fuel (E, List.replicate V (0 : Int), List.replicate V (0 : Int), F, barr V b, (V : Int), 0) = _ := l9
  have l4 : impl_eliminated_solution_p_L4 fuel ((), E, List.replicate V (0 : Int), List.replicate V (0 : Int), F, (F.length : Int), 0) = _ := l4
  unfold impl_eliminated_solution_p
  rw [if_pos h1, h3, if_pos (by unfold lim; omega), hfr]
  simp only [Option.bind_some, Int.toNat_natCast, l4]
  rw [if_pos h1, h5, barr_len, l9]; rfl
 ·have hvl : v < (barr V b).length := by rw [barr_len]; exact hv
  simp only [impl_eliminated_solution_p_L9, inb_nat, hvl, gd_D, barr_get hv, h1, h3, h4, if_true]
  rw [if_pos (by simp; omega)]
  by_cases hm : (v : Int) ∈ b
  ·obtain ⟨i, hi, g1, _⟩ := posL_at hm
   have hit : i < t.length := by omega
   have hil : i < (t ++ l).length := by rw [List.length_append]; omega
   have hg : (t ++ l).getD i [] = t.getD i [] := by rw [getD_of hil, List.getElem_append_left hit, getD_of hit]
   have hrow : okRow p W (t.getD i []) := by rw [getD_of hit]; exact hs.t _ (List.getElem_mem hit)
   have hx := ok_get hrow hV
   have hVl : V < (t.getD i []).length := by rw [hrow.1]; exact hV
   have hml : v < (mix (solV V (t, b, l)) (fun _ => 0) V v).length := by rw [mix_len]; exact hv
   have hsv : solV V (t, b, l) v = (t.getD i []).getD V 0 := by
    unfold solV; dsimp only; rw [g1, if_neg (by omega), Int.toNat_natCast]
   have hst := mix_set (nw := solV V (t, b, l)) (old := fun _ => (0 : Int)) hv
   rw [hsv] at hst
   rw [g1, if_neg (by simp)]
   simp only [inb_nat, hil, hg, gd_D, hVl, if_true, barr_len]
   rw [l14 _ v i _ hit hx]
   simp only [Option.bind_some, h1, h2, inb_nat, hml, if_true, stt_nat, w64_succ (show v < 4611686018427387904 by omega)]
   rw [if_pos hp0, Int.tmod_eq_of_lt hx.1 hx.2, hst]
  ·rw [if_pos (by rw [decide_eq_true_iff, posL_neg]; exact hm), mix_same hv (by unfold solV; rw [if_pos (posL_neg.2 hm)]), w64_succ (show v < 4611686018427387904 by omega)]
 ·simp only [impl_eliminated_solution_p_L9, mix_full]
  rw [if_neg (by simp)]; rfl
theorem least_ok (hp : pr4 p) {s : ES} (hs : ESok p W N V s) (hV : V < W) (hN : N ≤ 100000) (hW : W ≤ 1000) : impl_eliminated_leastSolution_p (keptE p V s) = some (if failB V s then ([], false) else (solL V s, true)) := by
 unfold impl_eliminated_leastSolution_p
 rw [fails_ok hs hV hN]
 simp only [Option.bind_some]
 cases failB V s with
 | true => rfl
 | false =>
  have h1 : (keptE p V s).1 = true := rfl
  have h3 : (keptE p V s).2.2.1 = (V : Int) := rfl
  simp only [Bool.false_eq_true, if_false]
  rw [if_pos h1, h3, if_pos (by unfold lim; omega), Int.toNat_natCast, solution_ok hp hs hV hN hW]; rfl
theorem solve_ok (hp : pr4 p) (hV : V < W) (hW : W ≤ 1000) {rows : List (List Int)} (hr : ∀ r ∈ rows, okRow p W r) (hN : rows.length ≤ 100000) : spec_l21Solve p (V : Int) rows = some (if failB V (elimF p rows V) then ([], false) else (solL V (elimF p rows V), true)) := by
 unfold spec_l21Solve
 have hs := elimF_ok hp hr V (by omega)
 rw [spec_Eliminate_ok hp (by omega) hW hr hN]
 simp only [Option.bind_some]
 generalize elimF p rows V = s at hs
 have he := empty_ok hs hV hN
 have he : spec_l21Empty (s.1, (s.2.1, s.2.2)) (V : Int) = _ := he
 rw [he]
 simp only [Option.bind_some]
 cases failB V s with
 | true => rfl
 | false =>
  simp only [Bool.false_eq_true, if_false]
  rw [if_pos (by unfold lim; omega), Int.toNat_natCast]
  have hbl := hs.bl
  have hn := hs.n
  have l6 := forS s.2.1.length (fun f (o : List Int) i => spec_l21Solve_L6 f ((V : Int), (s.1, (s.2.1, s.2.2)), o, i)) (fun j => (List.range V).map fun u => if 0 ≤ posL s.2.1 u ∧ posL s.2.1 u < (j : Int) then (s.1.getD (posL s.2.1 u).toNat []).getD V 0 else 0) (r := some (solL V s)) (fun f j hj => ?_) (fun f => ?_) (n := fuel) (by unfold fuel; omega)
  ·have e0 : ((List.range V).map fun u => if 0 ≤ posL s.2.1 u ∧ posL s.2.1 u < ((0 : Nat) : Int) then (s.1.getD (posL s.2.1 u).toNat []).getD V 0 else 0) = List.replicate V (0 : Int) := by
    apply List.ext_getElem
    ·simp
    ·intro i _ _
     simp only [List.getElem_map, List.getElem_range, List.getElem_replicate]
     rw [if_neg (by omega)]
   rw [e0] at l6
   have l6 : spec_l21Solve_L6 fuel ((V : Int), (s.1, (s.2.1, s.2.2)), List.replicate V (0 : Int), 0) = _ := l6
   rw [l6]; rfl
  ·have hbv := hs.bv _ (List.getElem_mem hj)
   obtain ⟨u, hu⟩ : ∃ u : Nat, s.2.1[j] = (u : Int) := ⟨s.2.1[j].toNat, by omega⟩
   have hpu := posL_uniq hs.bn hj hu
   have hj1 : j < s.1.length := by omega
   have hrow : okRow p W (s.1.getD j []) := by rw [getD_of hj1]; exact hs.t _ (List.getElem_mem hj1)
   have hVl : V < (s.1.getD j []).length := by rw [hrow.1]; exact hV
   have huV : u < V := by omega
   simp only [spec_l21Solve_L6, inb_nat, hj, hj1, gd_nat hj, hu, gd_D, hVl, if_true, stt_nat, w64_succ (show j < 4611686018427387904 by omega)]
   rw [if_pos (by simp; omega), if_pos (by simp; omega)]
   congr 1
   refine congrArg (fun o => ((V : Int), (s.1, (s.2.1, s.2.2)), o, ((j + 1 : Nat) : Int))) ?_
   apply List.ext_getElem
   ·simp
   ·intro w h1 h2
    rw [List.getElem_set]
    simp only [List.getElem_map, List.getElem_range]
    by_cases e : u = w
    ·subst e
     rw [if_pos rfl, hpu, if_pos (by omega), Int.toNat_natCast]
    ·rw [if_neg e]
     have hne : posL s.2.1 w ≠ (j : Int) := fun h => by
      have hm : (w : Int) ∈ s.2.1 := by
       by_cases hm : (w : Int) ∈ s.2.1
       ·exact hm
       ·rw [posL_none hm] at h; omega
      obtain ⟨i, hi, g1, g2⟩ := posL_at hm
      have : i = j := by omega
      subst this
      rw [hu] at g2; omega
     by_cases c : 0 ≤ posL s.2.1 w ∧ posL s.2.1 w < (j : Int)
     ·rw [if_pos c, if_pos (by omega)]
     ·rw [if_neg c, if_neg (by omega)]
  ·simp only [spec_l21Solve_L6]
   rw [if_neg (by simp)]
   unfold solL
   congr 1
   refine List.map_congr_left fun u _ => ?_
   unfold solV
   by_cases hm : (u : Int) ∈ s.2.1
   ·obtain ⟨i, hi, g1, _⟩ := posL_at hm
    rw [g1, if_pos (by omega), if_neg (by omega)]
   ·rw [posL_none hm, if_neg (by omega), if_pos (by omega)]
end
end T
open Go Go.Va
namespace T
section
variable {a : Lin}
theorem elim_kept {p : Int} {W V : Nat} (hp : pr4 p) (hV : V ≤ W) (hW : W ≤ 1000) {rows : List (List Int)} (hr : ∀ r ∈ rows, okRow p W r) (hN : rows.length ≤ 100000) : impl_eliminate p (V : Int) rows = some (keptE p V (elimF p rows V)) := impl_eliminate_ok hp hV hW hr hN
end
end T
open Go Go.Va
namespace T
section
variable {a : Lin} {p : Int} {W N V : Nat}
theorem filter_snoc {α : Type} {q : α → Bool} {l : List α} {x : α} : (l ++ [x]).filter q = l.filter q ++ (if q x then [x] else []) := by
 rw [List.filter_append]; congr 1; cases h : q x <;> simp [h]
end
end T
set_option linter.unusedVariables false
open Go Go.Va
namespace T
def spec_l21Kernel_L8 : Nat → (Int × Int × ((List (List Int)) × (List Int) × (List (List Int))) × (List (List Int)) × (List Int) × Int × (List Int) × Int) → Option (Int × Int × ((List (List Int)) × (List Int) × (List (List Int))) × (List (List Int)) × (List Int) × Int × (List Int))
 | 0, _ => none
 | n + 1, (p, vars, w, out, free, i, values, k) =>
  if decide (k < (w.2.1.length : Int)) then
   if inb k w.2.1 then
    if inb k w.1 then
     if inb i free then
      if inb (gd free i 0) (gd w.1 k []) then
       if p ≠ 0 then
        if inb (gd w.2.1 k 0) values then
         spec_l21Kernel_L8 n (p, vars, (w.1, (w.2.1, w.2.2)), out, free, i, stt values (gd w.2.1 k 0) (Int.tmod (w64 (p - (gd (gd w.1 k []) (gd free i 0) 0))) p), w64 (k + 1))
        else none
       else none
      else none
     else none
    else none
   else none
  else
   some (p, vars, (w.1, (w.2.1, w.2.2)), out, free, i, values)
def spec_l21Kernel_L3 : Nat → (Int × Int × ((List (List Int)) × (List Int) × (List (List Int))) × (List (List Int)) × (List Int) × Int) → Option ((List (List Int)))
 | 0, _ => none
 | n + 1, (p, vars, w, out, free, i) =>
  if decide (i < (free.length : Int)) then
   if 0 ≤ vars ∧ vars ≤ vars ∧ vars ≤ lim then
    if inb i free then
     if inb (gd free i 0) (List.replicate (Int.toNat vars) (0 : Int)) then
      (spec_l21Kernel_L8 fuel (p, vars, (w.1, (w.2.1, w.2.2)), out, free, i, stt (List.replicate (Int.toNat vars) (0 : Int)) (gd free i 0) 1, 0)).bind fun s2 =>
       if s2.2.2.2.1.length + [s2.2.2.2.2.2.2].length ≤ lim then
        spec_l21Kernel_L3 n (s2.1, s2.2.1, (s2.2.2.1.1, (s2.2.2.1.2.1, s2.2.2.1.2.2)), s2.2.2.2.1 ++ [s2.2.2.2.2.2.2], s2.2.2.2.2.1, w64 (s2.2.2.2.2.2.1 + 1))
       else none
     else none
    else none
   else none
  else
   some out
def spec_l21Kernel (w : (List (List Int)) × (List Int) × (List (List Int))) (p : Int) (vars : Int) : Option ((List (List Int))) :=
 (spec_l21Free (w.1, (w.2.1, w.2.2)) vars).bind fun r1 =>
  (spec_l21Kernel_L3 fuel (p, vars, (w.1, (w.2.1, w.2.2)), [], r1, 0)).bind fun s2 =>
   some s2
def impl_eliminate_b_L6 : Nat → (Int × Int × (Int × (Int × ((List (List Int)) × (Int × (List Int))))) × Int × Int) → Option (Int × Int × (Int × (Int × ((List (List Int)) × (Int × (List Int))))) × Int × Int)
 | 0, _ => none
 | n + 1, (t0, t1, t7, t8, t9) =>
  if decide (t9 < (t7.2.2.1.length : Int)) then
   if inb t9 t7.2.2.1 then
    if inb t8 (gd t7.2.2.1 t9 []) then
     if (gd (gd t7.2.2.1 t9 []) t8 0) == 0 then
      impl_eliminate_b_L6 n (t0, t1, (t7.1, (t7.2.1, (t7.2.2.1, (t7.2.2.2.1, t7.2.2.2.2)))), t8, w64 (t9 + 1))
     else
      some (t0, t1, (t7.1, (t7.2.1, (t7.2.2.1, (t7.2.2.2.1, t7.2.2.2.2)))), t8, t9)
    else none
   else none
  else
   some (t0, t1, (t7.1, (t7.2.1, (t7.2.2.1, (t7.2.2.2.1, t7.2.2.2.2)))), t8, t9)
def impl_eliminate_b_L14 : Nat → (Int × Int × Int × (Int × (Int × ((List (List Int)) × (Int × (List Int))))) × Int × Int × Int × Int) → Option (Int × Int × Int × (Int × (Int × ((List (List Int)) × (Int × (List Int))))) × Int)
 | 0, _ => none
 | n + 1, (row10, t0, t1, t7, t8, t11, t110, t111) =>
  if decide (t111 < t110) then
   if inb t111 (gd t7.2.2.1 row10 []) then
    if t0 ≠ 0 then
     if inb t111 (gd t7.2.2.1 row10 []) then
      impl_eliminate_b_L14 n (row10, t0, t1, (t7.1, (t7.2.1, (stt t7.2.2.1 row10 (stt (gd t7.2.2.1 row10 []) t111 (Int.tmod (w64 ((gd (gd t7.2.2.1 row10 []) t111 0) * t11)) t0)), (t7.2.2.2.1, t7.2.2.2.2)))), t8, t11, t110, w64 (t111 + 1))
     else none
    else none
   else none
  else
   some (row10, t0, t1, (t7.1, (t7.2.1, (t7.2.2.1, (t7.2.2.2.1, t7.2.2.2.2)))), t8)
def impl_eliminate_b_L24 : Nat → (Int × Int × Unit × Int × Int × (Int × (Int × ((List (List Int)) × (Int × (List Int))))) × Int × Int × Int × Int × Int × Int) → Option (Int × Unit × Int × Int × (Int × (Int × ((List (List Int)) × (Int × (List Int))))) × Int × Int × Int)
 | 0, _ => none
 | n + 1, (row10, row14, al129, t0, t1, t7, t8, t15, t130, t131, t151, t152) =>
  if decide (t152 < t151) then
   if inb t152 (gd t7.2.2.1 row14 []) then
    if inb t152 (gd t7.2.2.1 row10 []) then
     if t0 ≠ 0 then
      if inb t152 (gd t7.2.2.1 row14 []) then
       impl_eliminate_b_L24 n (row10, row14, (), t0, t1, (t7.1, (t7.2.1, (stt t7.2.2.1 row14 (stt (gd t7.2.2.1 row14 []) t152 (Int.tmod (w64 ((gd (gd t7.2.2.1 row14 []) t152 0) + (w64 ((w64 (t0 - t15)) * (gd (gd t7.2.2.1 row10 []) t152 0))))) t0)), (t7.2.2.2.1, t7.2.2.2.2)))), t8, t15, t130, t131, t151, w64 (t152 + 1))
      else none
     else none
    else none
   else none
  else
   some (row10, (), t0, t1, (t7.1, (t7.2.1, (t7.2.2.1, (t7.2.2.2.1, t7.2.2.2.2)))), t8, t130, t131)
def impl_eliminate_b_L19 : Nat → (Int × Unit × Int × Int × (Int × (Int × ((List (List Int)) × (Int × (List Int))))) × Int × Int × Int) → Option (Int × Int × (Int × (Int × ((List (List Int)) × (Int × (List Int))))) × Int)
 | 0, _ => none
 | n + 1, (row10, al129, t0, t1, t7, t8, t130, t131) =>
  if decide (t131 < t130) then
   if inb t131 t7.2.2.1 then
    if inb t8 (gd t7.2.2.1 t131 []) then
     if t131 != t7.2.2.2.1 then
      if (gd (gd t7.2.2.1 t131 []) t8 0) != 0 then
       (impl_eliminate_b_L24 fuel (row10, t131, (), t0, t1, (t7.1, (t7.2.1, (t7.2.2.1, (t7.2.2.2.1, t7.2.2.2.2)))), t8, gd (gd t7.2.2.1 t131 []) t8 0, t130, t131, ((gd t7.2.2.1 t131 []).length : Int), 0)).bind fun s6 =>
        impl_eliminate_b_L19 n (s6.1, (), s6.2.2.1, s6.2.2.2.1, (s6.2.2.2.2.1.1, (s6.2.2.2.2.1.2.1, (s6.2.2.2.2.1.2.2.1, (s6.2.2.2.2.1.2.2.2.1, s6.2.2.2.2.1.2.2.2.2)))), s6.2.2.2.2.2.1, s6.2.2.2.2.2.2.1, w64 (s6.2.2.2.2.2.2.2 + 1))
      else
       impl_eliminate_b_L19 n (row10, (), t0, t1, (t7.1, (t7.2.1, (t7.2.2.1, (t7.2.2.2.1, t7.2.2.2.2)))), t8, t130, w64 (t131 + 1))
     else
      impl_eliminate_b_L19 n (row10, (), t0, t1, (t7.1, (t7.2.1, (t7.2.2.1, (t7.2.2.2.1, t7.2.2.2.2)))), t8, t130, w64 (t131 + 1))
    else none
   else none
  else
   some (t0, t1, (t7.1, (t7.2.1, (t7.2.2.1, (t7.2.2.2.1, t7.2.2.2.2)))), t8)
def impl_eliminate_b_L3 : Nat → (Int × Int × (Int × (Int × ((List (List Int)) × (Int × (List Int))))) × Int) → Option ((Int × (Int × ((List (List Int)) × (Int × (List Int))))))
 | 0, _ => none
 | n + 1, (t0, t1, t7, t8) =>
  if decide (t8 < t1) then
   (impl_eliminate_b_L6 fuel (t0, t1, (t7.1, (t7.2.1, (t7.2.2.1, (t7.2.2.2.1, t7.2.2.2.2)))), t8, t7.2.2.2.1)).bind fun s3 =>
    if s3.2.2.2.2 == (s3.2.2.1.2.2.1.length : Int) then
     impl_eliminate_b_L3 n (s3.1, s3.2.1, (s3.2.2.1.1, (s3.2.2.1.2.1, (s3.2.2.1.2.2.1, (s3.2.2.1.2.2.2.1, s3.2.2.1.2.2.2.2)))), w64 (s3.2.2.2.1 + 1))
    else
     if inb s3.2.2.2.2 s3.2.2.1.2.2.1 then
      if (0 : Int) ≤ (w64 (s3.2.2.1.2.2.2.1 + 1)) ∧ (w64 (s3.2.2.1.2.2.2.1 + 1)) ≤ (w64 (s3.2.2.2.2 + 1)) ∧ (w64 (s3.2.2.2.2 + 1)) ≤ (s3.2.2.1.2.2.1.length : Int) then
       if (0 : Int) ≤ s3.2.2.1.2.2.2.1 ∧ s3.2.2.1.2.2.2.1 ≤ s3.2.2.2.2 ∧ s3.2.2.2.2 ≤ (s3.2.2.1.2.2.1.length : Int) then
        if (w64 (s3.2.2.1.2.2.2.1 + 1)) = s3.2.2.1.2.2.2.1 + 1 ∧ (w64 (s3.2.2.2.2 + 1)) = s3.2.2.2.2 + 1 ∧ s3.2.2.2.2 = s3.2.2.2.2 then
         if inb s3.2.2.1.2.2.2.1 (upL s3.2.2.1.2.2.1 (Int.toNat s3.2.2.1.2.2.2.1) (Int.toNat s3.2.2.2.2) []) then
          if s3.2.2.1.2.2.2.1 = s3.2.2.1.2.2.2.1 then
           if inb s3.2.2.2.1 (gd (stt (upL s3.2.2.1.2.2.1 (Int.toNat s3.2.2.1.2.2.2.1) (Int.toNat s3.2.2.2.2) []) s3.2.2.1.2.2.2.1 (gd s3.2.2.1.2.2.1 s3.2.2.2.2 [])) s3.2.2.1.2.2.2.1 []) then
            (impl_inverseOf (gd (gd (stt (upL s3.2.2.1.2.2.1 (Int.toNat s3.2.2.1.2.2.2.1) (Int.toNat s3.2.2.2.2) []) s3.2.2.1.2.2.2.1 (gd s3.2.2.1.2.2.1 s3.2.2.2.2 [])) s3.2.2.1.2.2.2.1 []) s3.2.2.2.1 0) s3.1).bind fun r4 =>
             (impl_eliminate_b_L14 fuel (s3.2.2.1.2.2.2.1, s3.1, s3.2.1, (s3.2.2.1.1, (s3.2.2.1.2.1, (stt (upL s3.2.2.1.2.2.1 (Int.toNat s3.2.2.1.2.2.2.1) (Int.toNat s3.2.2.2.2) []) s3.2.2.1.2.2.2.1 (gd s3.2.2.1.2.2.1 s3.2.2.2.2 []), (s3.2.2.1.2.2.2.1, s3.2.2.1.2.2.2.2)))), s3.2.2.2.1, r4, ((gd (stt (upL s3.2.2.1.2.2.1 (Int.toNat s3.2.2.1.2.2.2.1) (Int.toNat s3.2.2.2.2) []) s3.2.2.1.2.2.2.1 (gd s3.2.2.1.2.2.1 s3.2.2.2.2 [])) s3.2.2.1.2.2.2.1 []).length : Int), 0)).bind fun s5 =>
              (impl_eliminate_b_L19 fuel (s5.1, (), s5.2.1, s5.2.2.1, (s5.2.2.2.1.1, (s5.2.2.2.1.2.1, (s5.2.2.2.1.2.2.1, (s5.2.2.2.1.2.2.2.1, s5.2.2.2.1.2.2.2.2)))), s5.2.2.2.2, (s5.2.2.2.1.2.2.1.length : Int), 0)).bind fun s6 =>
               if inb s6.2.2.2 s6.2.2.1.2.2.2.2 then
                impl_eliminate_b_L3 n (s6.1, s6.2.1, (s6.2.2.1.1, (s6.2.2.1.2.1, (s6.2.2.1.2.2.1, (w64 (s6.2.2.1.2.2.2.1 + 1), stt s6.2.2.1.2.2.2.2 s6.2.2.2 s6.2.2.1.2.2.2.1)))), w64 (s6.2.2.2 + 1))
               else none
           else none
          else none
         else none
        else none
       else none
      else none
     else none
  else
   some (t7.1, (t7.2.1, (t7.2.2.1, (t7.2.2.2.1, t7.2.2.2.2))))
def impl_eliminate_b (t0 : Int) (t1 : Int) (t2 : List (List Int)) : Option ((Int × (Int × ((List (List Int)) × (Int × (List Int)))))) :=
 (impl_cloneRows t2).bind fun r1 =>
  (impl_freeTable t1).bind fun r2 =>
   (impl_eliminate_b_L3 fuel (t0, t1, (t0, (t1, (r1, (0, r2)))), 0)).bind fun s3 =>
    some (s3.1, (s3.2.1, (s3.2.2.1, (s3.2.2.2.1, s3.2.2.2.2))))
def impl_eliminated_kernel_L2 : Nat → (Unit × (Int × (Int × ((List (List Int)) × (Int × (List Int))))) × Int × Int) → Option ((Int × (Int × ((List (List Int)) × (Int × (List Int))))))
 | 0, _ => none
 | n + 1, (al12, e, t13, t14) =>
  if decide (t14 < t13) then
   if inb t14 e.2.2.1 then
    if inb e.2.1 (gd e.2.2.1 t14 []) then
     impl_eliminated_kernel_L2 n ((), (e.1, (e.2.1, (stt e.2.2.1 t14 (stt (gd e.2.2.1 t14 []) e.2.1 0), (e.2.2.2.1, e.2.2.2.2)))), t13, w64 (t14 + 1))
    else none
   else none
  else
   some (e.1, (e.2.1, (e.2.2.1, (e.2.2.2.1, e.2.2.2.2))))
def impl_eliminated_kernel_L9 : Nat → ((Int × (Int × ((List (List Int)) × (Int × (List Int))))) × (List (List Int)) × (List Int) × Int × Int) → Option ((Int × (Int × ((List (List Int)) × (Int × (List Int))))) × (List (List Int)))
 | 0, _ => none
 | n + 1, (e, list, free, t29, t30) =>
  if decide (t30 < t29) then
   if 0 ≤ (free.length : Int) ∧ (free.length : Int) ≤ (free.length : Int) ∧ (free.length : Int) ≤ lim then
    if inb t30 (List.replicate (Int.toNat (free.length : Int)) (0 : Int)) then
     (impl_eliminated_solution (e.1, (e.2.1, (e.2.2.1, (e.2.2.2.1, e.2.2.2.2)))) (stt (List.replicate (Int.toNat (free.length : Int)) (0 : Int)) t30 1)).bind fun r3 =>
      if list.length + [r3.2].length ≤ lim then
       impl_eliminated_kernel_L9 n ((r3.1.1, (r3.1.2.1, (r3.1.2.2.1, (r3.1.2.2.2.1, r3.1.2.2.2.2)))), list ++ [r3.2], free, t29, w64 (t30 + 1))
      else none
    else none
   else none
  else
   some ((e.1, (e.2.1, (e.2.2.1, (e.2.2.2.1, e.2.2.2.2)))), list)
def impl_eliminated_kernel (e : Int × (Int × ((List (List Int)) × (Int × (List Int))))) : Option ((Int × (Int × ((List (List Int)) × (Int × (List Int))))) × (List (List Int))) :=
 (impl_eliminated_kernel_L2 fuel ((), (e.1, (e.2.1, (e.2.2.1, (e.2.2.2.1, e.2.2.2.2)))), (e.2.2.1.length : Int), 0)).bind fun s1 =>
  (impl_eliminated_freeVars (s1.1, (s1.2.1, (s1.2.2.1, (s1.2.2.2.1, s1.2.2.2.2))))).bind fun r2 =>
   (impl_eliminated_kernel_L9 fuel ((r2.1.1, (r2.1.2.1, (r2.1.2.2.1, (r2.1.2.2.2.1, r2.1.2.2.2.2)))), [], r2.2, (r2.2.length : Int), 0)).bind fun s3 =>
    some ((s3.1.1, (s3.1.2.1, (s3.1.2.2.1, (s3.1.2.2.2.1, s3.1.2.2.2.2)))), s3.2)
end T
open Go Go.Va
namespace T
theorem elb_L6 : ∀ n x, impl_eliminate_b_L6 n x = impl_eliminate_L6 n x
 | 0, _ => rfl
 | n + 1, x => by obtain ⟨t0, t1, t7, t8, t9⟩ := x; simp only [impl_eliminate_b_L6, impl_eliminate_L6, elb_L6 n]
theorem elb_L14 : ∀ n x, impl_eliminate_b_L14 n x = impl_eliminate_L14 n x
 | 0, _ => rfl
 | n + 1, x => by obtain ⟨a, t0, t1, t7, t8, t9, b, c⟩ := x; simp only [impl_eliminate_b_L14, impl_eliminate_L14, elb_L14 n]
theorem elb_L24 : ∀ n x, impl_eliminate_b_L24 n x = impl_eliminate_L24 n x
 | 0, _ => rfl
 | n + 1, x => by obtain ⟨a, b, c, t0, t1, t7, t8, t9, d, e, f, g⟩ := x; simp only [impl_eliminate_b_L24, impl_eliminate_L24, elb_L24 n]
theorem elb_L19 : ∀ n x, impl_eliminate_b_L19 n x = impl_eliminate_L19 n x
 | 0, _ => rfl
 | n + 1, x => by obtain ⟨a, c, t0, t1, t7, t8, d, e⟩ := x; simp only [impl_eliminate_b_L19, impl_eliminate_L19, elb_L19 n, elb_L24]
theorem elb_L3 : ∀ n x, impl_eliminate_b_L3 n x = impl_eliminate_L3 n x
 | 0, _ => rfl
 | n + 1, x => by obtain ⟨t0, t1, t7, t8⟩ := x; simp only [impl_eliminate_b_L3, impl_eliminate_L3, elb_L3 n, elb_L6, elb_L14, elb_L19]
abbrev Bx := Int × (Int × (List (List Int) × (Int × List Int)))
theorem elb_of {p v : Int} {rows : List (List Int)} {q : Bx} (h : impl_eliminate p v rows = some (true, q)) : impl_eliminate_b p v rows = some q := by
 unfold impl_eliminate at h
 unfold impl_eliminate_b
 simp only [elb_L3]
 cases h1 : impl_cloneRows rows with
 | none => rw [h1] at h; cases h
 | some r1 =>
  cases h2 : impl_freeTable v with
  | none => rw [h1, h2] at h; cases h
  | some r2 =>
   rw [h1, h2] at h
   simp only [Option.bind_some] at h ⊢
   cases h3 : impl_eliminate_L3 fuel (p, v, (p, (v, (r1, (0, r2)))), 0) with
   | none => rw [h3] at h; cases h
   | some s3 => rw [h3] at h; simp only [Option.bind_some, Option.some.injEq, Prod.mk.injEq, true_and] at h ⊢; exact h
theorem freeL_inj {N : Nat} {b : List Int} {i j : Nat} (hi : i < (freeL N b).length) (hj : j < (freeL N b).length) (h : i ≠ j) : (freeL N b)[i] ≠ (freeL N b)[j] := by
 have hp : (freeL N b).Pairwise (· ≠ ·) := by
  unfold freeL
  rw [List.pairwise_map]
  refine List.Pairwise.imp (R := fun a b => a < b) (fun h => by omega) (List.Pairwise.filter _ List.pairwise_lt_range)
 rcases Nat.lt_or_ge i j with h1 | h1
 ·exact List.pairwise_iff_getElem.1 hp i j hi hj h1
 ·exact fun e => List.pairwise_iff_getElem.1 hp j i hj hi (by omega) e.symm
theorem freeL_not {N : Nat} {b : List Int} {x : Int} (h : x ∈ freeL N b) : x ∉ b := by
 unfold freeL at h
 obtain ⟨u, hu, rfl⟩ := List.mem_map.1 h
 have := (List.mem_filter.1 hu).2
 simpa using this
section
variable {a : Lin} {p : Int} {W N V : Nat}
def kerU (p : Int) (s : ES) (f u : Nat) : Int := if posL s.2.1 u < 0 then (if u = f then 1 else 0) else Int.tmod (p - (s.1.getD (posL s.2.1 u).toNat []).getD f 0) p
def kerL (p : Int) (V : Nat) (s : ES) (f : Nat) : List Int := (List.range V).map (kerU p s f)
def unitL (m i : Nat) : List Int := (List.replicate m (0 : Int)).set i 1
theorem unit_len {m i : Nat} : (unitL m i).length = m := by simp [unitL]
theorem unit_get {m i k : Nat} (hk : k < m) : (unitL m i).getD k 0 = if k = i then 1 else 0 := by
 rw [getD_of (by rw [unit_len]; exact hk)]
 unfold unitL
 rw [List.getElem_set]
 by_cases e : i = k
 ·rw [if_pos e, if_pos e.symm]
 ·rw [if_neg e, if_neg (fun h => e h.symm)]; simp
def zeroR (V : Nat) (R : List (List Int)) : List (List Int) := R.map fun r => r.set V 0
def boxE (p : Int) (V : Nat) (s : ES) : Bx := (p, ((V : Int), (s.1 ++ s.2.2, ((s.1.length : Int), barr V s.2.1))))
def boxZ (p : Int) (V : Nat) (s : ES) : Bx := (p, ((V : Int), (zeroR V (s.1 ++ s.2.2), ((s.1.length : Int), barr V s.2.1))))
theorem ker_L2 {s : ES} (hs : ESok p W N V s) (hV : V < W) (hN : N ≤ 100000) : impl_eliminated_kernel_L2 fuel ((), boxE p V s, ((s.1 ++ s.2.2).length : Int), 0) = some (boxZ p V s) := by
 have hn := hs.n
 have hlen : (s.1 ++ s.2.2).length = N := by rw [List.length_append]; exact hn
 have hrow : ∀ k, k < (s.1 ++ s.2.2).length → okRow p W ((s.1 ++ s.2.2).getD k []) := fun k hk => by
  have hm : (s.1 ++ s.2.2).getD k [] ∈ s.1 ++ s.2.2 := by rw [getD_of hk]; exact List.getElem_mem hk
  rcases List.mem_append.1 hm with h | h
  ·exact hs.t _ h
  ·exact hs.l _ h
 unfold boxE boxZ zeroR
 generalize s.1 ++ s.2.2 = R at *
 have := forS R.length (fun f o i => impl_eliminated_kernel_L2 f ((), (p, ((V : Int), (o, ((s.1.length : Int), barr V s.2.1)))), (R.length : Int), i)) (fun k => mix (fun k => (R.getD k []).set V 0) (fun k => R.getD k []) R.length k) (r := some (p, ((V : Int), (R.map fun r => r.set V 0, ((s.1.length : Int), barr V s.2.1))))) (fun f k hk => ?_) (fun f => ?_) (n := fuel) (by unfold fuel; omega)
 ·rw [mix_zero rfl] at this; exact this
 ·have hml : (mix (fun k => (R.getD k []).set V 0) (fun k => R.getD k []) R.length k).length = R.length := mix_len
  have hin : k < (mix (fun k => (R.getD k []).set V 0) (fun k => R.getD k []) R.length k).length := by omega
  have hg : (mix (fun k => (R.getD k []).set V 0) (fun k => R.getD k []) R.length k).getD k [] = R.getD k [] := by rw [mix_get hk, if_neg (by omega)]
  have hvl : V < (R.getD k []).length := by rw [(hrow k hk).1]; exact hV
  have hst := mix_set (nw := fun k => (R.getD k []).set V 0) (old := fun k => R.getD k []) hk
  simp only [impl_eliminated_kernel_L2, inb_nat, hin, gd_D, hg, hvl, stt_nat, hst, if_true, w64_succ (show k < 4611686018427387904 by omega)]
  rw [if_pos (by simp; omega)]
 ·simp only [impl_eliminated_kernel_L2, mix_full]
  rw [if_neg (by simp), map_rangeD (fun r : List Int => r.set V 0)]
theorem freeB_ok {q : Int × List (List Int) × Int} {b : List Int} (hV : V ≤ 1000) : impl_eliminated_freeVars (p, (q.1, (q.2.1, (q.2.2, barr V b)))) = some ((p, (q.1, (q.2.1, (q.2.2, barr V b)))), freeL V b) := by
 unfold impl_eliminated_freeVars
 have := forS V (fun f o i => impl_eliminated_freeVars_L3 f ((), (p, (q.1, (q.2.1, (q.2.2, barr V b)))), o, (V : Int), i)) (fun k => freeL k b) (r := some ((p, (q.1, (q.2.1, (q.2.2, barr V b)))), freeL V b)) (fun f k hk => ?_) (fun f => ?_) (n := fuel) (by unfold fuel; omega)
 ·have this : impl_eliminated_freeVars_L3 fuel ((), (p, (q.1, (q.2.1, (q.2.2, barr V b)))), [], (V : Int), 0) = _ := this
  dsimp only
  rw [barr_len, this]; rfl
 ·have hl : k < (barr V b).length := by rw [barr_len]; exact hk
  have hle := freeL_le (N := k) (b := b)
  simp only [impl_eliminated_freeVars_L3, inb_nat, hl, gd_D, barr_get hk, if_true, w64_succ (show k < 4611686018427387904 by omega), freeL_succ]
  rw [if_pos (by simp; omega)]
  by_cases hm : (k : Int) ∈ b
  ·rw [if_neg (by rw [decide_eq_true_iff, posL_neg]; exact fun h => h hm), if_pos hm, List.append_nil]
  ·rw [if_pos (by rw [decide_eq_true_iff, posL_neg]; exact hm), if_neg hm, if_pos (by simp; unfold lim; omega)]
 ·simp only [impl_eliminated_freeVars_L3]
  rw [if_neg (by simp)]
theorem solU_ok (hp : pr4 p) {s : ES} (hs : ESok p W N V s) (hV : V < W) (hN : N ≤ 100000) (hW : W ≤ 1000) {i f : Nat} (hi : i < (freeL V s.2.1).length) (hf : (freeL V s.2.1)[i] = (f : Int)) : impl_eliminated_solution (boxZ p V s) (unitL (freeL V s.2.1).length i) = some (boxZ p V s, kerL p V s f) := by
 have hp0 : p ≠ 0 := by unfold pr4 at hp; omega
 have hpb : 2 ≤ p ∧ p ≤ 7 := by unfold pr4 at hp; omega
 obtain ⟨t, b, l⟩ := s
 have hn := hs.n
 have hbl := hs.bl
 dsimp only at hn hbl hi hf ⊢
 have hFl : (freeL V b).length ≤ V := freeL_le
 have hFm : ∀ k (hk : k < (freeL V b).length), ∃ u : Nat, u < V ∧ (freeL V b)[k] = (u : Int) := fun k hk => freeL_mem (b := b) (List.getElem_mem hk)
 have hFi : ∀ k (hk : k < (freeL V b).length), k ≠ i → (freeL V b)[k] ≠ (f : Int) := fun k hk e => by rw [← hf]; exact freeL_inj hk hi e
 have hfV : f < V := by obtain ⟨u, h1, h2⟩ := hFm i hi; omega
 have hfr : impl_eliminated_freeVars (boxZ p V (t, b, l)) = some (boxZ p V (t, b, l), freeL V b) := freeB_ok (q := ((V : Int), (zeroR V (t ++ l), (t.length : Int)))) (by omega)
 generalize freeL V b = F at *
 have hzl : (zeroR V (t ++ l)).length = t.length + l.length := by simp [zeroR]
 have hzg : ∀ k, k < t.length → (zeroR V (t ++ l)).getD k [] = (t.getD k []).set V 0 := fun k hk => by
  rw [getD_of (by omega), getD_of hk]
  unfold zeroR
  rw [List.getElem_map, List.getElem_append_left hk]
 unfold boxZ at *
 dsimp only at *
 generalize hZ : zeroR V (t ++ l) = Z at *
 have hul : (unitL F.length i).length = F.length := unit_len
 have hug : ∀ k, k < F.length → (unitL F.length i).getD k 0 = if k = i then 1 else 0 := fun k hk => unit_get hk
 generalize unitL F.length i = U at *
 have l4 := forS F.length (fun f' o j => impl_eliminated_solution_L4 f' ((), (p, ((V : Int), (Z, ((t.length : Int), barr V b)))), U, o, F, (F.length : Int), j)) (fun k => (List.range V).map fun u => if i < k ∧ u = f then (1 : Int) else 0) (r := some ((p, ((V : Int), (Z, ((t.length : Int), barr V b)))), U, (List.range V).map fun u => if u = f then (1 : Int) else 0, F)) (fun f' k hk => ?_) (fun f' => ?_) (n := fuel) (by unfold fuel; omega)
 ·have e0 : ((List.range V).map fun u => if i < 0 ∧ u = f then (1 : Int) else 0) = List.replicate V (0 : Int) := by
   apply List.ext_getElem
   ·simp
   ·intro j _ _; simp
  rw [e0] at l4
  have l4 : impl_eliminated_solution_L4 fuel ((), (p, ((V : Int), (Z, ((t.length : Int), barr V b)))), U, List.replicate V (0 : Int), F, (F.length : Int), 0) = _ := l4
  have l14 : ∀ (out : List Int) (v q : Nat), q < t.length → impl_eliminated_solution_L14 fuel ((), (), (p, ((V : Int), (Z, ((t.length : Int), barr V b)))), U, out, F, (v : Int), (q : Int), 0, (V : Int), (v : Int), (F.length : Int), 0) = some ((), (p, ((V : Int), (Z, ((t.length : Int), barr V b)))), U, out, F, (v : Int), p - (t.getD q []).getD f 0, (V : Int), (v : Int)) := by
   intro out v q hq
   have hrow : okRow p W (t.getD q []) := by rw [getD_of hq]; exact hs.t _ (List.getElem_mem hq)
   have hx := ok_get hrow (show f < W by omega)
   have key := forS F.length (fun f' x j => impl_eliminated_solution_L14 f' ((), (), (p, ((V : Int), (Z, ((t.length : Int), barr V b)))), U, out, F, (v : Int), (q : Int), x, (V : Int), (v : Int), (F.length : Int), j)) (fun k => if i < k then p - (t.getD q []).getD f 0 else 0) (r := some ((), (p, ((V : Int), (Z, ((t.length : Int), barr V b)))), U, out, F, (v : Int), p - (t.getD q []).getD f 0, (V : Int), (v : Int))) (fun f' k hk => ?_) (fun f' => ?_) (n := fuel) (by unfold fuel; omega)
   ·rw [if_neg (by omega)] at key; exact key
   ·obtain ⟨u, hu, e⟩ := hFm k hk
    have hqz : q < Z.length := by omega
    have hul2 : u < (Z.getD q []).length := by rw [hzg q hq, List.length_set, hrow.1]; omega
    have hgu : (Z.getD q []).getD u 0 = (t.getD q []).getD u 0 := by
     rw [hzg q hq, List.getD_eq_getElem?_getD, List.getElem?_set_ne (by omega), ← List.getD_eq_getElem?_getD]
    have hku : k < U.length := by omega
    have hxu := ok_get hrow (show u < W by omega)
    simp only [impl_eliminated_solution_L14, inb_nat, hk, gd_nat hk, e, hqz, hul2, hku, gd_D, hgu, hug k hk, if_true, w64_succ (show k < 4611686018427387904 by omega)]
    rw [if_pos (by simp; omega)]
    congr 1
    by_cases c : k = i
    ·have huf : u = f := by subst c; omega
     subst huf
     rw [if_neg (show ¬ i < k by omega), if_pos c, if_pos (show i < k + 1 by omega), Int.mul_one, w64_small (x := p - (t.getD q []).getD u 0) (by omega) (by omega), w64_small (x := p - (t.getD q []).getD u 0) (by omega) (by omega), Int.zero_add, w64_small (x := p - (t.getD q []).getD u 0) (by omega) (by omega)]
    ·rw [if_neg c, Int.mul_zero, w64_small (x := 0) (by omega) (by omega), Int.add_zero]
     by_cases c2 : i < k
     ·rw [if_pos c2, if_pos (show i < k + 1 by omega), w64_small (x := p - (t.getD q []).getD f 0) (by omega) (by omega)]
     ·rw [if_neg c2, if_neg (show ¬ i < k + 1 by omega), w64_small (x := 0) (by omega) (by omega)]
   ·simp only [impl_eliminated_solution_L14]
    rw [if_neg (by simp), if_pos hi]
  have l9 := forS V (fun f' (o : List Int) j => impl_eliminated_solution_L9 f' ((), (p, ((V : Int), (Z, ((t.length : Int), barr V b)))), U, o, F, (V : Int), j)) (fun v => mix (kerU p (t, b, l) f) (fun u => if u = f then 1 else 0) V v) (r := some ((p, ((V : Int), (Z, ((t.length : Int), barr V b)))), kerL p V (t, b, l) f)) (fun f' v hv => ?_) (fun f' => ?_) (n := fuel) (by unfold fuel; omega)
  ·have e1 : mix (kerU p (t, b, l) f) (fun u => if u = f then 1 else 0) V 0 = (List.range V).map fun u => if u = f then (1 : Int) else 0 := by
    unfold mix; refine List.map_congr_left fun q _ => ?_; rw [if_neg (by omega)]
   rw [e1] at l9
   have l9 : impl_eliminated_solution_L9 fuel ((), (p, ((V : Int), (Z, ((t.length : Int), barr V b)))), U, (List.range V).map fun u => if u = f then (1 : Int) else 0, F, (V : Int), 0) = _ := l9
   unfold impl_eliminated_solution
   rw [if_pos (by unfold lim; dsimp only; omega), hfr]
   simp only [Option.bind_some, Int.toNat_natCast, l4, barr_len, l9]
  ·have hvl : v < (barr V b).length := by rw [barr_len]; exact hv
   simp only [impl_eliminated_solution_L9, inb_nat, hvl, gd_D, barr_get hv, if_true]
   rw [if_pos (by simp; omega)]
   by_cases hm : (v : Int) ∈ b
   ·obtain ⟨q, hq, g1, _⟩ := posL_at hm
    have hqt : q < t.length := by omega
    have hqz : q < Z.length := by omega
    have hrow : okRow p W (t.getD q []) := by rw [getD_of hqt]; exact hs.t _ (List.getElem_mem hqt)
    have hVl : V < (Z.getD q []).length := by rw [hzg q hqt, List.length_set, hrow.1]; exact hV
    have hV0 : (Z.getD q []).getD V 0 = 0 := by
     rw [hzg q hqt, List.getD_eq_getElem?_getD, List.getElem?_set_self (by rw [hrow.1]; exact hV)]; rfl
    have hml : v < (mix (kerU p (t, b, l) f) (fun u => if u = f then 1 else 0) V v).length := by rw [mix_len]; exact hv
    have hsv : kerU p (t, b, l) f v = Int.tmod (p - (t.getD q []).getD f 0) p := by
     unfold kerU; dsimp only; rw [g1, if_neg (by omega), Int.toNat_natCast]
    have hst := mix_set (nw := kerU p (t, b, l) f) (old := fun u => if u = f then (1 : Int) else 0) hv
    rw [hsv] at hst
    rw [g1, if_neg (by simp)]
    simp only [inb_nat, hqz, gd_D, hVl, if_true, hV0]
    rw [l14 _ v q hqt]
    simp only [Option.bind_some, inb_nat, hml, if_true, stt_nat, w64_succ (show v < 4611686018427387904 by omega)]
    rw [if_pos hp0, hst]
   ·rw [if_pos (by rw [decide_eq_true_iff, posL_neg]; exact hm), mix_same hv (by unfold kerU; dsimp only; rw [if_pos (posL_neg.2 hm)]), w64_succ (show v < 4611686018427387904 by omega)]
  ·simp only [impl_eliminated_solution_L9, mix_full]
   rw [if_neg (by simp)]; rfl
 ·obtain ⟨u, hu, e⟩ := hFm k hk
  have hku : k < U.length := by omega
  have hu2 : u < ((List.range V).map fun u => if i < k ∧ u = f then (1 : Int) else 0).length := by simp; omega
  simp only [impl_eliminated_solution_L4, inb_nat, hk, gd_nat hk, e, hku, hu2, gd_D, hug k hk, stt_nat, if_true, w64_succ (show k < 4611686018427387904 by omega)]
  rw [if_pos (by simp; omega)]
  congr 1
  refine congrArg (fun o => ((), (p, ((V : Int), (Z, ((t.length : Int), barr V b)))), U, o, F, (F.length : Int), ((k + 1 : Nat) : Int))) ?_
  apply List.ext_getElem
  ·simp
  ·intro w h1 h2
   rw [List.getElem_set]
   simp only [List.getElem_map, List.getElem_range]
   by_cases c : k = i
   ·have huf : u = f := by subst c; omega
    subst huf
    rw [if_pos c]
    by_cases cw : u = w
    ·rw [if_pos cw, if_pos ⟨by omega, cw.symm⟩]
    ·rw [if_neg cw, if_neg (fun h => cw h.2.symm), if_neg (fun h => cw h.2.symm)]
   ·have hne := hFi k hk c
    rw [if_neg c]
    by_cases cw : u = w
    ·rw [if_pos cw, if_neg (fun h => by omega)]
    ·rw [if_neg cw]
     by_cases c2 : i < k ∧ w = f
     ·rw [if_pos c2, if_pos ⟨by omega, c2.2⟩]
     ·rw [if_neg c2, if_neg (fun h => c2 ⟨by omega, h.2⟩)]
 ·simp only [impl_eliminated_solution_L4]
  rw [if_neg (by simp)]
  congr 1
  refine congrArg (fun o => ((p, ((V : Int), (Z, ((t.length : Int), barr V b)))), U, o, F)) ?_
  refine List.map_congr_left fun u _ => ?_
  by_cases c : u = f
  ·rw [if_pos ⟨hi, c⟩, if_pos c]
  ·rw [if_neg (fun h => c h.2), if_neg c]
end
end T
open Go Go.Va
namespace T
section
variable {a : Lin} {p : Int} {W N V : Nat}
def kerLs (p : Int) (V : Nat) (s : ES) : List (List Int) := (freeL V s.2.1).map fun f => kerL p V s f.toNat
theorem ker_ok (hp : pr4 p) {s : ES} (hs : ESok p W N V s) (hV : V < W) (hN : N ≤ 100000) (hW : W ≤ 1000) : impl_eliminated_kernel (boxE p V s) = some (boxZ p V s, kerLs p V s) := by
 have hFl : (freeL V s.2.1).length ≤ V := freeL_le
 have hsol := fun i f hi hf => solU_ok (i := i) (f := f) hp hs hV hN hW hi hf
 have h2 := ker_L2 hs hV hN
 have h2 : impl_eliminated_kernel_L2 fuel ((), ((boxE p V s).1, ((boxE p V s).2.1, ((boxE p V s).2.2.1, ((boxE p V s).2.2.2.1, (boxE p V s).2.2.2.2)))), ((boxE p V s).2.2.1.length : Int), 0) = _ := h2
 have hfr : impl_eliminated_freeVars ((boxZ p V s).1, ((boxZ p V s).2.1, ((boxZ p V s).2.2.1, ((boxZ p V s).2.2.2.1, (boxZ p V s).2.2.2.2)))) = some (boxZ p V s, freeL V s.2.1) := freeB_ok (q := ((V : Int), (zeroR V (s.1 ++ s.2.2), (s.1.length : Int)))) (by omega)
 have hFm : ∀ k (hk : k < (freeL V s.2.1).length), ∃ u : Nat, u < V ∧ (freeL V s.2.1)[k] = (u : Int) := fun k hk => freeL_mem (b := s.2.1) (List.getElem_mem hk)
 unfold impl_eliminated_kernel kerLs
 rw [h2]
 simp only [Option.bind_some, hfr]
 generalize freeL V s.2.1 = F at *
 have l9 := forS F.length (fun f o i => impl_eliminated_kernel_L9 f (boxZ p V s, o, F, (F.length : Int), i)) (fun k => (F.take k).map fun f => kerL p V s f.toNat) (r := some (boxZ p V s, F.map fun f => kerL p V s f.toNat)) (fun f k hk => ?_) (fun f => ?_) (n := fuel) (by unfold fuel; omega)
 ·have l9 : impl_eliminated_kernel_L9 fuel (((boxZ p V s).1, ((boxZ p V s).2.1, ((boxZ p V s).2.2.1, ((boxZ p V s).2.2.2.1, (boxZ p V s).2.2.2.2)))), [], F, (F.length : Int), 0) = _ := l9
  rw [l9]; rfl
 ·obtain ⟨u, hu, e⟩ := hFm k hk
  have h3 := hsol k u hk e
  have h3 : impl_eliminated_solution ((boxZ p V s).1, ((boxZ p V s).2.1, ((boxZ p V s).2.2.1, ((boxZ p V s).2.2.2.1, (boxZ p V s).2.2.2.2)))) ((List.replicate F.length (0 : Int)).set k 1) = _ := h3
  have hkr : k < (List.replicate F.length (0 : Int)).length := by rw [List.length_replicate]; exact hk
  simp only [impl_eliminated_kernel_L9, Int.toNat_natCast, inb_nat, hkr, stt_nat, h3, Option.bind_some, if_true, w64_succ (show k < 4611686018427387904 by omega), List.take_succ_eq_append_getElem hk, List.map_append, List.map_cons, List.map_nil, e]
  rw [if_pos (by simp; omega), if_pos (by unfold lim; omega), if_pos (by simp; unfold lim; omega)]
 ·simp only [impl_eliminated_kernel_L9, List.take_length]
  rw [if_neg (by simp)]
theorem spec_ker_L8 (hp : pr4 p) {s : ES} (hs : ESok p W N V s) (hV : V < W) (hN : N ≤ 100000) (hW : W ≤ 1000) {F : List Int} {i f : Nat} (hi : i < F.length) (hf : F[i] = (f : Int)) (hfV : f < V) (hfb : (f : Int) ∉ s.2.1) (out : List (List Int)) :
    spec_l21Kernel_L8 fuel (p, (V : Int), (s.1, (s.2.1, s.2.2)), out, F, (i : Int), (List.replicate V (0 : Int)).set f 1, 0) = some (p, (V : Int), (s.1, (s.2.1, s.2.2)), out, F, (i : Int), kerL p V s f) := by
  have hp0 : p ≠ 0 := by unfold pr4 at hp; omega
  have hpb : 2 ≤ p ∧ p ≤ 7 := by unfold pr4 at hp; omega
  have hbl := hs.bl
  have hn := hs.n
  have l8 := forS s.2.1.length (fun g (o : List Int) k => spec_l21Kernel_L8 g (p, (V : Int), (s.1, (s.2.1, s.2.2)), out, F, (i : Int), o, k)) (fun k => (List.range V).map fun u => if 0 ≤ posL s.2.1 u ∧ posL s.2.1 u < (k : Int) then Int.tmod (p - (s.1.getD (posL s.2.1 u).toNat []).getD f 0) p else if u = f then 1 else 0) (r := some (p, (V : Int), (s.1, (s.2.1, s.2.2)), out, F, (i : Int), kerL p V s f)) (fun g k hk => ?_) (fun g => ?_) (n := fuel) (by unfold fuel; omega)
  · have e0 : ((List.range V).map fun u => if 0 ≤ posL s.2.1 u ∧ posL s.2.1 u < ((0 : Nat) : Int) then Int.tmod (p - (s.1.getD (posL s.2.1 u).toNat []).getD f 0) p else if u = f then 1 else 0) = (List.replicate V (0 : Int)).set f 1 := by
      apply List.ext_getElem
      · simp
      · intro w h1 h2
        rw [List.getElem_set]
        simp only [List.getElem_map, List.getElem_range, List.getElem_replicate]
        rw [if_neg (by omega)]
        by_cases c : f = w
        · rw [if_pos c, if_pos c.symm]
        · rw [if_neg c, if_neg (fun h => c h.symm)]
    rw [e0] at l8
    exact l8
  · have hbv := hs.bv _ (List.getElem_mem hk)
    obtain ⟨u, hu⟩ : ∃ u : Nat, s.2.1[k] = (u : Int) := ⟨s.2.1[k].toNat, by omega⟩
    have hpu := posL_uniq hs.bn hk hu
    have hk1 : k < s.1.length := by omega
    have hrow : okRow p W (s.1.getD k []) := by rw [getD_of hk1]; exact hs.t _ (List.getElem_mem hk1)
    have hfl : f < (s.1.getD k []).length := by rw [hrow.1]; omega
    have hx := ok_get hrow (show f < W by omega)
    have huV : u < V := by omega
    simp only [spec_l21Kernel_L8, inb_nat, hk, hk1, hi, gd_nat hk, gd_nat hi, hu, hf, gd_D, hfl, if_true, stt_nat, w64_small (x := p - (s.1.getD k []).getD f 0) (by omega) (by omega), w64_succ (show k < 4611686018427387904 by omega)]
    rw [if_pos (by simp; omega), if_pos hp0, if_pos (by simp; omega)]
    congr 1
    refine congrArg (fun o => (p, (V : Int), (s.1, (s.2.1, s.2.2)), out, F, (i : Int), o, ((k + 1 : Nat) : Int))) ?_
    apply List.ext_getElem
    · simp
    · intro w h1 h2
      rw [List.getElem_set]
      simp only [List.getElem_map, List.getElem_range]
      by_cases e : u = w
      · subst e
        rw [if_pos rfl, hpu, if_pos (by omega), Int.toNat_natCast]
      · rw [if_neg e]
        have hne : posL s.2.1 w ≠ (k : Int) := fun h => by
          have hm : (w : Int) ∈ s.2.1 := by
            by_cases hm : (w : Int) ∈ s.2.1
            · exact hm
            · rw [posL_none hm] at h; omega
          obtain ⟨j, hj, g1, g2⟩ := posL_at hm
          have : j = k := by omega
          subst this
          rw [hu] at g2; omega
        by_cases c : 0 ≤ posL s.2.1 w ∧ posL s.2.1 w < (k : Int)
        · rw [if_pos c, if_pos (show 0 ≤ posL s.2.1 w ∧ posL s.2.1 w < ((k + 1 : Nat) : Int) by omega)]
        · rw [if_neg c, if_neg (show ¬ (0 ≤ posL s.2.1 w ∧ posL s.2.1 w < ((k + 1 : Nat) : Int)) by omega)]
  · simp only [spec_l21Kernel_L8]
    rw [if_neg (by simp)]
    unfold kerL
    congr 1
    refine congrArg (fun o => (p, (V : Int), (s.1, (s.2.1, s.2.2)), out, F, (i : Int), o)) ?_
    refine List.map_congr_left fun u _ => ?_
    unfold kerU
    by_cases hm : (u : Int) ∈ s.2.1
    · obtain ⟨j, hj, g1, _⟩ := posL_at hm
      rw [g1, if_pos (by omega), if_neg (by omega)]
    · rw [posL_none hm, if_neg (show ¬ (0 ≤ (-1 : Int) ∧ (-1 : Int) < (s.2.1.length : Int)) by omega), if_pos (show (-1 : Int) < 0 by omega)]
theorem spec_ker_ok (hp : pr4 p) {s : ES} (hs : ESok p W N V s) (hV : V < W) (hN : N ≤ 100000) (hW : W ≤ 1000) : spec_l21Kernel s p (V : Int) = some (kerLs p V s) := by
 have hFl : (freeL V s.2.1).length ≤ V := freeL_le
 have hFm : ∀ k (hk : k < (freeL V s.2.1).length), (∃ u : Nat, u < V ∧ (freeL V s.2.1)[k] = (u : Int)) ∧ (freeL V s.2.1)[k] ∉ s.2.1 := fun k hk => ⟨freeL_mem (b := s.2.1) (List.getElem_mem hk), freeL_not (List.getElem_mem hk)⟩
 have hfr := free_ok hs hN (by omega)
 have hfr : spec_l21Free (s.1, (s.2.1, s.2.2)) (V : Int) = _ := hfr
 unfold spec_l21Kernel kerLs
 rw [hfr]
 simp only [Option.bind_some]
 generalize freeL V s.2.1 = F at *
 have l3 := forS F.length (fun f o i => spec_l21Kernel_L3 f (p, (V : Int), (s.1, (s.2.1, s.2.2)), o, F, i)) (fun k => (F.take k).map fun f => kerL p V s f.toNat) (r := some (F.map fun f => kerL p V s f.toNat)) (fun f k hk => ?_) (fun f => ?_) (n := fuel) (by unfold fuel; omega)
 ·have l3 : spec_l21Kernel_L3 fuel (p, (V : Int), (s.1, (s.2.1, s.2.2)), [], F, 0) = _ := l3
  rw [l3]; rfl
 ·obtain ⟨⟨u, hu, e⟩, hnb⟩ := hFm k hk
  rw [e] at hnb
  have hur : u < (List.replicate V (0 : Int)).length := by simp; omega
  have h8 := spec_ker_L8 hp hs hV hN hW hk e hu hnb ((F.take k).map fun f => kerL p V s f.toNat)
  simp only [spec_l21Kernel_L3, Int.toNat_natCast, inb_nat, hk, gd_nat hk, e, hur, stt_nat, h8, Option.bind_some, if_true, w64_succ (show k < 4611686018427387904 by omega), List.take_succ_eq_append_getElem hk, List.map_append, List.map_cons, List.map_nil]
  rw [if_pos (by simp; omega), if_pos (by unfold lim; omega), if_pos (by simp; unfold lim; omega)]
 ·simp only [spec_l21Kernel_L3, List.take_length]
  rw [if_neg (by simp)]
end
end T
open Go Go.Va
namespace T
def cg (p a b : Int) : Prop := ∃ k, a = b + p * k
section
variable {p a b c d : Int}
theorem cg_of (h : a = b) : cg p a b := ⟨0, by rw [h]; simp⟩
theorem cg_symm (h : cg p a b) : cg p b a := by obtain ⟨k, h⟩ := h; exact ⟨-k, by grind⟩
theorem cg_trans (h : cg p a b) (g : cg p b c) : cg p a c := by obtain ⟨k, h⟩ := h; obtain ⟨m, g⟩ := g; exact ⟨k + m, by grind⟩
theorem cg_add (h : cg p a b) (g : cg p c d) : cg p (a + c) (b + d) := by obtain ⟨k, h⟩ := h; obtain ⟨m, g⟩ := g; exact ⟨k + m, by grind⟩
theorem cg_mul (x : Int) (h : cg p a b) : cg p (x * a) (x * b) := by obtain ⟨k, h⟩ := h; exact ⟨x * k, by grind⟩
theorem cg_mulr (x : Int) (h : cg p a b) : cg p (a * x) (b * x) := by obtain ⟨k, h⟩ := h; exact ⟨x * k, by grind⟩
theorem cg_mod {x : Int} (h0 : 0 ≤ x) : cg p (Int.tmod x p) x := by
 rw [Int.tmod_eq_emod_of_nonneg h0]
 have := Int.emod_add_mul_ediv x p
 exact ⟨-(x / p), by grind⟩
theorem cg_eq (h : cg p a b) (ha : 0 ≤ a ∧ a < p) (hb : 0 ≤ b ∧ b < p) : a = b := by
 obtain ⟨k, h⟩ := h
 have h1 := Int.emod_eq_of_lt ha.1 ha.2
 have h2 := Int.emod_eq_of_lt hb.1 hb.2
 rw [h, Int.add_mul_emod_self_left, h2] at h1
 rw [h1] at h2 ⊢
 omega
end
inductive Sp (p : Int) (V : Nat) (A : List (List Int)) : (Nat → Int) → Prop
 | zero : Sp p V A fun _ => 0
 | add {f : Nat → Int} (r : List Int) (c : Int) : r ∈ A → Sp p V A f → Sp p V A fun i => f i + c * r.getD i 0
 | cgr {f g : Nat → Int} : Sp p V A f → (∀ i, i < V → cg p (g i) (f i)) → Sp p V A g
section
variable {p : Int} {V W N : Nat} {A B : List (List Int)} {f g : Nat → Int}
theorem Sp.lin (hf : Sp p V A f) (hg : Sp p V A g) (c : Int) : Sp p V A fun i => f i + c * g i := by
 induction hg with
 | zero => exact hf.cgr fun i _ => cg_of (by simp)
 | add r d hr _ ih => exact (ih.add r (c * d) hr).cgr fun i _ => cg_of (by grind)
 | cgr _ h ih => exact ih.cgr fun i hi => cg_add (cg_of rfl) (cg_mul c (h i hi))
theorem Sp.mem {r : List Int} (h : r ∈ A) : Sp p V A fun i => r.getD i 0 := (Sp.add r 1 h .zero).cgr fun i _ => cg_of (by simp)
theorem Sp.sub (h : ∀ r ∈ A, Sp p V B fun i => r.getD i 0) (hf : Sp p V A f) : Sp p V B f := by
 induction hf with
 | zero => exact .zero
 | add r c hr _ ih => exact ih.lin (h r hr) c
 | cgr _ h ih => exact ih.cgr h
def eqSp (p : Int) (V : Nat) (A B : List (List Int)) : Prop := ∀ f, Sp p V A f ↔ Sp p V B f
theorem eqSp_of (h : ∀ r ∈ A, Sp p V B fun i => r.getD i 0) (g : ∀ r ∈ B, Sp p V A fun i => r.getD i 0) : eqSp p V A B := fun _ => ⟨Sp.sub h, Sp.sub g⟩
theorem less_get {row r : List Int} {v i : Nat} (h : i < r.length) : (lessR p row v r).getD i 0 = Int.tmod (r.getD i 0 + (p - r.getD v 0) * row.getD i 0) p := by
 rw [getD_of (by unfold lessR; simp; exact h)]; simp [lessR]
theorem scale_get {r : List Int} {b : Int} {i : Nat} (h : i < r.length) : (scaleR p b r).getD i 0 = Int.tmod (r.getD i 0 * b) p := by
 rw [getD_of (by unfold scaleR; simp; exact h)]; simp [scaleR]
theorem less_cg (hp : pr4 p) {row r : List Int} {v i : Nat} (h : okRow p W r) (hr : okRow p W row) (hv : v < W) (hi : i < W) : cg p ((lessR p row v r).getD i 0) (r.getD i 0 + (p - r.getD v 0) * row.getD i 0) := by
 rw [less_get (by rw [h.1]; exact hi)]
 have h1 := ok_get h hi
 have h2 := ok_get hr hi
 have h3 := ok_get h hv
 have := Int.mul_nonneg (show 0 ≤ p - r.getD v 0 by omega) h2.1
 exact cg_mod (by omega)
theorem scale_cg {r : List Int} {b : Int} {i : Nat} (h : okRow p W r) (hb : 0 ≤ b) (hi : i < W) : cg p ((scaleR p b r).getD i 0) (r.getD i 0 * b) := by
 rw [scale_get (by rw [h.1]; exact hi)]
 exact cg_mod (Int.mul_nonneg (ok_get h hi).1 hb)
theorem inv_one : ∀ p : Fin 8, ∀ x : Fin 8, (p.val = 2 ∨ p.val = 3 ∨ p.val = 5 ∨ p.val = 7) → 0 < x.val → x.val < p.val → Int.tmod ((x.val : Int) * invP (p.val : Int) (x.val : Int)) (p.val : Int) = 1 := by decide +kernel
theorem inv_mul {x : Int} (hp : pr4 p) (h0 : 0 < x) (h1 : x < p) : Int.tmod (x * invP p x) p = 1 := by
 unfold pr4 at hp
 have := inv_one ⟨p.toNat, by omega⟩ ⟨x.toNat, by omega⟩ (by simp; omega) (by simp; omega) (by simp; omega)
 simp only [Int.toNat_of_nonneg (show 0 ≤ p by omega), Int.toNat_of_nonneg (show 0 ≤ x by omega)] at this
 exact this
def pivR (p : Int) (s : ES) (v : Nat) : List Int := scaleR p (invP p ((s.2.2.getD (s.2.2.findIdx (nzB v)) []).getD v 0)) (s.2.2.getD (s.2.2.findIdx (nzB v)) [])
theorem elimS_pos {s : ES} {v : Nat} (hc : s.2.2.findIdx (nzB v) < s.2.2.length) : elimS p s v = (s.1.map (lessR p (pivR p s v) v) ++ [pivR p s v], s.2.1 ++ [(v : Int)], (s.2.2.eraseIdx (s.2.2.findIdx (nzB v))).map (lessR p (pivR p s v) v)) := by
 unfold elimS pivR; dsimp only; rw [if_pos hc]
theorem elimS_neg {s : ES} {v : Nat} (hc : ¬ s.2.2.findIdx (nzB v) < s.2.2.length) : elimS p s v = s := by
 unfold elimS; dsimp only; rw [if_neg hc]
theorem piv_ok (hp : pr4 p) {s : ES} {v : Nat} (hs : ESok p W N v s) (hv : v < W) (hc : s.2.2.findIdx (nzB v) < s.2.2.length) :
    okRow p W (pivR p s v) ∧ (pivR p s v).getD v 0 = 1 ∧ (∀ V, Sp p V (s.1 ++ s.2.2) fun i => if i < W then (pivR p s v).getD i 0 else (pivR p s v).getD i 0) ∧ ∃ x ∈ s.2.2, ∃ b, 0 ≤ b ∧ b < p ∧ pivR p s v = scaleR p b x ∧ okRow p W x ∧ x = s.2.2.getD (s.2.2.findIdx (nzB v)) [] := by
  obtain ⟨f1, f2, f3⟩ := find_nz hc hs.l hv
  obtain ⟨_, _, i2, i3⟩ := inv_ok hp f1 f2
  have hm : s.2.2.getD (s.2.2.findIdx (nzB v)) [] ∈ s.2.2 := by rw [getD_of hc]; exact List.getElem_mem hc
  have him := inv_mul hp f1 f2
  unfold pivR
  generalize s.2.2.getD (s.2.2.findIdx (nzB v)) [] = x at *
  generalize invP p (x.getD v 0) = I at *
  refine ⟨scale_ok hp f3 ⟨by omega, i3⟩, ?_, fun V => ?_, x, hm, I, by omega, i3, rfl, f3, rfl⟩
  · rw [scale_get (by rw [f3.1]; exact hv)]; exact him
  · have h1 : Sp p V (s.1 ++ s.2.2) fun i => 0 + I * x.getD i 0 := Sp.add x I (List.mem_append_right _ hm) .zero
    refine h1.cgr fun i hi => ?_
    simp only [ite_self]
    by_cases h : i < W
    · exact cg_trans (scale_cg f3 (by omega) h) (cg_of (by grind))
    · have e1 : (scaleR p I x).getD i 0 = 0 := by rw [List.getD_eq_getElem?_getD, List.getElem?_eq_none (by unfold scaleR; simp; rw [f3.1]; omega)]; rfl
      have e2 : x.getD i 0 = 0 := by rw [List.getD_eq_getElem?_getD, List.getElem?_eq_none (by rw [f3.1]; omega)]; rfl
      rw [e1, e2]; exact cg_of (by simp)
theorem step_sp (hp : pr4 p) {s : ES} {v : Nat} (hs : ESok p W N v s) (hv : v < W) (hVW : V ≤ W) : eqSp p V (s.1 ++ s.2.2) ((elimS p s v).1 ++ (elimS p s v).2.2) := by
 by_cases hc : s.2.2.findIdx (nzB v) < s.2.2.length
 ·obtain ⟨o1, o2, o3, x, hx, b, hb0, hb1, o4, o5, o6⟩ := piv_ok hp hs hv hc
  rw [elimS_pos hc]
  have hrow := o3 V
  simp only [ite_self] at hrow
  generalize hP : pivR p s v = P at *
  have hless : ∀ r, okRow p W r → Sp p V (s.1 ++ s.2.2) (fun i => r.getD i 0) → Sp p V (s.1 ++ s.2.2) fun i => (lessR p P v r).getD i 0 := fun r hr hsp => (hsp.lin hrow (p - r.getD v 0)).cgr fun i hi => less_cg hp hr o1 hv (by omega)
  have hokm : ∀ r ∈ s.1 ++ s.2.2, okRow p W r := fun r hr => by
   rcases List.mem_append.1 hr with h | h
   ·exact hs.t r h
   ·exact hs.l r h
  refine eqSp_of (fun r hr => ?_) (fun r hr => ?_)
  ·have hP2 : Sp p V ((s.1.map (lessR p P v) ++ [P]) ++ (s.2.2.eraseIdx (s.2.2.findIdx (nzB v))).map (lessR p P v)) fun i => P.getD i 0 := Sp.mem (by simp)
   have back : ∀ r, okRow p W r → lessR p P v r ∈ (s.1.map (lessR p P v) ++ [P]) ++ (s.2.2.eraseIdx (s.2.2.findIdx (nzB v))).map (lessR p P v) → Sp p V ((s.1.map (lessR p P v) ++ [P]) ++ (s.2.2.eraseIdx (s.2.2.findIdx (nzB v))).map (lessR p P v)) fun i => r.getD i 0 := fun r hr hm => by
    refine ((Sp.mem hm).lin hP2 (r.getD v 0 - p)).cgr fun i hi => ?_
    have := less_cg hp hr o1 hv (show i < W by omega)
    exact cg_symm (cg_trans (cg_add this (cg_of rfl)) (cg_of (by grind)))
   rcases List.mem_append.1 hr with h | h
   ·exact back r (hs.t r h) (List.mem_append_left _ (List.mem_append_left _ (List.mem_map_of_mem h)))
   ·by_cases e : r = x
    ·
     subst e
     refine (Sp.add P (r.getD v 0) (by simp) .zero).cgr fun i hi => ?_
     have h1 := scale_cg (b := b) o5 hb0 (show i < W by omega)
     have h2 := scale_cg (b := b) o5 hb0 hv
     rw [← o4] at h1 h2
     rw [o2] at h2
     obtain ⟨k, h1⟩ := h1
     obtain ⟨m, h2⟩ := h2
     exact ⟨r.getD i 0 * m - r.getD v 0 * k, by grind⟩
    ·have hme : r ∈ s.2.2.eraseIdx (s.2.2.findIdx (nzB v)) := by
      obtain ⟨j, hj, rfl⟩ := List.getElem_of_mem h
      rw [List.mem_eraseIdx_iff_getElem]
      refine ⟨j, hj, ?_, rfl⟩
      intro ej
      apply e
      rw [o6, getD_of hc]
      simp only [ej]
     exact back r (hs.l r h) (List.mem_append_right _ (List.mem_map_of_mem hme))
  ·rcases List.mem_append.1 hr with h | h
   ·rcases List.mem_append.1 h with h | h
    ·obtain ⟨q, hq, rfl⟩ := List.mem_map.1 h
     exact hless q (hs.t q hq) (Sp.mem (List.mem_append_left _ hq))
    ·rw [List.mem_singleton.1 h]; exact hrow
   ·obtain ⟨q, hq, rfl⟩ := List.mem_map.1 h
    have hq2 := List.mem_of_mem_eraseIdx hq
    exact hless q (hs.l q hq2) (Sp.mem (List.mem_append_right _ hq2))
 ·rw [elimS_neg hc]; exact fun _ => Iff.rfl
theorem elim_sp (hp : pr4 p) (hr : ∀ r ∈ A, okRow p W r) (hVW : V ≤ W) : ∀ v, v ≤ W → eqSp p V A ((elimF p A v).1 ++ (elimF p A v).2.2) := by
 intro v
 induction v with
 | zero => intro _; exact fun _ => Iff.rfl
 | succ v ih =>
  intro hv
  have hok := elimF_ok hp hr v (by omega)
  have hnx : elimF p A (v + 1) = elimS p (elimF p A v) v := by unfold elimF; rw [range_fold]
  rw [hnx]
  exact fun f => (ih (by omega) f).trans (step_sp hp hok (by omega) hVW f)
end
end T
open Go Go.Va
namespace T
section
variable {p : Int} {V W N : Nat} {A B : List (List Int)} {f g : Nat → Int}
def bndL (N : Nat) (b : List Int) : List Int := ((List.range N).filter fun v : Nat => decide ((v : Int) ∈ b)).map fun v : Nat => (v : Int)
theorem bndL_succ {N : Nat} {b : List Int} : bndL (N + 1) b = bndL N b ++ (if (N : Int) ∈ b then [(N : Int)] else []) := by
 unfold bndL
 rw [List.range_succ, List.filter_append, List.map_append]
 congr 1
 by_cases h : (N : Int) ∈ b <;> simp [h]
theorem bndL_snoc {N : Nat} {b : List Int} {x : Int} (h : (N : Int) ≤ x) : bndL N (b ++ [x]) = bndL N b := by
 unfold bndL
 congr 1
 refine List.filter_congr fun u hu => ?_
 have := List.mem_range.1 hu
 have e : ((u : Int) ∈ b ++ [x]) ↔ (u : Int) ∈ b := by
  rw [List.mem_append, List.mem_singleton]
  exact ⟨fun h => h.resolve_right (by omega), Or.inl⟩
 simp only [e]
structure RR (p : Int) (v : Nat) (s : ES) : Prop where
 piv : ∀ i, i < s.1.length → ∀ j, j < s.1.length → (s.1.getD i []).getD (s.2.1.getD j 0).toNat 0 = if i = j then 1 else 0
 low : ∀ i, i < s.1.length → ∀ u : Nat, (u : Int) < s.2.1.getD i 0 → (s.1.getD i []).getD u 0 = 0
 zl : ∀ r ∈ s.2.2, ∀ u : Nat, u < v → r.getD u 0 = 0
 bnd : bndL v s.2.1 = s.2.1
theorem getD_mapD {α β : Type} {l : List α} {h : α → β} {i : Nat} {d : α} {e : β} (hi : i < l.length) : (l.map h).getD i e = h (l.getD i d) := by
 rw [getD_of (by simpa using hi), getD_of hi, List.getElem_map]
theorem getD_left {α : Type} {l m : List α} {i : Nat} {d : α} (hi : i < l.length) : (l ++ m).getD i d = l.getD i d := by
 rw [getD_of (by rw [List.length_append]; omega), getD_of hi, List.getElem_append_left hi]
theorem getD_snoc {α : Type} {l : List α} {x d : α} : (l ++ [x]).getD l.length d = x := by
 rw [getD_of (by simp)]; simp
theorem getD_mem {α : Type} {l : List α} {i : Nat} {d : α} (hi : i < l.length) : l.getD i d ∈ l := by rw [getD_of hi]; exact List.getElem_mem hi
theorem step_rr (hp : pr4 p) {s : ES} {v : Nat} (hs : ESok p W N v s) (hv : v < W) (h : RR p v s) : RR p (v + 1) (elimS p s v) := by
 have hp0 : 2 ≤ p ∧ p ≤ 7 := by unfold pr4 at hp; omega
 have hbl := hs.bl
 by_cases hc : s.2.2.findIdx (nzB v) < s.2.2.length
 ·obtain ⟨o1, o2, _, x, hx, b, hb0, hb1, o4, o5, o6⟩ := piv_ok hp hs hv hc
  rw [elimS_pos hc]
  generalize hP : pivR p s v = P at *
  have hPz : ∀ u, u < v → P.getD u 0 = 0 := fun u hu => by
   rw [o4, scale_get (by rw [o5.1]; omega), h.zl x hx u hu]; simp
  have hsame : ∀ r, okRow p W r → ∀ u, u < v → (lessR p P v r).getD u 0 = r.getD u 0 := fun r hr u hu => by
   have := ok_get hr (show u < W by omega)
   rw [less_get (by rw [hr.1]; omega), hPz u hu, Int.mul_zero, Int.add_zero, Int.tmod_eq_of_lt this.1 this.2]
  have hat : ∀ r, okRow p W r → (lessR p P v r).getD v 0 = 0 := fun r hr => by
   rw [less_get (by rw [hr.1]; omega), o2, Int.mul_one, show r.getD v 0 + (p - r.getD v 0) = p by omega, Int.tmod_self]
  have hbv : ∀ j, j < s.1.length → 0 ≤ s.2.1.getD j 0 ∧ s.2.1.getD j 0 < (v : Int) := fun j hj => hs.bv _ (getD_mem (by omega))
  have hbn : (s.2.1 ++ [(v : Int)]).getD s.1.length 0 = (v : Int) := by rw [← hbl, getD_snoc]
  have htn : (s.1.map (lessR p P v) ++ [P]).getD s.1.length [] = P := by
   have := getD_snoc (l := s.1.map (lessR p P v)) (x := P) (d := [])
   rw [List.length_map] at this; exact this
  have hti : ∀ i, i < s.1.length → (s.1.map (lessR p P v) ++ [P]).getD i [] = lessR p P v (s.1.getD i []) := fun i hi => by
   rw [getD_left (by simpa using hi), getD_mapD (d := []) hi]
  have hbi : ∀ j, j < s.1.length → (s.2.1 ++ [(v : Int)]).getD j 0 = s.2.1.getD j 0 := fun j hj => getD_left (by omega)
  have hlen : (s.1.map (lessR p P v) ++ [P]).length = s.1.length + 1 := by simp
  refine ⟨fun i hi j hj => ?_, fun i hi u hu => ?_, fun r hr u hu => ?_, ?_⟩
  ·dsimp only at hi hj ⊢
   rw [hlen] at hi hj
   by_cases ci : i = s.1.length
   ·subst ci
    rw [htn]
    by_cases cj : j = s.1.length
    ·subst cj; rw [hbn, Int.toNat_natCast, o2, if_pos rfl]
    ·have hj2 : j < s.1.length := by omega
     have := hbv j hj2
     rw [hbi j hj2, hPz _ (by omega), if_neg (by omega)]
   ·have hi2 : i < s.1.length := by omega
    have hok := hs.t _ (getD_mem (d := []) hi2)
    rw [hti i hi2]
    by_cases cj : j = s.1.length
    ·subst cj; rw [hbn, Int.toNat_natCast, hat _ hok, if_neg ci]
    ·have hj2 : j < s.1.length := by omega
     have := hbv j hj2
     rw [hbi j hj2, hsame _ hok _ (by omega), h.piv i hi2 j hj2]
  ·dsimp only at hi hu ⊢
   rw [hlen] at hi
   by_cases ci : i = s.1.length
   ·subst ci
    rw [hbn] at hu
    rw [htn, hPz u (by omega)]
   ·have hi2 : i < s.1.length := by omega
    have hok := hs.t _ (getD_mem (d := []) hi2)
    rw [hbi i hi2] at hu
    have := hbv i hi2
    rw [hti i hi2, hsame _ hok u (by omega), h.low i hi2 u hu]
  ·dsimp only at hr
   obtain ⟨q, hq, rfl⟩ := List.mem_map.1 hr
   have hq2 := List.mem_of_mem_eraseIdx hq
   by_cases e : u = v
   ·subst e; exact hat q (hs.l q hq2)
   ·rw [hsame q (hs.l q hq2) u (by omega)]; exact h.zl q hq2 u (by omega)
  ·dsimp only
   rw [bndL_succ, if_pos (by simp), bndL_snoc (by omega), h.bnd]
 ·rw [elimS_neg hc]
  have hnm : (v : Int) ∉ s.2.1 := fun hm => by have := hs.bv _ hm; omega
  refine ⟨h.piv, h.low, fun r hr u hu => ?_, ?_⟩
  ·by_cases e : u = v
   ·subst e
    have h1 := List.findIdx_eq_length.1 (show s.2.2.findIdx (nzB u) = s.2.2.length by have := List.findIdx_le_length (xs := s.2.2) (p := nzB u); omega) r hr
    unfold nzB at h1
    simpa using h1
   ·exact h.zl r hr u (by omega)
  ·rw [bndL_succ, if_neg hnm, h.bnd, List.append_nil]
theorem elim_rr (hp : pr4 p) (hr : ∀ r ∈ A, okRow p W r) : ∀ v, v ≤ W → RR p v (elimF p A v) := by
 intro v
 induction v with
 | zero => intro _; exact ⟨fun i hi => by simp [elimF] at hi, fun i hi => by simp [elimF] at hi, fun r _ u hu => by omega, by simp [elimF, bndL]⟩
 | succ v ih =>
  intro hv
  have hok := elimF_ok hp hr v (by omega)
  have hnx : elimF p A (v + 1) = elimS p (elimF p A v) v := by unfold elimF; rw [range_fold]
  rw [hnx]
  exact step_rr hp hok (by omega) (ih (by omega))
def sumN (n : Nat) (h : Nat → Int) : Int := ((List.range n).map h).sum
theorem sumN_succ {n : Nat} {h : Nat → Int} : sumN (n + 1) h = sumN n h + h n := by
 unfold sumN; rw [List.range_succ, List.map_append, List.sum_append]; simp
theorem sumN_add {n : Nat} {h k : Nat → Int} {c : Int} : sumN n (fun j => h j + c * k j) = sumN n h + c * sumN n k := by
 induction n with
 | zero => simp [sumN]
 | succ n ih => rw [sumN_succ, sumN_succ, sumN_succ, ih]; grind
theorem sumN_congr {n : Nat} {h k : Nat → Int} (e : ∀ j, j < n → h j = k j) : sumN n h = sumN n k := by
 unfold sumN; congr 1; exact List.map_congr_left fun j hj => e j (List.mem_range.1 hj)
theorem sumN_cg {n : Nat} {h k : Nat → Int} (e : ∀ j, j < n → cg p (h j) (k j)) : cg p (sumN n h) (sumN n k) := by
 induction n with
 | zero => exact cg_of rfl
 | succ n ih => rw [sumN_succ, sumN_succ]; exact cg_add (ih fun j hj => e j (by omega)) (e n (by omega))
theorem sumN_one {n m : Nat} {h : Nat → Int} (hm : m < n) (e : ∀ j, j < n → j ≠ m → h j = 0) : sumN n h = h m := by
 induction n with
 | zero => omega
 | succ n ih =>
  rw [sumN_succ]
  by_cases c : m = n
  ·subst c
   have : sumN m h = 0 := by
    have := sumN_congr (n := m) (h := h) (k := fun _ => 0) fun j hj => e j (by omega) (by omega)
    rw [this]
    clear this e ih hm
    induction m with
    | zero => rfl
    | succ m ih => rw [sumN_succ, ih]; rfl
   omega
  ·rw [ih (by omega) fun j hj hjm => e j (by omega) hjm, e n (by omega) (by omega)]; omega
theorem sumN_zero {n : Nat} {h : Nat → Int} (e : ∀ j, j < n → cg p (h j) 0) : cg p (sumN n h) 0 := by
 induction n with
 | zero => exact cg_of rfl
 | succ n ih => rw [sumN_succ]; exact cg_trans (cg_add (ih fun j hj => e j (by omega)) (e n (by omega))) (cg_of rfl)
theorem sp_told {s : ES} (hs : ESok p W N V s) (h : RR p V s) (hf : Sp p V (s.1 ++ s.2.2) f) : ∀ i, i < V → cg p (f i) (sumN s.1.length fun j => f (s.2.1.getD j 0).toNat * (s.1.getD j []).getD i 0) := by
 have hbl := hs.bl
 have hb : ∀ j, j < s.1.length → (s.2.1.getD j 0).toNat < V := fun j hj => by have := hs.bv _ (getD_mem (l := s.2.1) (i := j) (d := 0) (by omega)); omega
 induction hf with
 | zero =>
  intro i hi
  refine cg_symm (sumN_zero fun j hj => cg_of (by simp))
 | add r c hr _ ih =>
  intro i hi
  rename_i f0 _
  dsimp only
  rcases List.mem_append.1 hr with hr | hr
  ·obtain ⟨m, hm, rfl⟩ := List.getElem_of_mem hr
   have e1 : (s.1[m]'hm) = s.1.getD m [] := (getD_of hm).symm
   have e2 : sumN s.1.length (fun j => (f0 (s.2.1.getD j 0).toNat + c * (s.1.getD m []).getD (s.2.1.getD j 0).toNat 0) * (s.1.getD j []).getD i 0) = sumN s.1.length (fun j => f0 (s.2.1.getD j 0).toNat * (s.1.getD j []).getD i 0) + c * (s.1.getD m []).getD i 0 := by
    have e3 : sumN s.1.length (fun j => (s.1.getD m []).getD (s.2.1.getD j 0).toNat 0 * (s.1.getD j []).getD i 0) = (s.1.getD m []).getD i 0 := by
     rw [sumN_one hm fun j hj hjm => by rw [h.piv m hm j hj, if_neg (fun e => hjm e.symm), Int.zero_mul]]
     rw [h.piv m hm m hm, if_pos rfl, Int.one_mul]
    rw [← e3, ← sumN_add]
    exact sumN_congr fun j _ => by grind
   rw [e1, e2]
   exact cg_add (ih i hi) (cg_of rfl)
  ·have e1 : r.getD i 0 = 0 := h.zl r hr i hi
   have e2 : sumN s.1.length (fun j => (f0 (s.2.1.getD j 0).toNat + c * r.getD (s.2.1.getD j 0).toNat 0) * (s.1.getD j []).getD i 0) = sumN s.1.length (fun j => f0 (s.2.1.getD j 0).toNat * (s.1.getD j []).getD i 0) := sumN_congr fun j hj => by
    rw [h.zl r hr _ (hb j hj)]; simp
   rw [e1, e2, Int.mul_zero, Int.add_zero]
   exact ih i hi
 | cgr _ hc ih =>
  intro i hi
  refine cg_trans (hc i hi) (cg_trans (ih i hi) (cg_symm (sumN_cg fun j hj => cg_mulr _ (hc _ (hb j hj)))))
theorem piv_iff {s : ES} (hp : pr4 p) (hs : ESok p W N V s) (h : RR p V s) {u : Nat} (hu : u < V) : (u : Int) ∈ s.2.1 ↔ ∃ f, Sp p V (s.1 ++ s.2.2) f ∧ ¬ cg p (f u) 0 ∧ ∀ w, w < u → cg p (f w) 0 := by
 have hp0 : 2 ≤ p ∧ p ≤ 7 := by unfold pr4 at hp; omega
 have hbl := hs.bl
 constructor
 ·intro hm
  obtain ⟨i, hi, e⟩ := List.getElem_of_mem hm
  have hit : i < s.1.length := by omega
  have hbi : s.2.1.getD i 0 = (u : Int) := by rw [getD_of hi, e]
  refine ⟨fun k => (s.1.getD i []).getD k 0, Sp.mem (List.mem_append_left _ (getD_mem hit)), fun hc => ?_, fun w hw => cg_of (h.low i hit w (by omega))⟩
  have := h.piv i hit i hit
  rw [hbi, Int.toNat_natCast, if_pos rfl] at this
  dsimp only at hc
  rw [this] at hc
  have := cg_eq hc ⟨by omega, by omega⟩ ⟨by omega, by omega⟩
  omega
 ·rintro ⟨f, hf, h1, h2⟩
  by_cases hm : (u : Int) ∈ s.2.1
  ·exact hm
  ·exfalso
   refine h1 (cg_trans (sp_told hs h hf u hu) (sumN_zero fun j hj => ?_))
   have hjb : j < s.2.1.length := by omega
   have hbv := hs.bv _ (getD_mem (d := 0) hjb)
   have hne : s.2.1.getD j 0 ≠ (u : Int) := fun e => hm (by rw [← e]; exact getD_mem hjb)
   by_cases c : s.2.1.getD j 0 < (u : Int)
   ·exact cg_trans (cg_mulr _ (h2 _ (by omega))) (cg_of (by simp))
   ·rw [h.low j hj u (by omega)]; exact cg_of (by simp)
theorem rref_uniq {s s' : ES} {N' : Nat} (hp : pr4 p) (hVW : V ≤ W) (hs : ESok p W N V s) (h : RR p V s) (hs' : ESok p W N' V s') (h' : RR p V s') (he : eqSp p V (s.1 ++ s.2.2) (s'.1 ++ s'.2.2)) :
    s.2.1 = s'.2.1 ∧ ∀ i, i < s.1.length → ∀ u, u < V → (s.1.getD i []).getD u 0 = (s'.1.getD i []).getD u 0 := by
  have hb : s.2.1 = s'.2.1 := by
    rw [← h.bnd, ← h'.bnd]
    unfold bndL
    congr 1
    refine List.filter_congr fun u hu => ?_
    have hu := List.mem_range.1 hu
    have e : (u : Int) ∈ s.2.1 ↔ (u : Int) ∈ s'.2.1 := by
      rw [piv_iff hp hs h hu, piv_iff hp hs' h' hu]
      exact ⟨fun ⟨f, a, b⟩ => ⟨f, (he f).1 a, b⟩, fun ⟨f, a, b⟩ => ⟨f, (he f).2 a, b⟩⟩
    simp only [e]
  refine ⟨hb, fun i hi u hu => ?_⟩
  have hbl := hs.bl
  have hbl' := hs'.bl
  have hi' : i < s'.1.length := by rw [← hbl', ← hb, hbl]; exact hi
  have hf : Sp p V (s.1 ++ s.2.2) fun k => (s.1.getD i []).getD k 0 := Sp.mem (List.mem_append_left _ (getD_mem hi))
  have h1 := sp_told hs' h' ((he _).1 hf) u hu
  have e1 : sumN s'.1.length (fun j => (s.1.getD i []).getD (s'.2.1.getD j 0).toNat 0 * (s'.1.getD j []).getD u 0) = (s'.1.getD i []).getD u 0 := by
    rw [← hb]
    rw [sumN_one hi' fun j hj hji => by rw [h.piv i hi j (by rw [← hbl, hb, hbl']; exact hj), if_neg (fun e => hji e.symm), Int.zero_mul]]
    rw [h.piv i hi i hi, if_pos rfl, Int.one_mul]
  rw [e1] at h1
  exact cg_eq h1 (ok_get (hs.t _ (getD_mem hi)) (by omega)) (ok_get (hs'.t _ (getD_mem hi')) (by omega))
theorem ker_uniq {s s' : ES} {N' : Nat} (hp : pr4 p) (hVW : V ≤ W) (hs : ESok p W N V s) (h : RR p V s) (hs' : ESok p W N' V s') (h' : RR p V s') (he : eqSp p V (s.1 ++ s.2.2) (s'.1 ++ s'.2.2)) : kerLs p V s = kerLs p V s' := by
 obtain ⟨hb, hrow⟩ := rref_uniq hp hVW hs h hs' h' he
 have hbl := hs.bl
 unfold kerLs
 rw [← hb]
 refine List.map_congr_left fun f hf => ?_
 obtain ⟨w, hw, rfl⟩ := freeL_mem hf
 unfold kerL
 refine List.map_congr_left fun u _ => ?_
 unfold kerU
 rw [← hb]
 by_cases c : posL s.2.1 u < 0
 ·rw [if_pos c, if_pos c]
 ·rw [if_neg c, if_neg c]
  have hm : (u : Int) ∈ s.2.1 := by
   by_cases hm : (u : Int) ∈ s.2.1
   ·exact hm
   ·rw [posL_none hm] at c; omega
  obtain ⟨i, hi, g1, _⟩ := posL_at hm
  rw [g1, Int.toNat_natCast, Int.toNat_natCast, hrow i (by omega) w hw]
end
end T
open Go Go.Va
namespace T
section
variable {p : Int} {V W N : Nat} {A B C D : List (List Int)} {f g : Nat → Int}
theorem eqSp.symm (h : eqSp p V A B) : eqSp p V B A := fun f => (h f).symm
theorem eqSp.trans (h : eqSp p V A B) (g : eqSp p V B C) : eqSp p V A C := fun f => (h f).trans (g f)
theorem eqSp.app (h : eqSp p V A B) : eqSp p V (A ++ C) (B ++ C) := by
 have key : ∀ {A B : List (List Int)}, eqSp p V A B → ∀ r ∈ A ++ C, Sp p V (B ++ C) fun i => r.getD i 0 := fun {A B} h r hr => by
  rcases List.mem_append.1 hr with hr | hr
  ·exact Sp.sub (fun q hq => Sp.mem (List.mem_append_left _ hq)) ((h _).1 (Sp.mem hr))
  ·exact Sp.mem (List.mem_append_right _ hr)
 exact eqSp_of (key h) (key h.symm)
theorem eqSp_drop (h : ∀ r ∈ B, ∀ i, i < V → r.getD i 0 = 0) : eqSp p V (A ++ B) A := by
 refine eqSp_of (fun r hr => ?_) fun r hr => Sp.mem (List.mem_append_left _ hr)
 rcases List.mem_append.1 hr with hr | hr
 ·exact Sp.mem hr
 ·exact Sp.zero.cgr fun i hi => cg_of (h r hr i hi)
theorem eqSp_zero {r : List Int} (h : ∀ i, i < V → r.getD i 0 = 0) : eqSp p V (r :: A) A := by
 refine eqSp_of (fun q hq => ?_) fun r hr => Sp.mem (List.mem_cons_of_mem _ hr)
 rcases List.mem_cons.1 hq with hq | hq
 ·rw [hq]; exact Sp.zero.cgr fun i hi => cg_of (h i hi)
 ·exact Sp.mem hq
theorem taken_sp (hp : pr4 p) (hr : ∀ r ∈ A, okRow p W r) (hVW : V ≤ W) : eqSp p V A (elimF p A V).1 := (elim_sp hp hr hVW V hVW).trans (eqSp_drop (elim_rr hp hr V hVW).zl)
theorem taken_len (hp : pr4 p) (hr : ∀ r ∈ A, okRow p W r) (hVW : V ≤ W) : (elimF p A V).1.length ≤ V := by
 have h1 := (elim_rr hp hr V hVW).bnd
 have h2 := (elimF_ok hp hr V hVW).bl
 rw [← h2, ← h1]
 unfold bndL
 rw [List.length_map]
 have := List.length_filter_le (fun v : Nat => decide ((v : Int) ∈ (elimF p A V).2.1)) (List.range V)
 rw [List.length_range] at this
 exact this
def rowsF (p : Int) (V : Nat) (D : List (List Int)) : List (List Int) := D.foldl (fun rows d => (elimF p (rows ++ [d]) V).1) []
theorem rowsF_ok (hp : pr4 p) (hVW : V ≤ W) : ∀ (D R : List (List Int)), (∀ r ∈ D, okRow p W r) → (∀ r ∈ R, okRow p W r) → R.length ≤ V →
    eqSp p V (R ++ D) (D.foldl (fun rows d => (elimF p (rows ++ [d]) V).1) R) ∧ (∀ r ∈ D.foldl (fun rows d => (elimF p (rows ++ [d]) V).1) R, okRow p W r) ∧ (D.foldl (fun rows d => (elimF p (rows ++ [d]) V).1) R).length ≤ V
  | [], R, _, hR, hl => by rw [List.append_nil]; exact ⟨fun _ => Iff.rfl, hR, hl⟩
  | d :: D, R, hD, hR, hl => by
    have hRd : ∀ r ∈ R ++ [d], okRow p W r := fun r hr => by
      rcases List.mem_append.1 hr with hr | hr
      · exact hR r hr
      · rw [List.mem_singleton.1 hr]; exact hD d (by simp)
    have ih := rowsF_ok hp hVW D (elimF p (R ++ [d]) V).1 (fun r hr => hD r (List.mem_cons_of_mem _ hr)) (elimF_ok hp hRd V hVW).t (taken_len hp hRd hVW)
    rw [List.foldl_cons]
    refine ⟨?_, ih.2⟩
    have h1 := (taken_sp hp hRd hVW).app (C := D)
    rw [List.append_assoc, List.singleton_append] at h1
    exact h1.trans ih.1
theorem ker_rows (hp : pr4 p) (hVW : V ≤ W) (hD : ∀ r ∈ D, okRow p W r) {z : List Int} (hz : okRow p W z) (h0 : ∀ i, i < V → z.getD i 0 = 0) : kerLs p V (elimF p (z :: D) V) = kerLs p V (elimF p (rowsF p V D) V) := by
 obtain ⟨e1, e2, _⟩ := rowsF_ok hp hVW D [] hD (fun r h => by cases h) (by simp)
 have hzD : ∀ r ∈ z :: D, okRow p W r := fun r hr => by
  rcases List.mem_cons.1 hr with hr | hr
  ·rw [hr]; exact hz
  ·exact hD r hr
 refine ker_uniq hp hVW (elimF_ok hp hzD V hVW) (elim_rr hp hzD V hVW) (elimF_ok hp e2 V hVW) (elim_rr hp e2 V hVW) ?_
 exact ((elim_sp hp hzD hVW V hVW).symm.trans ((eqSp_zero h0).trans e1)).trans (elim_sp hp e2 hVW V hVW)
end
end T
open Go Go.Va
namespace T
section
variable {p : Int} {V W N k : Nat} {A B C D : List (List Int)} {f g : Nat → Int}
theorem sp_phi {c : Nat → Int} (h : ∀ r ∈ A, cg p (sumN k fun i => r.getD i 0 * c i) (r.getD k 0)) (hf : Sp p (k + 1) A f) : cg p (sumN k fun i => f i * c i) (f k) := by
 induction hf with
 | zero => exact sumN_zero fun j _ => cg_of (by simp)
 | add r d hr _ ih =>
  rename_i f0 _
  dsimp only
  have e : sumN k (fun i => (f0 i + d * r.getD i 0) * c i) = sumN k (fun i => f0 i * c i) + d * sumN k (fun i => r.getD i 0 * c i) := by
   rw [← sumN_add]; exact sumN_congr fun j _ => by grind
  rw [e]
  exact cg_add ih (cg_mul d (h r hr))
 | cgr _ hc ih =>
  refine cg_trans (sumN_cg fun j hj => cg_mulr _ (hc j (by omega))) (cg_trans ih (cg_symm (hc k (by omega))))
theorem left_zero (hp : pr4 p) (hA : ∀ r ∈ A, okRow p (k + 1) r) {c : Nat → Int} (h : ∀ r ∈ A, cg p (sumN k fun i => r.getD i 0 * c i) (r.getD k 0)) : (elimF p A k).2.2.filter (nzB k) = [] := by
 have hs := elimF_ok hp hA k (by omega)
 have hz := (elim_rr hp hA k (by omega)).zl
 rw [List.filter_eq_nil_iff]
 intro r hr
 have h1 : Sp p (k + 1) A fun i => r.getD i 0 := ((elim_sp hp hA (V := k + 1) (Nat.le_refl _) k (by omega)) _).2 (Sp.mem (List.mem_append_right _ hr))
 have h2 := sp_phi h h1
 have h3 : cg p (r.getD k 0) 0 := cg_trans (cg_symm h2) (sumN_zero fun j hj => by rw [hz r hr j hj]; exact cg_of (by simp))
 have h4 := ok_get (hs.l r hr) (show k < k + 1 by omega)
 have h5 := cg_eq h3 h4 ⟨by omega, by unfold pr4 at hp; omega⟩
 unfold nzB
 rw [h5]; simp
def diffR (p : Int) (k : Nat) (base t : List Int) : List Int := ((List.range k).map fun i => (t.getD i 0 + (p - 1) * base.getD i 0) % p) ++ [0]
theorem diff_ok (hp : pr4 p) {base t : List Int} : okRow p (k + 1) (diffR p k base t) := by
 unfold pr4 at hp
 refine ⟨by simp [diffR], fun x hx => ?_⟩
 unfold diffR at hx
 rcases List.mem_append.1 hx with hx | hx
 ·obtain ⟨i, _, rfl⟩ := List.mem_map.1 hx
  exact ⟨Int.emod_nonneg _ (by omega), Int.emod_lt_of_pos _ (by omega)⟩
 ·rw [List.mem_singleton.1 hx]; omega
theorem diff_zero {base : List Int} : ∀ i, i < k → (diffR p k base base).getD i 0 = 0 := fun i hi => by
 unfold diffR
 rw [getD_left (by simpa using hi), getD_of (by simpa using hi)]
 simp only [List.getElem_map, List.getElem_range]
 have e : base.getD i 0 + (p - 1) * base.getD i 0 = p * base.getD i 0 := by grind
 rw [e, Int.mul_emod_right]
theorem diff_at {x b : Int} : (x + (p - 1) * b) % p = (x - b + p) % p := by
 have e : x + (p - 1) * b = (x - b + p) + p * (b - 1) := by grind
 rw [e, Int.add_mul_emod_self_left]
def dotB (k : Nat) (base w : List Int) : Int := sumN k fun i => w.getD i 0 * base.getD i 0
def eqnR (p : Int) (k : Nat) (base w : List Int) : List Int := w ++ [Int.tmod (dotB k base w) p]
theorem sumN_nonneg {n : Nat} {h : Nat → Int} {M : Int} (e : ∀ j, j < n → 0 ≤ h j ∧ h j ≤ M) : 0 ≤ sumN n h ∧ sumN n h ≤ M * n := by
 induction n with
 | zero => simp [sumN]
 | succ n ih =>
  have h1 := ih fun j hj => e j (by omega)
  have h2 := e n (by omega)
  rw [sumN_succ]
  have : M * ((n + 1 : Nat) : Int) = M * n + M := by push_cast; grind
  omega
theorem kerU_in (hp : pr4 p) {s : ES} (hs : ESok p (k + 1) N k s) {f u : Nat} (hf : f < k) : 0 ≤ kerU p s f u ∧ kerU p s f u < p := by
 have hpb : 2 ≤ p ∧ p ≤ 7 := by unfold pr4 at hp; omega
 have hbl := hs.bl
 unfold kerU
 by_cases c : posL s.2.1 u < 0
 ·rw [if_pos c]; split <;> omega
 ·rw [if_neg c]
  have hm : (u : Int) ∈ s.2.1 := by
   by_cases hm : (u : Int) ∈ s.2.1
   ·exact hm
   ·rw [posL_none hm] at c; omega
  obtain ⟨i, hi, g1, _⟩ := posL_at hm
  rw [g1, Int.toNat_natCast]
  have := ok_get (hs.t _ (getD_mem (l := s.1) (i := i) (d := []) (by omega))) (show f < k + 1 by omega)
  exact mod_in hp (by omega)
theorem ker_row (hp : pr4 p) {s : ES} (hs : ESok p (k + 1) N k s) {w : List Int} (hw : w ∈ kerLs p k s) : w.length = k ∧ ∀ x ∈ w, 0 ≤ x ∧ x < p := by
 unfold kerLs at hw
 obtain ⟨f, hf, rfl⟩ := List.mem_map.1 hw
 obtain ⟨u, hu, rfl⟩ := freeL_mem hf
 rw [Int.toNat_natCast]
 refine ⟨by simp [kerL], fun x hx => ?_⟩
 unfold kerL at hx
 obtain ⟨v, _, rfl⟩ := List.mem_map.1 hx
 exact kerU_in hp hs hu
theorem dot_in (hp : pr4 p) {base w : List Int} (hb : ∀ i, i < k → 0 ≤ base.getD i 0 ∧ base.getD i 0 < p) (hw : w.length = k ∧ ∀ x ∈ w, 0 ≤ x ∧ x < p) : ∀ j, j ≤ k → 0 ≤ sumN j (fun i => w.getD i 0 * base.getD i 0) ∧ sumN j (fun i => w.getD i 0 * base.getD i 0) ≤ 64 * j := by
 intro j hj
 refine sumN_nonneg fun i hi => ?_
 have h1 := hb i (by omega)
 have h2 := hw.2 _ (getD_mem (l := w) (i := i) (d := 0) (by omega))
 unfold pr4 at hp
 exact prod_le (by omega) (by omega) (by omega) (by omega)
theorem eqn_ok (hp : pr4 p) {base w : List Int} (hb : ∀ i, i < k → 0 ≤ base.getD i 0 ∧ base.getD i 0 < p) (hw : w.length = k ∧ ∀ x ∈ w, 0 ≤ x ∧ x < p) :
    okRow p (k + 1) (eqnR p k base w) ∧ cg p (sumN k fun i => (eqnR p k base w).getD i 0 * base.getD i 0) ((eqnR p k base w).getD k 0) := by
  have hd := dot_in hp hb hw k (Nat.le_refl _)
  refine ⟨⟨by simp [eqnR, hw.1], fun x hx => ?_⟩, ?_⟩
  · unfold eqnR at hx
    rcases List.mem_append.1 hx with hx | hx
    · exact hw.2 x hx
    · rw [List.mem_singleton.1 hx]; exact mod_in hp hd.1
  · have e1 : (eqnR p k base w).getD k 0 = Int.tmod (dotB k base w) p := by
      unfold eqnR
      have := getD_snoc (l := w) (x := Int.tmod (dotB k base w) p) (d := 0)
      rw [hw.1] at this; exact this
    have e2 : sumN k (fun i => (eqnR p k base w).getD i 0 * base.getD i 0) = dotB k base w := sumN_congr fun j hj => by
      unfold eqnR; rw [getD_left (by omega)]
    rw [e1, e2]
    exact cg_symm (cg_mod hd.1)
def eqnsOf (p : Int) (k : Nat) (base : List Int) (D : List (List Int)) : List (List Int) := (kerLs p k (elimF p D k)).map (eqnR p k base)
theorem eqns_ok (hp : pr4 p) {base : List Int} (hb : ∀ i, i < k → 0 ≤ base.getD i 0 ∧ base.getD i 0 < p) (hD : ∀ r ∈ D, okRow p (k + 1) r) :
    (∀ r ∈ eqnsOf p k base D, okRow p (k + 1) r) ∧ (eqnsOf p k base D).length ≤ k ∧ (elimF p (eqnsOf p k base D) k).2.2.filter (nzB k) = [] := by
  have hs := elimF_ok hp hD k (by omega)
  have h1 : ∀ r ∈ eqnsOf p k base D, okRow p (k + 1) r ∧ cg p (sumN k fun i => r.getD i 0 * base.getD i 0) (r.getD k 0) := fun r hr => by
    unfold eqnsOf at hr
    obtain ⟨w, hw, rfl⟩ := List.mem_map.1 hr
    exact eqn_ok hp hb (ker_row hp hs hw)
  refine ⟨fun r hr => (h1 r hr).1, ?_, left_zero hp (fun r hr => (h1 r hr).1) fun r hr => (h1 r hr).2⟩
  unfold eqnsOf kerLs
  rw [List.length_map, List.length_map]; exact freeL_le
end
end T
set_option linter.unusedVariables false
open Go Go.Va
namespace T
def spec_EquationsOf_L5 : Nat → (Int × Int × (List (List Int)) × (Int × (Int × (List (List Int)))) × (List (List Int)) × Int) → Option (Int × Int × (List (List Int)) × (Int × (Int × (List (List Int)))) × (List (List Int)))
 | 0, _ => none
 | n + 1, (t0, t1, t2, t6, t8, t9) =>
  if decide (t9 < (t2.length : Int)) then
   if inb t9 t2 then
    if inb 0 t2 then
     (spec_l21Less t0 (gd t2 t9 []) (gd t2 0 []) 1).bind fun r4 =>
      if r4.length + [0].length ≤ lim then
       if t8.length + [r4 ++ [0]].length ≤ lim then
        (spec_l21Eliminate t0 t1 (t8 ++ [r4 ++ [0]])).bind fun r5 =>
         spec_EquationsOf_L5 n (t0, t1, t2, (t6.1, (t6.2.1, t6.2.2)), r5.1, w64 (t9 + 1))
       else none
      else none
    else none
   else none
  else
   some (t0, t1, t2, (t6.1, (t6.2.1, t6.2.2)), t8)
def spec_EquationsOf_L15 : Nat → (Int × Int × (List (List Int)) × (Int × (Int × (List (List Int)))) × (List (List Int)) × (List (List Int)) × Int × Int × Int) → Option (Int × Int × (List (List Int)) × (Int × (Int × (List (List Int)))) × (List (List Int)) × (List (List Int)) × Int × Int)
 | 0, _ => none
 | n + 1, (t0, t1, t2, t6, t10, t11, t12, t13, t14) =>
  if decide (t14 < t1) then
   if inb t12 t10 then
    if inb t14 (gd t10 t12 []) then
     if inb 0 t2 then
      if inb t14 (gd t2 0 []) then
       if t0 ≠ 0 then
        spec_EquationsOf_L15 n (t0, t1, t2, (t6.1, (t6.2.1, t6.2.2)), t10, t11, t12, Int.tmod (w64 (t13 + (w64 ((gd (gd t10 t12 []) t14 0) * (gd (gd t2 0 []) t14 0))))) t0, w64 (t14 + 1))
       else none
      else none
     else none
    else none
   else none
  else
   some (t0, t1, t2, (t6.1, (t6.2.1, t6.2.2)), t10, t11, t12, t13)
def spec_EquationsOf_L11 : Nat → (Int × Int × (List (List Int)) × (Int × (Int × (List (List Int)))) × (List (List Int)) × (List (List Int)) × Int) → Option (Int × Int × (Int × (Int × (List (List Int)))) × (List (List Int)))
 | 0, _ => none
 | n + 1, (t0, t1, t2, t6, t10, t11, t12) =>
  if decide (t12 < (t10.length : Int)) then
   (spec_EquationsOf_L15 fuel (t0, t1, t2, (t6.1, (t6.2.1, t6.2.2)), t10, t11, t12, 0, 0)).bind fun s9 =>
    if inb s9.2.2.2.2.2.2.1 s9.2.2.2.2.1 then
     (spec_l1Own (gd s9.2.2.2.2.1 s9.2.2.2.2.2.2.1 [])).bind fun r10 =>
      if r10.length + [s9.2.2.2.2.2.2.2].length ≤ lim then
       if s9.2.2.2.2.2.1.length + [r10 ++ [s9.2.2.2.2.2.2.2]].length ≤ lim then
        spec_EquationsOf_L11 n (s9.1, s9.2.1, s9.2.2.1, (s9.2.2.2.1.1, (s9.2.2.2.1.2.1, s9.2.2.2.1.2.2)), s9.2.2.2.2.1, s9.2.2.2.2.2.1 ++ [r10 ++ [s9.2.2.2.2.2.2.2]], w64 (s9.2.2.2.2.2.2.1 + 1))
       else none
      else none
    else none
  else
   some (t0, t1, (t6.1, (t6.2.1, t6.2.2)), t11)
def spec_EquationsOf (t0 : Int) (t1 : Int) (t2 : List (List Int)) : Option ((Int × (Int × (List (List Int)))) × Bool) :=
 (spec_l21Prime t0).bind fun r1 =>
  if !r1 then
   some ((0, (0, [])), false)
  else
   (spec_l21Set t0 t1 t2).bind fun r2 =>
    if !r2 then
     some ((0, (0, [])), false)
    else
     if (t2.length : Int) == 0 then
      some ((0, (0, [])), false)
     else
      (spec_l21Affine t0 t2).bind fun r3 =>
       if !r3 then
        some ((0, (0, [])), false)
       else
        (spec_EquationsOf_L5 fuel (t0, t1, t2, (0, (0, [])), [], 1)).bind fun s4 =>
         (spec_l21Eliminate s4.1 s4.2.1 s4.2.2.2.2).bind fun r5 =>
          (spec_l21Kernel (r5.1, (r5.2.1, r5.2.2)) s4.1 s4.2.1).bind fun r6 =>
           (spec_EquationsOf_L11 fuel (s4.1, s4.2.1, s4.2.2.1, (s4.2.2.2.1.1, (s4.2.2.2.1.2.1, s4.2.2.2.1.2.2)), r6, [], 0)).bind fun s7 =>
            (spec_l21Eliminate s7.1 s7.2.1 s7.2.2.2).bind fun r8 =>
             some ((s7.1, (s7.2.1, r8.1)), true)
def impl_linearOf_b_L3 : Nat → ((Int × Int × (List (List Int)) × Int × (List Int)) × (Int × (Int × (List (List Int)))) × (Int × (Int × (List (List Int)))) × (List (List Int)) × Int × Int) → Option ((Int × Int × (List (List Int)) × Int × (List Int)) × (Int × (Int × (List (List Int)))) × (Int × (Int × (List (List Int)))))
 | 0, _ => none
 | n + 1, (e, t2, l, t33, t34, t35) =>
  if decide (t35 < t34) then
   if inb t35 t33 then
    if inb e.2.1 (gd t33 t35 []) then
     if (gd (gd t33 t35 []) e.2.1 0) != 0 then
      (impl_clone (gd t33 t35 [])).bind fun r2 =>
       if l.2.2.length + [r2].length ≤ lim then
        impl_linearOf_b_L3 n ((e.1, (e.2.1, (e.2.2.1, (e.2.2.2.1, e.2.2.2.2)))), (t2.1, (t2.2.1, t2.2.2)), (l.1, (l.2.1, l.2.2 ++ [r2])), t33, t34, w64 (t35 + 1))
       else none
     else
      impl_linearOf_b_L3 n ((e.1, (e.2.1, (e.2.2.1, (e.2.2.2.1, e.2.2.2.2)))), (t2.1, (t2.2.1, t2.2.2)), (l.1, (l.2.1, l.2.2)), t33, t34, w64 (t35 + 1))
    else none
   else none
  else
   some ((e.1, (e.2.1, (e.2.2.1, (e.2.2.2.1, e.2.2.2.2)))), (t2.1, (t2.2.1, t2.2.2)), (l.1, (l.2.1, l.2.2)))
def impl_linearOf_b (e : Int × (Int × ((List (List Int)) × (Int × (List Int))))) : Option ((Int × (Int × ((List (List Int)) × (Int × (List Int))))) × (Int × (Int × (List (List Int))))) :=
 if (0 : Int) ≤ 0 ∧ 0 ≤ e.2.2.2.1 ∧ e.2.2.2.1 ≤ (e.2.2.1.length : Int) then
  (impl_cloneRows ((e.2.2.1.take (Int.toNat e.2.2.2.1)).drop (Int.toNat 0))).bind fun r1 =>
   if (0 : Int) ≤ e.2.2.2.1 ∧ e.2.2.2.1 ≤ (e.2.2.1.length : Int) ∧ (e.2.2.1.length : Int) ≤ (e.2.2.1.length : Int) then
    (impl_linearOf_b_L3 fuel ((e.1, (e.2.1, (e.2.2.1, (e.2.2.2.1, e.2.2.2.2)))), (0, (0, [])), (e.1, (e.2.1, r1)), (e.2.2.1.take (Int.toNat (e.2.2.1.length : Int))).drop (Int.toNat e.2.2.2.1), (((e.2.2.1.take (Int.toNat (e.2.2.1.length : Int))).drop (Int.toNat e.2.2.2.1)).length : Int), 0)).bind fun s2 =>
     some ((s2.1.1, (s2.1.2.1, (s2.1.2.2.1, (s2.1.2.2.2.1, s2.1.2.2.2.2)))), (s2.2.2.1, (s2.2.2.2.1, s2.2.2.2.2)))
   else none
 else none
def impl_equationsOf_L8 : Nat → (Int × Int × (Int × (Int × (List (List Int)))) × (List Int) × (List (List Int)) × (List Int) × (List (List Int)) × Int × Int × (List Int) × Int × Int) → Option (Int × Int × (Int × (Int × (List (List Int)))) × (List Int) × (List (List Int)) × (List Int) × (List (List Int)) × Int × Int)
 | 0, _ => none
 | n + 1, (t0, t1, t6, t7, t8, t11, t24, t25, t26, t33, t34, t35) =>
  if decide (t35 < t34) then
   if inb t35 t33 then
    if inb t35 t7 then
     if t0 ≠ 0 then
      if inb t35 t11 then
       impl_equationsOf_L8 n (t0, t1, (t6.1, (t6.2.1, t6.2.2)), t7, t8, stt t11 t35 (Int.tmod (w64 ((w64 ((gd t33 t35 0) - (gd t7 t35 0))) + t0)) t0), t24, t25, t26, t33, t34, w64 (t35 + 1))
      else none
     else none
    else none
   else none
  else
   some (t0, t1, (t6.1, (t6.2.1, t6.2.2)), t7, t8, t11, t24, t25, t26)
def impl_equationsOf_L4 : Nat → (Int × Int × (Int × (Int × (List (List Int)))) × (List Int) × (List (List Int)) × (List (List Int)) × Int × Int) → Option (Int × Int × (Int × (Int × (List (List Int)))) × (List Int) × (List (List Int)))
 | 0, _ => none
 | n + 1, (t0, t1, t6, t7, t8, t24, t25, t26) =>
  if decide (t26 < t25) then
   if inb t26 t24 then
    if 0 ≤ (w64 (t1 + 1)) ∧ (w64 (t1 + 1)) ≤ (w64 (t1 + 1)) ∧ (w64 (t1 + 1)) ≤ lim then
     (impl_equationsOf_L8 fuel (t0, t1, (t6.1, (t6.2.1, t6.2.2)), t7, t8, List.replicate (Int.toNat (w64 (t1 + 1))) (0 : Int), t24, t25, t26, gd t24 t26 [], ((gd t24 t26 []).length : Int), 0)).bind fun s1 =>
      if s1.2.2.2.2.1.length + [s1.2.2.2.2.2.1].length ≤ lim then
       impl_equationsOf_L4 n (s1.1, s1.2.1, (s1.2.2.1.1, (s1.2.2.1.2.1, s1.2.2.1.2.2)), s1.2.2.2.1, s1.2.2.2.2.1 ++ [s1.2.2.2.2.2.1], s1.2.2.2.2.2.2.1, s1.2.2.2.2.2.2.2.1, w64 (s1.2.2.2.2.2.2.2.2 + 1))
      else none
    else none
   else none
  else
   some (t0, t1, (t6.1, (t6.2.1, t6.2.2)), t7, t8)
def impl_equationsOf_L20 : Nat → (Unit × Int × Int × (Int × (Int × (List (List Int)))) × (List Int) × (List (List Int)) × (List Int) × Int × ((List (List Int)) × Int) × Int × Int × Int × Int) → Option (Int × Int × (Int × (Int × (List (List Int)))) × (List Int) × (List (List Int)) × (List Int) × Int × ((List (List Int)) × Int) × Int × Int)
 | 0, _ => none
 | n + 1, (al70, t0, t1, t6, t7, t14, t16, t17, t64, t65, t66, t71, t72) =>
  if decide (t72 < t71) then
   if inb t72 t16 then
    if inb t72 t7 then
     impl_equationsOf_L20 n ((), t0, t1, (t6.1, (t6.2.1, t6.2.2)), t7, t14, t16, w64 (t17 + (w64 ((gd t16 t72 0) * (gd t7 t72 0)))), (t64.1, -1 - (-1 - t64.2)), t65, t66, t71, w64 (t72 + 1))
    else none
   else none
  else
   some (t0, t1, (t6.1, (t6.2.1, t6.2.2)), t7, t14, t16, t17, (t64.1, -1 - (-1 - t64.2)), t65, t66)
def impl_equationsOf_L16 : Nat → (Int × Int × (Int × (Int × (List (List Int)))) × (List Int) × (List (List Int)) × ((List (List Int)) × Int) × Int × Int) → Option (Int × Int × (Int × (Int × (List (List Int)))) × (List (List Int)))
 | 0, _ => none
 | n + 1, (t0, t1, t6, t7, t14, t64, t65, t66) =>
  if decide (t66 < t65) then
   if inb t66 t64.1 then
    if (-1 - t64.2) < 0 ∧ -1 - (-1 - t64.2) ≤ t66 then
     (impl_equationsOf_L20 fuel ((), t0, t1, (t6.1, (t6.2.1, t6.2.2)), t7, t14, gd t64.1 t66 [], 0, (t64.1, -1 - (-1 - (t66 + 1))), t65, t66, ((gd t64.1 t66 []).length : Int), 0)).bind fun s5 =>
      if s5.1 ≠ 0 then
       if s5.2.2.2.2.2.1.length + [Int.tmod s5.2.2.2.2.2.2.1 s5.1].length ≤ lim then
        if s5.2.2.2.2.1.length + [s5.2.2.2.2.2.1 ++ [Int.tmod s5.2.2.2.2.2.2.1 s5.1]].length ≤ lim then
         impl_equationsOf_L16 n (s5.1, s5.2.1, (s5.2.2.1.1, (s5.2.2.1.2.1, s5.2.2.1.2.2)), s5.2.2.2.1, s5.2.2.2.2.1 ++ [s5.2.2.2.2.2.1 ++ [Int.tmod s5.2.2.2.2.2.2.1 s5.1]], (s5.2.2.2.2.2.2.2.1.1, -1 - (-1 - s5.2.2.2.2.2.2.2.1.2)), s5.2.2.2.2.2.2.2.2.1, w64 (s5.2.2.2.2.2.2.2.2.2 + 1))
        else none
       else none
      else none
    else none
   else none
  else
   some (t0, t1, (t6.1, (t6.2.1, t6.2.2)), t14)
def impl_equationsOf (t0 : Int) (t1 : Int) (t2 : List (List Int)) : Option ((Int × (Int × (List (List Int))))) :=
 if inb 0 t2 then
  (impl_equationsOf_L4 fuel (t0, t1, (0, (0, [])), gd t2 0 [], [], t2, (t2.length : Int), 0)).bind fun s1 =>
   (impl_eliminate_b s1.1 s1.2.1 s1.2.2.2.2).bind fun r2 =>
    (impl_eliminated_kernel (r2.1, (r2.2.1, (r2.2.2.1, (r2.2.2.2.1, r2.2.2.2.2))))).bind fun r3 =>
     (impl_equationsOf_L16 fuel (s1.1, s1.2.1, (s1.2.2.1.1, (s1.2.2.1.2.1, s1.2.2.1.2.2)), s1.2.2.2.1, [], (r3.2, 0), (r3.2.length : Int), 0)).bind fun s4 =>
      (impl_eliminate_b s4.1 s4.2.1 s4.2.2.2).bind fun r5 =>
       (impl_linearOf_b (r5.1, (r5.2.1, (r5.2.2.1, (r5.2.2.2.1, r5.2.2.2.2))))).bind fun r6 =>
        some (r6.2.1, (r6.2.2.1, r6.2.2.2))
 else none
end T
open Go Go.Va
namespace T
section
variable {p : Int} {k W N V : Nat} {ts : List (List Int)}
theorem neg2 (x : Int) : -1 - (-1 - x) = x := by omega
theorem pr4_of (h : primeB p = true) : pr4 p := by unfold primeB at h; simp at h; unfold pr4; omega
theorem base_in (h : SetOk p k ts) {b : List Int} (hb : b ∈ ts) : ∀ i, i < k → 0 ≤ b.getD i 0 ∧ b.getD i 0 < p := fun i hi => (h.get hb hi).2
theorem lin_b {s : ES} (hs : ESok p W N V s) (hV : V < W) (hN : N ≤ 100000) (hW : W ≤ 1000) : impl_linearOf_b (boxE p V s) = some (boxE p V s, (p, ((V : Int), s.1 ++ s.2.2.filter (nzB V)))) := by
 obtain ⟨t, b, l⟩ := s
 have hn := hs.n
 dsimp only at hn
 have e1 : (((t ++ l).take (Int.toNat ((t ++ l).length : Int))).drop (Int.toNat (t.length : Int))) = l := by rw [Int.toNat_natCast, Int.toNat_natCast, List.take_length]; simp
 have e2 : (((t ++ l).take (Int.toNat (t.length : Int))).drop (Int.toNat 0)) = t := by simp
 have l3 := forS l.length (fun f (o : List (List Int)) i => impl_linearOf_b_L3 f (boxE p V (t, b, l), (0, (0, [])), (p, ((V : Int), o)), l, (l.length : Int), i)) (fun k => t ++ (l.take k).filter (nzB V)) (r := some (boxE p V (t, b, l), (0, (0, [])), (p, ((V : Int), t ++ l.filter (nzB V))))) (fun f k hk => ?_) (fun f => ?_) (n := fuel) (by unfold fuel; omega)
 ·rw [List.take_zero, List.filter_nil, List.append_nil] at l3
  unfold boxE at l3 ⊢
  have l3 : impl_linearOf_b_L3 fuel ((p, ((V : Int), (t ++ l, ((t.length : Int), barr V b)))), (0, (0, [])), (p, ((V : Int), t)), l, (l.length : Int), 0) = _ := l3
  unfold impl_linearOf_b
  dsimp only
  rw [e1, e2, if_pos ⟨by omega, by omega, by rw [List.length_append]; omega⟩, cloneRows_ok (by omega) fun r h => by have := (hs.t r h).1; omega]
  simp only [Option.bind_some]
  rw [if_pos ⟨by omega, by rw [List.length_append]; omega, by omega⟩, l3]
  rfl
 ·have hrk := hs.l _ (List.getElem_mem hk)
  have hvl : V < l[k].length := by rw [hrk.1]; exact hV
  have hcl : impl_clone l[k] = some l[k] := by
   unfold impl_clone
   rw [if_pos (by have := hrk.1; simp; unfold lim; omega)]; simp
  simp only [boxE, impl_linearOf_b_L3, inb_nat, hk, gd_nat hk, hvl, gd_D, hcl, Option.bind_some, if_true, List.take_succ_eq_append_getElem hk, filter_snoc, w64_succ (show k < 4611686018427387904 by omega)]
  rw [if_pos (by simp; omega)]
  have hfl := List.length_filter_le (nzB V) (l.take k)
  rw [List.length_take] at hfl
  have hnz : nzB V l[k] = (l[k].getD V 0 != 0) := rfl
  rw [hnz]
  by_cases hz : l[k].getD V 0 = 0
  ·rw [if_neg (by simpa using hz), if_neg (by simpa using hz), List.append_nil]
  ·rw [if_pos (by simpa using hz), if_pos (by simp only [List.length_append, List.length_singleton]; unfold lim; omega), if_pos (by simpa using hz), List.append_assoc]
 ·simp only [boxE, impl_linearOf_b_L3, List.take_length]
  rw [if_neg (by simp)]
theorem diff_get {base t : List Int} {i : Nat} (hi : i < k) : (diffR p k base t).getD i 0 = (t.getD i 0 + (p - 1) * base.getD i 0) % p := by
 unfold diffR
 rw [getD_left (by simpa using hi), getD_of (by simpa using hi)]
 simp
theorem impl_diff (hp : pr4 p) (h : SetOk p k ts) {base t : List Int} (hb : base ∈ ts) (ht : t ∈ ts) (a : Int × (Int × List (List Int))) (t8 t24 : List (List Int)) (t25 t26 : Int) :
    impl_equationsOf_L8 fuel (p, (k : Int), (a.1, (a.2.1, a.2.2)), base, t8, List.replicate (k + 1) (0 : Int), t24, t25, t26, t, (t.length : Int), 0) = some (p, (k : Int), (a.1, (a.2.1, a.2.2)), base, t8, diffR p k base t, t24, t25, t26) := by
  have hp0 : p ≠ 0 := by unfold pr4 at hp; omega
  have hpb : 2 ≤ p ∧ p ≤ 7 := by unfold pr4 at hp; omega
  have hk := h.hk
  have htl := h.len t ht
  have hbl := h.len base hb
  have := forS k (fun f o i => impl_equationsOf_L8 f (p, (k : Int), (a.1, (a.2.1, a.2.2)), base, t8, o, t24, t25, t26, t, (t.length : Int), i)) (fun j => mix (fun i => (diffR p k base t).getD i 0) (fun _ => 0) (k + 1) j) (r := some (p, (k : Int), (a.1, (a.2.1, a.2.2)), base, t8, diffR p k base t, t24, t25, t26)) (fun f j hj => ?_) (fun f => ?_) (n := fuel) (by unfold fuel; omega)
  · have e0 : mix (fun i => (diffR p k base t).getD i 0) (fun _ => 0) (k + 1) 0 = List.replicate (k + 1) (0 : Int) := by
      apply List.ext_getElem
      · rw [mix_len]; simp
      · intro i _ _; simp [mix]
    rw [e0] at this; exact this
  · have h1 := base_in h ht j hj
    have h2 := base_in h hb j hj
    have hjt : j < t.length := by omega
    have hjb : j < base.length := by omega
    have hjm : j < (mix (fun i => (diffR p k base t).getD i 0) (fun _ => 0) (k + 1) j).length := by rw [mix_len]; omega
    have hst := mix_set (nw := fun i => (diffR p k base t).getD i 0) (old := fun _ => (0 : Int)) (show j < k + 1 by omega)
    rw [diff_get hj] at hst
    simp only [impl_equationsOf_L8, inb_nat, hjt, hjb, hjm, gd_D, stt_nat, if_true, w64_small (x := t.getD j 0 - base.getD j 0) (by omega) (by omega), w64_small (x := t.getD j 0 - base.getD j 0 + p) (by omega) (by omega), w64_succ (show j < 4611686018427387904 by omega)]
    rw [if_pos (by simp; omega), if_pos hp0, Int.tmod_eq_emod_of_nonneg (by omega), ← diff_at, hst]
  · simp only [impl_equationsOf_L8, htl]
    rw [if_neg (by simp)]
    congr 1
    refine congrArg (fun o => (p, (k : Int), (a.1, (a.2.1, a.2.2)), base, t8, o, t24, t25, t26)) ?_
    apply List.ext_getElem
    · rw [mix_len]; simp [diffR]
    · intro i h1 h2
      have hi : i < k + 1 := by rw [mix_len] at h1; exact h1
      simp only [mix, List.getElem_map, List.getElem_range]
      by_cases c : i < k
      · rw [if_pos c, getD_of h2]
      · have : i = k := by omega
        subst this
        rw [if_neg (by omega), ← getD_of (d := 0) h2]
        unfold diffR
        have := getD_snoc (l := (List.range i).map fun j => (t.getD j 0 + (p - 1) * base.getD j 0) % p) (x := (0 : Int)) (d := 0)
        rw [List.length_map, List.length_range] at this
        exact this.symm
theorem impl_diffs (hp : pr4 p) (h : SetOk p k ts) (h0 : 0 < ts.length) : impl_equationsOf_L4 fuel (p, (k : Int), (0, (0, [])), ts[0], [], ts, (ts.length : Int), 0) = some (p, (k : Int), ((0 : Int), ((0 : Int), ([] : List (List Int)))), ts[0], ts.map (diffR p k ts[0])) := by
 have hk := h.hk
 have hc := h.count
 have := forS ts.length (fun f o i => impl_equationsOf_L4 f (p, (k : Int), (0, (0, [])), ts[0], o, ts, (ts.length : Int), i)) (fun j => (ts.take j).map (diffR p k ts[0])) (r := some (p, (k : Int), ((0 : Int), ((0 : Int), ([] : List (List Int)))), ts[0], ts.map (diffR p k ts[0]))) (fun f j hj => ?_) (fun f => ?_) (n := fuel) (by unfold fuel; omega)
 ·exact this
 ·have h8 := impl_diff hp h (List.getElem_mem h0) (List.getElem_mem hj) (0, (0, [])) ((ts.take j).map (diffR p k ts[0])) ts (ts.length : Int) (j : Int)
  have ek : w64 ((k : Int) + 1) = ((k + 1 : Nat) : Int) := w64_succ (by omega)
  simp only [impl_equationsOf_L4, inb_nat, hj, gd_nat hj, ek, Int.toNat_natCast, h8, Option.bind_some, if_true, List.take_succ_eq_append_getElem hj, List.map_append, List.map_cons, List.map_nil, w64_succ (show j < 4611686018427387904 by omega)]
  rw [if_pos (by simp; omega), if_pos (by unfold lim; omega), if_pos (by simp; unfold lim; omega)]
 ·simp only [impl_equationsOf_L4, List.take_length]
  rw [if_neg (by simp)]
theorem impl_dotE (hp : pr4 p) {base w : List Int} (hk : k ≤ 4) (hbl : base.length = k) (hb : ∀ i, i < k → 0 ≤ base.getD i 0 ∧ base.getD i 0 < p) (hw : w.length = k ∧ ∀ x ∈ w, 0 ≤ x ∧ x < p) (a : Int × (Int × List (List Int))) (t14 K : List (List Int)) (q t65 t66 : Int) :
    impl_equationsOf_L20 fuel ((), p, (k : Int), (a.1, (a.2.1, a.2.2)), base, t14, w, 0, (K, q), t65, t66, (w.length : Int), 0) = some (p, (k : Int), (a.1, (a.2.1, a.2.2)), base, t14, w, dotB k base w, (K, q), t65, t66) := by
  have := forS k (fun f o i => impl_equationsOf_L20 f ((), p, (k : Int), (a.1, (a.2.1, a.2.2)), base, t14, w, o, (K, q), t65, t66, (w.length : Int), i)) (fun j => sumN j fun i => w.getD i 0 * base.getD i 0) (r := some (p, (k : Int), (a.1, (a.2.1, a.2.2)), base, t14, w, dotB k base w, (K, q), t65, t66)) (fun f j hj => ?_) (fun f => ?_) (n := fuel) (by unfold fuel; omega)
  · exact this
  · have hd := dot_in hp hb hw j (by omega)
    have h1 := hb j hj
    have h2 := hw.2 _ (getD_mem (l := w) (i := j) (d := 0) (by omega))
    have hpb : 2 ≤ p ∧ p ≤ 7 := by unfold pr4 at hp; omega
    have h3 := prod_le (a := w.getD j 0) (b := base.getD j 0) (by omega) (by omega) (by omega) (by omega)
    have hjw : j < w.length := by omega
    have hjb : j < base.length := by omega
    simp only [impl_equationsOf_L20, inb_nat, hjw, hjb, gd_D, if_true, neg2, w64_small (x := w.getD j 0 * base.getD j 0) (by omega) (by omega), sumN_succ, w64_succ (show j < 4611686018427387904 by omega)]
    rw [if_pos (by simp; omega), w64_small (by omega) (by omega)]
  · simp only [impl_equationsOf_L20, hw.1, neg2]
    rw [if_neg (by simp)]; rfl
theorem impl_eqns (hp : pr4 p) {base : List Int} (hk : k ≤ 4) (hbl : base.length = k) (hb : ∀ i, i < k → 0 ≤ base.getD i 0 ∧ base.getD i 0 < p) {K : List (List Int)} (hK : ∀ w ∈ K, w.length = k ∧ ∀ x ∈ w, 0 ≤ x ∧ x < p) (hKl : K.length ≤ k) :
    impl_equationsOf_L16 fuel (p, (k : Int), (0, (0, [])), base, [], (K, 0), (K.length : Int), 0) = some (p, (k : Int), (0, (0, [])), K.map (eqnR p k base)) := by
  have hp0 : p ≠ 0 := by unfold pr4 at hp; omega
  have := forS K.length (fun f (s : List (List Int) × Int) i => impl_equationsOf_L16 f (p, (k : Int), (0, (0, [])), base, s.1, (K, s.2), (K.length : Int), i)) (fun j => ((K.take j).map (eqnR p k base), (j : Int))) (r := some (p, (k : Int), (0, (0, [])), K.map (eqnR p k base))) (fun f j hj => ?_) (fun f => ?_) (n := fuel) (by unfold fuel; omega)
  · exact this
  · have hw := hK _ (List.getElem_mem hj)
    have h20 := impl_dotE hp hk hbl hb hw (0, (0, [])) ((K.take j).map (eqnR p k base)) K ((j : Int) + 1) (K.length : Int) (j : Int)
    have e : ((j + 1 : Nat) : Int) = (j : Int) + 1 := by push_cast; rfl
    simp only [impl_equationsOf_L16, neg2, inb_nat, hj, gd_nat hj, h20, Option.bind_some, if_true, List.take_succ_eq_append_getElem hj, List.map_append, List.map_cons, List.map_nil, w64_succ (show j < 4611686018427387904 by omega)]
    rw [if_pos (by simp; omega), if_pos (by omega), if_pos hp0, if_pos (by simp; unfold lim; omega), if_pos (by simp; unfold lim; omega)]
    rfl
  · simp only [impl_equationsOf_L16, List.take_length]
    rw [if_neg (by simp)]
def eqF (p : Int) (k : Nat) (ts : List (List Int)) : List (List Int) := (elimF p (eqnsOf p k (ts.headD []) (ts.map (diffR p k (ts.headD [])))) k).1
theorem impl_eqs_ok (hp : pr4 p) (h : SetOk p k ts) (h0 : 0 < ts.length) : impl_equationsOf p (k : Int) ts = some (p, ((k : Int), eqF p k ts)) := by
 have hk := h.hk
 have hc := h.count
 have hh : ts.headD [] = ts[0] := by cases ts with | nil => simp at h0 | cons a l => rfl
 have hm : ts[0] ∈ ts := List.getElem_mem h0
 have hb := base_in h hm
 have hbl := h.len _ hm
 have hD : ∀ r ∈ ts.map (diffR p k ts[0]), okRow p (k + 1) r := fun r hr => by
  obtain ⟨t, _, rfl⟩ := List.mem_map.1 hr
  exact diff_ok hp
 have hDl : (ts.map (diffR p k ts[0])).length ≤ 100000 := by simp; omega
 have hs := elimF_ok hp hD k (by omega)
 have e1 := elb_of (elim_kept hp (show k ≤ k + 1 by omega) (by omega) hD hDl)
 have e1 : impl_eliminate_b p (k : Int) (ts.map (diffR p k ts[0])) = some (boxE p k (elimF p (ts.map (diffR p k ts[0])) k)) := e1
 have e2 := ker_ok hp hs (by omega) hDl (by omega)
 have hK := fun w (hw : w ∈ kerLs p k (elimF p (ts.map (diffR p k ts[0])) k)) => ker_row hp hs hw
 have hKl : (kerLs p k (elimF p (ts.map (diffR p k ts[0])) k)).length ≤ k := by unfold kerLs; rw [List.length_map]; exact freeL_le
 have e3 := impl_eqns hp hk hbl hb hK hKl
 obtain ⟨q1, q2, q3⟩ := eqns_ok hp hb hD
 have hs2 := elimF_ok hp q1 k (by omega)
 have e4 := elb_of (elim_kept hp (show k ≤ k + 1 by omega) (by omega) q1 (by omega))
 have e4 : impl_eliminate_b p (k : Int) ((kerLs p k (elimF p (ts.map (diffR p k ts[0])) k)).map (eqnR p k ts[0])) = some (boxE p k (elimF p (eqnsOf p k ts[0] (ts.map (diffR p k ts[0]))) k)) := e4
 have e5 := lin_b hs2 (by omega) (by omega) (by omega)
 rw [q3, List.append_nil] at e5
 unfold impl_equationsOf eqF
 rw [hh]
 have h00 : inb (0 : Int) ts := by unfold inb; omega
 have g00 : gd ts 0 [] = ts[0] := by have := gd_nat (d := []) h0; exact this
 rw [if_pos h00, g00, impl_diffs hp h h0]
 simp only [Option.bind_some, e1]
 generalize elimF p (ts.map (diffR p k ts[0])) k = s at *
 have e2 : impl_eliminated_kernel ((boxE p k s).1, ((boxE p k s).2.1, ((boxE p k s).2.2.1, ((boxE p k s).2.2.2.1, (boxE p k s).2.2.2.2)))) = _ := e2
 simp only [e2, Option.bind_some, e3, e4]
 generalize elimF p (eqnsOf p k ts[0] (ts.map (diffR p k ts[0]))) k = s2 at *
 have e5 : impl_linearOf_b ((boxE p k s2).1, ((boxE p k s2).2.1, ((boxE p k s2).2.2.1, ((boxE p k s2).2.2.2.1, (boxE p k s2).2.2.2.2)))) = _ := e5
 simp only [e5, Option.bind_some]
end
end T
open Go Go.Va
namespace T
section
variable {p : Int} {k W N V : Nat} {ts : List (List Int)}
theorem rowsF_snoc {D : List (List Int)} {d : List Int} : rowsF p k (D ++ [d]) = (elimF p (rowsF p k D ++ [d]) k).1 := by
 unfold rowsF; rw [List.foldl_append]; rfl
theorem spec_rows (hp : pr4 p) (h : SetOk p k ts) (h0 : 0 < ts.length) : spec_EquationsOf_L5 fuel (p, (k : Int), ts, ((0 : Int), ((0 : Int), ([] : List (List Int)))), [], 1) = some (p, (k : Int), ts, ((0 : Int), ((0 : Int), ([] : List (List Int)))), rowsF p k ((ts.drop 1).map (diffR p k ts[0]))) := by
 have hk := h.hk
 have hc := h.count
 have hD : ∀ r ∈ (ts.drop 1).map (diffR p k ts[0]), okRow p (k + 1) r := fun r hr => by
  obtain ⟨t, _, rfl⟩ := List.mem_map.1 hr
  exact diff_ok hp
 have hdl : (ts.drop 1).length = ts.length - 1 := by simp
 have := forS (ts.length - 1) (fun f o i => spec_EquationsOf_L5 f (p, (k : Int), ts, ((0 : Int), ((0 : Int), ([] : List (List Int)))), o, i + 1)) (fun j => rowsF p k (((ts.drop 1).take j).map (diffR p k ts[0]))) (r := some (p, (k : Int), ts, ((0 : Int), ((0 : Int), ([] : List (List Int)))), rowsF p k ((ts.drop 1).map (diffR p k ts[0])))) (fun f j hj => ?_) (fun f => ?_) (n := fuel) (by unfold fuel; omega)
 ·exact this
 ·have hj1 : j + 1 < ts.length := by omega
  have hjd : j < (ts.drop 1).length := by omega
  have hin : inb ((j : Int) + 1) ts := by unfold inb; omega
  have hge : gd ts ((j : Int) + 1) [] = ts[j + 1] := by have := gd_nat (d := []) hj1; exact this
  have h00 : inb (0 : Int) ts := by unfold inb; omega
  have g00 : gd ts 0 [] = ts[0] := by have := gd_nat (d := []) h0; exact this
  have hls := spec_less h (List.getElem_mem hj1) (List.getElem_mem h0)
  obtain ⟨_, r2, r3⟩ := rowsF_ok hp (show k ≤ k + 1 by omega) (((ts.drop 1).take j).map (diffR p k ts[0])) [] (fun r hr => by
   obtain ⟨t, ht, rfl⟩ := List.mem_map.1 hr
   exact diff_ok hp) (fun r h => by cases h) (by simp)
  have r2 : ∀ r ∈ rowsF p k (((ts.drop 1).take j).map (diffR p k ts[0])), okRow p (k + 1) r := r2
  have r3 : (rowsF p k (((ts.drop 1).take j).map (diffR p k ts[0]))).length ≤ k := r3
  have hgd : (ts.drop 1)[j] = ts[j + 1] := by rw [List.getElem_drop]; congr 1; omega
  have hdd : ((List.range k).map (fun i : Nat => ((ts[j + 1].getD i 0 + (p - (1 : Int)) * ts[0].getD i 0) % p : Int)) : List Int) ++ [(0 : Int)] = diffR p k ts[0] ts[j + 1] := rfl
  have hok : ∀ r ∈ rowsF p k (((ts.drop 1).take j).map (diffR p k ts[0])) ++ [diffR p k ts[0] ts[j + 1]], okRow p (k + 1) r := fun r hr => by
   rcases List.mem_append.1 hr with hr | hr
   ·exact r2 r hr
   ·rw [List.mem_singleton.1 hr]; exact diff_ok hp
  have hel := spec_Eliminate_ok hp (show k ≤ k + 1 by omega) (by omega) hok (by rw [List.length_append, List.length_singleton]; omega)
  have ew : w64 ((j : Int) + 1 + 1) = ((j + 1 : Nat) : Int) + 1 := by rw [w64_small (by omega) (by omega)]; push_cast; rfl
  simp only [spec_EquationsOf_L5, hin, h00, hge, g00, hls, Option.bind_some, if_true, hdd, hel, ew, List.take_succ_eq_append_getElem hjd, List.map_append, List.map_cons, List.map_nil, rowsF_snoc, hgd]
  rw [if_pos (by simp; omega), if_pos (by simp; unfold lim; omega), if_pos (by simp only [List.length_append, List.length_singleton]; unfold lim; omega)]
 ·have e1 : (ts.drop 1).take (ts.length - 1) = ts.drop 1 := by rw [← hdl, List.take_length]
  simp only [spec_EquationsOf_L5, e1]
  rw [if_neg (by simp; omega)]
theorem spec_dotE (hp : pr4 p) {base w : List Int} {K : List (List Int)} {j : Nat} (h00 : inb (0 : Int) ts) (g00 : gd ts 0 [] = base) (hj : j < K.length) (hKj : K[j] = w) (hk : k ≤ 4) (hbl : base.length = k) (hb : ∀ i, i < k → 0 ≤ base.getD i 0 ∧ base.getD i 0 < p) (hw : w.length = k ∧ ∀ x ∈ w, 0 ≤ x ∧ x < p) (a : Int × (Int × List (List Int))) (t11 : List (List Int)) :
    spec_EquationsOf_L15 fuel (p, (k : Int), ts, (a.1, (a.2.1, a.2.2)), K, t11, (j : Int), 0, 0) = some (p, (k : Int), ts, (a.1, (a.2.1, a.2.2)), K, t11, (j : Int), Int.tmod (dotB k base w) p) := by
  have hp0 : p ≠ 0 := by unfold pr4 at hp; omega
  have hpb : 2 ≤ p ∧ p ≤ 7 := by unfold pr4 at hp; omega
  have := forS k (fun f o i => spec_EquationsOf_L15 f (p, (k : Int), ts, (a.1, (a.2.1, a.2.2)), K, t11, (j : Int), o, i)) (fun i => Int.tmod (sumN i fun i => w.getD i 0 * base.getD i 0) p) (r := some (p, (k : Int), ts, (a.1, (a.2.1, a.2.2)), K, t11, (j : Int), Int.tmod (dotB k base w) p)) (fun f i hi => ?_) (fun f => ?_) (n := fuel) (by unfold fuel; omega)
  · have e0 : Int.tmod (sumN 0 fun i => w.getD i 0 * base.getD i 0) p = 0 := by simp [sumN]
    rw [e0] at this; exact this
  · have hd := dot_in hp hb hw i (by omega)
    have h1 := hb i hi
    have h2 := hw.2 _ (getD_mem (l := w) (i := i) (d := 0) (by omega))
    have h3 := prod_le (a := w.getD i 0) (b := base.getD i 0) (by omega) (by omega) (by omega) (by omega)
    have hm := mod_in hp hd.1
    have hiw : i < w.length := by omega
    have hib : i < base.length := by omega
    have em : Int.tmod (Int.tmod (sumN i fun i => w.getD i 0 * base.getD i 0) p + w.getD i 0 * base.getD i 0) p = Int.tmod (sumN (i + 1) fun i => w.getD i 0 * base.getD i 0) p := by
      rw [sumN_succ, Int.tmod_eq_emod_of_nonneg (by omega), Int.tmod_eq_emod_of_nonneg hd.1, Int.tmod_eq_emod_of_nonneg (by omega), Int.emod_add_emod]
    simp only [spec_EquationsOf_L15, inb_nat, hj, gd_nat hj, hKj, h00, g00, hiw, hib, gd_D, if_true, w64_small (x := w.getD i 0 * base.getD i 0) (by omega) (by omega), w64_succ (show i < 4611686018427387904 by omega)]
    rw [if_pos (by simp; omega), if_pos hp0, w64_small (by omega) (by omega), em]
  · simp only [spec_EquationsOf_L15]
    rw [if_neg (by simp)]; rfl
theorem spec_eqns (hp : pr4 p) {base : List Int} (h00 : inb (0 : Int) ts) (g00 : gd ts 0 [] = base) (hk : k ≤ 4) (hbl : base.length = k) (hb : ∀ i, i < k → 0 ≤ base.getD i 0 ∧ base.getD i 0 < p) {K : List (List Int)} (hK : ∀ w ∈ K, w.length = k ∧ ∀ x ∈ w, 0 ≤ x ∧ x < p) (hKl : K.length ≤ k) :
    spec_EquationsOf_L11 fuel (p, (k : Int), ts, ((0 : Int), ((0 : Int), ([] : List (List Int)))), K, [], 0) = some (p, (k : Int), ((0 : Int), ((0 : Int), ([] : List (List Int)))), K.map (eqnR p k base)) := by
  have := forS K.length (fun f o i => spec_EquationsOf_L11 f (p, (k : Int), ts, ((0 : Int), ((0 : Int), ([] : List (List Int)))), K, o, i)) (fun j => (K.take j).map (eqnR p k base)) (r := some (p, (k : Int), ((0 : Int), ((0 : Int), ([] : List (List Int)))), K.map (eqnR p k base))) (fun f j hj => ?_) (fun f => ?_) (n := fuel) (by unfold fuel; omega)
  · exact this
  · have hw := hK _ (List.getElem_mem hj)
    have hwl := hw.1
    have h15 := spec_dotE (ts := ts) hp h00 g00 hj rfl hk hbl hb hw (0, (0, [])) ((K.take j).map (eqnR p k base))
    simp only [spec_EquationsOf_L11, h15, Option.bind_some, inb_nat, hj, gd_nat hj, spec_l1Own_ok (show K[j].length ≤ 1099511627775 by omega), if_true, List.take_succ_eq_append_getElem hj, List.map_append, List.map_cons, List.map_nil, w64_succ (show j < 4611686018427387904 by omega)]
    rw [if_pos (by simp; omega), if_pos (by simp; unfold lim; omega), if_pos (by simp; unfold lim; omega)]
    rfl
  · simp only [spec_EquationsOf_L11, List.take_length]
    rw [if_neg (by simp)]
theorem spec_eqs_ok {kk : Int} (hpr : primeB p = true) (hs : setB p kk ts = true) (h0 : 0 < ts.length) (ha : affB p ts = true) (hl : ts.length ≤ 1099511627774) (hr : ∀ t ∈ ts, t.length ≤ 1099511627775) : spec_EquationsOf p kk ts = some ((p, (kk, eqF p kk.toNat ts)), true) := by
 have h := setOk_of hpr hs
 have hp := pr4_of hpr
 have hkk : (kk.toNat : Int) = kk := by
  have := h0
  unfold setB at hs
  simp only [Bool.and_eq_true, decide_eq_true_eq] at hs
  omega
 have hk := h.hk
 have hc := h.count
 unfold spec_EquationsOf
 rw [spec_l21Prime_ok, hpr]
 simp only [Option.bind_some, Bool.not_true, Bool.false_eq_true, if_false]
 rw [spec_l21Set_ok hl hr, hs]
 simp only [Option.bind_some, Bool.not_true, Bool.false_eq_true, if_false]
 rw [if_neg (by simp; intro e; rw [e] at h0; simp at h0), spec_aff h, ha]
 simp only [Option.bind_some, Bool.not_true, Bool.false_eq_true, if_false]
 generalize kk.toNat = k at *
 subst hkk
 have hh : ts.headD [] = ts[0] := by cases ts with | nil => simp at h0 | cons a l => rfl
 have hm : ts[0] ∈ ts := List.getElem_mem h0
 have hb := base_in h hm
 have hbl := h.len _ hm
 have h00 : inb (0 : Int) ts := by unfold inb; omega
 have g00 : gd ts 0 [] = ts[0] := by have := gd_nat (d := []) h0; exact this
 have hD : ∀ r ∈ (ts.drop 1).map (diffR p k ts[0]), okRow p (k + 1) r := fun r hr => by
  obtain ⟨t, _, rfl⟩ := List.mem_map.1 hr
  exact diff_ok hp
 obtain ⟨_, r2, r3⟩ := rowsF_ok hp (show k ≤ k + 1 by omega) ((ts.drop 1).map (diffR p k ts[0])) [] hD (fun r h => by cases h) (by simp)
 have r2 : ∀ r ∈ rowsF p k ((ts.drop 1).map (diffR p k ts[0])), okRow p (k + 1) r := r2
 have r3 : (rowsF p k ((ts.drop 1).map (diffR p k ts[0]))).length ≤ k := r3
 have hs1 := elimF_ok hp r2 k (by omega)
 have e1 := spec_Eliminate_ok hp (show k ≤ k + 1 by omega) (by omega) r2 (by omega)
 have e2 := spec_ker_ok hp hs1 (by omega) (by omega) (by omega)
 have hker := ker_rows hp (show k ≤ k + 1 by omega) hD (diff_ok (p := p) (k := k) hp (base := ts[0]) (t := ts[0])) diff_zero
 have hcons : diffR p k ts[0] ts[0] :: (ts.drop 1).map (diffR p k ts[0]) = ts.map (diffR p k ts[0]) := by cases ts with | nil => simp at h0 | cons a l => rfl
 rw [hcons] at hker
 have hD2 : ∀ r ∈ ts.map (diffR p k ts[0]), okRow p (k + 1) r := fun r hr => by
  obtain ⟨t, _, rfl⟩ := List.mem_map.1 hr
  exact diff_ok hp
 rw [← hker] at e2
 have hs2 := elimF_ok hp hD2 k (by omega)
 have hK := fun w (hw : w ∈ kerLs p k (elimF p (ts.map (diffR p k ts[0])) k)) => ker_row hp hs2 hw
 have hKl : (kerLs p k (elimF p (ts.map (diffR p k ts[0])) k)).length ≤ k := by unfold kerLs; rw [List.length_map]; exact freeL_le
 have e3 := spec_eqns (ts := ts) hp h00 g00 hk hbl hb hK hKl
 obtain ⟨q1, q2, _⟩ := eqns_ok hp hb hD2
 have e4 := spec_Eliminate_ok hp (show k ≤ k + 1 by omega) (by omega) q1 (by omega)
 have e4 : spec_l21Eliminate p (k : Int) ((kerLs p k (elimF p (ts.map (diffR p k ts[0])) k)).map (eqnR p k ts[0])) = _ := e4
 rw [spec_rows hp h h0]
 simp only [Option.bind_some, e1]
 generalize elimF p (rowsF p k ((ts.drop 1).map (diffR p k ts[0]))) k = s1 at *
 have e2 : spec_l21Kernel (s1.1, (s1.2.1, s1.2.2)) p (k : Int) = _ := e2
 simp only [e2, Option.bind_some, e3, e4]
 unfold eqF
 rw [hh]
theorem eqF_ok (hp : pr4 p) (h : SetOk p k ts) (h0 : 0 < ts.length) : (eqF p k ts).length ≤ 16 ∧ ∀ r ∈ eqF p k ts, r.length ≤ 16 := by
 have hk := h.hk
 have hh : ts.headD [] = ts[0] := by cases ts with | nil => simp at h0 | cons a l => rfl
 have hb := base_in h (List.getElem_mem h0)
 have hD2 : ∀ r ∈ ts.map (diffR p k ts[0]), okRow p (k + 1) r := fun r hr => by
  obtain ⟨t, _, rfl⟩ := List.mem_map.1 hr
  exact diff_ok hp
 obtain ⟨q1, q2, _⟩ := eqns_ok hp hb hD2
 have hs := elimF_ok hp q1 k (by omega)
 have hl := taken_len hp q1 (show k ≤ k + 1 by omega)
 unfold eqF
 rw [hh]
 exact ⟨by omega, fun r hr => by have := (hs.t r hr).1; omega⟩
end
end T
open Go Go.Va
namespace T
def i64 (x : Int) : Prop := -9223372036854775808 ≤ x ∧ x ≤ 9223372036854775807
section
variable {c : List Int} {ar : Int}
end
end T
set_option linter.unusedVariables false
open Go Go.Va
namespace T
def spec_l22Affine_L14 : Nat → ((Int × Int × (List ((List Int) × Int × (List (List Int))))) × (List (List Int)) × Int × ((List Int) × Int × (List (List Int))) × (Int × (Int × (List (List Int)))) × Int × (List Int) × Int) → Option ((Int × Int × (List ((List Int) × Int × (List (List Int))))) × (List (List Int)) × Int × ((List Int) × Int × (List (List Int))) × (Int × (Int × (List (List Int)))) × Int × (List Int))
 | 0, _ => none
 | n + 1, (t1, t4, t5, t6, t7, t9, t10, t11) =>
  if decide (t11 < t6.2.1) then
   if inb t11 t6.1 then
    if inb t11 t6.1 then
     if inb (gd t6.1 t11 0) t10 then
      if inb t9 t7.2.2 then
       if inb t11 (gd t7.2.2 t9 []) then
        if (2 : Int) ≠ 0 then
         if inb (gd t6.1 t11 0) t10 then
          spec_l22Affine_L14 n ((t1.1, (t1.2.1, t1.2.2)), t4, t5, (t6.1, (t6.2.1, t6.2.2)), (t7.1, (t7.2.1, t7.2.2)), t9, stt t10 (gd t6.1 t11 0) (Int.tmod (w64 ((gd t10 (gd t6.1 t11 0) 0) + (gd (gd t7.2.2 t9 []) t11 0))) 2), w64 (t11 + 1))
         else none
        else none
       else none
      else none
     else none
    else none
   else none
  else
   some ((t1.1, (t1.2.1, t1.2.2)), t4, t5, (t6.1, (t6.2.1, t6.2.2)), (t7.1, (t7.2.1, t7.2.2)), t9, t10)
def spec_l22Affine_L10 : Nat → ((Int × Int × (List ((List Int) × Int × (List (List Int))))) × (List (List Int)) × Int × ((List Int) × Int × (List (List Int))) × (Int × (Int × (List (List Int)))) × Int) → Option ((Int × Int × (List ((List Int) × Int × (List (List Int))))) × (List (List Int)) × Int)
 | 0, _ => none
 | n + 1, (t1, t4, t5, t6, t7, t9) =>
  if decide (t9 < (t7.2.2.length : Int)) then
   if 0 ≤ (w64 (t1.1 + 1)) ∧ (w64 (t1.1 + 1)) ≤ (w64 (t1.1 + 1)) ∧ (w64 (t1.1 + 1)) ≤ lim then
    (spec_l22Affine_L14 fuel ((t1.1, (t1.2.1, t1.2.2)), t4, t5, (t6.1, (t6.2.1, t6.2.2)), (t7.1, (t7.2.1, t7.2.2)), t9, List.replicate (Int.toNat (w64 (t1.1 + 1))) (0 : Int), 0)).bind fun s2 =>
     if inb s2.2.2.2.2.2.1 s2.2.2.2.2.1.2.2 then
      if inb s2.2.2.2.1.2.1 (gd s2.2.2.2.2.1.2.2 s2.2.2.2.2.2.1 []) then
       if inb s2.1.1 s2.2.2.2.2.2.2 then
        if s2.2.1.length + [stt s2.2.2.2.2.2.2 s2.1.1 (gd (gd s2.2.2.2.2.1.2.2 s2.2.2.2.2.2.1 []) s2.2.2.2.1.2.1 0)].length ≤ lim then
         spec_l22Affine_L10 n ((s2.1.1, (s2.1.2.1, s2.1.2.2)), s2.2.1 ++ [stt s2.2.2.2.2.2.2 s2.1.1 (gd (gd s2.2.2.2.2.1.2.2 s2.2.2.2.2.2.1 []) s2.2.2.2.1.2.1 0)], s2.2.2.1, (s2.2.2.2.1.1, (s2.2.2.2.1.2.1, s2.2.2.2.1.2.2)), (s2.2.2.2.2.1.1, (s2.2.2.2.2.1.2.1, s2.2.2.2.2.1.2.2)), w64 (s2.2.2.2.2.2.1 + 1))
        else none
       else none
      else none
     else none
   else none
  else
   some ((t1.1, (t1.2.1, t1.2.2)), t4, t5)
def spec_l22Affine_L3 : Nat → ((Int × Int × (List ((List Int) × Int × (List (List Int))))) × (List (List Int)) × Int) → Option (((Int × Int × (List ((List Int) × Int × (List (List Int))))) × (List (List Int))) ⊕ ((List Int) × Bool))
 | 0, _ => none
 | n + 1, (t1, t4, t5) =>
  if decide (t5 < (t1.2.2.length : Int)) then
   if inb t5 t1.2.2 then
    (spec_EquationsOf 2 (((gd t1.2.2 t5 ([], (0, []))).2).1) (((gd t1.2.2 t5 ([], (0, []))).2).2)).bind fun r1 =>
     if !r1.2 then
      some (.inr ([], false))
     else
      (spec_l22Affine_L10 fuel ((t1.1, (t1.2.1, t1.2.2)), t4, t5, ((gd t1.2.2 t5 ([], (0, []))).1, (((gd t1.2.2 t5 ([], (0, []))).2).1, ((gd t1.2.2 t5 ([], (0, []))).2).2)), (r1.1.1, (r1.1.2.1, r1.1.2.2)), 0)).bind fun s2 =>
       spec_l22Affine_L3 n ((s2.1.1, (s2.1.2.1, s2.1.2.2)), s2.2.1, w64 (s2.2.2 + 1))
   else none
  else
   some (.inl ((t1.1, (t1.2.1, t1.2.2)), t4))
def spec_l22Affine (t0 : Int × Int × (List ((List Int) × Int × (List (List Int))))) : Option ((List Int) × Bool) :=
 (spec_l22Affine_L3 fuel ((t0.1, (t0.2.1, t0.2.2)), [], 0)).bind fun s1 =>
  match s1 with
  | .inl s2 =>
   (spec_l21Solve 2 s2.1.1 s2.2).bind fun r4 =>
    some (r4.1, r4.2)
  | .inr s3 =>
   some (s3.1, s3.2)
def spec_AffineAssignment (net : Int × Int × (List ((List Int) × Int × (List (List Int))))) : Option ((List Int) × Bool × Bool) :=
 (spec_l22Good (net.1, (net.2.1, net.2.2))).bind fun r1 =>
  if !r1 then
   some ([], false, false)
  else
   (spec_l22Is (net.1, (net.2.1, net.2.2)) 4).bind fun r2 =>
    if !r2 then
     some ([], false, false)
    else
     (spec_l22Affine (net.1, (net.2.1, net.2.2))).bind fun r3 =>
      some (r3.1, r3.2, true)
def impl_AffineAssignment_L14 : Nat → ((Int × Int × (List ((List Int) × Int × (List (List Int))))) × (List (List Int)) × ((List Int) × Int × (List (List Int))) × (List Int) × (List Int) × (List ((List Int) × Int × (List (List Int)))) × Int × Int × (List (List Int)) × Int × Int × (List Int) × Int × Int) → Option ((Int × Int × (List ((List Int) × Int × (List (List Int))))) × (List (List Int)) × ((List Int) × Int × (List (List Int))) × (List Int) × (List Int) × (List ((List Int) × Int × (List (List Int)))) × Int × Int × (List (List Int)) × Int × Int)
 | 0, _ => none
 | n + 1, (t1, t5, t7, t9, t10, t21, t22, t23, t40, t41, t42, t51, t52, t53) =>
  if decide (t53 < t52) then
   if inb t53 t51 then
    if inb (gd t51 t53 0) t10 then
     if inb t53 t9 then
      if inb (gd t51 t53 0) t10 then
       impl_AffineAssignment_L14 n ((t1.1, (t1.2.1, t1.2.2)), t5, (t7.1, (t7.2.1, t7.2.2)), t9, stt t10 (gd t51 t53 0) (xorI .i64 (gd t10 (gd t51 t53 0) 0) (gd t9 t53 0)), t21, t22, t23, t40, t41, t42, t51, t52, w64 (t53 + 1))
      else none
     else none
    else none
   else none
  else
   some ((t1.1, (t1.2.1, t1.2.2)), t5, (t7.1, (t7.2.1, t7.2.2)), t9, t10, t21, t22, t23, t40, t41, t42)
def impl_AffineAssignment_L10 : Nat → ((Int × Int × (List ((List Int) × Int × (List (List Int))))) × (List (List Int)) × ((List Int) × Int × (List (List Int))) × (List ((List Int) × Int × (List (List Int)))) × Int × Int × (List (List Int)) × Int × Int) → Option ((Int × Int × (List ((List Int) × Int × (List (List Int))))) × (List (List Int)) × (List ((List Int) × Int × (List (List Int)))) × Int × Int)
 | 0, _ => none
 | n + 1, (t1, t5, t7, t21, t22, t23, t40, t41, t42) =>
  if decide (t42 < t41) then
   if inb t42 t40 then
    if 0 ≤ (w64 (t1.1 + 1)) ∧ (w64 (t1.1 + 1)) ≤ (w64 (t1.1 + 1)) ∧ (w64 (t1.1 + 1)) ≤ lim then
     (impl_AffineAssignment_L14 fuel ((t1.1, (t1.2.1, t1.2.2)), t5, (t7.1, (t7.2.1, t7.2.2)), gd t40 t42 [], List.replicate (Int.toNat (w64 (t1.1 + 1))) (0 : Int), t21, t22, t23, t40, t41, t42, t7.1, (t7.1.length : Int), 0)).bind fun s3 =>
      if inb s3.2.2.1.2.1 s3.2.2.2.1 then
       if inb s3.1.1 s3.2.2.2.2.1 then
        if s3.2.1.length + [stt s3.2.2.2.2.1 s3.1.1 (gd s3.2.2.2.1 s3.2.2.1.2.1 0)].length ≤ lim then
         impl_AffineAssignment_L10 n ((s3.1.1, (s3.1.2.1, s3.1.2.2)), s3.2.1 ++ [stt s3.2.2.2.2.1 s3.1.1 (gd s3.2.2.2.1 s3.2.2.1.2.1 0)], (s3.2.2.1.1, (s3.2.2.1.2.1, s3.2.2.1.2.2)), s3.2.2.2.2.2.1, s3.2.2.2.2.2.2.1, s3.2.2.2.2.2.2.2.1, s3.2.2.2.2.2.2.2.2.1, s3.2.2.2.2.2.2.2.2.2.1, w64 (s3.2.2.2.2.2.2.2.2.2.2 + 1))
        else none
       else none
      else none
    else none
   else none
  else
   some ((t1.1, (t1.2.1, t1.2.2)), t5, t21, t22, t23)
def impl_AffineAssignment_L5 : Nat → ((Int × Int × (List ((List Int) × Int × (List (List Int))))) × (List (List Int)) × (List ((List Int) × Int × (List (List Int)))) × Int × Int) → Option (((Int × Int × (List ((List Int) × Int × (List (List Int))))) × (List (List Int))) ⊕ ((List Int) × Bool × Bool))
 | 0, _ => none
 | n + 1, (t1, t5, t21, t22, t23) =>
  if decide (t23 < t22) then
   if inb t23 t21 then
    if ((((gd t21 t23 ([], (0, []))).2).2).length : Int) == 0 then
     some (.inr ([], false, true))
    else
     (impl_equationsOf 2 (((gd t21 t23 ([], (0, []))).2).1) (((gd t21 t23 ([], (0, []))).2).2)).bind fun r2 =>
      (impl_AffineAssignment_L10 fuel ((t1.1, (t1.2.1, t1.2.2)), t5, ((gd t21 t23 ([], (0, []))).1, (((gd t21 t23 ([], (0, []))).2).1, ((gd t21 t23 ([], (0, []))).2).2)), t21, t22, t23, r2.2.2, (r2.2.2.length : Int), 0)).bind fun s3 =>
       impl_AffineAssignment_L5 n ((s3.1.1, (s3.1.2.1, s3.1.2.2)), s3.2.1, s3.2.2.1, s3.2.2.2.1, w64 (s3.2.2.2.2 + 1))
   else none
  else
   some (.inl ((t1.1, (t1.2.1, t1.2.2)), t5))
def impl_AffineAssignment (t0 : Int × Int × (List ((List Int) × Int × (List (List Int))))) : Option ((List Int) × Bool × Bool) :=
 (impl_inClass (t0.1, (t0.2.1, t0.2.2)) 4).bind fun r1 =>
  if !r1 then
   some ([], false, false)
  else
   (impl_AffineAssignment_L5 fuel ((t0.1, (t0.2.1, t0.2.2)), [], t0.2.2, (t0.2.2.length : Int), 0)).bind fun s2 =>
    match s2 with
    | .inl s3 =>
     (impl_eliminate 2 s3.1.1 s3.2).bind fun r5 =>
      (impl_eliminated_leastSolution_p r5).bind fun r6 =>
       some (r6.1, r6.2, true)
    | .inr s4 =>
     some (s4.1, s4.2.1, s4.2.2)
def laws_FnExactAffineAssignment (t0 : Int × Int × (List ((List Int) × Int × (List (List Int))))) : Option (Bool) :=
 (laws_szNetwork (t0.1, (t0.2.1, t0.2.2)) 1048576).bind fun r1 =>
  if decide (r1 < 0) then
   some true
  else
   (laws_toNetwork (t0.1, (t0.2.1, t0.2.2))).bind fun r2 =>
    (spec_AffineAssignment (r2.1, (r2.2.1, r2.2.2))).bind fun r3 =>
     (laws_toNetwork (t0.1, (t0.2.1, t0.2.2))).bind fun r4 =>
      (impl_AffineAssignment (r4.1, (r4.2.1, r4.2.2))).bind fun r5 =>
       (laws_eqIntS r5.1 r3.1).bind fun r6 =>
        if !r6 then
         some false
        else
         if r5.2.1 != r3.2.1 then
          some false
         else
          if r5.2.2 != r3.2.2 then
           some false
          else
           (laws_toNetwork (t0.1, (t0.2.1, t0.2.2))).bind fun r7 =>
            (laws_eqNetwork (r4.1, (r4.2.1, r4.2.2)) (r7.1, (r7.2.1, r7.2.2))).bind fun r8 =>
             if !r8 then
              some false
             else
              (laws_markNetwork (r4.1, (r4.2.1, r4.2.2)) 1).bind fun r9 =>
               if decide (r9.2 < 0) then
                some false
               else
                (laws_eqIntS r5.1 r3.1).bind fun r10 =>
                 if !r10 then
                  some false
                 else
                  if r5.2.1 != r3.2.1 then
                   some false
                  else
                   if r5.2.2 != r3.2.2 then
                    some false
                   else
                    (laws_markIntS r5.1 1).bind fun r11 =>
                     (laws_heldIntS r11.1 1).bind fun r12 =>
                      if decide (r12 < 0) then
                       some false
                      else
                       if r12 != r11.2 then
                        some false
                       else
                        (laws_toNetwork (t0.1, (t0.2.1, t0.2.2))).bind fun r13 =>
                         (impl_AffineAssignment (r13.1, (r13.2.1, r13.2.2))).bind fun r14 =>
                          (laws_eqIntS r14.1 r3.1).bind fun r15 =>
                           if !r15 then
                            some false
                           else
                            if r14.2.1 != r3.2.1 then
                             some false
                            else
                             if r14.2.2 != r3.2.2 then
                              some false
                             else
                              (laws_heldIntS r11.1 1).bind fun r16 =>
                               if decide (r16 < 0) then
                                some false
                               else
                                if r16 != r11.2 then
                                 some false
                                else
                                 some true
end T
open Go Go.Va
namespace T
theorem dg3 {b x y z : Nat} (hx : x < b) (hy : y < b) (hz : z < b) : dg b 3 ((x * b + y) * b + z) = [x, y, z] ∧ (x * b + y) * b + z < b ^ 3 := by
 have hb : 0 < b := by omega
 have e1 : ((x * b + y) * b + z) / b = x * b + y := by rw [Nat.mul_comm, Nat.mul_add_div hb, Nat.div_eq_of_lt hz]; rfl
 have e2 : ((x * b + y) * b + z) % b = z := by rw [Nat.mul_comm, Nat.mul_add_mod, Nat.mod_eq_of_lt hz]
 have e3 : (x * b + y) / b = x := by rw [Nat.mul_comm, Nat.mul_add_div hb, Nat.div_eq_of_lt hy]; rfl
 have e4 : (x * b + y) % b = y := by rw [Nat.mul_comm, Nat.mul_add_mod, Nat.mod_eq_of_lt hy]
 refine ⟨?_, ?_⟩
 ·simp [dg, e1, e2, e3, e4, Nat.mod_eq_of_lt hx]
 ·have h1 : x * b + y < b * b := by
   have : (x + 1) * b ≤ b * b := Nat.mul_le_mul_right _ hx
   rw [Nat.succ_mul] at this; omega
  have h2 : (x * b + y + 1) * b ≤ b * b * b := Nat.mul_le_mul_right _ h1
  rw [Nat.succ_mul] at h2
  have : b ^ 3 = b * b * b := by simp [Nat.pow_succ]
  omega
theorem aff_tab {a b c : Nat} (ha : a < 2) (hb : b < 2) (hc : c < 2) : (opsL.getD 2 (0, [])).2.getD (((0 * 2 + a) * 2 + b) * 2 + c) 0 = ((a : Int) + b - c) % 2 := by
 have h1 : a = 0 ∨ a = 1 := by omega
 have h2 : b = 0 ∨ b = 1 := by omega
 have h3 : c = 0 ∨ c = 1 := by omega
 rcases h1 with rfl | rfl <;> rcases h2 with rfl | rfl <;> rcases h3 with rfl | rfl <;> decide
section
variable {v : Int} {c : Con}
theorem con_setOk (h : ConOk v 2 c) : SetOk 2 c.2.1.toNat c.2.2 := by
 have hm := h.ar
 have hsl := h.sl
 refine ⟨by omega, by omega, fun t ht => by have := h.tl t ht; omega, fun t ht => ?_, h.inc⟩
 unfold belowB
 rw [List.all_eq_true]
 intro x hx
 obtain ⟨j, hj, rfl⟩ := List.mem_iff_getElem.1 hx
 have := h.tv t ht j hj
 simp; omega
theorem con_aff (h : ConOk v 2 c) (hc : clsB c 4 = true) (h0 : 0 < c.2.2.length) : affB 2 c.2.2 = true := by
 have hk := kok h (i := 2) (by omega)
 have hkB : kB 2 3 c.2.1.toNat (opsL.getD 2 (0, [])) (c.2.1, c.2.2) = true := by
  unfold clsB at hc; rw [if_neg (by omega)] at hc; exact hc
 unfold affB
 rw [List.all_eq_true]; intro t ht
 rw [List.all_eq_true]; intro u hu
 rw [decide_eq_true_iff]
 obtain ⟨x, hx, rfl⟩ := List.mem_iff_getElem.1 ht
 obtain ⟨y, hy, rfl⟩ := List.mem_iff_getElem.1 hu
 have hh : c.2.2.headD [] = c.2.2[0] := by
  generalize c.2.2 = l at h0
  cases l with | nil => simp at h0 | cons a l => rfl
 obtain ⟨e1, e2⟩ := dg3 hx hy h0
 unfold kB at hkB
 have hi := List.all_eq_true.1 hkB ((x * c.2.2.length + y) * c.2.2.length + 0) (List.mem_range.2 e2)
 rw [decide_eq_true_iff] at hi
 dsimp only at hi
 rw [e1] at hi
 have hl := hk.tl _ ht
 have he : resT 2 (opsL.getD 2 (0, [])) c.2.2 c.2.1.toNat [x, y, 0] = comb 2 c.2.2[x] c.2.2[y] (c.2.2.headD []) := by
  unfold resT comb
  rw [hl, hh]
  apply List.map_congr_left
  intro j hj
  rw [List.mem_range] at hj
  obtain ⟨v1, v2, _⟩ := hk.vt_lt hx hj
  obtain ⟨w1, w2, _⟩ := hk.vt_lt hy hj
  obtain ⟨z1, z2, _⟩ := hk.vt_lt h0 hj
  dsimp only at v1 v2 w1 w2 z1 z2
  have ea : atF 2 c.2.2 j [x, y, 0] = ((0 * 2 + vt c.2.2 x j) * 2 + vt c.2.2 y j) * 2 + vt c.2.2 0 j := rfl
  rw [ea, aff_tab v1 w1 z1]
  rw [getD_of hx] at v2
  rw [getD_of hy] at w2
  rw [getD_of h0] at z2
  rw [v2, w2, z2]
 rw [he] at hi
 exact hi
theorem xor_bit {a b : Int} (ha : 0 ≤ a ∧ a < 2) (hb : 0 ≤ b ∧ b < 2) : xorI .i64 a b = Int.tmod (a + b) 2 ∧ 0 ≤ Int.tmod (a + b) 2 ∧ Int.tmod (a + b) 2 < 2 ∧ w64 (a + b) = a + b := by
 have h1 : a = 0 ∨ a = 1 := by omega
 have h2 : b = 0 ∨ b = 1 := by omega
 rcases h1 with rfl | rfl <;> rcases h2 with rfl | rfl <;> decide
def eRowS (V : Nat) (sc e : List Int) : Nat → List Int
 | 0 => List.replicate (V + 1) 0
 | k + 1 => (eRowS V sc e k).set (sc.getD k 0).toNat (Int.tmod ((eRowS V sc e k).getD (sc.getD k 0).toNat 0 + e.getD k 0) 2)
def eRowE (V : Nat) (sc e : List Int) : List Int := (eRowS V sc e sc.length).set V (e.getD sc.length 0)
theorem set_ok {W : Nat} {r : List Int} {x : Int} {i : Nat} (h : okRow 2 W r) (hx : 0 ≤ x ∧ x < 2) : okRow 2 W (r.set i x) := by
 refine ⟨by rw [List.length_set]; exact h.1, fun y hy => ?_⟩
 rcases List.mem_or_eq_of_mem_set hy with hy | hy
 ·exact h.2 y hy
 ·rw [hy]; exact hx
theorem ok_at {W : Nat} {r : List Int} (h : okRow 2 W r) (i : Nat) : 0 ≤ r.getD i 0 ∧ r.getD i 0 < 2 := by
 by_cases hi : i < r.length
 ·rw [getD_of hi]; exact h.2 _ (List.getElem_mem hi)
 ·rw [List.getD_eq_getElem?_getD, List.getElem?_eq_none (by omega)]; simp
theorem eRowS_ok {V : Nat} {sc e : List Int} (he : ∀ i, 0 ≤ e.getD i 0 ∧ e.getD i 0 < 2) : ∀ k, okRow 2 (V + 1) (eRowS V sc e k)
 | 0 => ⟨by simp [eRowS], fun x hx => by rw [eRowS] at hx; have := List.eq_of_mem_replicate hx; omega⟩
 | k + 1 => set_ok (eRowS_ok he k) (by have := xor_bit (ok_at (eRowS_ok (V := V) (sc := sc) he k) (sc.getD k 0).toNat) (he k); exact ⟨this.2.1, this.2.2.1⟩)
theorem eRowE_ok {V : Nat} {sc e : List Int} (he : ∀ i, 0 ≤ e.getD i 0 ∧ e.getD i 0 < 2) : okRow 2 (V + 1) (eRowE V sc e) := set_ok (eRowS_ok he _) (he _)
def eqC (c : Con) : List (List Int) := eqF 2 c.2.1.toNat c.2.2
theorem eqC_ok (h : ConOk v 2 c) (h0 : 0 < c.2.2.length) : (eqC c).length ≤ 16 ∧ ∀ r ∈ eqC c, okRow 2 (c.1.length + 1) r := by
 have hs := con_setOk h
 have hp : pr4 2 := Or.inl rfl
 refine ⟨(eqF_ok hp hs h0).1, ?_⟩
 have hh : c.2.2.headD [] = c.2.2[0] := by
  generalize c.2.2 = l at h0
  cases l with | nil => simp at h0 | cons a l => rfl
 have hb := base_in hs (List.getElem_mem h0)
 have hD2 : ∀ r ∈ c.2.2.map (diffR 2 c.2.1.toNat c.2.2[0]), okRow 2 (c.2.1.toNat + 1) r := fun r hr => by
  obtain ⟨t, _, rfl⟩ := List.mem_map.1 hr
  exact diff_ok hp
 obtain ⟨q1, q2, _⟩ := eqns_ok hp hb hD2
 have hs' := elimF_ok hp q1 c.2.1.toNat (by omega)
 have hsl := h.sl
 unfold eqC eqF
 rw [hh, show c.1.length + 1 = c.2.1.toNat + 1 by omega]
 exact hs'.t
theorem spec_row {V : Nat} (h : ConOk (V : Int) 2 c) (hV : V ≤ 9) {a : Net} {t4 : List (List Int)} {t5 : Int} {E : List (List Int)} {p k : Int} {j : Nat} (hj : j < E.length) (hE : okRow 2 (c.1.length + 1) E[j]) :
    spec_l22Affine_L14 fuel (a, t4, t5, c, (p, (k, E)), (j : Int), List.replicate (V + 1) 0, 0) = some (a, t4, t5, c, (p, (k, E)), (j : Int), eRowS V c.1 E[j] c.1.length) := by
  have hm := h.ar
  have hsl := h.sl
  have he := ok_at hE
  have := forS c.1.length (fun f o i => spec_l22Affine_L14 f (a, t4, t5, c, (p, (k, E)), (j : Int), o, i)) (fun i => eRowS V c.1 E[j] i) (r := some (a, t4, t5, c, (p, (k, E)), (j : Int), eRowS V c.1 E[j] c.1.length)) (fun f i hi => ?_) (fun f => ?_) (n := fuel) (by unfold fuel; omega)
  · exact this
  · have hr := eRowS_ok (V := V) (sc := c.1) he i
    have hv := h.sv i hi
    have hx := xor_bit (ok_at hr (c.1[i]).toNat) (he i)
    have hsc : c.1[i] = (((c.1[i]).toNat : Nat) : Int) := by omega
    have hin : inb c.1[i] (eRowS V c.1 E[j] i) := by unfold inb; have := hr.1; omega
    have hil : i < E[j].length := by have := hE.1; omega
    have hgd : gd (eRowS V c.1 E[j] i) c.1[i] 0 = (eRowS V c.1 E[j] i).getD (c.1[i]).toNat 0 := by
      rw [hsc]; exact gd_D
    have hst : ∀ x, stt (eRowS V c.1 E[j] i) c.1[i] x = (eRowS V c.1 E[j] i).set (c.1[i]).toNat x := fun x => by
      rw [hsc]; exact stt_nat
    simp only [spec_l22Affine_L14, inb_nat, gd_nat hj, hj, hi, gd_nat hi, hin, hil, if_true, hgd, hst, gd_D, hx.2.2.2, w64_succ (show i < 4611686018427387904 by omega), decide_eq_true (show (i : Int) < c.2.1 by omega), eRowS, getD_of hi]
    rw [if_pos (by decide)]
  · simp only [spec_l22Affine_L14]
    rw [if_neg (by simp; omega)]
theorem impl_row {V : Nat} (h : ConOk (V : Int) 2 c) (hV : V ≤ 9) {a : Net} {t5 : List (List Int)} {e : List Int} {t21 : List Con} {t22 t23 : Int} {t40 : List (List Int)} {t41 t42 : Int} (hE : okRow 2 (c.1.length + 1) e) :
    impl_AffineAssignment_L14 fuel (a, t5, c, e, List.replicate (V + 1) 0, t21, t22, t23, t40, t41, t42, c.1, (c.1.length : Int), 0) = some (a, t5, c, e, eRowS V c.1 e c.1.length, t21, t22, t23, t40, t41, t42) := by
  have hm := h.ar
  have hsl := h.sl
  have he := ok_at hE
  have := forS c.1.length (fun f o i => impl_AffineAssignment_L14 f (a, t5, c, e, o, t21, t22, t23, t40, t41, t42, c.1, (c.1.length : Int), i)) (fun i => eRowS V c.1 e i) (r := some (a, t5, c, e, eRowS V c.1 e c.1.length, t21, t22, t23, t40, t41, t42)) (fun f i hi => ?_) (fun f => ?_) (n := fuel) (by unfold fuel; omega)
  · exact this
  · have hr := eRowS_ok (V := V) (sc := c.1) he i
    have hv := h.sv i hi
    have hx := xor_bit (ok_at hr (c.1[i]).toNat) (he i)
    have hsc : c.1[i] = (((c.1[i]).toNat : Nat) : Int) := by omega
    have hin : inb c.1[i] (eRowS V c.1 e i) := by unfold inb; have := hr.1; omega
    have hil : i < e.length := by have := hE.1; omega
    have hgd : gd (eRowS V c.1 e i) c.1[i] 0 = (eRowS V c.1 e i).getD (c.1[i]).toNat 0 := by
      rw [hsc]; exact gd_D
    have hst : ∀ x, stt (eRowS V c.1 e i) c.1[i] x = (eRowS V c.1 e i).set (c.1[i]).toNat x := fun x => by
      rw [hsc]; exact stt_nat
    simp only [impl_AffineAssignment_L14, inb_nat, hi, gd_nat hi, hin, hil, if_true, hgd, hst, gd_D, hx.1, w64_succ (show i < 4611686018427387904 by omega), decide_eq_true (show (i : Int) < (c.1.length : Int) by omega), eRowS, getD_of hi]
  · simp only [impl_AffineAssignment_L14]
    rw [if_neg (by simp)]
theorem set_V {V : Nat} {r : List Int} {x : Int} : stt r (V : Int) x = r.set V x := stt_nat
theorem spec_rowsC {V : Nat} (h : ConOk (V : Int) 2 c) (hV : V ≤ 9) (h0 : 0 < c.2.2.length) {n : Int} {cs : List Con} {t4 : List (List Int)} (ht : t4.length ≤ 100000) {t5 p k : Int} :
    spec_l22Affine_L10 fuel (((V : Int), (n, cs)), t4, t5, c, (p, (k, eqC c)), 0) = some (((V : Int), (n, cs)), t4 ++ (eqC c).map (eRowE V c.1), t5) := by
  obtain ⟨hl, hE⟩ := eqC_ok h h0
  have hsl := h.sl
  have := forS (eqC c).length (fun f o i => spec_l22Affine_L10 f (((V : Int), (n, cs)), o, t5, c, (p, (k, eqC c)), i)) (fun i => t4 ++ ((eqC c).take i).map (eRowE V c.1)) (r := some (((V : Int), (n, cs)), t4 ++ (eqC c).map (eRowE V c.1), t5)) (fun f i hi => ?_) (fun f => ?_) (n := fuel) (by unfold fuel; omega)
  · simp only [List.take_zero, List.map_nil, List.append_nil] at this; exact this
  · have hEi := hE _ (List.getElem_mem hi)
    have hr := eRowS_ok (V := V) (sc := c.1) (ok_at hEi) c.1.length
    have e1 := spec_row (t4 := t4 ++ ((eqC c).take i).map (eRowE V c.1)) (t5 := t5) (a := ((V : Int), (n, cs))) (p := p) (k := k) h hV hi hEi
    have hw : w64 ((V : Int) + 1) = (V : Int) + 1 := w64_succ' (by omega)
    have hrep : List.replicate (Int.toNat ((V : Int) + 1)) (0 : Int) = List.replicate (V + 1) 0 := rfl
    have e1 : spec_l22Affine_L14 fuel (((V : Int), (n, cs)), t4 ++ ((eqC c).take i).map (eRowE V c.1), t5, (c.1, (c.2.1, c.2.2)), (p, (k, eqC c)), (i : Int), List.replicate (V + 1) 0, 0) = _ := e1
    have hvin : inb (V : Int) (eRowS V c.1 (eqC c)[i] c.1.length) := by unfold inb; have := hr.1; omega
    have hkin : c.1.length < (eqC c)[i].length := by have := hEi.1; omega
    have hc2 : c.2.1 = (c.1.length : Int) := hsl.symm
    have hcl : inb c.2.1 (eqC c)[i] := by rw [hc2]; exact inb_nat.2 hkin
    have hcg : gd (eqC c)[i] c.2.1 0 = (eqC c)[i].getD c.1.length 0 := by rw [hc2]; exact gd_D
    have hro : (eRowS V c.1 (eqC c)[i] c.1.length).set V ((eqC c)[i].getD c.1.length 0) = eRowE V c.1 (eqC c)[i] := rfl
    simp only [spec_l22Affine_L10, hw, hrep, e1, Option.bind_some, inb_nat, hi, gd_nat hi, hvin, if_true, hcl, hcg, set_V, hro, List.take_succ_eq_append_getElem hi, List.map_append, List.map_cons, List.map_nil, w64_succ (show i < 4611686018427387904 by omega), List.append_assoc, inb_nat.1 hvin]
    rw [if_pos (by simp; omega), if_pos (by unfold lim; omega), if_pos (by simp; unfold lim; omega)]
  · simp only [spec_l22Affine_L10, List.take_length]
    rw [if_neg (by simp)]
theorem impl_rowsC {V : Nat} (h : ConOk (V : Int) 2 c) (hV : V ≤ 9) (h0 : 0 < c.2.2.length) {n : Int} {cs : List Con} {t5 : List (List Int)} (ht : t5.length ≤ 100000) {t21 : List Con} {t22 t23 : Int} :
    impl_AffineAssignment_L10 fuel (((V : Int), (n, cs)), t5, c, t21, t22, t23, eqC c, ((eqC c).length : Int), 0) = some (((V : Int), (n, cs)), t5 ++ (eqC c).map (eRowE V c.1), t21, t22, t23) := by
  obtain ⟨hl, hE⟩ := eqC_ok h h0
  have hsl := h.sl
  have := forS (eqC c).length (fun f o i => impl_AffineAssignment_L10 f (((V : Int), (n, cs)), o, c, t21, t22, t23, eqC c, ((eqC c).length : Int), i)) (fun i => t5 ++ ((eqC c).take i).map (eRowE V c.1)) (r := some (((V : Int), (n, cs)), t5 ++ (eqC c).map (eRowE V c.1), t21, t22, t23)) (fun f i hi => ?_) (fun f => ?_) (n := fuel) (by unfold fuel; omega)
  · simp only [List.take_zero, List.map_nil, List.append_nil] at this; exact this
  · have hEi := hE _ (List.getElem_mem hi)
    have hr := eRowS_ok (V := V) (sc := c.1) (ok_at hEi) c.1.length
    have e1 := impl_row (t5 := t5 ++ ((eqC c).take i).map (eRowE V c.1)) (a := ((V : Int), (n, cs))) (t21 := t21) (t22 := t22) (t23 := t23) (t40 := eqC c) (t41 := ((eqC c).length : Int)) (t42 := (i : Int)) h hV hEi
    have hw : w64 ((V : Int) + 1) = (V : Int) + 1 := w64_succ' (by omega)
    have hrep : List.replicate (Int.toNat ((V : Int) + 1)) (0 : Int) = List.replicate (V + 1) 0 := rfl
    have e1 : impl_AffineAssignment_L14 fuel (((V : Int), (n, cs)), t5 ++ ((eqC c).take i).map (eRowE V c.1), (c.1, (c.2.1, c.2.2)), (eqC c)[i], List.replicate (V + 1) 0, t21, t22, t23, eqC c, ((eqC c).length : Int), (i : Int), c.1, (c.1.length : Int), 0) = _ := e1
    have hvin : inb (V : Int) (eRowS V c.1 (eqC c)[i] c.1.length) := by unfold inb; have := hr.1; omega
    have hkin : c.1.length < (eqC c)[i].length := by have := hEi.1; omega
    have hc2 : c.2.1 = (c.1.length : Int) := hsl.symm
    have hcl : inb c.2.1 (eqC c)[i] := by rw [hc2]; exact inb_nat.2 hkin
    have hcg : gd (eqC c)[i] c.2.1 0 = (eqC c)[i].getD c.1.length 0 := by rw [hc2]; exact gd_D
    have hro : (eRowS V c.1 (eqC c)[i] c.1.length).set V ((eqC c)[i].getD c.1.length 0) = eRowE V c.1 (eqC c)[i] := rfl
    simp only [impl_AffineAssignment_L10, hw, hrep, e1, Option.bind_some, inb_nat, hi, gd_nat hi, hvin, if_true, hcl, hcg, set_V, hro, List.take_succ_eq_append_getElem hi, List.map_append, List.map_cons, List.map_nil, w64_succ (show i < 4611686018427387904 by omega), List.append_assoc, inb_nat.1 hvin]
    rw [if_pos (by simp; omega), if_pos (by unfold lim; omega), if_pos (by simp; unfold lim; omega)]
  · simp only [impl_AffineAssignment_L10, List.take_length]
    rw [if_neg (by simp)]
def rowsN (V : Nat) (cs : List Con) (k : Nat) : List (List Int) := (cs.take k).flatMap fun c => (eqC c).map (eRowE V c.1)
def fullB (cs : List Con) (k : Nat) : Bool := decide (0 < (cs.getD k ([], (0, []))).2.2.length)
theorem rowsN_succ {V : Nat} {cs : List Con} {k : Nat} (hk : k < cs.length) : rowsN V cs (k + 1) = rowsN V cs k ++ (eqC cs[k]).map (eRowE V cs[k].1) := by
 unfold rowsN
 rw [List.take_succ_eq_append_getElem hk, List.flatMap_append]; simp
theorem rowsN_ok {V : Nat} {cs : List Con} (hc : ∀ c ∈ cs, ConOk (V : Int) 2 c) : ∀ k, k ≤ cs.length → (∀ j, j < k → fullB cs j = true) → (rowsN V cs k).length ≤ 16 * k ∧ ∀ r ∈ rowsN V cs k, okRow 2 (V + 1) r
 | 0, _, _ => ⟨by simp [rowsN], by simp [rowsN]⟩
 | k + 1, hk, hf => by
  obtain ⟨i1, i2⟩ := rowsN_ok hc k (by omega) fun j hj => hf j (by omega)
  have hk' : k < cs.length := by omega
  have h0 := hf k (by omega)
  unfold fullB at h0
  rw [decide_eq_true_iff, getD_of hk'] at h0
  obtain ⟨c1, c2⟩ := eqC_ok (hc _ (List.getElem_mem hk')) h0
  rw [rowsN_succ hk']
  refine ⟨by rw [List.length_append, List.length_map]; omega, fun r hr => ?_⟩
  rcases List.mem_append.1 hr with hr | hr
  ·exact i2 r hr
  ·obtain ⟨e, he, rfl⟩ := List.mem_map.1 hr
   exact eRowE_ok (ok_at (c2 e he))
theorem spec_eqs2 {V : Int} (h : ConOk V 2 c) (hc : clsB c 4 = true) : spec_EquationsOf 2 c.2.1 c.2.2 = some (if 0 < c.2.2.length then ((2, (c.2.1, eqC c)), true) else ((0, (0, [])), false)) := by
 have hm := h.ar
 have hsl := h.sl
 have hs := con_setOk h
 have hk : (c.2.1.toNat : Int) = c.2.1 := by omega
 have hlen := h.many
 have hr : ∀ t ∈ c.2.2, t.length ≤ 1099511627775 := fun t ht => by have := h.tl t ht; omega
 have hset : setB 2 c.2.1 c.2.2 = true := by
  unfold setB sizeB tupB
  simp only [Bool.and_eq_true, decide_eq_true_eq, List.all_eq_true]
  exact ⟨⟨⟨by omega, by omega⟩, fun t ht => ⟨by have := hs.len t ht; omega, hs.el t ht⟩⟩, h.inc⟩
 by_cases h0 : 0 < c.2.2.length
 ·rw [if_pos h0]
  exact spec_eqs_ok rfl hset h0 (con_aff h hc h0) (by omega) hr
 ·rw [if_neg h0]
  have : c.2.2 = [] := List.length_eq_zero_iff.1 (by omega)
  unfold spec_EquationsOf
  rw [spec_l21Prime_ok, show primeB 2 = true from rfl]
  simp only [Option.bind_some, Bool.not_true, Bool.false_eq_true, if_false]
  rw [spec_l21Set_ok (by omega) hr, hset, this]
  simp
theorem affS_all {V : Nat} {cs : List Con} (hV : V ≤ 9) (hN : cs.length ≤ 40) (hc : ∀ c ∈ cs, ConOk (V : Int) 2 c) (hcl : allB cs 4 = true) :
    spec_l22Affine_L3 fuel (((V : Int), ((2 : Int), cs)), [], 0) = if (List.range cs.length).all (fullB cs) then some (.inl (((V : Int), ((2 : Int), cs)), rowsN V cs cs.length)) else some (.inr ([], false)) := by
  have := forB cs.length (fun f o i => spec_l22Affine_L3 f (((V : Int), ((2 : Int), cs)), o, i)) (rowsN V cs) (fullB cs) (r := some (.inr ([], false))) (e := some (.inl (((V : Int), ((2 : Int), cs)), rowsN V cs cs.length))) (fun f k hk hb => ?_) (fun f hb => ?_) (n := fuel) (by unfold fuel; omega)
  · exact this
  · have hck := hc _ (List.getElem_mem hk)
    obtain ⟨r1, _⟩ := rowsN_ok hc k (by omega) hb
    have e1 := spec_eqs2 hck (allB_get hcl hk)
    simp only [spec_l22Affine_L3, inb_nat, hk, gd_nat hk, e1, Option.bind_some]
    rw [if_pos (by simp; omega), if_pos trivial]
    by_cases h0 : 0 < cs[k].2.2.length
    · have hf : fullB cs k = true := by unfold fullB; rw [decide_eq_true_iff, getD_of hk]; exact h0
      have e2 := spec_rowsC (p := 2) (k := cs[k].2.1) (n := 2) (cs := cs) (t4 := rowsN V cs k) (t5 := (k : Int)) hck hV h0 (by omega)
      have e2 : spec_l22Affine_L10 fuel (((V : Int), ((2 : Int), cs)), rowsN V cs k, (k : Int), (cs[k].1, (cs[k].2.1, cs[k].2.2)), (2, (cs[k].2.1, eqC cs[k])), 0) = _ := e2
      simp only [if_pos h0, hf, Bool.not_true, Bool.false_eq_true, if_false, if_true, e2, Option.bind_some, w64_succ (show k < 4611686018427387904 by omega), rowsN_succ hk]
    · have hf : fullB cs k = false := by unfold fullB; rw [decide_eq_false_iff_not, getD_of hk]; exact h0
      simp [if_neg h0, hf]
  · simp [spec_l22Affine_L3]
theorem affI_all {V : Nat} {cs : List Con} (hV : V ≤ 9) (hN : cs.length ≤ 40) (hc : ∀ c ∈ cs, ConOk (V : Int) 2 c) :
    impl_AffineAssignment_L5 fuel (((V : Int), ((2 : Int), cs)), [], cs, (cs.length : Int), 0) = if (List.range cs.length).all (fullB cs) then some (.inl (((V : Int), ((2 : Int), cs)), rowsN V cs cs.length)) else some (.inr ([], false, true)) := by
  have := forB cs.length (fun f o i => impl_AffineAssignment_L5 f (((V : Int), ((2 : Int), cs)), o, cs, (cs.length : Int), i)) (rowsN V cs) (fullB cs) (r := some (.inr ([], false, true))) (e := some (.inl (((V : Int), ((2 : Int), cs)), rowsN V cs cs.length))) (fun f k hk hb => ?_) (fun f hb => ?_) (n := fuel) (by unfold fuel; omega)
  · exact this
  · have hck := hc _ (List.getElem_mem hk)
    have hm := hck.ar
    obtain ⟨r1, _⟩ := rowsN_ok hc k (by omega) hb
    simp only [impl_AffineAssignment_L5, inb_nat, hk, gd_nat hk]
    rw [if_pos (by simp; omega), if_pos trivial]
    by_cases h0 : 0 < cs[k].2.2.length
    · have hf : fullB cs k = true := by unfold fullB; rw [decide_eq_true_iff, getD_of hk]; exact h0
      have e1 := impl_eqs_ok (Or.inl rfl) (con_setOk hck) h0
      rw [show ((cs[k].2.1.toNat : Nat) : Int) = cs[k].2.1 by omega] at e1
      have e2 := impl_rowsC (n := 2) (cs := cs) (t5 := rowsN V cs k) (t21 := cs) (t22 := (cs.length : Int)) (t23 := (k : Int)) hck hV h0 (by omega)
      have e2 : impl_AffineAssignment_L10 fuel (((V : Int), ((2 : Int), cs)), rowsN V cs k, (cs[k].1, (cs[k].2.1, cs[k].2.2)), cs, (cs.length : Int), (k : Int), eqF 2 cs[k].2.1.toNat cs[k].2.2, ((eqF 2 cs[k].2.1.toNat cs[k].2.2).length : Int), 0) = _ := e2
      rw [if_neg (by rw [beq_iff_eq]; omega)]
      simp only [e1, Option.bind_some, e2, hf, if_true, w64_succ (show k < 4611686018427387904 by omega), rowsN_succ hk]
    · have hf : fullB cs k = false := by unfold fullB; rw [decide_eq_false_iff_not, getD_of hk]; exact h0
      rw [if_pos (by rw [beq_iff_eq]; omega), hf]; rfl
  · simp [impl_AffineAssignment_L5]
theorem AffineAssignment_ok {a : Net} (h : netS a) : ∃ R : List Int × Bool × Bool, impl_AffineAssignment a = some R ∧ spec_AffineAssignment a = some R ∧ R.1.length ≤ 9 := by
 unfold impl_AffineAssignment spec_AffineAssignment
 have e1 := impl_inClass_ok h (x := 4) (by omega)
 have e1 : impl_inClass (a.1, (a.2.1, a.2.2)) 4 = some (boolB a && allB a.2.2 4) := e1
 rw [e1, spec_l22Good_ok (a := (a.1, (a.2.1, a.2.2))) h, show boolB (a.1, (a.2.1, a.2.2)) = boolB a from rfl]
 cases hb : boolB a with
 | false => exact ⟨([], false, false), by simp, by simp, by simp⟩
 | true =>
  obtain ⟨hN, h2⟩ := bool_of hb
  have e2 : spec_l22Is (a.1, (a.2.1, a.2.2)) 4 = some (allB a.2.2 4) := spec_l22Is_ok hN h2 (x := 4) (by omega)
  cases hcl : allB a.2.2 4 with
  | false => exact ⟨([], false, false), by simp, by simp [e2, hcl], by simp⟩
  | true =>
   obtain ⟨v, n, cs⟩ := a
   dsimp only at h2 hcl e2
   subst h2
   have hv := hN.hv
   have hl := hN.hc
   have hc := hN.con
   dsimp only at hv hl hc
   obtain ⟨V, rfl⟩ : ∃ V : Nat, v = (V : Int) := ⟨v.toNat, by omega⟩
   have f1 := affS_all (by omega) hl hc hcl
   have f2 := affI_all (by omega) hl hc
   unfold spec_l22Affine
   simp only [Option.bind_some, Bool.and_self, Bool.not_true, Bool.false_eq_true, if_false, e2, hcl, f1, f2]
   cases hall : (List.range cs.length).all (fullB cs) with
   | false => exact ⟨([], false, true), by simp, by simp, by simp⟩
   | true =>
    obtain ⟨g1, g2⟩ := rowsN_ok hc cs.length (by omega) fun j hj => List.all_eq_true.1 hall j (List.mem_range.2 hj)
    have hp : pr4 2 := Or.inl rfl
    have k1 := elim_kept hp (show V ≤ V + 1 by omega) (by omega) g2 (by omega)
    have k2 := solve_ok hp (show V < V + 1 by omega) (by omega) g2 (by omega)
    have k3 := least_ok hp (elimF_ok hp g2 V (by omega)) (show V < V + 1 by omega) (by omega) (by omega)
    simp only [if_true, Option.bind_some, k1, k2, k3]
    refine ⟨_, rfl, rfl, ?_⟩
    dsimp only
    split
    ·simp
    ·simp [solL]; omega
theorem FnExactAffineAssignment_law {a : Net} (h : wfT netT a) : laws_FnExactAffineAssignment a = some true := by
 unfold laws_FnExactAffineAssignment
 rw [szNetwork_ok (a := (a.1, (a.2.1, a.2.2))) h]
 simp only [Option.bind_some]
 rw [show totN (a.1, (a.2.1, a.2.2)) = totN a from rfl]
 by_cases h : szR (totN a) 1048576 < 0
 ·rw [if_pos (by simpa using h)]
 ·obtain ⟨hs, ht⟩ := szNetwork_small h
  obtain ⟨b, k, hm, hk0, hk1⟩ := markNetwork_ok hs ht
  obtain ⟨R, e1, e2, hl⟩ := AffineAssignment_ok hs
  rw [if_neg (by simpa using h)]
  have e3 := mIntS_far R.1 1
  have e4 : ¬ (mIntS R.1 1).2 < 0 := by omega
  simp only [toNetwork_ok hs, e1, e2, eqNetwork_ok hs, Option.bind_some, eqIntS_ok (show R.1.length ≤ 1099511627775 by omega), hm, markIntS_ok (l := R.1) (k := 1) (by omega) (by omega) (by unfold BM; omega), heldIntS_ok (l := R.1) (k := 1) (by omega) (by omega) (by unfold BM; omega)]
  simp [show ¬ k < 0 by omega, e4]
end
end T
