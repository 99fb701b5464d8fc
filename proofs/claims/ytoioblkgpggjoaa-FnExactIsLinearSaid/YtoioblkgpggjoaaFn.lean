/- The typed functions of the program that the claim reaches; no conditions. -/
import Derived.Test.YtoioblkgpggjoaaV1
set_option linter.unusedVariables false
set_option linter.unusedSimpArgs false

set_option linter.unusedVariables false
open Go Go.Va
namespace T
def fuel : Nat := 1099511627776

def laws_szIntS (a : List Int) (left : Int) : Option (Int) :=
  if decide ((w64 (left - (a.length : Int))) < 0) then
    some (-1)
  else
    some (w64 (left - (a.length : Int)))


def laws_szIntSS_L5 : Nat → ((List (List Int)) × Int × Int) → Option ((Int) ⊕ (Int))
  | 0, _ => none
  | n + 1, (a, left, i) =>
    if decide (i < (a.length : Int)) then
      if inb i a then
        (laws_szIntS (gd a i []) left).bind fun r1 =>
          if decide (r1 < 0) then
            some (.inr (-1))
          else
            laws_szIntSS_L5 n (a, r1, w64 (i + 1))
      else none
    else
      some (.inl left)

def laws_szIntSS (a : List (List Int)) (left : Int) : Option (Int) :=
  if decide ((w64 (left - (a.length : Int))) < 0) then
    some (-1)
  else
    (laws_szIntSS_L5 fuel (a, w64 (left - (a.length : Int)), 0)).bind fun s1 =>
      match s1 with
      | .inl s2 =>
        some s2
      | .inr s3 =>
        some s3


def laws_szLinear (a : Int × Int × (List (List Int))) (left : Int) : Option (Int) :=
  (laws_szIntSS a.2.2 left).bind fun r1 =>
    if decide (r1 < 0) then
      some (-1)
    else
      some r1


def laws_toIntS_L3 : Nat → ((List Int) × (List Int) × Int) → Option ((List Int))
  | 0, _ => none
  | n + 1, (a, out, i) =>
    if decide (i < (a.length : Int)) then
      if inb i a then
        if inb i out then
          laws_toIntS_L3 n (a, stt out i (gd a i 0), w64 (i + 1))
        else none
      else none
    else
      some out

def laws_toIntS (a : List Int) : Option ((List Int)) :=
  if 0 ≤ (a.length : Int) ∧ (a.length : Int) ≤ (a.length : Int) ∧ (a.length : Int) ≤ lim then
    (laws_toIntS_L3 fuel (a, List.replicate (Int.toNat (a.length : Int)) (0 : Int), 0)).bind fun s1 =>
      some s1
  else none


def laws_toIntSS_L3 : Nat → ((List (List Int)) × (List (List Int)) × Int) → Option ((List (List Int)))
  | 0, _ => none
  | n + 1, (a, out, i) =>
    if decide (i < (a.length : Int)) then
      if inb i a then
        (laws_toIntS (gd a i [])).bind fun r1 =>
          if inb i out then
            laws_toIntSS_L3 n (a, stt out i r1, w64 (i + 1))
          else none
      else none
    else
      some out

def laws_toIntSS (a : List (List Int)) : Option ((List (List Int))) :=
  if 0 ≤ (a.length : Int) ∧ (a.length : Int) ≤ (a.length : Int) ∧ (a.length : Int) ≤ lim then
    (laws_toIntSS_L3 fuel (a, List.replicate (Int.toNat (a.length : Int)) ([] : List Int), 0)).bind fun s1 =>
      some s1
  else none


def laws_toLinear (a : Int × Int × (List (List Int))) : Option ((Int × (Int × (List (List Int))))) :=
  (laws_toIntSS a.2.2).bind fun r1 =>
    some (a.1, (a.2.1, r1))


def spec_l21Prime (p : Int) : Option (Bool) :=
  if p == 2 then
    some true
  else
    if p == 3 then
      some true
    else
      if p == 5 then
        some true
      else
        some (p == 7)


def spec_l1In (x : Int) (a : Int) (b : Int) : Option (Bool) :=
  if decide (x ≥ a) then
    some (decide (x ≤ b))
  else
    some false


def spec_l2Elements_L2 : Nat → (Int × (List Int) × Int) → Option ((Unit) ⊕ (Bool))
  | 0, _ => none
  | n + 1, (n_, list, i) =>
    if decide (i < (list.length : Int)) then
      if inb i list then
        (spec_l1In (gd list i 0) 0 (w64 (n_ - 1))).bind fun r1 =>
          if !r1 then
            some (.inr false)
          else
            spec_l2Elements_L2 n (n_, list, w64 (i + 1))
      else none
    else
      some (.inl ())

def spec_l2Elements (n_ : Int) (list : List Int) : Option (Bool) :=
  (spec_l2Elements_L2 fuel (n_, list, 0)).bind fun s1 =>
    match s1 with
    | .inl s2 =>
      some true
    | .inr s3 =>
      some s3


def spec_l8Tuple (n_ : Int) (k : Int) (t : List Int) : Option (Bool) :=
  if (t.length : Int) == k then
    (spec_l2Elements n_ t).bind fun r1 =>
      some r1
  else
    some false


def spec_l21Rows_L2 : Nat → (Int × Int × (List (List Int)) × Int) → Option ((Unit) ⊕ (Bool))
  | 0, _ => none
  | n + 1, (p, vars, rows, i) =>
    if decide (i < (rows.length : Int)) then
      if inb i rows then
        (spec_l8Tuple p (w64 (vars + 1)) (gd rows i [])).bind fun r1 =>
          if !r1 then
            some (.inr false)
          else
            spec_l21Rows_L2 n (p, vars, rows, w64 (i + 1))
      else none
    else
      some (.inl ())

def spec_l21Rows (p : Int) (vars : Int) (rows : List (List Int)) : Option (Bool) :=
  (spec_l21Rows_L2 fuel (p, vars, rows, 0)).bind fun s1 =>
    match s1 with
    | .inl s2 =>
      some true
    | .inr s3 =>
      some s3


def spec_l21Good (l : Int × Int × (List (List Int))) : Option (Bool) :=
  (spec_l21Prime l.1).bind fun r1 =>
    if r1 then
      (spec_l1In l.2.1 0 8).bind fun r2 =>
        if r2 then
          if decide ((l.2.2.length : Int) ≤ 8) then
            (spec_l21Rows l.1 l.2.1 l.2.2).bind fun r3 =>
              some r3
          else
            some false
        else
          some false
    else
      some false


def spec_IsLinear (l : Int × Int × (List (List Int))) : Option (Bool) :=
  (spec_l21Good (l.1, (l.2.1, l.2.2))).bind fun r1 =>
    some r1


def impl_isPrime (p : Int) : Option (Bool) :=
  if p == 2 then
    some true
  else
    if p == 3 then
      some true
    else
      if p == 5 then
        some true
      else
        some (p == 7)


def impl_inSize_L2 : Nat → (Int × (List Int) × Int × Int) → Option ((Unit) ⊕ (Bool))
  | 0, _ => none
  | n + 1, (n_, t7, t8, t9) =>
    if decide (t9 < t8) then
      if inb t9 t7 then
        if decide ((gd t7 t9 0) < 0) then
          some (.inr false)
        else
          if decide ((gd t7 t9 0) ≥ n_) then
            some (.inr false)
          else
            impl_inSize_L2 n (n_, t7, t8, w64 (t9 + 1))
      else none
    else
      some (.inl ())

def impl_inSize (list : List Int) (n_ : Int) : Option (Bool) :=
  (impl_inSize_L2 fuel (n_, list, (list.length : Int), 0)).bind fun s1 =>
    match s1 with
    | .inl s2 =>
      some true
    | .inr s3 =>
      some s3


def impl_IsLinear_L4 : Nat → ((Int × Int × (List (List Int))) × (List (List Int)) × Int × Int) → Option ((Unit) ⊕ (Bool))
  | 0, _ => none
  | n + 1, (l, t26, t27, t28) =>
    if decide (t28 < t27) then
      if inb t28 t26 then
        if ((gd t26 t28 []).length : Int) != (w64 (l.2.1 + 1)) then
          some (.inr false)
        else
          (impl_inSize (gd t26 t28 []) l.1).bind fun r2 =>
            if !r2 then
              some (.inr false)
            else
              impl_IsLinear_L4 n ((l.1, (l.2.1, l.2.2)), t26, t27, w64 (t28 + 1))
      else none
    else
      some (.inl ())

def impl_IsLinear (l : Int × Int × (List (List Int))) : Option (Bool) :=
  (impl_isPrime l.1).bind fun r1 =>
    if !r1 then
      some false
    else
      if decide (l.2.1 < 0) then
        some false
      else
        if decide (l.2.1 > 8) then
          some false
        else
          if decide ((l.2.2.length : Int) > 8) then
            some false
          else
            (impl_IsLinear_L4 fuel ((l.1, (l.2.1, l.2.2)), l.2.2, (l.2.2.length : Int), 0)).bind fun s2 =>
              match s2 with
              | .inl s3 =>
                some true
              | .inr s4 =>
                some s4


def laws_eqIntS_L4 : Nat → ((List Int) × (List Int) × Int) → Option ((Unit) ⊕ (Bool))
  | 0, _ => none
  | n + 1, (a, b, i) =>
    if decide (i < (a.length : Int)) then
      if inb i a then
        if inb i b then
          if (gd a i 0) != (gd b i 0) then
            some (.inr false)
          else
            laws_eqIntS_L4 n (a, b, w64 (i + 1))
        else none
      else none
    else
      some (.inl ())

def laws_eqIntS (a : List Int) (b : List Int) : Option (Bool) :=
  if (a.length : Int) != (b.length : Int) then
    some false
  else
    (laws_eqIntS_L4 fuel (a, b, 0)).bind fun s1 =>
      match s1 with
      | .inl s2 =>
        some true
      | .inr s3 =>
        some s3


def laws_eqIntSS_L4 : Nat → ((List (List Int)) × (List (List Int)) × Int) → Option ((Unit) ⊕ (Bool))
  | 0, _ => none
  | n + 1, (a, b, i) =>
    if decide (i < (a.length : Int)) then
      if inb i a then
        if inb i b then
          (laws_eqIntS (gd a i []) (gd b i [])).bind fun r1 =>
            if !r1 then
              some (.inr false)
            else
              laws_eqIntSS_L4 n (a, b, w64 (i + 1))
        else none
      else none
    else
      some (.inl ())

def laws_eqIntSS (a : List (List Int)) (b : List (List Int)) : Option (Bool) :=
  if (a.length : Int) != (b.length : Int) then
    some false
  else
    (laws_eqIntSS_L4 fuel (a, b, 0)).bind fun s1 =>
      match s1 with
      | .inl s2 =>
        some true
      | .inr s3 =>
        some s3


def laws_eqLinear (a : Int × Int × (List (List Int))) (b : Int × Int × (List (List Int))) : Option (Bool) :=
  if a.1 != b.1 then
    some false
  else
    if a.2.1 != b.2.1 then
      some false
    else
      (laws_eqIntSS a.2.2 b.2.2).bind fun r1 =>
        if !r1 then
          some false
        else
          some true


def laws_FnExactIsLinear (aL : Int × Int × (List (List Int))) : Option (Bool) :=
  (laws_szLinear (aL.1, (aL.2.1, aL.2.2)) 1048576).bind fun r1 =>
    if decide (r1 < 0) then
      some true
    else
      (laws_toLinear (aL.1, (aL.2.1, aL.2.2))).bind fun r2 =>
        (spec_IsLinear (r2.1, (r2.2.1, r2.2.2))).bind fun r3 =>
          (laws_toLinear (aL.1, (aL.2.1, aL.2.2))).bind fun r4 =>
            (impl_IsLinear (r4.1, (r4.2.1, r4.2.2))).bind fun r5 =>
              if r5 != r3 then
                some false
              else
                (laws_toLinear (aL.1, (aL.2.1, aL.2.2))).bind fun r6 =>
                  (laws_eqLinear (r4.1, (r4.2.1, r4.2.2)) (r6.1, (r6.2.1, r6.2.2))).bind fun r7 =>
                    if !r7 then
                      some false
                    else
                      some true


def spec_IsLinearRefutation_L10 : Nat → ((List Int) × (Int × Int × (List (List Int))) × Int × Int × Int) → Option ((List Int) × (Int × Int × (List (List Int))) × Int × Int)
  | 0, _ => none
  | n + 1, (t1, t2, t6, t7, t8) =>
    if decide (t8 < (t2.2.2.length : Int)) then
      if inb t8 t1 then
        if inb t8 t2.2.2 then
          if inb t6 (gd t2.2.2 t8 []) then
            if t2.1 ≠ 0 then
              spec_IsLinearRefutation_L10 n (t1, (t2.1, (t2.2.1, t2.2.2)), t6, Int.tmod (w64 (t7 + (w64 ((gd t1 t8 0) * (gd (gd t2.2.2 t8 []) t6 0))))) t2.1, w64 (t8 + 1))
            else none
          else none
        else none
      else none
    else
      some (t1, (t2.1, (t2.2.1, t2.2.2)), t6, t7)

def spec_IsLinearRefutation_L6 : Nat → ((List Int) × (Int × Int × (List (List Int))) × Int) → Option ((Unit) ⊕ (Bool × Bool))
  | 0, _ => none
  | n + 1, (t1, t2, t6) =>
    if decide (t6 ≤ t2.2.1) then
      (spec_IsLinearRefutation_L10 fuel (t1, (t2.1, (t2.2.1, t2.2.2)), t6, 0, 0)).bind fun s3 =>
        if decide (s3.2.2.1 < s3.2.1.2.1) then
          if s3.2.2.2 != 0 then
            some (.inr (false, true))
          else
            if s3.2.2.1 == s3.2.1.2.1 then
              if s3.2.2.2 != 1 then
                some (.inr (false, true))
              else
                spec_IsLinearRefutation_L6 n (s3.1, (s3.2.1.1, (s3.2.1.2.1, s3.2.1.2.2)), w64 (s3.2.2.1 + 1))
            else
              spec_IsLinearRefutation_L6 n (s3.1, (s3.2.1.1, (s3.2.1.2.1, s3.2.1.2.2)), w64 (s3.2.2.1 + 1))
        else
          if s3.2.2.1 == s3.2.1.2.1 then
            if s3.2.2.2 != 1 then
              some (.inr (false, true))
            else
              spec_IsLinearRefutation_L6 n (s3.1, (s3.2.1.1, (s3.2.1.2.1, s3.2.1.2.2)), w64 (s3.2.2.1 + 1))
          else
            spec_IsLinearRefutation_L6 n (s3.1, (s3.2.1.1, (s3.2.1.2.1, s3.2.1.2.2)), w64 (s3.2.2.1 + 1))
    else
      some (.inl ())

def spec_IsLinearRefutation (t0 : Int × Int × (List (List Int))) (t1 : List Int) : Option (Bool × Bool) :=
  (spec_l21Good (t0.1, (t0.2.1, t0.2.2))).bind fun r1 =>
    if !r1 then
      some (false, false)
    else
      (spec_l8Tuple t0.1 (t0.2.2.length : Int) t1).bind fun r2 =>
        if !r2 then
          some (false, true)
        else
          (spec_IsLinearRefutation_L6 fuel (t1, (t0.1, (t0.2.1, t0.2.2)), 0)).bind fun s3 =>
            match s3 with
            | .inl s4 =>
              some (true, true)
            | .inr s5 =>
              some (s5.1, s5.2)


def impl_IsLinearRefutation_L10 : Nat → ((List Int) × (Int × Int × (List (List Int))) × Int × Int × (List (List Int)) × Int × Int) → Option ((List Int) × (Int × Int × (List (List Int))) × Int × Int)
  | 0, _ => none
  | n + 1, (y, l, v, sum, t34, t35, t36) =>
    if decide (t36 < t35) then
      if inb t36 t34 then
        if inb t36 y then
          if inb v (gd t34 t36 []) then
            impl_IsLinearRefutation_L10 n (y, (l.1, (l.2.1, l.2.2)), v, w64 (sum + (w64 ((gd y t36 0) * (gd (gd t34 t36 []) v 0)))), t34, t35, w64 (t36 + 1))
          else none
        else none
      else none
    else
      some (y, (l.1, (l.2.1, l.2.2)), v, sum)

def impl_IsLinearRefutation_L6 : Nat → ((List Int) × (Int × Int × (List (List Int))) × Int) → Option ((Unit) ⊕ (Bool × Bool))
  | 0, _ => none
  | n + 1, (y, l, v) =>
    if decide (v ≤ l.2.1) then
      (impl_IsLinearRefutation_L10 fuel (y, (l.1, (l.2.1, l.2.2)), v, 0, l.2.2, (l.2.2.length : Int), 0)).bind fun s3 =>
        if s3.2.2.1 == s3.2.1.2.1 then
          if s3.2.1.1 ≠ 0 then
            if (Int.tmod s3.2.2.2 s3.2.1.1) != 1 then
              some (.inr (false, true))
            else
              impl_IsLinearRefutation_L6 n (s3.1, (s3.2.1.1, (s3.2.1.2.1, s3.2.1.2.2)), w64 (s3.2.2.1 + 1))
          else none
        else
          if s3.2.1.1 ≠ 0 then
            if (Int.tmod s3.2.2.2 s3.2.1.1) != 0 then
              some (.inr (false, true))
            else
              impl_IsLinearRefutation_L6 n (s3.1, (s3.2.1.1, (s3.2.1.2.1, s3.2.1.2.2)), w64 (s3.2.2.1 + 1))
          else none
    else
      some (.inl ())

def impl_IsLinearRefutation (l : Int × Int × (List (List Int))) (y : List Int) : Option (Bool × Bool) :=
  (impl_IsLinear (l.1, (l.2.1, l.2.2))).bind fun r1 =>
    if !r1 then
      some (false, false)
    else
      if (y.length : Int) != (l.2.2.length : Int) then
        some (false, true)
      else
        (impl_inSize y l.1).bind fun r2 =>
          if !r2 then
            some (false, true)
          else
            (impl_IsLinearRefutation_L6 fuel (y, (l.1, (l.2.1, l.2.2)), 0)).bind fun s3 =>
              match s3 with
              | .inl s4 =>
                some (true, true)
              | .inr s5 =>
                some (s5.1, s5.2)


def laws_FnExactIsLinearRefutation (aL : Int × Int × (List (List Int))) (aY : List Int) : Option (Bool) :=
  if decide ((aY.length : Int) > 1048576) then
    some true
  else
    (laws_szLinear (aL.1, (aL.2.1, aL.2.2)) 1048576).bind fun r1 =>
      if decide (r1 < 0) then
        some true
      else
        (laws_toLinear (aL.1, (aL.2.1, aL.2.2))).bind fun r2 =>
          (laws_toIntS aY).bind fun r3 =>
            (spec_IsLinearRefutation (r2.1, (r2.2.1, r2.2.2)) r3).bind fun r4 =>
              (laws_toLinear (aL.1, (aL.2.1, aL.2.2))).bind fun r5 =>
                (laws_toIntS aY).bind fun r6 =>
                  (impl_IsLinearRefutation (r5.1, (r5.2.1, r5.2.2)) r6).bind fun r7 =>
                    if r7.1 != r4.1 then
                      some false
                    else
                      if r7.2 != r4.2 then
                        some false
                      else
                        (laws_toLinear (aL.1, (aL.2.1, aL.2.2))).bind fun r8 =>
                          (laws_eqLinear (r5.1, (r5.2.1, r5.2.2)) (r8.1, (r8.2.1, r8.2.2))).bind fun r9 =>
                            if !r9 then
                              some false
                            else
                              (laws_toIntS aY).bind fun r10 =>
                                (laws_eqIntS r6 r10).bind fun r11 =>
                                  if !r11 then
                                    some false
                                  else
                                    some true


def spec_l6Size (n_ : Int) : Option (Bool) :=
  (spec_l1In n_ 1 8).bind fun r1 =>
    some r1


def spec_l2Pow_L2 : Nat → (Int × Int × Int) → Option (Int)
  | 0, _ => none
  | n + 1, (n_, k, out) =>
    if decide (k > 0) then
      spec_l2Pow_L2 n (n_, w64 (k - 1), w64 (out * n_))
    else
      some out

def spec_l2Pow (n_ : Int) (k : Int) : Option (Int) :=
  (spec_l2Pow_L2 fuel (n_, k, 1)).bind fun s1 =>
    some s1


def spec_l3Less_L2 : Nat → ((List Int) × (List Int) × Int) → Option ((Unit) ⊕ (Bool))
  | 0, _ => none
  | n + 1, (a, b, i) =>
    if decide (i < (a.length : Int)) then
      if inb i a then
        if inb i b then
          if (gd a i 0) != (gd b i 0) then
            if inb i a then
              if inb i b then
                some (.inr (decide ((gd a i 0) < (gd b i 0))))
              else none
            else none
          else
            spec_l3Less_L2 n (a, b, w64 (i + 1))
        else none
      else none
    else
      some (.inl ())

def spec_l3Less (a : List Int) (b : List Int) : Option (Bool) :=
  (spec_l3Less_L2 fuel (a, b, 0)).bind fun s1 =>
    match s1 with
    | .inl s2 =>
      some false
    | .inr s3 =>
      some s3


def spec_l21Set_L4 : Nat → (Int × Int × (List (List Int)) × Int) → Option ((Unit) ⊕ (Bool))
  | 0, _ => none
  | n + 1, (n_, k, tuples, i) =>
    if decide (i < (tuples.length : Int)) then
      if inb i tuples then
        (spec_l8Tuple n_ k (gd tuples i [])).bind fun r4 =>
          if !r4 then
            some (.inr false)
          else
            if decide (i > 0) then
              if inb (w64 (i - 1)) tuples then
                if inb i tuples then
                  (spec_l3Less (gd tuples (w64 (i - 1)) []) (gd tuples i [])).bind fun r5 =>
                    if !r5 then
                      some (.inr false)
                    else
                      spec_l21Set_L4 n (n_, k, tuples, w64 (i + 1))
                else none
              else none
            else
              spec_l21Set_L4 n (n_, k, tuples, w64 (i + 1))
      else none
    else
      some (.inl ())

def spec_l21Set (n_ : Int) (k : Int) (tuples : List (List Int)) : Option (Bool) :=
  (spec_l6Size n_).bind fun r1 =>
    if !r1 then
      some false
    else
      (spec_l1In k 1 4).bind fun r2 =>
        if !r2 then
          some false
        else
          (spec_l2Pow n_ k).bind fun r3 =>
            if decide ((tuples.length : Int) > r3) then
              some false
            else
              (spec_l21Set_L4 fuel (n_, k, tuples, 0)).bind fun s4 =>
                match s4 with
                | .inl s5 =>
                  some true
                | .inr s6 =>
                  some s6


def spec_l21Less_L3 : Nat → (Int × (List Int) × (List Int) × Int × (List Int) × Int) → Option ((List Int))
  | 0, _ => none
  | n + 1, (p, row, other, by_, out, i) =>
    if decide (i < (row.length : Int)) then
      if inb i row then
        if inb i other then
          if p ≠ 0 then
            if out.length + [Int.tmod (w64 ((gd row i 0) + (w64 ((w64 (p - by_)) * (gd other i 0))))) p].length ≤ lim then
              spec_l21Less_L3 n (p, row, other, by_, out ++ [Int.tmod (w64 ((gd row i 0) + (w64 ((w64 (p - by_)) * (gd other i 0))))) p], w64 (i + 1))
            else none
          else none
        else none
      else none
    else
      some out

def spec_l21Less (p : Int) (row : List Int) (other : List Int) (by_ : Int) : Option ((List Int)) :=
  (spec_l21Less_L3 fuel (p, row, other, by_, [], 0)).bind fun s1 =>
    some s1


def spec_l1Same_L4 : Nat → ((List Int) × (List Int) × Int) → Option ((Unit) ⊕ (Bool))
  | 0, _ => none
  | n + 1, (a, b, i) =>
    if decide (i < (a.length : Int)) then
      if inb i a then
        if inb i b then
          if (gd a i 0) != (gd b i 0) then
            some (.inr false)
          else
            spec_l1Same_L4 n (a, b, w64 (i + 1))
        else none
      else none
    else
      some (.inl ())

def spec_l1Same (a : List Int) (b : List Int) : Option (Bool) :=
  if (a.length : Int) != (b.length : Int) then
    some false
  else
    (spec_l1Same_L4 fuel (a, b, 0)).bind fun s1 =>
      match s1 with
      | .inl s2 =>
        some true
      | .inr s3 =>
        some s3


def spec_l8Find_L2 : Nat → ((List (List Int)) × (List Int) × Int × Int) → Option ((List (List Int)) × (List Int) × Int)
  | 0, _ => none
  | n + 1, (list, t, from_, to) =>
    if decide (from_ < to) then
      if (2 : Int) ≠ 0 then
        if inb (w64 (Int.tdiv (w64 (from_ + to)) 2)) list then
          (spec_l3Less (gd list (w64 (Int.tdiv (w64 (from_ + to)) 2)) []) t).bind fun r1 =>
            if r1 then
              spec_l8Find_L2 n (list, t, w64 ((w64 (Int.tdiv (w64 (from_ + to)) 2)) + 1), to)
            else
              spec_l8Find_L2 n (list, t, from_, w64 (Int.tdiv (w64 (from_ + to)) 2))
        else none
      else none
    else
      some (list, t, from_)

def spec_l8Find (list : List (List Int)) (t : List Int) : Option (Int × Bool) :=
  (spec_l8Find_L2 fuel (list, t, 0, (list.length : Int))).bind fun s1 =>
    if decide (s1.2.2 < (s1.1.length : Int)) then
      if inb s1.2.2 s1.1 then
        (spec_l1Same (gd s1.1 s1.2.2 []) s1.2.1).bind fun r2 =>
          some (s1.2.2, r2)
      else none
    else
      some (s1.2.2, false)


def spec_l21Affine_L9 : Nat → (Int × (List (List Int)) × Int × Int × (List Int) × Int) → Option (Int × (List (List Int)) × Int × Int × (List Int))
  | 0, _ => none
  | n + 1, (p, tuples, i, k, t, place) =>
    if decide (place < (t.length : Int)) then
      if inb place t then
        if inb k tuples then
          if inb place (gd tuples k []) then
            if p ≠ 0 then
              if inb place t then
                spec_l21Affine_L9 n (p, tuples, i, k, stt t place (Int.tmod (w64 ((gd t place 0) + (gd (gd tuples k []) place 0))) p), w64 (place + 1))
              else none
            else none
          else none
        else none
      else none
    else
      some (p, tuples, i, k, t)

def spec_l21Affine_L5 : Nat → (Int × (List (List Int)) × Int × Int) → Option ((Int × (List (List Int)) × Int) ⊕ (Bool))
  | 0, _ => none
  | n + 1, (p, tuples, i, k) =>
    if decide (k < (tuples.length : Int)) then
      if inb i tuples then
        if inb 0 tuples then
          (spec_l21Less p (gd tuples i []) (gd tuples 0 []) 1).bind fun r1 =>
            (spec_l21Affine_L9 fuel (p, tuples, i, k, r1, 0)).bind fun s2 =>
              (spec_l8Find s2.2.1 s2.2.2.2.2).bind fun r3 =>
                if !r3.2 then
                  some (.inr false)
                else
                  spec_l21Affine_L5 n (s2.1, s2.2.1, s2.2.2.1, w64 (s2.2.2.2.1 + 1))
        else none
      else none
    else
      some (.inl (p, tuples, i))

def spec_l21Affine_L2 : Nat → (Int × (List (List Int)) × Int) → Option ((Unit) ⊕ (Bool))
  | 0, _ => none
  | n + 1, (p, tuples, i) =>
    if decide (i < (tuples.length : Int)) then
      (spec_l21Affine_L5 fuel (p, tuples, i, 0)).bind fun s1 =>
        match s1 with
        | .inl s2 =>
          spec_l21Affine_L2 n (s2.1, s2.2.1, w64 (s2.2.2 + 1))
        | .inr s3 =>
          some (.inr s3)
    else
      some (.inl ())

def spec_l21Affine (p : Int) (tuples : List (List Int)) : Option (Bool) :=
  (spec_l21Affine_L2 fuel (p, tuples, 0)).bind fun s1 =>
    match s1 with
    | .inl s2 =>
      some true
    | .inr s3 =>
      some s3


def spec_IsAffineSet (p : Int) (k : Int) (tuples : List (List Int)) : Option (Bool × Bool) :=
  (spec_l21Prime p).bind fun r1 =>
    if !r1 then
      some (false, false)
    else
      (spec_l21Set p k tuples).bind fun r2 =>
        if !r2 then
          some (false, false)
        else
          (spec_l21Affine p tuples).bind fun r3 =>
            some (r3, true)


def impl_isSize (n_ : Int) : Option (Bool) :=
  if decide (n_ ≥ 1) then
    some (decide (n_ ≤ 8))
  else
    some false


def impl_compareLists_L2 : Nat → ((List Int) × (List Int) × Int) → Option (((List Int) × (List Int)) ⊕ (Int))
  | 0, _ => none
  | n + 1, (s, t, i) =>
    if decide (i < (s.length : Int)) then
      if decide (i < (t.length : Int)) then
        if inb i s then
          if inb i t then
            if (gd s i 0) != (gd t i 0) then
              if inb i s then
                if inb i t then
                  if decide ((gd s i 0) < (gd t i 0)) then
                    some (.inr (-1))
                  else
                    some (.inr 1)
                else none
              else none
            else
              impl_compareLists_L2 n (s, t, w64 (i + 1))
          else none
        else none
      else
        some (.inl (s, t))
    else
      some (.inl (s, t))

def impl_compareLists (s : List Int) (t : List Int) : Option (Int) :=
  (impl_compareLists_L2 fuel (s, t, 0)).bind fun s1 =>
    match s1 with
    | .inl s2 =>
      if decide ((s2.1.length : Int) < (s2.2.length : Int)) then
        some (-1)
      else
        if decide ((s2.1.length : Int) > (s2.2.length : Int)) then
          some 1
        else
          some 0
    | .inr s3 =>
      some s3


def impl_isTupleSet_L4 : Nat → (Int × Int × (List (List Int)) × (List (List Int)) × Int × Int) → Option ((Unit) ⊕ (Bool))
  | 0, _ => none
  | n + 1, (n_, k, tuples, t20, t21, t22) =>
    if decide (t22 < t21) then
      if inb t22 t20 then
        if ((gd t20 t22 []).length : Int) != k then
          some (.inr false)
        else
          (impl_inSize (gd t20 t22 []) n_).bind fun r2 =>
            if !r2 then
              some (.inr false)
            else
              if decide (t22 > 0) then
                if inb (w64 (t22 - 1)) tuples then
                  (impl_compareLists (gd tuples (w64 (t22 - 1)) []) (gd t20 t22 [])).bind fun r3 =>
                    if decide (r3 ≥ 0) then
                      some (.inr false)
                    else
                      impl_isTupleSet_L4 n (n_, k, tuples, t20, t21, w64 (t22 + 1))
                else none
              else
                impl_isTupleSet_L4 n (n_, k, tuples, t20, t21, w64 (t22 + 1))
      else none
    else
      some (.inl ())

def impl_isTupleSet (n_ : Int) (k : Int) (tuples : List (List Int)) : Option (Bool) :=
  (impl_isSize n_).bind fun r1 =>
    if !r1 then
      some false
    else
      if decide (k < 1) then
        some false
      else
        if decide (k > 4) then
          some false
        else
          (impl_isTupleSet_L4 fuel (n_, k, tuples, tuples, (tuples.length : Int), 0)).bind fun s2 =>
            match s2 with
            | .inl s3 =>
              some true
            | .inr s4 =>
              some s4


def impl_power_L2 : Nat → (Int × Int × Int) → Option (Int)
  | 0, _ => none
  | n + 1, (n_, k, p) =>
    if decide (k > 0) then
      impl_power_L2 n (n_, w64 (k - 1), w64 (p * n_))
    else
      some p

def impl_power (n_ : Int) (k : Int) : Option (Int) :=
  (impl_power_L2 fuel (n_, k, 1)).bind fun s1 =>
    some s1


def impl_indexOf_L3 : Nat → (Int × Int × (List Int) × Int × Int) → Option (Int)
  | 0, _ => none
  | n + 1, (n_, i, t8, t9, t10) =>
    if decide (t10 < t9) then
      if inb t10 t8 then
        impl_indexOf_L3 n (n_, w64 ((w64 (i * n_)) + (gd t8 t10 0)), t8, t9, w64 (t10 + 1))
      else none
    else
      some i

def impl_indexOf (args : List Int) (n_ : Int) : Option (Int) :=
  (impl_indexOf_L3 fuel (n_, 0, args, (args.length : Int), 0)).bind fun s1 =>
    some s1


def impl_isAffine_L6 : Nat → (Int × (List (List Int)) × (List Int) × (List Bool) × (List (List Int)) × Int × Int) → Option (Int × (List (List Int)) × (List Int) × (List Bool))
  | 0, _ => none
  | n + 1, (t0, t1, t5, t6, t27, t28, t29) =>
    if decide (t29 < t28) then
      if inb t29 t27 then
        (impl_indexOf (gd t27 t29 []) t0).bind fun r2 =>
          if inb r2 t6 then
            impl_isAffine_L6 n (t0, t1, t5, stt t6 r2 true, t27, t28, w64 (t29 + 1))
          else none
      else none
    else
      some (t0, t1, t5, t6)

def impl_isAffine_L18 : Nat → (Int × (List (List Int)) × (List Int) × (List Bool) × (List Int) × (List Int) × Int × (List (List Int)) × Int × Int × (List (List Int)) × Int × Int × (List Int) × Int × Int) → Option (Int × (List (List Int)) × (List Int) × (List Bool) × (List Int) × Int × (List (List Int)) × Int × Int × (List (List Int)) × Int × Int)
  | 0, _ => none
  | n + 1, (t0, t1, t5, t6, t10, t12, t13, t39, t40, t41, t45, t46, t47, t51, t52, t53) =>
    if decide (t53 < t52) then
      if inb t53 t51 then
        if inb t53 t12 then
          if inb t53 t5 then
            if t0 ≠ 0 then
              impl_isAffine_L18 n (t0, t1, t5, t6, t10, t12, w64 ((w64 (t13 * t0)) + (Int.tmod (w64 ((w64 ((w64 ((gd t51 t53 0) + (gd t12 t53 0))) - (gd t5 t53 0))) + t0)) t0)), t39, t40, t41, t45, t46, t47, t51, t52, w64 (t53 + 1))
            else none
          else none
        else none
      else none
    else
      some (t0, t1, t5, t6, t10, t13, t39, t40, t41, t45, t46, t47)

def impl_isAffine_L14 : Nat → (Int × (List (List Int)) × (List Int) × (List Bool) × (List Int) × (List (List Int)) × Int × Int × (List (List Int)) × Int × Int) → Option ((Int × (List (List Int)) × (List Int) × (List Bool) × (List (List Int)) × Int × Int) ⊕ (Bool))
  | 0, _ => none
  | n + 1, (t0, t1, t5, t6, t10, t39, t40, t41, t45, t46, t47) =>
    if decide (t47 < t46) then
      if inb t47 t45 then
        (impl_isAffine_L18 fuel (t0, t1, t5, t6, t10, gd t45 t47 [], 0, t39, t40, t41, t45, t46, t47, t10, (t10.length : Int), 0)).bind fun s4 =>
          if inb s4.2.2.2.2.2.1 s4.2.2.2.1 then
            if !(gd s4.2.2.2.1 s4.2.2.2.2.2.1 false) then
              some (.inr false)
            else
              impl_isAffine_L14 n (s4.1, s4.2.1, s4.2.2.1, s4.2.2.2.1, s4.2.2.2.2.1, s4.2.2.2.2.2.2.1, s4.2.2.2.2.2.2.2.1, s4.2.2.2.2.2.2.2.2.1, s4.2.2.2.2.2.2.2.2.2.1, s4.2.2.2.2.2.2.2.2.2.2.1, w64 (s4.2.2.2.2.2.2.2.2.2.2.2 + 1))
          else none
      else none
    else
      some (.inl (t0, t1, t5, t6, t39, t40, t41))

def impl_isAffine_L11 : Nat → (Int × (List (List Int)) × (List Int) × (List Bool) × (List (List Int)) × Int × Int) → Option ((Unit) ⊕ (Bool))
  | 0, _ => none
  | n + 1, (t0, t1, t5, t6, t39, t40, t41) =>
    if decide (t41 < t40) then
      if inb t41 t39 then
        (impl_isAffine_L14 fuel (t0, t1, t5, t6, gd t39 t41 [], t39, t40, t41, t1, (t1.length : Int), 0)).bind fun s4 =>
          match s4 with
          | .inl s5 =>
            impl_isAffine_L11 n (s5.1, s5.2.1, s5.2.2.1, s5.2.2.2.1, s5.2.2.2.2.1, s5.2.2.2.2.2.1, w64 (s5.2.2.2.2.2.2 + 1))
          | .inr s6 =>
            some (.inr s6)
      else none
    else
      some (.inl ())

def impl_isAffine (t0 : Int) (t1 : List (List Int)) : Option (Bool) :=
  if (t1.length : Int) == 0 then
    some true
  else
    if inb 0 t1 then
      (impl_power t0 ((gd t1 0 []).length : Int)).bind fun r1 =>
        if 0 ≤ r1 ∧ r1 ≤ r1 ∧ r1 ≤ lim then
          (impl_isAffine_L6 fuel (t0, t1, gd t1 0 [], List.replicate (Int.toNat r1) (false : Bool), t1, (t1.length : Int), 0)).bind fun s2 =>
            (impl_isAffine_L11 fuel (s2.1, s2.2.1, s2.2.2.1, s2.2.2.2, s2.2.1, (s2.2.1.length : Int), 0)).bind fun s3 =>
              match s3 with
              | .inl s4 =>
                some true
              | .inr s5 =>
                some s5
        else none
    else none


def impl_IsAffineSet (p : Int) (k : Int) (tuples : List (List Int)) : Option (Bool × Bool) :=
  (impl_isPrime p).bind fun r1 =>
    if !r1 then
      some (false, false)
    else
      (impl_isTupleSet p k tuples).bind fun r2 =>
        if !r2 then
          some (false, false)
        else
          (impl_isAffine p tuples).bind fun r3 =>
            some (r3, true)


def laws_FnExactIsAffineSet (aP : Int) (aK : Int) (aTuples : List (List Int)) : Option (Bool) :=
  (laws_szIntSS aTuples 1048576).bind fun r1 =>
    if decide (r1 < 0) then
      some true
    else
      (laws_toIntSS aTuples).bind fun r2 =>
        (spec_IsAffineSet aP aK r2).bind fun r3 =>
          (laws_toIntSS aTuples).bind fun r4 =>
            (impl_IsAffineSet aP aK r4).bind fun r5 =>
              if r5.1 != r3.1 then
                some false
              else
                if r5.2 != r3.2 then
                  some false
                else
                  (laws_toIntSS aTuples).bind fun r6 =>
                    (laws_eqIntSS r4 r6).bind fun r7 =>
                      if !r7 then
                        some false
                      else
                        some true

end T
