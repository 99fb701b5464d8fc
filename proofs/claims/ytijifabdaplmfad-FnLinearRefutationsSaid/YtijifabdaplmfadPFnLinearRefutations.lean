/- Plain lemmas on the typed functions of the program, and the plain law of FnLinearRefutations; no conditions. -/
import Derived.Test.YtijifabdaplmfadV1
import Derived.Test.YtijifabdaplmfadV5
set_option linter.all false
namespace Go.Va
theorem w64_def (x : Int) : w64 x = (x + 9223372036854775808) % 18446744073709551616 - 9223372036854775808 := by
 simp [w64, IntKind.wrap, IntKind.bits, IntKind.signed]
 split <;> omega
theorem w64_id {x : Int} (h1 : -9223372036854775808 ≤ x) (h2 : x ≤ 9223372036854775807) : w64 x = x := by
 rw [w64_def]; omega
theorem w64_succ {k : Nat} (h : k < 4611686018427387904) : w64 ((k : Int) + 1) = ((k + 1 : Nat) : Int) := by
 rw [w64_id (by omega) (by omega)]; rfl
theorem inb_nat {α : Type} {k : Nat} {xs : List α} : inb (k : Int) xs ↔ k < xs.length := by
 unfold inb; omega
theorem gd_nat {α : Type} {k : Nat} {xs : List α} {d : α} (h : k < xs.length) : gd xs (k : Int) d = xs[k] := by
 unfold gd; simp [h]
theorem stt_nat {α : Type} {k : Nat} {xs : List α} {x : α} : stt xs (k : Int) x = xs.set k x := by
 unfold stt; simp
def runX {α σ β : Type} (step : σ → α → Option (σ ⊕ β)) (fin : σ → Option β) : List α → σ → Option β
 | [], s => fin s
 | a :: l, s => match step s a with | some (.inl s') => runX step fin l s' | some (.inr r) => some r | none => none
theorem loopX {α σ β : Type} (xs : List α) (L : Nat → σ → Int → Option β) (step : σ → α → Option (σ ⊕ β)) (fin : σ → Option β)
    (hs : ∀ n s (k : Nat) (hk : k < xs.length), L (n + 1) s k = match step s xs[k] with | some (.inl s') => L n s' ((k + 1 : Nat) : Int) | some (.inr r) => some r | none => none)
    (he : ∀ n s, L (n + 1) s (xs.length : Nat) = fin s) : ∀ (n k : Nat) (s : σ), k ≤ xs.length → xs.length - k < n → L n s k = runX step fin (xs.drop k) s := by
  intro n
  induction n with
  | zero => intro k s _ h; omega
  | succ n ih =>
    intro k s hk hn
    rcases Nat.lt_or_ge k xs.length with hlt | hge
    · rw [hs n s k hlt, List.drop_eq_getElem_cons hlt]
      simp only [runX]
      cases step s xs[k] with
      | none => rfl
      | some q =>
        cases q with
        | inl s' => exact ih (k + 1) s' hlt (by omega)
        | inr r => rfl
    · have : k = xs.length := by omega
      subst this
      rw [he, List.drop_length]; rfl
theorem loopX0 {α σ β : Type} (xs : List α) (L : Nat → σ → Int → Option β) (step : σ → α → Option (σ ⊕ β)) (fin : σ → Option β)
    (hs : ∀ n s (k : Nat) (hk : k < xs.length), L (n + 1) s k = match step s xs[k] with | some (.inl s') => L n s' ((k + 1 : Nat) : Int) | some (.inr r) => some r | none => none)
    (he : ∀ n s, L (n + 1) s (xs.length : Nat) = fin s) {n : Nat} (hn : xs.length < n) (s : σ) : L n s 0 = runX step fin xs s := by
  have := loopX xs L step fin hs he n 0 s (Nat.zero_le _) (by omega)
  simpa using this
theorem runX_all {α β : Type} {p : α → Bool} {step : Unit → α → Option (Unit ⊕ β)} {fin : Unit → Option β} {r : β} : ∀ {l : List α}, (∀ a ∈ l, step () a = if p a then some (.inl ()) else some (.inr r)) → runX step fin l () = if l.all p then fin () else some r
 | [], _ => rfl
 | a :: l, h => by
  simp only [runX]
  rw [h a (by simp)]
  cases hp : p a with
  | true => simp only [if_true, List.all_cons, hp, Bool.true_and]; exact runX_all fun b hb => h b (List.mem_cons_of_mem _ hb)
  | false => simp [List.all_cons, hp]
theorem eqX {α : Type} [DecidableEq α] (a b : List α) (hl : a.length = b.length) (L : Nat → Int → Option (Unit ⊕ Bool))
    (hs : ∀ n (k : Nat) (h1 : k < a.length) (h2 : k < b.length), L (n + 1) k = if a[k] = b[k] then L n ((k + 1 : Nat) : Int) else some (.inr false)) (he : ∀ n, L (n + 1) (a.length : Nat) = some (.inl ())) {n : Nat} (hn : a.length < n) :
    L n 0 = some (if a = b then .inl () else .inr false) := by
  have key : ∀ (n k : Nat), k ≤ a.length → a.length - k < n → L n k = some (if a.drop k = b.drop k then .inl () else .inr false) := by
    intro n
    induction n with
    | zero => intro k _ h; omega
    | succ n ih =>
      intro k hk hn
      rcases Nat.lt_or_ge k a.length with hlt | hge
      · have h2 : k < b.length := by omega
        have e : (a.drop k = b.drop k) ↔ (a[k] = b[k] ∧ a.drop (k + 1) = b.drop (k + 1)) := by
          rw [List.drop_eq_getElem_cons hlt, List.drop_eq_getElem_cons h2]; exact List.cons_eq_cons
        rw [hs n k hlt h2]
        by_cases h : a[k] = b[k]
        · rw [if_pos h, ih (k + 1) hlt (by omega)]
          by_cases h3 : a.drop (k + 1) = b.drop (k + 1)
          · rw [if_pos h3, if_pos (e.2 ⟨h, h3⟩)]
          · rw [if_neg h3, if_neg fun h' => h3 (e.1 h').2]
        · rw [if_neg h, if_neg fun h' => h (e.1 h').1]
      · have : k = a.length := by omega
        subst this
        rw [he, List.drop_length, hl, List.drop_length]; rfl
  have := key n 0 (Nat.zero_le _) (by omega)
  simpa using this
theorem allX {α β : Type} (xs : List α) (L : Nat → Int → Option β) (p : α → Bool) (r e : β)
    (hs : ∀ n (k : Nat) (hk : k < xs.length), L (n + 1) k = if p xs[k] then L n ((k + 1 : Nat) : Int) else some r) (he : ∀ n, L (n + 1) (xs.length : Nat) = some e) {n : Nat} (hn : xs.length < n) :
    L n 0 = some (if xs.all p then e else r) := by
  have := loopX0 xs (fun n (_ : Unit) i => L n i) (fun _ a => if p a then some (.inl ()) else some (.inr r)) (fun _ => some e) (fun n s k hk => by rw [hs n k hk]; cases p xs[k] <;> simp) (fun n s => he n) hn ()
  rw [this, runX_all (p := p) (r := r) fun a _ => by cases p a <;> simp]
  cases xs.all p <;> simp
theorem forS {σ β : Type} (N : Nat) (L : Nat → σ → Int → Option β) (S : Nat → σ) {r : Option β}
    (hs : ∀ n (k : Nat), k < N → L (n + 1) (S k) k = L n (S (k + 1)) ((k + 1 : Nat) : Int)) (he : ∀ n, L (n + 1) (S N) (N : Nat) = r) {n : Nat} (hn : N < n) : L n (S 0) 0 = r := by
  have key : ∀ (n k : Nat), k ≤ N → N - k < n → L n (S k) k = r := by
    intro n
    induction n with
    | zero => intro k _ h; omega
    | succ n ih =>
      intro k hk hn
      rcases Nat.lt_or_ge k N with hlt | hge
      · rw [hs n k hlt]; exact ih (k + 1) hlt (by omega)
      · have : k = N := by omega
        subst this; exact he n
  exact key n 0 (Nat.zero_le _) (by omega)
theorem forA {σ β : Type} (N : Nat) (L : Nat → σ → Int → Option β) (S : Nat → σ) (p : Nat → Bool) {r e : Option β}
    (hs : ∀ n (k : Nat), k < N → L (n + 1) (S k) k = if p k then L n (S (k + 1)) ((k + 1 : Nat) : Int) else r) (he : ∀ n, L (n + 1) (S N) (N : Nat) = e) {n : Nat} (hn : N < n) :
    L n (S 0) 0 = if (List.range N).all p then e else r := by
  have key : ∀ (n k : Nat), k ≤ N → N - k < n → L n (S k) k = if (List.range' k (N - k)).all p then e else r := by
    intro n
    induction n with
    | zero => intro k _ h; omega
    | succ n ih =>
      intro k hk hn
      rcases Nat.lt_or_ge k N with hlt | hge
      · rw [hs n k hlt, show N - k = (N - (k + 1)) + 1 by omega, List.range'_succ, List.all_cons]
        cases hp : p k with
        | false => simp
        | true => simp only [if_true, Bool.true_and]; exact ih (k + 1) hlt (by omega)
      · have : k = N := by omega
        subst this; rw [he]; simp
  have := key n 0 (Nat.zero_le _) (by omega)
  rw [List.range_eq_range']
  simpa using this
end Go.Va
set_option linter.unusedVariables false
open Go Go.Va
namespace T
def fuel : Nat := 1099511627776
def spec_l21Prime (p : Int) : Option (Bool) :=
 if p == 2 then
  some true
 else
  if p == 3 then
   some true
  else
   if p == 5 then
    some true
   else
    some (p == 7)
def spec_l1In (x : Int) (a : Int) (b : Int) : Option (Bool) :=
 if decide (x ≥ a) then
  some (decide (x ≤ b))
 else
  some false
def spec_l2Elements_L2 : Nat → (Int × (List Int) × Int) → Option ((Unit) ⊕ (Bool))
 | 0, _ => none
 | n + 1, (n_, list, i) =>
  if decide (i < (list.length : Int)) then
   if inb i list then
    (spec_l1In (gd list i 0) 0 (w64 (n_ - 1))).bind fun r1 =>
     if !r1 then
      some (.inr false)
     else
      spec_l2Elements_L2 n (n_, list, w64 (i + 1))
   else none
  else
   some (.inl ())
def spec_l2Elements (n_ : Int) (list : List Int) : Option (Bool) :=
 (spec_l2Elements_L2 fuel (n_, list, 0)).bind fun s1 =>
  match s1 with
  | .inl s2 =>
   some true
  | .inr s3 =>
   some s3
def spec_l8Tuple (n_ : Int) (k : Int) (t : List Int) : Option (Bool) :=
 if (t.length : Int) == k then
  (spec_l2Elements n_ t).bind fun r1 =>
   some r1
 else
  some false
def spec_l21Rows_L2 : Nat → (Int × Int × (List (List Int)) × Int) → Option ((Unit) ⊕ (Bool))
 | 0, _ => none
 | n + 1, (p, vars, rows, i) =>
  if decide (i < (rows.length : Int)) then
   if inb i rows then
    (spec_l8Tuple p (w64 (vars + 1)) (gd rows i [])).bind fun r1 =>
     if !r1 then
      some (.inr false)
     else
      spec_l21Rows_L2 n (p, vars, rows, w64 (i + 1))
   else none
  else
   some (.inl ())
def spec_l21Rows (p : Int) (vars : Int) (rows : List (List Int)) : Option (Bool) :=
 (spec_l21Rows_L2 fuel (p, vars, rows, 0)).bind fun s1 =>
  match s1 with
  | .inl s2 =>
   some true
  | .inr s3 =>
   some s3
def spec_l21Good (l : Int × Int × (List (List Int))) : Option (Bool) :=
 (spec_l21Prime l.1).bind fun r1 =>
  if r1 then
   (spec_l1In l.2.1 0 8).bind fun r2 =>
    if r2 then
     if decide ((l.2.2.length : Int) ≤ 8) then
      (spec_l21Rows l.1 l.2.1 l.2.2).bind fun r3 =>
       some r3
     else
      some false
    else
     some false
  else
   some false
def spec_IsLinear (l : Int × Int × (List (List Int))) : Option (Bool) :=
 (spec_l21Good (l.1, (l.2.1, l.2.2))).bind fun r1 =>
  some r1
def impl_isPrime (p : Int) : Option (Bool) :=
 if p == 2 then
  some true
 else
  if p == 3 then
   some true
  else
   if p == 5 then
    some true
   else
    some (p == 7)
def impl_inSize_L2 : Nat → (Int × (List Int) × Int × Int) → Option ((Unit) ⊕ (Bool))
 | 0, _ => none
 | n + 1, (n_, t7, t8, t9) =>
  if decide (t9 < t8) then
   if inb t9 t7 then
    if decide ((gd t7 t9 0) < 0) then
     some (.inr false)
    else
     if decide ((gd t7 t9 0) ≥ n_) then
      some (.inr false)
     else
      impl_inSize_L2 n (n_, t7, t8, w64 (t9 + 1))
   else none
  else
   some (.inl ())
def impl_inSize (list : List Int) (n_ : Int) : Option (Bool) :=
 (impl_inSize_L2 fuel (n_, list, (list.length : Int), 0)).bind fun s1 =>
  match s1 with
  | .inl s2 =>
   some true
  | .inr s3 =>
   some s3
def impl_IsLinear_L4 : Nat → ((Int × Int × (List (List Int))) × (List (List Int)) × Int × Int) → Option ((Unit) ⊕ (Bool))
 | 0, _ => none
 | n + 1, (l, t26, t27, t28) =>
  if decide (t28 < t27) then
   if inb t28 t26 then
    if ((gd t26 t28 []).length : Int) != (w64 (l.2.1 + 1)) then
     some (.inr false)
    else
     (impl_inSize (gd t26 t28 []) l.1).bind fun r2 =>
      if !r2 then
       some (.inr false)
      else
       impl_IsLinear_L4 n ((l.1, (l.2.1, l.2.2)), t26, t27, w64 (t28 + 1))
   else none
  else
   some (.inl ())
def impl_IsLinear (l : Int × Int × (List (List Int))) : Option (Bool) :=
 (impl_isPrime l.1).bind fun r1 =>
  if !r1 then
   some false
  else
   if decide (l.2.1 < 0) then
    some false
   else
    if decide (l.2.1 > 8) then
     some false
    else
     if decide ((l.2.2.length : Int) > 8) then
      some false
     else
      (impl_IsLinear_L4 fuel ((l.1, (l.2.1, l.2.2)), l.2.2, (l.2.2.length : Int), 0)).bind fun s2 =>
       match s2 with
       | .inl s3 =>
        some true
       | .inr s4 =>
        some s4
def spec_IsLinearRefutation_L10 : Nat → ((List Int) × (Int × Int × (List (List Int))) × Int × Int × Int) → Option ((List Int) × (Int × Int × (List (List Int))) × Int × Int)
 | 0, _ => none
 | n + 1, (t1, t2, t6, t7, t8) =>
  if decide (t8 < (t2.2.2.length : Int)) then
   if inb t8 t1 then
    if inb t8 t2.2.2 then
     if inb t6 (gd t2.2.2 t8 []) then
      if t2.1 ≠ 0 then
       spec_IsLinearRefutation_L10 n (t1, (t2.1, (t2.2.1, t2.2.2)), t6, Int.tmod (w64 (t7 + (w64 ((gd t1 t8 0) * (gd (gd t2.2.2 t8 []) t6 0))))) t2.1, w64 (t8 + 1))
      else none
     else none
    else none
   else none
  else
   some (t1, (t2.1, (t2.2.1, t2.2.2)), t6, t7)
def spec_IsLinearRefutation_L6 : Nat → ((List Int) × (Int × Int × (List (List Int))) × Int) → Option ((Unit) ⊕ (Bool × Bool))
 | 0, _ => none
 | n + 1, (t1, t2, t6) =>
  if decide (t6 ≤ t2.2.1) then
   (spec_IsLinearRefutation_L10 fuel (t1, (t2.1, (t2.2.1, t2.2.2)), t6, 0, 0)).bind fun s3 =>
    if decide (s3.2.2.1 < s3.2.1.2.1) then
     if s3.2.2.2 != 0 then
      some (.inr (false, true))
     else
      if s3.2.2.1 == s3.2.1.2.1 then
       if s3.2.2.2 != 1 then
        some (.inr (false, true))
       else
        spec_IsLinearRefutation_L6 n (s3.1, (s3.2.1.1, (s3.2.1.2.1, s3.2.1.2.2)), w64 (s3.2.2.1 + 1))
      else
       spec_IsLinearRefutation_L6 n (s3.1, (s3.2.1.1, (s3.2.1.2.1, s3.2.1.2.2)), w64 (s3.2.2.1 + 1))
    else
     if s3.2.2.1 == s3.2.1.2.1 then
      if s3.2.2.2 != 1 then
       some (.inr (false, true))
      else
       spec_IsLinearRefutation_L6 n (s3.1, (s3.2.1.1, (s3.2.1.2.1, s3.2.1.2.2)), w64 (s3.2.2.1 + 1))
     else
      spec_IsLinearRefutation_L6 n (s3.1, (s3.2.1.1, (s3.2.1.2.1, s3.2.1.2.2)), w64 (s3.2.2.1 + 1))
  else
   some (.inl ())
def spec_IsLinearRefutation (t0 : Int × Int × (List (List Int))) (t1 : List Int) : Option (Bool × Bool) :=
 (spec_l21Good (t0.1, (t0.2.1, t0.2.2))).bind fun r1 =>
  if !r1 then
   some (false, false)
  else
   (spec_l8Tuple t0.1 (t0.2.2.length : Int) t1).bind fun r2 =>
    if !r2 then
     some (false, true)
    else
     (spec_IsLinearRefutation_L6 fuel (t1, (t0.1, (t0.2.1, t0.2.2)), 0)).bind fun s3 =>
      match s3 with
      | .inl s4 =>
       some (true, true)
      | .inr s5 =>
       some (s5.1, s5.2)
def impl_IsLinearRefutation_L10 : Nat → ((List Int) × (Int × Int × (List (List Int))) × Int × Int × (List (List Int)) × Int × Int) → Option ((List Int) × (Int × Int × (List (List Int))) × Int × Int)
 | 0, _ => none
 | n + 1, (y, l, v, sum, t34, t35, t36) =>
  if decide (t36 < t35) then
   if inb t36 t34 then
    if inb t36 y then
     if inb v (gd t34 t36 []) then
      impl_IsLinearRefutation_L10 n (y, (l.1, (l.2.1, l.2.2)), v, w64 (sum + (w64 ((gd y t36 0) * (gd (gd t34 t36 []) v 0)))), t34, t35, w64 (t36 + 1))
     else none
    else none
   else none
  else
   some (y, (l.1, (l.2.1, l.2.2)), v, sum)
def impl_IsLinearRefutation_L6 : Nat → ((List Int) × (Int × Int × (List (List Int))) × Int) → Option ((Unit) ⊕ (Bool × Bool))
 | 0, _ => none
 | n + 1, (y, l, v) =>
  if decide (v ≤ l.2.1) then
   (impl_IsLinearRefutation_L10 fuel (y, (l.1, (l.2.1, l.2.2)), v, 0, l.2.2, (l.2.2.length : Int), 0)).bind fun s3 =>
    if s3.2.2.1 == s3.2.1.2.1 then
     if s3.2.1.1 ≠ 0 then
      if (Int.tmod s3.2.2.2 s3.2.1.1) != 1 then
       some (.inr (false, true))
      else
       impl_IsLinearRefutation_L6 n (s3.1, (s3.2.1.1, (s3.2.1.2.1, s3.2.1.2.2)), w64 (s3.2.2.1 + 1))
     else none
    else
     if s3.2.1.1 ≠ 0 then
      if (Int.tmod s3.2.2.2 s3.2.1.1) != 0 then
       some (.inr (false, true))
      else
       impl_IsLinearRefutation_L6 n (s3.1, (s3.2.1.1, (s3.2.1.2.1, s3.2.1.2.2)), w64 (s3.2.2.1 + 1))
     else none
  else
   some (.inl ())
def impl_IsLinearRefutation (l : Int × Int × (List (List Int))) (y : List Int) : Option (Bool × Bool) :=
 (impl_IsLinear (l.1, (l.2.1, l.2.2))).bind fun r1 =>
  if !r1 then
   some (false, false)
  else
   if (y.length : Int) != (l.2.2.length : Int) then
    some (false, true)
   else
    (impl_inSize y l.1).bind fun r2 =>
     if !r2 then
      some (false, true)
     else
      (impl_IsLinearRefutation_L6 fuel (y, (l.1, (l.2.1, l.2.2)), 0)).bind fun s3 =>
       match s3 with
       | .inl s4 =>
        some (true, true)
       | .inr s5 =>
        some (s5.1, s5.2)
def spec_l21Less_L3 : Nat → (Int × (List Int) × (List Int) × Int × (List Int) × Int) → Option ((List Int))
 | 0, _ => none
 | n + 1, (p, row, other, by_, out, i) =>
  if decide (i < (row.length : Int)) then
   if inb i row then
    if inb i other then
     if p ≠ 0 then
      if out.length + [Int.tmod (w64 ((gd row i 0) + (w64 ((w64 (p - by_)) * (gd other i 0))))) p].length ≤ lim then
       spec_l21Less_L3 n (p, row, other, by_, out ++ [Int.tmod (w64 ((gd row i 0) + (w64 ((w64 (p - by_)) * (gd other i 0))))) p], w64 (i + 1))
      else none
     else none
    else none
   else none
  else
   some out
def spec_l21Less (p : Int) (row : List Int) (other : List Int) (by_ : Int) : Option ((List Int)) :=
 (spec_l21Less_L3 fuel (p, row, other, by_, [], 0)).bind fun s1 =>
  some s1
end T
open Go Go.Va
namespace T
abbrev Lin := Int × Int × List (List Int)
def linS (a : Lin) : Prop := a.2.2.length ≤ 1048576 ∧ ∀ r ∈ a.2.2, r.length ≤ 1048576
def primeB (p : Int) : Bool := p == 2 || p == 3 || p == 5 || p == 7
theorem impl_isPrime_ok (p : Int) : impl_isPrime p = some (primeB p) := by
 unfold impl_isPrime primeB
 by_cases h2 : p = 2
 ·simp [h2]
 ·by_cases h3 : p = 3
  ·simp [h3]
  ·by_cases h5 : p = 5 <;> simp [h2, h3, h5]
theorem spec_l21Prime_ok (p : Int) : spec_l21Prime p = some (primeB p) := by
 unfold spec_l21Prime primeB
 by_cases h2 : p = 2
 ·simp [h2]
 ·by_cases h3 : p = 3
  ·simp [h3]
  ·by_cases h5 : p = 5 <;> simp [h2, h3, h5]
theorem spec_l1In_ok (x a b : Int) : spec_l1In x a b = some (decide (a ≤ x ∧ x ≤ b)) := by
 unfold spec_l1In
 by_cases h : a ≤ x <;> simp [h]
def belowB (n : Int) (l : List Int) : Bool := l.all fun x => decide (0 ≤ x ∧ x < n)
theorem impl_inSize_ok {l : List Int} (n : Int) (hl : l.length ≤ 1099511627775) : impl_inSize l n = some (belowB n l) := by
 unfold impl_inSize
 rw [allX l (fun m i => impl_inSize_L2 m (n, l, (l.length : Int), i)) (fun x => decide (0 ≤ x ∧ x < n)) (.inr false) (.inl ()) ?_ ?_ (by unfold fuel; omega)]
 ·unfold belowB; cases l.all (fun x => decide (0 ≤ x ∧ x < n)) <;> simp
 ·intro m k hk
  simp only [impl_inSize_L2, inb_nat, gd_nat hk, w64_succ (show k < 4611686018427387904 by omega)]
  by_cases h1 : l[k] < 0
  ·simp [hk, h1, show ¬ 0 ≤ l[k] by omega]
  ·by_cases h2 : n ≤ l[k]
   ·simp [hk, h1, h2, show ¬ l[k] < n by omega]
   ·simp [hk, h1, h2, show 0 ≤ l[k] ∧ l[k] < n by omega]
 ·intro m
  simp [impl_inSize_L2]
theorem spec_l2Elements_ok {l : List Int} {n : Int} (hn : -9223372036854775808 < n) (hn' : n ≤ 9223372036854775807) (hl : l.length ≤ 1099511627775) : spec_l2Elements n l = some (belowB n l) := by
 unfold spec_l2Elements
 rw [allX l (fun m i => spec_l2Elements_L2 m (n, l, i)) (fun x => decide (0 ≤ x ∧ x < n)) (.inr false) (.inl ()) ?_ ?_ (by unfold fuel; omega)]
 ·unfold belowB; cases l.all (fun x => decide (0 ≤ x ∧ x < n)) <;> simp
 ·intro m k hk
  simp only [spec_l2Elements_L2, inb_nat, gd_nat hk, w64_succ (show k < 4611686018427387904 by omega), spec_l1In_ok, w64_id (show -9223372036854775808 ≤ n - 1 by omega) (show n - 1 ≤ 9223372036854775807 by omega)]
  by_cases h1 : 0 ≤ l[k] ∧ l[k] < n
  ·simp [hk, h1, show l[k] ≤ n - 1 by omega]
  ·have : ¬ (0 ≤ l[k] ∧ l[k] ≤ n - 1) := by omega
   simp [hk, h1, this]
 ·intro m
  simp [spec_l2Elements_L2]
theorem spec_l8Tuple_ok {l : List Int} {n : Int} (k : Int) (hn : -9223372036854775808 < n) (hn' : n ≤ 9223372036854775807) (hl : l.length ≤ 1099511627775) : spec_l8Tuple n k l = some (decide ((l.length : Int) = k) && belowB n l) := by
 unfold spec_l8Tuple
 rw [spec_l2Elements_ok hn hn' hl]
 by_cases h : (l.length : Int) = k <;> simp [h]
def goodB (a : Lin) : Bool := primeB a.1 && decide (0 ≤ a.2.1 ∧ a.2.1 ≤ 8) && decide (a.2.2.length ≤ 8) && a.2.2.all fun r => decide ((r.length : Int) = a.2.1 + 1) && belowB a.1 r
theorem primeB_bd {p : Int} (h : primeB p = true) : 2 ≤ p ∧ p ≤ 7 := by
 unfold primeB at h; simp at h; omega
theorem impl_IsLinear_ok {a : Lin} (h : linS a) : impl_IsLinear a = some (goodB a) := by
 obtain ⟨p, v, rows⟩ := a
 unfold impl_IsLinear goodB
 rw [impl_isPrime_ok]
 cases hp : primeB p with
 | false => simp [hp]
 | true =>
  by_cases h1 : v < 0
  ·simp [hp, h1, show ¬ 0 ≤ v by omega]
  ·by_cases h2 : v > 8
   ·simp [hp, h1, h2, show ¬ v ≤ 8 by omega]
   ·by_cases h3 : rows.length > 8
    ·simp [hp, h1, h2, show ¬ rows.length ≤ 8 by omega, show (rows.length : Int) > 8 by omega]
    ·have key := allX rows (fun m i => impl_IsLinear_L4 m ((p, (v, rows)), rows, (rows.length : Int), i)) (fun r => decide ((r.length : Int) = v + 1) && belowB p r) (.inr false) (.inl ()) ?_ ?_ (n := fuel) (by unfold fuel; omega)
     ·simp only [Option.bind_some, hp, Bool.not_true, Bool.false_eq_true, if_false]
      rw [if_neg (by simpa using h1), if_neg (by simpa using h2), if_neg (by simp; omega), key]
      cases rows.all (fun r => decide ((r.length : Int) = v + 1) && belowB p r) <;> simp <;> omega
     ·intro m k hk
      have hlen := h.2 rows[k] (List.getElem_mem hk)
      simp only [impl_IsLinear_L4, inb_nat, gd_nat hk, w64_succ (show k < 4611686018427387904 by omega), w64_id (show -9223372036854775808 ≤ v + 1 by omega) (show v + 1 ≤ 9223372036854775807 by omega), impl_inSize_ok p (show rows[k].length ≤ 1099511627775 by omega)]
      by_cases h4 : (rows[k].length : Int) = v + 1
      ·cases hb : belowB p rows[k] <;> simp [hk, h4, hb]
      ·simp [hk, h4]
     ·intro m
      simp [impl_IsLinear_L4]
theorem spec_l21Rows_ok {rows : List (List Int)} {p v : Int} (hp : 2 ≤ p ∧ p ≤ 7) (hv : 0 ≤ v ∧ v ≤ 8) (hl : rows.length ≤ 8) (hr : ∀ r ∈ rows, r.length ≤ 1099511627775) : spec_l21Rows p v rows = some (rows.all fun r => decide ((r.length : Int) = v + 1) && belowB p r) := by
 unfold spec_l21Rows
 rw [allX rows (fun m i => spec_l21Rows_L2 m (p, v, rows, i)) (fun r => decide ((r.length : Int) = v + 1) && belowB p r) (.inr false) (.inl ()) ?_ ?_ (by unfold fuel; omega)]
 ·cases rows.all (fun r => decide ((r.length : Int) = v + 1) && belowB p r) <;> simp
 ·intro m k hk
  simp only [spec_l21Rows_L2, inb_nat, gd_nat hk, w64_succ (show k < 4611686018427387904 by omega), w64_id (show -9223372036854775808 ≤ v + 1 by omega) (show v + 1 ≤ 9223372036854775807 by omega), spec_l8Tuple_ok _ (by omega : -9223372036854775808 < p) (by omega) (hr _ (List.getElem_mem hk))]
  cases hb : (decide ((rows[k].length : Int) = v + 1) && belowB p rows[k]) <;> simp [hk]
 ·intro m
  simp [spec_l21Rows_L2]
theorem spec_IsLinear_ok {a : Lin} (h : linS a) : spec_IsLinear a = some (goodB a) := by
 obtain ⟨p, v, rows⟩ := a
 unfold spec_IsLinear spec_l21Good goodB
 rw [spec_l21Prime_ok, spec_l1In_ok]
 cases hp : primeB p with
 | false => simp [hp]
 | true =>
  have hb := primeB_bd hp
  by_cases h1 : 0 ≤ v ∧ v ≤ 8
  ·by_cases h3 : rows.length ≤ 8
   ·rw [spec_l21Rows_ok hb h1 h3 fun r hr => by have := h.2 r hr; omega]
    simp [hp, h1, h3, show (rows.length : Int) ≤ 8 by omega]
   ·simp [hp, h1, h3, show ¬ (rows.length : Int) ≤ 8 by omega]
  ·simp [hp, h1]
end T
open Go Go.Va
namespace T
def dotK (y : List Int) (rows : List (List Int)) (v : Nat) : Nat → Int
 | 0 => 0
 | k + 1 => dotK y rows v k + y.getD k 0 * (rows.getD k []).getD v 0
theorem belowB_get {n : Int} {l : List Int} (h : belowB n l = true) (k : Nat) (hk : k < l.length) : 0 ≤ l[k] ∧ l[k] < n := by
 have := (List.all_eq_true.1 h) l[k] (List.getElem_mem hk)
 simpa using this
theorem mul_bd {x y : Int} (hx : 0 ≤ x ∧ x < 7) (hy : 0 ≤ y ∧ y < 7) : 0 ≤ x * y ∧ x * y ≤ 36 := by
 obtain ⟨a, b⟩ := hx; obtain ⟨c, d⟩ := hy
 exact ⟨Int.mul_nonneg a c, by have := Int.mul_le_mul (show x ≤ 6 by omega) (show y ≤ 6 by omega) c (by omega); omega⟩
structure LinOk (p v : Int) (rows : List (List Int)) : Prop where
 hp : 2 ≤ p ∧ p ≤ 7
 hv : 0 ≤ v ∧ v ≤ 8
 hn : rows.length ≤ 8
 len : ∀ (k : Nat) (hk : k < rows.length), (rows[k].length : Int) = v + 1
 el : ∀ (k : Nat) (hk : k < rows.length) (j : Nat) (hj : j < rows[k].length), 0 ≤ rows[k][j] ∧ rows[k][j] < p
theorem good_of {p v : Int} {rows : List (List Int)} (h : goodB (p, v, rows) = true) : LinOk p v rows := by
 unfold goodB at h
 simp only [Bool.and_eq_true, decide_eq_true_eq, List.all_eq_true] at h
 obtain ⟨⟨⟨h1, h2⟩, h3⟩, h4⟩ := h
 exact ⟨primeB_bd h1, h2, h3, fun k hk => (h4 _ (List.getElem_mem hk)).1, fun k hk j hj => belowB_get (h4 _ (List.getElem_mem hk)).2 j hj⟩
section
variable {p v : Int} {rows : List (List Int)} {y : List Int}
theorem dot_bd (hg : LinOk p v rows) (hy : belowB p y = true) (hl : y.length = rows.length) {c : Nat} (hc : (c : Int) ≤ v) : ∀ k, k ≤ rows.length → 0 ≤ dotK y rows c k ∧ dotK y rows c k ≤ 36 * k
 | 0, _ => by simp [dotK]
 | k + 1, hk => by
  have ih := dot_bd hg hy hl hc k (by omega)
  have hlen := hg.len k (by omega)
  have e1 := belowB_get hy k (by omega)
  have e2 := hg.el k (by omega) c (by omega)
  have hp := hg.hp
  have := mul_bd (x := y[k]'(by omega)) (y := (rows[k]'(by omega))[c]'(by omega)) (by omega) (by omega)
  simp only [dotK, List.getD_eq_getElem?_getD, List.getElem?_eq_getElem (show k < y.length by omega), List.getElem?_eq_getElem (show k < rows.length by omega), Option.getD_some, List.getElem?_eq_getElem (show c < (rows[k]'(by omega)).length by omega)]
  push_cast
  omega
theorem impl_dot (hg : LinOk p v rows) (hy : belowB p y = true) (hl : y.length = rows.length) {c : Nat} (hc : (c : Int) ≤ v) :
    impl_IsLinearRefutation_L10 fuel (y, (p, (v, rows)), (c : Int), 0, rows, (rows.length : Int), 0) = some (y, (p, (v, rows)), (c : Int), dotK y rows c rows.length) := by
  refine forS rows.length (fun n s i => impl_IsLinearRefutation_L10 n (y, (p, (v, rows)), (c : Int), s, rows, (rows.length : Int), i)) (dotK y rows c) (fun n k hk => ?_) (fun n => ?_) (by unfold fuel; have := hg.hn; omega)
  · have hlen := hg.len k hk
    have e1 := belowB_get hy k (by omega)
    have e2 := hg.el k hk c (by omega)
    have hp := hg.hp
    have hn := hg.hn
    have hm := mul_bd (x := y[k]'(by omega)) (y := rows[k][c]'(by omega)) (by omega) (by omega)
    have hd := dot_bd hg hy hl hc k (by omega)
    have hcl : c < rows[k].length := by omega
    simp only [impl_IsLinearRefutation_L10, inb_nat, gd_nat hk, gd_nat (show k < y.length by omega), gd_nat hcl, w64_succ (show k < 4611686018427387904 by omega), w64_id (show -9223372036854775808 ≤ y[k] * rows[k][c] by omega) (by omega), w64_id (show -9223372036854775808 ≤ dotK y rows c k + y[k] * rows[k][c] by omega) (by omega)]
    simp [hk, hl, hcl, dotK, show k < y.length by omega]
  · simp [impl_IsLinearRefutation_L10]
theorem spec_dot (hg : LinOk p v rows) (hy : belowB p y = true) (hl : y.length = rows.length) {c : Nat} (hc : (c : Int) ≤ v) :
    spec_IsLinearRefutation_L10 fuel (y, (p, (v, rows)), (c : Int), 0, 0) = some (y, (p, (v, rows)), (c : Int), dotK y rows c rows.length % p) := by
  have := forS rows.length (fun n s i => spec_IsLinearRefutation_L10 n (y, (p, (v, rows)), (c : Int), s, i)) (fun k => dotK y rows c k % p) (r := some (y, (p, (v, rows)), (c : Int), dotK y rows c rows.length % p)) (fun n k hk => ?_) (fun n => ?_) (n := fuel) (by unfold fuel; have := hg.hn; omega)
  · have h0 : dotK y rows c 0 % p = 0 := by simp [dotK]
    rw [h0] at this; exact this
  · have hlen := hg.len k hk
    have e1 := belowB_get hy k (by omega)
    have e2 := hg.el k hk c (by omega)
    have hp := hg.hp
    have hn := hg.hn
    have hm := mul_bd (x := y[k]'(by omega)) (y := rows[k][c]'(by omega)) (by omega) (by omega)
    have hd := dot_bd hg hy hl hc k (by omega)
    have hcl : c < rows[k].length := by omega
    have hmod : 0 ≤ dotK y rows c k % p ∧ dotK y rows c k % p < p := ⟨Int.emod_nonneg _ (by omega), Int.emod_lt_of_pos _ (by omega)⟩
    simp only [spec_IsLinearRefutation_L10, inb_nat, gd_nat hk, gd_nat (show k < y.length by omega), gd_nat hcl, w64_succ (show k < 4611686018427387904 by omega), w64_id (show -9223372036854775808 ≤ y[k] * rows[k][c] by omega) (by omega), w64_id (show -9223372036854775808 ≤ dotK y rows c k % p + y[k] * rows[k][c] by omega) (by omega)]
    rw [Int.tmod_eq_emod_of_nonneg (by omega)]
    simp [hk, hl, hcl, dotK, show k < y.length by omega, show p ≠ 0 by omega]
  · simp [spec_IsLinearRefutation_L10]
def refutes (p v : Int) (rows : List (List Int)) (y : List Int) : Bool := (List.range (v.toNat + 1)).all fun c => dotK y rows c rows.length % p == if (c : Int) = v then 1 else 0
theorem impl_ref (hg : LinOk p v rows) (hy : belowB p y = true) (hl : y.length = rows.length) :
    impl_IsLinearRefutation_L6 fuel (y, (p, (v, rows)), 0) = if refutes p v rows y then some (.inl ()) else some (.inr (false, true)) := by
  refine forA (v.toNat + 1) (fun n (_ : Unit) i => impl_IsLinearRefutation_L6 n (y, (p, (v, rows)), i)) (fun _ => ()) (fun c => dotK y rows c rows.length % p == if (c : Int) = v then 1 else 0) (fun n k hk => ?_) (fun n => ?_) (by unfold fuel; have := hg.hv; omega)
  · have hp := hg.hp
    have hv := hg.hv
    have hc : (k : Int) ≤ v := by omega
    have hd := dot_bd hg hy hl hc rows.length (Nat.le_refl _)
    simp only [impl_IsLinearRefutation_L6, impl_dot hg hy hl hc, w64_succ (show k < 4611686018427387904 by omega), Option.bind_some]
    rw [Int.tmod_eq_emod_of_nonneg hd.1]
    by_cases h : (k : Int) = v
    · by_cases h2 : dotK y rows k rows.length % p = 1 <;> simp [h, h2, show p ≠ 0 by omega]
    · by_cases h2 : dotK y rows k rows.length % p = 0 <;> simp [h, h2, show p ≠ 0 by omega, hc]
  · have hv := hg.hv
    simp only [impl_IsLinearRefutation_L6]
    rw [if_neg (by simp; omega)]
theorem spec_ref (hg : LinOk p v rows) (hy : belowB p y = true) (hl : y.length = rows.length) :
    spec_IsLinearRefutation_L6 fuel (y, (p, (v, rows)), 0) = if refutes p v rows y then some (.inl ()) else some (.inr (false, true)) := by
  refine forA (v.toNat + 1) (fun n (_ : Unit) i => spec_IsLinearRefutation_L6 n (y, (p, (v, rows)), i)) (fun _ => ()) (fun c => dotK y rows c rows.length % p == if (c : Int) = v then 1 else 0) (fun n k hk => ?_) (fun n => ?_) (by unfold fuel; have := hg.hv; omega)
  · have hp := hg.hp
    have hv := hg.hv
    have hc : (k : Int) ≤ v := by omega
    simp only [spec_IsLinearRefutation_L6, spec_dot hg hy hl hc, w64_succ (show k < 4611686018427387904 by omega), Option.bind_some]
    by_cases h : (k : Int) = v
    · by_cases h2 : dotK y rows k rows.length % p = 1 <;> simp [h, h2]
    · by_cases h2 : dotK y rows k rows.length % p = 0 <;> simp [h, h2, hc, show (k : Int) < v by omega]
  · have hv := hg.hv
    simp only [spec_IsLinearRefutation_L6]
    rw [if_neg (by simp; omega)]
end
def isRefut (a : Lin) (y : List Int) : Bool × Bool :=
 if goodB a then (if decide (y.length = a.2.2.length) && belowB a.1 y then (refutes a.1 a.2.1 a.2.2 y, true) else (false, true)) else (false, false)
theorem impl_IsLinearRefutation_ok {a : Lin} {y : List Int} (h : linS a) (hy : y.length ≤ 1048576) : impl_IsLinearRefutation a y = some (isRefut a y) := by
 obtain ⟨p, v, rows⟩ := a
 unfold impl_IsLinearRefutation isRefut
 rw [impl_IsLinear_ok (a := (p, v, rows)) h]
 cases hg : goodB (p, v, rows) with
 | false => simp
 | true =>
  simp only [Option.bind_some, Bool.not_true, Bool.false_eq_true, if_false, if_true]
  rw [impl_inSize_ok p (by omega)]
  by_cases hl : y.length = rows.length
  ·cases hb : belowB p y with
   | false => simp [hl]
   | true =>
    simp only [Option.bind_some]
    rw [impl_ref (good_of hg) hb hl]
    cases refutes p v rows y <;> simp [hl]
  ·rw [if_pos (by simp; omega)]; simp [hl]
theorem spec_IsLinearRefutation_ok {a : Lin} {y : List Int} (h : linS a) (hy : y.length ≤ 1048576) : spec_IsLinearRefutation a y = some (isRefut a y) := by
 obtain ⟨p, v, rows⟩ := a
 have hgood := spec_IsLinear_ok (a := (p, v, rows)) h
 unfold spec_IsLinear at hgood
 unfold spec_IsLinearRefutation isRefut
 have hq : spec_l21Good (p, v, rows) = some (goodB (p, v, rows)) := by
  cases hs : spec_l21Good (p, v, rows) with
  | none => rw [hs] at hgood; cases hgood
  | some b => rw [hs] at hgood; simpa using hgood
 rw [hq]
 cases hg : goodB (p, v, rows) with
 | false => simp
 | true =>
  have hG := good_of hg
  have hp := hG.hp
  simp only [Option.bind_some, Bool.not_true, Bool.false_eq_true, if_false, if_true]
  rw [spec_l8Tuple_ok _ (by omega) (by omega) (by omega)]
  by_cases hl : y.length = rows.length
  ·cases hb : belowB p y with
   | false => simp [hl]
   | true =>
    simp only [Option.bind_some, hl, decide_true, Bool.true_and, Bool.not_true, Bool.false_eq_true, if_false]
    rw [spec_ref hG hb hl]
    cases refutes p v rows y <;> simp
  ·have : ¬ (y.length : Int) = rows.length := by omega
   simp [hl, this]
end T
set_option linter.unusedVariables false
open Go Go.Va
namespace T
def spec_l1Own (l : List Int) : Option ((List Int)) :=
 if ([] : List Int).length + l.length ≤ lim then
  some ([] ++ l)
 else none
end T
open Go Go.Va
namespace T
abbrev Con := List Int × Int × List (List Int)
abbrev Net := Int × Int × List Con
theorem getD_of {α : Type} {l : List α} {k : Nat} {d : α} (h : k < l.length) : l.getD k d = l[k] := by simp [List.getD_eq_getElem?_getD, h]
end T
open Go Go.Va
namespace T
def g0 (l : List Int) (i : Nat) : Int := l.getD i 0
section
variable {v n up : Int} {c : Con} {vals : List Int}
theorem spec_l1Own_ok {l : List Int} (h : l.length ≤ 1099511627775) : spec_l1Own l = some l := by
 unfold spec_l1Own
 rw [if_pos (by unfold lim; simp; omega)]; simp
end
end T
open Go Go.Va
namespace T
theorem getD_set_of {α : Type} {l : List α} {i j : Nat} {y d : α} : (l.set i y).getD j d = if i = j ∧ j < l.length then y else l.getD j d := by
 simp only [List.getD_eq_getElem?_getD, List.getElem?_set]
 by_cases h : i = j
 ·subst h
  by_cases h2 : i < l.length
  ·simp [h2]
  ·simp [h2]
 ·simp [h]
end T
open Go Go.Va
namespace T
theorem w1 : w64 1 = 1 := by rw [w64_def]; rfl
theorem w2 : w64 2 = 2 := by rw [w64_def]; rfl
section
variable {a : Net}
end
end T
set_option linter.unusedVariables false
open Go Go.Va
namespace T
def impl_compose_L3 : Nat → ((List Int) × (List Int) × (List Int) × Int × Int) → Option ((List Int))
 | 0, _ => none
 | n + 1, (g, h, t11, t12, t13) =>
  if decide (t13 < t12) then
   if inb t13 t11 then
    if inb (gd t11 t13 0) g then
     if inb t13 h then
      impl_compose_L3 n (g, stt h t13 (gd g (gd t11 t13 0) 0), t11, t12, w64 (t13 + 1))
     else none
    else none
   else none
  else
   some h
def impl_compose (f : List Int) (g : List Int) : Option ((List Int)) :=
 if 0 ≤ (f.length : Int) ∧ (f.length : Int) ≤ (f.length : Int) ∧ (f.length : Int) ≤ lim then
  (impl_compose_L3 fuel (g, List.replicate (Int.toNat (f.length : Int)) (0 : Int), f, (f.length : Int), 0)).bind fun s1 =>
   some s1
 else none
end T
open Go Go.Va
namespace T
def valI (vs : List Int) (v : Int) : Int := vs.getD v.toNat 0
def conH (vs : List Int) (c : Con) : Bool := decide (c.1.map (valI vs) ∈ c.2.2)
def satB (l : List Con) (vs : List Int) : Bool := l.all (conH vs)
def insB (vars : List Int) (c : Con) : Bool := c.1.all fun v => decide (v ∈ vars)
def insL (a : Net) (vars : List Int) : List Con := a.2.2.filter (insB vars)
section
variable {a : Net}
end
end T
open Go Go.Va
namespace T
theorem gd_D {α : Type} {k : Nat} {xs : List α} {d : α} : gd xs (k : Int) d = xs.getD k d := rfl
abbrev T3 := List (List (List Bool))
abbrev T4 := List (List (List (List Bool)))
def Cell4 (s : Nat) (c : List (List Bool)) : Prop := c.length = s ∧ ∀ x, x < s → (c.getD x []).length = s
def Row4 (n s : Nat) (r : T3) : Prop := r.length = n ∧ ∀ j, j < n → Cell4 s (r.getD j [])
def Ok4 (n s : Nat) (t : T4) : Prop := t.length = n ∧ ∀ i, i < n → Row4 n s (t.getD i [])
def r4 (t : T4) (i j x y : Nat) : Bool := (((t.getD i []).getD j []).getD x []).getD y false
def s4 (t : T4) (i j x y : Nat) (b : Bool) : T4 := t.set i ((t.getD i []).set j (((t.getD i []).getD j []).set x ((((t.getD i []).getD j []).getD x []).set y b)))
def Ok3 (n m : Nat) (u : T3) : Prop := u.length = n ∧ ∀ i, i < n → (u.getD i []).length = n ∧ ∀ j, j < n → ((u.getD i []).getD j []).length = m
def r3 (u : T3) (i j p : Nat) : Bool := ((u.getD i []).getD j []).getD p false
def s3 (u : T3) (i j p : Nat) (b : Bool) : T3 := u.set i ((u.getD i []).set j (((u.getD i []).getD j []).set p b))
section
variable {n s m : Nat} {t : T4} {u : T3}
theorem Ok4.at (h : Ok4 n s t) {i j x : Nat} (hi : i < n) (hj : j < n) (hx : x < s) : i < t.length ∧ j < (t.getD i []).length ∧ x < ((t.getD i []).getD j []).length ∧ (((t.getD i []).getD j []).getD x []).length = s :=
 ⟨by rw [h.1]; exact hi, by rw [(h.2 i hi).1]; exact hj, by rw [((h.2 i hi).2 j hj).1]; exact hx, ((h.2 i hi).2 j hj).2 x hx⟩
theorem Ok3.at (h : Ok3 n m u) {i j : Nat} (hi : i < n) (hj : j < n) : i < u.length ∧ j < (u.getD i []).length ∧ ((u.getD i []).getD j []).length = m :=
 ⟨by rw [h.1]; exact hi, by rw [(h.2 i hi).1]; exact hj, (h.2 i hi).2 j hj⟩
theorem s4_ok (h : Ok4 n s t) {i j x y : Nat} {b : Bool} : Ok4 n s (s4 t i j x y b) := by
 unfold s4
 refine ⟨by rw [List.length_set]; exact h.1, fun i' hi' => ?_⟩
 rw [getD_set_of]
 split
 ·rename_i hc
  obtain ⟨rfl, _⟩ := hc
  have hr := h.2 i hi'
  refine ⟨by rw [List.length_set]; exact hr.1, fun j' hj' => ?_⟩
  rw [getD_set_of]
  split
  ·rename_i hc
   obtain ⟨rfl, _⟩ := hc
   have hcl := hr.2 j hj'
   refine ⟨by rw [List.length_set]; exact hcl.1, fun x' hx' => ?_⟩
   rw [getD_set_of]
   split
   ·rename_i hc
    obtain ⟨rfl, _⟩ := hc
    rw [List.length_set]; exact hcl.2 x hx'
   ·exact hcl.2 x' hx'
  ·exact hr.2 j' hj'
 ·exact h.2 i' hi'
theorem s3_ok (h : Ok3 n m u) {i j p : Nat} {b : Bool} : Ok3 n m (s3 u i j p b) := by
 unfold s3
 refine ⟨by rw [List.length_set]; exact h.1, fun i' hi' => ?_⟩
 rw [getD_set_of]
 split
 ·rename_i hc
  obtain ⟨rfl, _⟩ := hc
  have hr := h.2 i hi'
  refine ⟨by rw [List.length_set]; exact hr.1, fun j' hj' => ?_⟩
  rw [getD_set_of]
  split
  ·rename_i hc
   obtain ⟨rfl, _⟩ := hc
   rw [List.length_set]; exact hr.2 j hj'
  ·exact hr.2 j' hj'
 ·exact h.2 i' hi'
theorem r4_s4 (h : Ok4 n s t) {i j x y : Nat} {b : Bool} (hi : i < n) (hj : j < n) (hx : x < s) (hy : y < s) (i' j' x' y' : Nat) :
    r4 (s4 t i j x y b) i' j' x' y' = if i = i' ∧ j = j' ∧ x = x' ∧ y = y' then b else r4 t i' j' x' y' := by
  obtain ⟨h1, h2, h3, h4⟩ := h.at hi hj hx
  unfold r4 s4
  rw [getD_set_of]
  by_cases e1 : i = i'
  · subst e1
    rw [if_pos ⟨rfl, h1⟩, getD_set_of]
    by_cases e2 : j = j'
    · subst e2
      rw [if_pos ⟨rfl, h2⟩, getD_set_of]
      by_cases e3 : x = x'
      · subst e3
        rw [if_pos ⟨rfl, h3⟩, getD_set_of]
        by_cases e4 : y = y'
        · subst e4; rw [if_pos ⟨rfl, by omega⟩, if_pos ⟨rfl, rfl, rfl, rfl⟩]
        · rw [if_neg (by omega), if_neg (by omega)]
      · rw [if_neg (by omega), if_neg (by omega)]
    · rw [if_neg (by omega), if_neg (by omega)]
  · rw [if_neg (by omega), if_neg (by omega)]
theorem r3_s3 (h : Ok3 n m u) {i j p : Nat} {b : Bool} (hi : i < n) (hj : j < n) (hp : p < m) (i' j' p' : Nat) :
    r3 (s3 u i j p b) i' j' p' = if i = i' ∧ j = j' ∧ p = p' then b else r3 u i' j' p' := by
  obtain ⟨h1, h2, h3⟩ := h.at hi hj
  unfold r3 s3
  rw [getD_set_of]
  by_cases e1 : i = i'
  · subst e1
    rw [if_pos ⟨rfl, h1⟩, getD_set_of]
    by_cases e2 : j = j'
    · subst e2
      rw [if_pos ⟨rfl, h2⟩, getD_set_of]
      by_cases e3 : p = p'
      · subst e3; rw [if_pos ⟨rfl, by omega⟩, if_pos ⟨rfl, rfl, rfl⟩]
      · rw [if_neg (by omega), if_neg (by omega)]
    · rw [if_neg (by omega), if_neg (by omega)]
  · rw [if_neg (by omega), if_neg (by omega)]
end
structure Rel34 (n s : Nat) (t : T4) (u : T3) : Prop where
 o4 : Ok4 n s t
 o3 : Ok3 n (s * s) u
 eq : ∀ i j x y, i < j → j < n → x < s → y < s → r4 t i j x y = r3 u i j (x * s + y) ∧ r4 t j i y x = r3 u i j (x * s + y)
theorem cell_lt {s x y : Nat} (hx : x < s) (hy : y < s) : x * s + y < s * s := by
 have : (x + 1) * s ≤ s * s := Nat.mul_le_mul_right _ hx
 rw [Nat.succ_mul] at this; omega
theorem cell_inj {s x y x' y' : Nat} (hy : y < s) (hy' : y' < s) (h : x * s + y = x' * s + y') : x = x' ∧ y = y' := by
 have h1 : (x * s + y) / s = x := by rw [Nat.mul_comm, Nat.mul_add_div (by omega), Nat.div_eq_of_lt hy]; omega
 have h2 : (x' * s + y') / s = x' := by rw [Nat.mul_comm, Nat.mul_add_div (by omega), Nat.div_eq_of_lt hy']; omega
 have : x = x' := by rw [← h1, ← h2, h]
 subst this
 exact ⟨rfl, by omega⟩
theorem Rel34.drop {n s : Nat} {t : T4} {u : T3} (h : Rel34 n s t u) {i j x y : Nat} (hij : i < j) (hj : j < n) (hx : x < s) (hy : y < s) :
    Rel34 n s (s4 (s4 t i j x y false) j i y x false) (s3 u i j (x * s + y) false) := by
  refine ⟨s4_ok (s4_ok h.o4), s3_ok h.o3, fun i' j' x' y' h1 h2 h3 h4 => ?_⟩
  have hi : i < n := by omega
  rw [r4_s4 (s4_ok h.o4) hj hi hy hx, r4_s4 h.o4 hi hj hx hy, r4_s4 (s4_ok h.o4) hj hi hy hx, r4_s4 h.o4 hi hj hx hy, r3_s3 h.o3 hi hj (cell_lt hx hy)]
  obtain ⟨e1, e2⟩ := h.eq i' j' x' y' h1 h2 h3 h4
  by_cases e : i = i' ∧ j = j' ∧ x = x' ∧ y = y'
  · obtain ⟨rfl, rfl, rfl, rfl⟩ := e
    simp
  · have e3 : ¬ (i = i' ∧ j = j' ∧ x * s + y = x' * s + y') := fun ⟨q1, q2, q3⟩ => by
      have := cell_inj hy h4 q3
      exact e ⟨q1, q2, this.1, this.2⟩
    have e4 : ¬ (j = i' ∧ i = j' ∧ y = x' ∧ x = y') := by omega
    have e5 : ¬ (i = j' ∧ j = i' ∧ x = y' ∧ y = x') := by omega
    have e6 : ¬ (j = j' ∧ i = i' ∧ y = y' ∧ x = x') := by omega
    simp only [if_neg e, if_neg e3, if_neg e4, if_neg e5, if_neg e6]
    exact ⟨e1, e2⟩
end T
open Go Go.Va
namespace T
def V3 (n i j k x y z : Nat) : List Int := (((List.replicate n (0 : Int)).set i (x : Int)).set j (y : Int)).set k (z : Int)
section
variable {a : Net} {n s : Nat} {t : T4} {u : T3}
def hP (a : Net) (n : Nat) (t : T4) (i j k x y z : Nat) : Bool := r4 t i k x z && r4 t j k y z && satB (insL a [(i : Int), (j : Int), (k : Int)]) (V3 n i j k x y z)
end
end T
open Go Go.Va
namespace T
section
variable {a : Net} {n s : Nat} {t : T4} {u : T3}
def PA (n s i : Nat) (t : T4) : Prop := t.length = n ∧ ∀ i', i' < i → Row4 n s (t.getD i' [])
def PB (n s i j : Nat) (t : T4) : Prop := PA n s i t ∧ (t.getD i []).length = n ∧ ∀ j', j' < j → Cell4 s ((t.getD i []).getD j' [])
theorem PA.set {i : Nat} (h : PA n s i t) (r : T3) : PA n s i (t.set i r) := by
 refine ⟨by rw [List.length_set]; exact h.1, fun i' hi' => ?_⟩
 rw [getD_set_of, if_neg (by omega)]; exact h.2 i' hi'
theorem PB.set {i j : Nat} (h : PB n s i j t) (hi : i < n) (c : List (List Bool)) : PB n s i j (t.set i ((t.getD i []).set j c)) := by
 have hl := h.1.1
 refine ⟨h.1.set _, ?_, fun j' hj' => ?_⟩
 ·rw [getD_set_of, if_pos ⟨rfl, by omega⟩, List.length_set]; exact h.2.1
 ·rw [getD_set_of, if_pos ⟨rfl, by omega⟩, getD_set_of, if_neg (by omega)]; exact h.2.2 j' hj'
end
end T
set_option linter.unusedVariables false
open Go Go.Va
namespace T
def impl_keyOf_L3 : Nat → ((List Int) × (List Int) × Int × Int) → Option ((List Int))
 | 0, _ => none
 | n + 1, (b, t10, t11, t12) =>
  if decide (t12 < t11) then
   if inb t12 t10 then
    if (0 : Int) ≤ 8 then
     if b.length + [IntKind.wrap .u8 (shrI .i64 (gd t10 t12 0) 8), IntKind.wrap .u8 (gd t10 t12 0)].length ≤ lim then
      impl_keyOf_L3 n (b ++ [IntKind.wrap .u8 (shrI .i64 (gd t10 t12 0) 8), IntKind.wrap .u8 (gd t10 t12 0)], t10, t11, w64 (t12 + 1))
     else none
    else none
   else none
  else
   some b
def impl_keyOf (list : List Int) : Option (ByteArray) :=
 if (0 : Int) ≤ 0 ∧ (0 : Int) ≤ (w64 (2 * (list.length : Int))) ∧ (w64 (2 * (list.length : Int))) ≤ lim then
  (impl_keyOf_L3 fuel (List.replicate (Int.toNat 0) (0 : Int), list, (list.length : Int), 0)).bind fun s1 =>
   some (bytesOf s1)
 else none
end T
set_option linter.unusedVariables false
open Go Go.Va
namespace T
def spec_l1Most (a : Int) (b : Int) : Option (Int) :=
 if decide (a > b) then
  some a
 else
  some b
def impl_freeTable_L3 : Nat → ((List Int) × Int × Int) → Option ((List Int))
 | 0, _ => none
 | n + 1, (list, t8, t9) =>
  if decide (t9 < t8) then
   if inb t9 list then
    impl_freeTable_L3 n (stt list t9 (-1), t8, w64 (t9 + 1))
   else none
  else
   some list
def impl_freeTable (many : Int) : Option ((List Int)) :=
 if 0 ≤ many ∧ many ≤ many ∧ many ≤ lim then
  (impl_freeTable_L3 fuel (List.replicate (Int.toNat many) (0 : Int), ((List.replicate (Int.toNat many) (0 : Int)).length : Int), 0)).bind fun s1 =>
   some s1
 else none
def impl_clone (list : List Int) : Option ((List Int)) :=
 if ([] : List Int).length + list.length ≤ lim then
  some ([] ++ list)
 else none
end T
open Go Go.Va
namespace T
abbrev RelT := Int × List (List Int)
section
variable {n k m : Nat} {r : RelT}
end
end T
open Go Go.Va
namespace T
section
variable {n k m : Nat} {r : RelT}
theorem range_fold {α : Type} {f : α → Nat → α} {a : α} {i : Nat} : (List.range (i + 1)).foldl f a = f ((List.range i).foldl f a) i := by rw [List.range_succ, List.foldl_append]; rfl
end
end T
open Go Go.Va
namespace T
theorem freeI_ok {N : Nat} (h : N ≤ 1000) : impl_freeTable (N : Int) = some (List.replicate N (-1)) := by
 unfold impl_freeTable
 rw [Int.toNat_natCast, if_pos (by unfold lim; omega)]
 have := forS N (fun f o i => impl_freeTable_L3 f (o, ((List.replicate N (0 : Int)).length : Int), i)) (fun j => List.replicate j (-1) ++ List.replicate (N - j) (0 : Int)) (r := some (List.replicate N (-1))) (fun f j hj => ?_) (fun f => ?_) (n := fuel) (by unfold fuel; omega)
 ·have this : impl_freeTable_L3 fuel (List.replicate N (0 : Int), ((List.replicate N (0 : Int)).length : Int), 0) = _ := this
  rw [this]; rfl
 ·have hin : j < (List.replicate j (-1) ++ List.replicate (N - j) (0 : Int)).length := by simp; omega
  have e : (List.replicate j (-1) ++ List.replicate (N - j) (0 : Int)).set j (-1) = List.replicate (j + 1) (-1) ++ List.replicate (N - (j + 1)) (0 : Int) := by
   rw [show N - j = (N - (j + 1)) + 1 by omega, List.replicate_succ, List.set_append_right _ _ (by simp), List.replicate_succ']
   simp
  simp only [impl_freeTable_L3, inb_nat, hin, stt_nat, e, if_true, w64_succ (show j < 4611686018427387904 by omega)]
  rw [if_pos (by simp; omega)]
 ·simp only [impl_freeTable_L3]
  rw [if_neg (by simp)]; simp
end T
open Go Go.Va
namespace T
section
variable {n : Int} {rels : List RelT}
end
def posL (V : List Int) (x : Nat) : Int := match V.findIdx? (fun y => y == (x : Int)) with | some i => (i : Int) | none => -1
section
variable {n : Nat} {t : List Int}
end
section
variable {n m : Nat} {t : List Int} {r : RelT} {rels : List RelT}
end
end T
set_option linter.unusedVariables false
open Go Go.Va
namespace T
def spec_l21Inverse_L2 : Nat → (Int × Int × Int) → Option (Int)
 | 0, _ => none
 | n + 1, (p, x, y) =>
  if p ≠ 0 then
   if (Int.tmod (w64 (x * y)) p) != 1 then
    spec_l21Inverse_L2 n (p, x, w64 (y + 1))
   else
    some y
  else none
def spec_l21Inverse (p : Int) (x : Int) : Option (Int) :=
 (spec_l21Inverse_L2 fuel (p, x, 1)).bind fun s1 =>
  some s1
def spec_l21Scale_L3 : Nat → (Int × (List Int) × Int × (List Int) × Int) → Option ((List Int))
 | 0, _ => none
 | n + 1, (p, row, by_, out, i) =>
  if decide (i < (row.length : Int)) then
   if inb i row then
    if p ≠ 0 then
     if out.length + [Int.tmod (w64 ((gd row i 0) * by_)) p].length ≤ lim then
      spec_l21Scale_L3 n (p, row, by_, out ++ [Int.tmod (w64 ((gd row i 0) * by_)) p], w64 (i + 1))
     else none
    else none
   else none
  else
   some out
def spec_l21Scale (p : Int) (row : List Int) (by_ : Int) : Option ((List Int)) :=
 (spec_l21Scale_L3 fuel (p, row, by_, [], 0)).bind fun s1 =>
  some s1
def spec_l21Eliminate_L3 : Nat → (Int × Int × (List (List Int)) × ((List (List Int)) × ((List Int) × (List (List Int)))) × ((List (List Int)) × ((List Int) × (List (List Int)))) × Int) → Option (Int × Int × ((List (List Int)) × ((List Int) × (List (List Int)))) × ((List (List Int)) × ((List Int) × (List (List Int)))))
 | 0, _ => none
 | n + 1, (t0, t1, t2, t6, t7, t8) =>
  if decide (t8 < (t2.length : Int)) then
   if inb t8 t2 then
    (spec_l1Own (gd t2 t8 [])).bind fun r1 =>
     if t7.2.2.length + [r1].length ≤ lim then
      spec_l21Eliminate_L3 n (t0, t1, t2, (t6.1, (t6.2.1, t6.2.2)), (t7.1, (t7.2.1, t7.2.2 ++ [r1])), w64 (t8 + 1))
     else none
   else none
  else
   some (t0, t1, (t6.1, (t6.2.1, t6.2.2)), (t7.1, (t7.2.1, t7.2.2)))
def spec_l21Eliminate_L10 : Nat → (Int × Int × ((List (List Int)) × ((List Int) × (List (List Int)))) × ((List (List Int)) × ((List Int) × (List (List Int)))) × Int × Int) → Option (Int × Int × ((List (List Int)) × ((List Int) × (List (List Int)))) × ((List (List Int)) × ((List Int) × (List (List Int)))) × Int × Int)
 | 0, _ => none
 | n + 1, (t0, t1, t6, t7, t9, t10) =>
  if decide (t10 < (t7.2.2.length : Int)) then
   if inb t10 t7.2.2 then
    if inb t9 (gd t7.2.2 t10 []) then
     if (gd (gd t7.2.2 t10 []) t9 0) == 0 then
      spec_l21Eliminate_L10 n (t0, t1, (t6.1, (t6.2.1, t6.2.2)), (t7.1, (t7.2.1, t7.2.2)), t9, w64 (t10 + 1))
     else
      some (t0, t1, (t6.1, (t6.2.1, t6.2.2)), (t7.1, (t7.2.1, t7.2.2)), t9, t10)
    else none
   else none
  else
   some (t0, t1, (t6.1, (t6.2.1, t6.2.2)), (t7.1, (t7.2.1, t7.2.2)), t9, t10)
def spec_l21Eliminate_L16 : Nat → (Int × Int × ((List (List Int)) × ((List Int) × (List (List Int)))) × ((List (List Int)) × ((List Int) × (List (List Int)))) × Int × (List Int) × (List (List Int)) × Int) → Option (Int × Int × ((List (List Int)) × ((List Int) × (List (List Int)))) × ((List (List Int)) × ((List Int) × (List (List Int)))) × Int × (List Int) × (List (List Int)))
 | 0, _ => none
 | n + 1, (t0, t1, t6, t7, t9, t11, t12, t13) =>
  if decide (t13 < (t12.length : Int)) then
   if inb t13 t12 then
    if inb t13 t12 then
     if inb t9 (gd t12 t13 []) then
      (spec_l21Less t0 (gd t12 t13 []) t11 (gd (gd t12 t13 []) t9 0)).bind fun r6 =>
       if inb t13 t12 then
        spec_l21Eliminate_L16 n (t0, t1, (t6.1, (t6.2.1, t6.2.2)), (t7.1, (t7.2.1, t7.2.2)), t9, t11, stt t12 t13 r6, w64 (t13 + 1))
       else none
     else none
    else none
   else none
  else
   some (t0, t1, (t6.1, (t6.2.1, t6.2.2)), (t7.1, (t7.2.1, t7.2.2)), t9, t11, t12)
def spec_l21Eliminate_L20 : Nat → (Int × Int × ((List (List Int)) × ((List Int) × (List (List Int)))) × ((List (List Int)) × ((List Int) × (List (List Int)))) × Int × (List Int) × (List (List Int)) × Int) → Option (Int × Int × ((List (List Int)) × ((List Int) × (List (List Int)))) × ((List (List Int)) × ((List Int) × (List (List Int)))) × Int × (List Int) × (List (List Int)))
 | 0, _ => none
 | n + 1, (t0, t1, t6, t7, t9, t11, t12, t14) =>
  if decide (t14 < (t7.1.length : Int)) then
   if inb t14 t7.1 then
    if inb t14 t7.1 then
     if inb t9 (gd t7.1 t14 []) then
      (spec_l21Less t0 (gd t7.1 t14 []) t11 (gd (gd t7.1 t14 []) t9 0)).bind fun r8 =>
       if inb t14 t7.1 then
        spec_l21Eliminate_L20 n (t0, t1, (t6.1, (t6.2.1, t6.2.2)), (stt t7.1 t14 r8, (t7.2.1, t7.2.2)), t9, t11, t12, w64 (t14 + 1))
       else none
     else none
    else none
   else none
  else
   some (t0, t1, (t6.1, (t6.2.1, t6.2.2)), (t7.1, (t7.2.1, t7.2.2)), t9, t11, t12)
def spec_l21Eliminate_L7 : Nat → (Int × Int × ((List (List Int)) × ((List Int) × (List (List Int)))) × ((List (List Int)) × ((List Int) × (List (List Int)))) × Int) → Option (((List (List Int)) × ((List Int) × (List (List Int)))) × ((List (List Int)) × ((List Int) × (List (List Int)))))
 | 0, _ => none
 | n + 1, (t0, t1, t6, t7, t9) =>
  if decide (t9 < t1) then
   (spec_l21Eliminate_L10 fuel (t0, t1, (t6.1, (t6.2.1, t6.2.2)), (t7.1, (t7.2.1, t7.2.2)), t9, 0)).bind fun s3 =>
    if s3.2.2.2.2.2 == (s3.2.2.2.1.2.2.length : Int) then
     spec_l21Eliminate_L7 n (s3.1, s3.2.1, (s3.2.2.1.1, (s3.2.2.1.2.1, s3.2.2.1.2.2)), (s3.2.2.2.1.1, (s3.2.2.2.1.2.1, s3.2.2.2.1.2.2)), w64 (s3.2.2.2.2.1 + 1))
    else
     if inb s3.2.2.2.2.2 s3.2.2.2.1.2.2 then
      if inb s3.2.2.2.2.2 s3.2.2.2.1.2.2 then
       if inb s3.2.2.2.2.1 (gd s3.2.2.2.1.2.2 s3.2.2.2.2.2 []) then
        (spec_l21Inverse s3.1 (gd (gd s3.2.2.2.1.2.2 s3.2.2.2.2.2 []) s3.2.2.2.2.1 0)).bind fun r4 =>
         (spec_l21Scale s3.1 (gd s3.2.2.2.1.2.2 s3.2.2.2.2.2 []) r4).bind fun r5 =>
          if (0 : Int) ≤ 0 ∧ 0 ≤ s3.2.2.2.2.2 ∧ s3.2.2.2.2.2 ≤ (s3.2.2.2.1.2.2.length : Int) then
           if ([] : List (List Int)).length + ((s3.2.2.2.1.2.2.take (Int.toNat s3.2.2.2.2.2)).drop (Int.toNat 0)).length ≤ lim then
            if (0 : Int) ≤ (w64 (s3.2.2.2.2.2 + 1)) ∧ (w64 (s3.2.2.2.2.2 + 1)) ≤ (s3.2.2.2.1.2.2.length : Int) ∧ (s3.2.2.2.1.2.2.length : Int) ≤ (s3.2.2.2.1.2.2.length : Int) then
             if ([] ++ ((s3.2.2.2.1.2.2.take (Int.toNat s3.2.2.2.2.2)).drop (Int.toNat 0))).length + ((s3.2.2.2.1.2.2.take (Int.toNat (s3.2.2.2.1.2.2.length : Int))).drop (Int.toNat (w64 (s3.2.2.2.2.2 + 1)))).length ≤ lim then
              (spec_l21Eliminate_L16 fuel (s3.1, s3.2.1, (s3.2.2.1.1, (s3.2.2.1.2.1, s3.2.2.1.2.2)), (s3.2.2.2.1.1, (s3.2.2.2.1.2.1, s3.2.2.2.1.2.2)), s3.2.2.2.2.1, r5, ([] ++ ((s3.2.2.2.1.2.2.take (Int.toNat s3.2.2.2.2.2)).drop (Int.toNat 0))) ++ ((s3.2.2.2.1.2.2.take (Int.toNat (s3.2.2.2.1.2.2.length : Int))).drop (Int.toNat (w64 (s3.2.2.2.2.2 + 1)))), 0)).bind fun s6 =>
               (spec_l21Eliminate_L20 fuel (s6.1, s6.2.1, (s6.2.2.1.1, (s6.2.2.1.2.1, s6.2.2.1.2.2)), (s6.2.2.2.1.1, (s6.2.2.2.1.2.1, s6.2.2.2.1.2.2)), s6.2.2.2.2.1, s6.2.2.2.2.2.1, s6.2.2.2.2.2.2, 0)).bind fun s7 =>
                if s7.2.2.2.1.1.length + [s7.2.2.2.2.2.1].length ≤ lim then
                 if s7.2.2.2.1.2.1.length + [s7.2.2.2.2.1].length ≤ lim then
                  spec_l21Eliminate_L7 n (s7.1, s7.2.1, (s7.2.2.1.1, (s7.2.2.1.2.1, s7.2.2.1.2.2)), (s7.2.2.2.1.1 ++ [s7.2.2.2.2.2.1], (s7.2.2.2.1.2.1 ++ [s7.2.2.2.2.1], s7.2.2.2.2.2.2)), w64 (s7.2.2.2.2.1 + 1))
                 else none
                else none
             else none
            else none
           else none
          else none
       else none
      else none
     else none
  else
   some ((t6.1, (t6.2.1, t6.2.2)), (t7.1, (t7.2.1, t7.2.2)))
def spec_l21Eliminate (t0 : Int) (t1 : Int) (t2 : List (List Int)) : Option (((List (List Int)) × ((List Int) × (List (List Int))))) :=
 (spec_l21Eliminate_L3 fuel (t0, t1, t2, ([], ([], [])), ([], ([], [])), 0)).bind fun s1 =>
  (spec_l21Eliminate_L7 fuel (s1.1, s1.2.1, (s1.2.2.1.1, (s1.2.2.1.2.1, s1.2.2.1.2.2)), (s1.2.2.2.1, (s1.2.2.2.2.1, s1.2.2.2.2.2)), 0)).bind fun s2 =>
   some (s2.2.1, (s2.2.2.1, s2.2.2.2))
def spec_l21Empty_L2 : Nat → (Int × ((List (List Int)) × (List Int) × (List (List Int))) × Int) → Option ((Unit) ⊕ (Bool))
 | 0, _ => none
 | n + 1, (vars, w, i) =>
  if decide (i < (w.2.2.length : Int)) then
   if inb i w.2.2 then
    if inb vars (gd w.2.2 i []) then
     if (gd (gd w.2.2 i []) vars 0) != 0 then
      some (.inr true)
     else
      spec_l21Empty_L2 n (vars, (w.1, (w.2.1, w.2.2)), w64 (i + 1))
    else none
   else none
  else
   some (.inl ())
def spec_l21Empty (w : (List (List Int)) × (List Int) × (List (List Int))) (vars : Int) : Option (Bool) :=
 (spec_l21Empty_L2 fuel (vars, (w.1, (w.2.1, w.2.2)), 0)).bind fun s1 =>
  match s1 with
  | .inl s2 =>
   some false
  | .inr s3 =>
   some s3
def impl_cloneRows_L3 : Nat → ((List (List Int)) × (List (List Int)) × Int × Int) → Option ((List (List Int)))
 | 0, _ => none
 | n + 1, (list, t7, t8, t9) =>
  if decide (t9 < t8) then
   if inb t9 t7 then
    (impl_clone (gd t7 t9 [])).bind fun r1 =>
     if list.length + [r1].length ≤ lim then
      impl_cloneRows_L3 n (list ++ [r1], t7, t8, w64 (t9 + 1))
     else none
   else none
  else
   some list
def impl_cloneRows (rows : List (List Int)) : Option ((List (List Int))) :=
 (impl_cloneRows_L3 fuel ([], rows, (rows.length : Int), 0)).bind fun s1 =>
  some s1
def impl_inverseOf_L2 : Nat → (Int × Int × Int) → Option ((Unit) ⊕ (Int))
 | 0, _ => none
 | n + 1, (x, p, y) =>
  if decide (y < p) then
   if p ≠ 0 then
    if (Int.tmod (w64 (x * y)) p) == 1 then
     some (.inr y)
    else
     impl_inverseOf_L2 n (x, p, w64 (y + 1))
   else none
  else
   some (.inl ())
def impl_inverseOf (x : Int) (p : Int) : Option (Int) :=
 (impl_inverseOf_L2 fuel (x, p, 1)).bind fun s1 =>
  match s1 with
  | .inl s2 =>
   some 0
  | .inr s3 =>
   some s3
def impl_eliminate_L6 : Nat → (Int × Int × (Int × (Int × ((List (List Int)) × (Int × (List Int))))) × Int × Int) → Option (Int × Int × (Int × (Int × ((List (List Int)) × (Int × (List Int))))) × Int × Int)
 | 0, _ => none
 | n + 1, (t0, t1, t7, t8, t9) =>
  if decide (t9 < (t7.2.2.1.length : Int)) then
   if inb t9 t7.2.2.1 then
    if inb t8 (gd t7.2.2.1 t9 []) then
     if (gd (gd t7.2.2.1 t9 []) t8 0) == 0 then
      impl_eliminate_L6 n (t0, t1, (t7.1, (t7.2.1, (t7.2.2.1, (t7.2.2.2.1, t7.2.2.2.2)))), t8, w64 (t9 + 1))
     else
      some (t0, t1, (t7.1, (t7.2.1, (t7.2.2.1, (t7.2.2.2.1, t7.2.2.2.2)))), t8, t9)
    else none
   else none
  else
   some (t0, t1, (t7.1, (t7.2.1, (t7.2.2.1, (t7.2.2.2.1, t7.2.2.2.2)))), t8, t9)
def impl_eliminate_L14 : Nat → (Int × Int × Int × (Int × (Int × ((List (List Int)) × (Int × (List Int))))) × Int × Int × Int × Int) → Option (Int × Int × Int × (Int × (Int × ((List (List Int)) × (Int × (List Int))))) × Int)
 | 0, _ => none
 | n + 1, (row10, t0, t1, t7, t8, t11, t110, t111) =>
  if decide (t111 < t110) then
   if inb t111 (gd t7.2.2.1 row10 []) then
    if t0 ≠ 0 then
     if inb t111 (gd t7.2.2.1 row10 []) then
      impl_eliminate_L14 n (row10, t0, t1, (t7.1, (t7.2.1, (stt t7.2.2.1 row10 (stt (gd t7.2.2.1 row10 []) t111 (Int.tmod (w64 ((gd (gd t7.2.2.1 row10 []) t111 0) * t11)) t0)), (t7.2.2.2.1, t7.2.2.2.2)))), t8, t11, t110, w64 (t111 + 1))
     else none
    else none
   else none
  else
   some (row10, t0, t1, (t7.1, (t7.2.1, (t7.2.2.1, (t7.2.2.2.1, t7.2.2.2.2)))), t8)
def impl_eliminate_L24 : Nat → (Int × Int × Unit × Int × Int × (Int × (Int × ((List (List Int)) × (Int × (List Int))))) × Int × Int × Int × Int × Int × Int) → Option (Int × Unit × Int × Int × (Int × (Int × ((List (List Int)) × (Int × (List Int))))) × Int × Int × Int)
 | 0, _ => none
 | n + 1, (row10, row14, al129, t0, t1, t7, t8, t15, t130, t131, t151, t152) =>
  if decide (t152 < t151) then
   if inb t152 (gd t7.2.2.1 row14 []) then
    if inb t152 (gd t7.2.2.1 row10 []) then
     if t0 ≠ 0 then
      if inb t152 (gd t7.2.2.1 row14 []) then
       impl_eliminate_L24 n (row10, row14, (), t0, t1, (t7.1, (t7.2.1, (stt t7.2.2.1 row14 (stt (gd t7.2.2.1 row14 []) t152 (Int.tmod (w64 ((gd (gd t7.2.2.1 row14 []) t152 0) + (w64 ((w64 (t0 - t15)) * (gd (gd t7.2.2.1 row10 []) t152 0))))) t0)), (t7.2.2.2.1, t7.2.2.2.2)))), t8, t15, t130, t131, t151, w64 (t152 + 1))
      else none
     else none
    else none
   else none
  else
   some (row10, (), t0, t1, (t7.1, (t7.2.1, (t7.2.2.1, (t7.2.2.2.1, t7.2.2.2.2)))), t8, t130, t131)
def impl_eliminate_L19 : Nat → (Int × Unit × Int × Int × (Int × (Int × ((List (List Int)) × (Int × (List Int))))) × Int × Int × Int) → Option (Int × Int × (Int × (Int × ((List (List Int)) × (Int × (List Int))))) × Int)
 | 0, _ => none
 | n + 1, (row10, al129, t0, t1, t7, t8, t130, t131) =>
  if decide (t131 < t130) then
   if inb t131 t7.2.2.1 then
    if inb t8 (gd t7.2.2.1 t131 []) then
     if t131 != t7.2.2.2.1 then
      if (gd (gd t7.2.2.1 t131 []) t8 0) != 0 then
       (impl_eliminate_L24 fuel (row10, t131, (), t0, t1, (t7.1, (t7.2.1, (t7.2.2.1, (t7.2.2.2.1, t7.2.2.2.2)))), t8, gd (gd t7.2.2.1 t131 []) t8 0, t130, t131, ((gd t7.2.2.1 t131 []).length : Int), 0)).bind fun s6 =>
        impl_eliminate_L19 n (s6.1, (), s6.2.2.1, s6.2.2.2.1, (s6.2.2.2.2.1.1, (s6.2.2.2.2.1.2.1, (s6.2.2.2.2.1.2.2.1, (s6.2.2.2.2.1.2.2.2.1, s6.2.2.2.2.1.2.2.2.2)))), s6.2.2.2.2.2.1, s6.2.2.2.2.2.2.1, w64 (s6.2.2.2.2.2.2.2 + 1))
      else
       impl_eliminate_L19 n (row10, (), t0, t1, (t7.1, (t7.2.1, (t7.2.2.1, (t7.2.2.2.1, t7.2.2.2.2)))), t8, t130, w64 (t131 + 1))
     else
      impl_eliminate_L19 n (row10, (), t0, t1, (t7.1, (t7.2.1, (t7.2.2.1, (t7.2.2.2.1, t7.2.2.2.2)))), t8, t130, w64 (t131 + 1))
    else none
   else none
  else
   some (t0, t1, (t7.1, (t7.2.1, (t7.2.2.1, (t7.2.2.2.1, t7.2.2.2.2)))), t8)
def impl_eliminate_L3 : Nat → (Int × Int × (Int × (Int × ((List (List Int)) × (Int × (List Int))))) × Int) → Option ((Int × (Int × ((List (List Int)) × (Int × (List Int))))))
 | 0, _ => none
 | n + 1, (t0, t1, t7, t8) =>
  if decide (t8 < t1) then
   (impl_eliminate_L6 fuel (t0, t1, (t7.1, (t7.2.1, (t7.2.2.1, (t7.2.2.2.1, t7.2.2.2.2)))), t8, t7.2.2.2.1)).bind fun s3 =>
    if s3.2.2.2.2 == (s3.2.2.1.2.2.1.length : Int) then
     impl_eliminate_L3 n (s3.1, s3.2.1, (s3.2.2.1.1, (s3.2.2.1.2.1, (s3.2.2.1.2.2.1, (s3.2.2.1.2.2.2.1, s3.2.2.1.2.2.2.2)))), w64 (s3.2.2.2.1 + 1))
    else
     if inb s3.2.2.2.2 s3.2.2.1.2.2.1 then
      if (0 : Int) ≤ (w64 (s3.2.2.1.2.2.2.1 + 1)) ∧ (w64 (s3.2.2.1.2.2.2.1 + 1)) ≤ (w64 (s3.2.2.2.2 + 1)) ∧ (w64 (s3.2.2.2.2 + 1)) ≤ (s3.2.2.1.2.2.1.length : Int) then
       if (0 : Int) ≤ s3.2.2.1.2.2.2.1 ∧ s3.2.2.1.2.2.2.1 ≤ s3.2.2.2.2 ∧ s3.2.2.2.2 ≤ (s3.2.2.1.2.2.1.length : Int) then
        if (w64 (s3.2.2.1.2.2.2.1 + 1)) = s3.2.2.1.2.2.2.1 + 1 ∧ (w64 (s3.2.2.2.2 + 1)) = s3.2.2.2.2 + 1 ∧ s3.2.2.2.2 = s3.2.2.2.2 then
         if inb s3.2.2.1.2.2.2.1 (upL s3.2.2.1.2.2.1 (Int.toNat s3.2.2.1.2.2.2.1) (Int.toNat s3.2.2.2.2) []) then
          if s3.2.2.1.2.2.2.1 = s3.2.2.1.2.2.2.1 then
           if inb s3.2.2.2.1 (gd (stt (upL s3.2.2.1.2.2.1 (Int.toNat s3.2.2.1.2.2.2.1) (Int.toNat s3.2.2.2.2) []) s3.2.2.1.2.2.2.1 (gd s3.2.2.1.2.2.1 s3.2.2.2.2 [])) s3.2.2.1.2.2.2.1 []) then
            (impl_inverseOf (gd (gd (stt (upL s3.2.2.1.2.2.1 (Int.toNat s3.2.2.1.2.2.2.1) (Int.toNat s3.2.2.2.2) []) s3.2.2.1.2.2.2.1 (gd s3.2.2.1.2.2.1 s3.2.2.2.2 [])) s3.2.2.1.2.2.2.1 []) s3.2.2.2.1 0) s3.1).bind fun r4 =>
             (impl_eliminate_L14 fuel (s3.2.2.1.2.2.2.1, s3.1, s3.2.1, (s3.2.2.1.1, (s3.2.2.1.2.1, (stt (upL s3.2.2.1.2.2.1 (Int.toNat s3.2.2.1.2.2.2.1) (Int.toNat s3.2.2.2.2) []) s3.2.2.1.2.2.2.1 (gd s3.2.2.1.2.2.1 s3.2.2.2.2 []), (s3.2.2.1.2.2.2.1, s3.2.2.1.2.2.2.2)))), s3.2.2.2.1, r4, ((gd (stt (upL s3.2.2.1.2.2.1 (Int.toNat s3.2.2.1.2.2.2.1) (Int.toNat s3.2.2.2.2) []) s3.2.2.1.2.2.2.1 (gd s3.2.2.1.2.2.1 s3.2.2.2.2 [])) s3.2.2.1.2.2.2.1 []).length : Int), 0)).bind fun s5 =>
              (impl_eliminate_L19 fuel (s5.1, (), s5.2.1, s5.2.2.1, (s5.2.2.2.1.1, (s5.2.2.2.1.2.1, (s5.2.2.2.1.2.2.1, (s5.2.2.2.1.2.2.2.1, s5.2.2.2.1.2.2.2.2)))), s5.2.2.2.2, (s5.2.2.2.1.2.2.1.length : Int), 0)).bind fun s6 =>
               if inb s6.2.2.2 s6.2.2.1.2.2.2.2 then
                impl_eliminate_L3 n (s6.1, s6.2.1, (s6.2.2.1.1, (s6.2.2.1.2.1, (s6.2.2.1.2.2.1, (w64 (s6.2.2.1.2.2.2.1 + 1), stt s6.2.2.1.2.2.2.2 s6.2.2.2 s6.2.2.1.2.2.2.1)))), w64 (s6.2.2.2 + 1))
               else none
           else none
          else none
         else none
        else none
       else none
      else none
     else none
  else
   some (t7.1, (t7.2.1, (t7.2.2.1, (t7.2.2.2.1, t7.2.2.2.2))))
def impl_eliminate (t0 : Int) (t1 : Int) (t2 : List (List Int)) : Option ((Bool × Int × Int × (List (List Int)) × Int × (List Int))) :=
 (impl_cloneRows t2).bind fun r1 =>
  (impl_freeTable t1).bind fun r2 =>
   (impl_eliminate_L3 fuel (t0, t1, (t0, (t1, (r1, (0, r2)))), 0)).bind fun s3 =>
    some (true, (s3.1, (s3.2.1, (s3.2.2.1, (s3.2.2.2.1, s3.2.2.2.2)))))
def impl_eliminateLinear (l : Int × Int × (List (List Int))) : Option ((Bool × Int × Int × (List (List Int)) × Int × (List Int))) :=
 (impl_eliminate l.1 l.2.1 l.2.2).bind fun r1 =>
  some r1
def impl_eliminated_freeVars_L3 : Nat → (Unit × (Int × (Int × ((List (List Int)) × (Int × (List Int))))) × (List Int) × Int × Int) → Option ((Int × (Int × ((List (List Int)) × (Int × (List Int))))) × (List Int))
 | 0, _ => none
 | n + 1, (al10, e, list, t11, t12) =>
  if decide (t12 < t11) then
   if inb t12 e.2.2.2.2 then
    if decide ((gd e.2.2.2.2 t12 0) < 0) then
     if list.length + [t12].length ≤ lim then
      impl_eliminated_freeVars_L3 n ((), (e.1, (e.2.1, (e.2.2.1, (e.2.2.2.1, e.2.2.2.2)))), list ++ [t12], t11, w64 (t12 + 1))
     else none
    else
     impl_eliminated_freeVars_L3 n ((), (e.1, (e.2.1, (e.2.2.1, (e.2.2.2.1, e.2.2.2.2)))), list, t11, w64 (t12 + 1))
   else none
  else
   some ((e.1, (e.2.1, (e.2.2.1, (e.2.2.2.1, e.2.2.2.2)))), list)
def impl_eliminated_freeVars (e : Int × (Int × ((List (List Int)) × (Int × (List Int))))) : Option ((Int × (Int × ((List (List Int)) × (Int × (List Int))))) × (List Int)) :=
 (impl_eliminated_freeVars_L3 fuel ((), (e.1, (e.2.1, (e.2.2.1, (e.2.2.2.1, e.2.2.2.2)))), [], (e.2.2.2.2.length : Int), 0)).bind fun s1 =>
  some ((s1.1.1, (s1.1.2.1, (s1.1.2.2.1, (s1.1.2.2.2.1, s1.1.2.2.2.2)))), s1.2)
def impl_eliminated_fails_p_L2 : Nat → ((Bool × Int × Int × (List (List Int)) × Int × (List Int)) × (List (List Int)) × Int × Int) → Option ((Unit) ⊕ (Bool))
 | 0, _ => none
 | n + 1, (e, t13, t14, t15) =>
  if decide (t15 < t14) then
   if inb t15 t13 then
    if e.1 = true then
     if inb e.2.2.1 (gd t13 t15 []) then
      if (gd (gd t13 t15 []) e.2.2.1 0) != 0 then
       some (.inr true)
      else
       impl_eliminated_fails_p_L2 n (e, t13, t14, w64 (t15 + 1))
     else none
    else none
   else none
  else
   some (.inl ())
def impl_eliminated_fails_p (e : Bool × Int × Int × (List (List Int)) × Int × (List Int)) : Option (Bool) :=
 if e.1 = true then
  if e.1 = true then
   if (0 : Int) ≤ e.2.2.2.2.1 ∧ e.2.2.2.2.1 ≤ (e.2.2.2.1.length : Int) ∧ (e.2.2.2.1.length : Int) ≤ (e.2.2.2.1.length : Int) then
    (impl_eliminated_fails_p_L2 fuel (e, (e.2.2.2.1.take (Int.toNat (e.2.2.2.1.length : Int))).drop (Int.toNat e.2.2.2.2.1), (((e.2.2.2.1.take (Int.toNat (e.2.2.2.1.length : Int))).drop (Int.toNat e.2.2.2.2.1)).length : Int), 0)).bind fun s1 =>
     match s1 with
     | .inl s2 =>
      some false
     | .inr s3 =>
      some s3
   else none
  else none
 else none
def impl_eliminated_freeVars_p_L3 : Nat → ((List Int) × (List Int) × Int × Int) → Option ((List Int))
 | 0, _ => none
 | n + 1, (list, t10, t11, t12) =>
  if decide (t12 < t11) then
   if inb t12 t10 then
    if decide ((gd t10 t12 0) < 0) then
     if list.length + [t12].length ≤ lim then
      impl_eliminated_freeVars_p_L3 n (list ++ [t12], t10, t11, w64 (t12 + 1))
     else none
    else
     impl_eliminated_freeVars_p_L3 n (list, t10, t11, w64 (t12 + 1))
   else none
  else
   some list
def impl_eliminated_freeVars_p (e : Bool × Int × Int × (List (List Int)) × Int × (List Int)) : Option ((List Int)) :=
 if e.1 = true then
  (impl_eliminated_freeVars_p_L3 fuel ([], e.2.2.2.2.2, (e.2.2.2.2.2.length : Int), 0)).bind fun s1 =>
   some s1
 else none
def spec_l21Solve_L6 : Nat → (Int × ((List (List Int)) × ((List Int) × (List (List Int)))) × (List Int) × Int) → Option ((List Int))
 | 0, _ => none
 | n + 1, (vars, w, out, i) =>
  if decide (i < (w.2.1.length : Int)) then
   if inb i w.2.1 then
    if inb i w.1 then
     if inb vars (gd w.1 i []) then
      if inb (gd w.2.1 i 0) out then
       spec_l21Solve_L6 n (vars, (w.1, (w.2.1, w.2.2)), stt out (gd w.2.1 i 0) (gd (gd w.1 i []) vars 0), w64 (i + 1))
      else none
     else none
    else none
   else none
  else
   some out
def spec_l21Solve (p : Int) (vars : Int) (rows : List (List Int)) : Option ((List Int) × Bool) :=
 (spec_l21Eliminate p vars rows).bind fun r1 =>
  (spec_l21Empty (r1.1, (r1.2.1, r1.2.2)) vars).bind fun r2 =>
   if r2 then
    some ([], false)
   else
    if 0 ≤ vars ∧ vars ≤ vars ∧ vars ≤ lim then
     (spec_l21Solve_L6 fuel (vars, (r1.1, (r1.2.1, r1.2.2)), List.replicate (Int.toNat vars) (0 : Int), 0)).bind fun s3 =>
      some (s3, true)
    else none
def spec_SolveLinear (l : Int × Int × (List (List Int))) : Option ((List Int) × Bool) :=
 (spec_l21Good (l.1, (l.2.1, l.2.2))).bind fun r1 =>
  if !r1 then
   some ([], false)
  else
   (spec_l21Solve l.1 l.2.1 l.2.2).bind fun r2 =>
    some (r2.1, r2.2)
def impl_eliminated_solution_L4 : Nat → (Unit × (Int × (Int × ((List (List Int)) × (Int × (List Int))))) × (List Int) × (List Int) × (List Int) × Int × Int) → Option ((Int × (Int × ((List (List Int)) × (Int × (List Int))))) × (List Int) × (List Int) × (List Int))
 | 0, _ => none
 | n + 1, (al21, t0, t1, t5, t6, t22, t23) =>
  if decide (t23 < t22) then
   if inb t23 t6 then
    if inb t23 t1 then
     if inb (gd t6 t23 0) t5 then
      impl_eliminated_solution_L4 n ((), (t0.1, (t0.2.1, (t0.2.2.1, (t0.2.2.2.1, t0.2.2.2.2)))), t1, stt t5 (gd t6 t23 0) (gd t1 t23 0), t6, t22, w64 (t23 + 1))
     else none
    else none
   else none
  else
   some ((t0.1, (t0.2.1, (t0.2.2.1, (t0.2.2.2.1, t0.2.2.2.2)))), t1, t5, t6)
def impl_eliminated_solution_L14 : Nat → (Unit × Unit × (Int × (Int × ((List (List Int)) × (Int × (List Int))))) × (List Int) × (List Int) × (List Int) × Int × Int × Int × Int × Int × Int × Int) → Option (Unit × (Int × (Int × ((List (List Int)) × (Int × (List Int))))) × (List Int) × (List Int) × (List Int) × Int × Int × Int × Int)
 | 0, _ => none
 | n + 1, (al39, al61, t0, t1, t5, t6, t9, t10, t11, t40, t41, t62, t63) =>
  if decide (t63 < t62) then
   if inb t63 t6 then
    if inb t10 t0.2.2.1 then
     if inb (gd t6 t63 0) (gd t0.2.2.1 t10 []) then
      if inb t63 t1 then
       impl_eliminated_solution_L14 n ((), (), (t0.1, (t0.2.1, (t0.2.2.1, (t0.2.2.2.1, t0.2.2.2.2)))), t1, t5, t6, t9, t10, w64 (t11 + (w64 ((w64 (t0.1 - (gd (gd t0.2.2.1 t10 []) (gd t6 t63 0) 0))) * (gd t1 t63 0)))), t40, t41, t62, w64 (t63 + 1))
      else none
     else none
    else none
   else none
  else
   some ((), (t0.1, (t0.2.1, (t0.2.2.1, (t0.2.2.2.1, t0.2.2.2.2)))), t1, t5, t6, t9, t11, t40, t41)
def impl_eliminated_solution_L9 : Nat → (Unit × (Int × (Int × ((List (List Int)) × (Int × (List Int))))) × (List Int) × (List Int) × (List Int) × Int × Int) → Option ((Int × (Int × ((List (List Int)) × (Int × (List Int))))) × (List Int))
 | 0, _ => none
 | n + 1, (al39, t0, t1, t5, t6, t40, t41) =>
  if decide (t41 < t40) then
   if inb t41 t0.2.2.2.2 then
    if decide ((gd t0.2.2.2.2 t41 0) < 0) then
     impl_eliminated_solution_L9 n ((), (t0.1, (t0.2.1, (t0.2.2.1, (t0.2.2.2.1, t0.2.2.2.2)))), t1, t5, t6, t40, w64 (t41 + 1))
    else
     if inb (gd t0.2.2.2.2 t41 0) t0.2.2.1 then
      if inb t0.2.1 (gd t0.2.2.1 (gd t0.2.2.2.2 t41 0) []) then
       (impl_eliminated_solution_L14 fuel ((), (), (t0.1, (t0.2.1, (t0.2.2.1, (t0.2.2.2.1, t0.2.2.2.2)))), t1, t5, t6, t41, gd t0.2.2.2.2 t41 0, gd (gd t0.2.2.1 (gd t0.2.2.2.2 t41 0) []) t0.2.1 0, t40, t41, (t6.length : Int), 0)).bind fun s3 =>
        if s3.2.1.1 ≠ 0 then
         if inb s3.2.2.2.2.2.1 s3.2.2.2.1 then
          impl_eliminated_solution_L9 n ((), (s3.2.1.1, (s3.2.1.2.1, (s3.2.1.2.2.1, (s3.2.1.2.2.2.1, s3.2.1.2.2.2.2)))), s3.2.2.1, stt s3.2.2.2.1 s3.2.2.2.2.2.1 (Int.tmod s3.2.2.2.2.2.2.1 s3.2.1.1), s3.2.2.2.2.1, s3.2.2.2.2.2.2.2.1, w64 (s3.2.2.2.2.2.2.2.2 + 1))
         else none
        else none
      else none
     else none
   else none
  else
   some ((t0.1, (t0.2.1, (t0.2.2.1, (t0.2.2.2.1, t0.2.2.2.2)))), t5)
def impl_eliminated_solution (t0 : Int × (Int × ((List (List Int)) × (Int × (List Int))))) (t1 : List Int) : Option ((Int × (Int × ((List (List Int)) × (Int × (List Int))))) × (List Int)) :=
 if 0 ≤ t0.2.1 ∧ t0.2.1 ≤ t0.2.1 ∧ t0.2.1 ≤ lim then
  (impl_eliminated_freeVars (t0.1, (t0.2.1, (t0.2.2.1, (t0.2.2.2.1, t0.2.2.2.2))))).bind fun r1 =>
   (impl_eliminated_solution_L4 fuel ((), (r1.1.1, (r1.1.2.1, (r1.1.2.2.1, (r1.1.2.2.2.1, r1.1.2.2.2.2)))), t1, List.replicate (Int.toNat t0.2.1) (0 : Int), r1.2, (r1.2.length : Int), 0)).bind fun s2 =>
    (impl_eliminated_solution_L9 fuel ((), (s2.1.1, (s2.1.2.1, (s2.1.2.2.1, (s2.1.2.2.2.1, s2.1.2.2.2.2)))), s2.2.1, s2.2.2.1, s2.2.2.2, (s2.1.2.2.2.2.length : Int), 0)).bind fun s3 =>
     some ((s3.1.1, (s3.1.2.1, (s3.1.2.2.1, (s3.1.2.2.2.1, s3.1.2.2.2.2)))), s3.2)
 else none
def impl_eliminated_solution_p_L4 : Nat → (Unit × (Bool × Int × Int × (List (List Int)) × Int × (List Int)) × (List Int) × (List Int) × (List Int) × Int × Int) → Option ((Bool × Int × Int × (List (List Int)) × Int × (List Int)) × (List Int) × (List Int) × (List Int))
 | 0, _ => none
 | n + 1, (al21, t0, t1, t5, t6, t22, t23) =>
  if decide (t23 < t22) then
   if inb t23 t6 then
    if inb t23 t1 then
     if inb (gd t6 t23 0) t5 then
      impl_eliminated_solution_p_L4 n ((), t0, t1, stt t5 (gd t6 t23 0) (gd t1 t23 0), t6, t22, w64 (t23 + 1))
     else none
    else none
   else none
  else
   some (t0, t1, t5, t6)
def impl_eliminated_solution_p_L14 : Nat → (Unit × (Bool × Int × Int × (List (List Int)) × Int × (List Int)) × (List Int) × (List Int) × (List Int) × Int × Int × Int × (List Int) × Int × Int × Int × Int) → Option ((Bool × Int × Int × (List (List Int)) × Int × (List Int)) × (List Int) × (List Int) × (List Int) × Int × Int × (List Int) × Int × Int)
 | 0, _ => none
 | n + 1, (al61, t0, t1, t5, t6, t9, t10, t11, t39, t40, t41, t62, t63) =>
  if decide (t63 < t62) then
   if inb t63 t6 then
    if t0.1 = true then
     if t0.1 = true then
      if inb t10 t0.2.2.2.1 then
       if inb (gd t6 t63 0) (gd t0.2.2.2.1 t10 []) then
        if inb t63 t1 then
         impl_eliminated_solution_p_L14 n ((), t0, t1, t5, t6, t9, t10, w64 (t11 + (w64 ((w64 (t0.2.1 - (gd (gd t0.2.2.2.1 t10 []) (gd t6 t63 0) 0))) * (gd t1 t63 0)))), t39, t40, t41, t62, w64 (t63 + 1))
        else none
       else none
      else none
     else none
    else none
   else none
  else
   some (t0, t1, t5, t6, t9, t11, t39, t40, t41)
def impl_eliminated_solution_p_L9 : Nat → ((Bool × Int × Int × (List (List Int)) × Int × (List Int)) × (List Int) × (List Int) × (List Int) × (List Int) × Int × Int) → Option ((List Int))
 | 0, _ => none
 | n + 1, (t0, t1, t5, t6, t39, t40, t41) =>
  if decide (t41 < t40) then
   if inb t41 t39 then
    if decide ((gd t39 t41 0) < 0) then
     impl_eliminated_solution_p_L9 n (t0, t1, t5, t6, t39, t40, w64 (t41 + 1))
    else
     if t0.1 = true then
      if inb (gd t39 t41 0) t0.2.2.2.1 then
       if t0.1 = true then
        if inb t0.2.2.1 (gd t0.2.2.2.1 (gd t39 t41 0) []) then
         (impl_eliminated_solution_p_L14 fuel ((), t0, t1, t5, t6, t41, gd t39 t41 0, gd (gd t0.2.2.2.1 (gd t39 t41 0) []) t0.2.2.1 0, t39, t40, t41, (t6.length : Int), 0)).bind fun s3 =>
          if s3.1.1 = true then
           if s3.1.2.1 ≠ 0 then
            if inb s3.2.2.2.2.1 s3.2.2.1 then
             impl_eliminated_solution_p_L9 n (s3.1, s3.2.1, stt s3.2.2.1 s3.2.2.2.2.1 (Int.tmod s3.2.2.2.2.2.1 s3.1.2.1), s3.2.2.2.1, s3.2.2.2.2.2.2.1, s3.2.2.2.2.2.2.2.1, w64 (s3.2.2.2.2.2.2.2.2 + 1))
            else none
           else none
          else none
        else none
       else none
      else none
     else none
   else none
  else
   some t5
def impl_eliminated_solution_p (t0 : Bool × Int × Int × (List (List Int)) × Int × (List Int)) (t1 : List Int) : Option ((List Int)) :=
 if t0.1 = true then
  if 0 ≤ t0.2.2.1 ∧ t0.2.2.1 ≤ t0.2.2.1 ∧ t0.2.2.1 ≤ lim then
   (impl_eliminated_freeVars_p t0).bind fun r1 =>
    (impl_eliminated_solution_p_L4 fuel ((), t0, t1, List.replicate (Int.toNat t0.2.2.1) (0 : Int), r1, (r1.length : Int), 0)).bind fun s2 =>
     if s2.1.1 = true then
      (impl_eliminated_solution_p_L9 fuel (s2.1, s2.2.1, s2.2.2.1, s2.2.2.2, s2.1.2.2.2.2.2, (s2.1.2.2.2.2.2.length : Int), 0)).bind fun s3 =>
       some s3
     else none
  else none
 else none
def impl_eliminated_leastSolution_p (e : Bool × Int × Int × (List (List Int)) × Int × (List Int)) : Option ((List Int) × Bool) :=
 (impl_eliminated_fails_p e).bind fun r1 =>
  if r1 then
   some ([], false)
  else
   if e.1 = true then
    if 0 ≤ e.2.2.1 ∧ e.2.2.1 ≤ e.2.2.1 ∧ e.2.2.1 ≤ lim then
     (impl_eliminated_solution_p e (List.replicate (Int.toNat e.2.2.1) (0 : Int))).bind fun r2 =>
      some (r2, true)
    else none
   else none
def impl_SolveLinear (l : Int × Int × (List (List Int))) : Option ((List Int) × Bool) :=
 (impl_IsLinear (l.1, (l.2.1, l.2.2))).bind fun r1 =>
  if !r1 then
   some ([], false)
  else
   (impl_eliminateLinear (l.1, (l.2.1, l.2.2))).bind fun r2 =>
    (impl_eliminated_leastSolution_p r2).bind fun r3 =>
     some (r3.1, r3.2)
def spec_RefuteLinear_L9 : Nat → ((Int × Int × (List (List Int))) × (List (List Int)) × Int × (List Int) × Int) → Option ((Int × Int × (List (List Int))) × (List (List Int)) × Int × (List Int))
 | 0, _ => none
 | n + 1, (l, rows, v, row, i) =>
  if decide (i < (l.2.2.length : Int)) then
   if inb i l.2.2 then
    if inb v (gd l.2.2 i []) then
     if row.length + [gd (gd l.2.2 i []) v 0].length ≤ lim then
      spec_RefuteLinear_L9 n ((l.1, (l.2.1, l.2.2)), rows, v, row ++ [gd (gd l.2.2 i []) v 0], w64 (i + 1))
     else none
    else none
   else none
  else
   some ((l.1, (l.2.1, l.2.2)), rows, v, row)
def spec_RefuteLinear_L5 : Nat → ((Int × Int × (List (List Int))) × (List (List Int)) × Int) → Option ((Int × Int × (List (List Int))) × (List (List Int)))
 | 0, _ => none
 | n + 1, (l, rows, v) =>
  if decide (v ≤ l.2.1) then
   (spec_RefuteLinear_L9 fuel ((l.1, (l.2.1, l.2.2)), rows, v, [], 0)).bind fun s2 =>
    if s2.2.2.1 == s2.1.2.1 then
     if s2.2.2.2.length + [1].length ≤ lim then
      if s2.2.1.length + [s2.2.2.2 ++ [1]].length ≤ lim then
       spec_RefuteLinear_L5 n ((s2.1.1, (s2.1.2.1, s2.1.2.2)), s2.2.1 ++ [s2.2.2.2 ++ [1]], w64 (s2.2.2.1 + 1))
      else none
     else none
    else
     if s2.2.2.2.length + [0].length ≤ lim then
      if s2.2.1.length + [s2.2.2.2 ++ [0]].length ≤ lim then
       spec_RefuteLinear_L5 n ((s2.1.1, (s2.1.2.1, s2.1.2.2)), s2.2.1 ++ [s2.2.2.2 ++ [0]], w64 (s2.2.2.1 + 1))
      else none
     else none
  else
   some ((l.1, (l.2.1, l.2.2)), rows)
def spec_RefuteLinear (l : Int × Int × (List (List Int))) : Option ((List Int) × Bool) :=
 (spec_l21Good (l.1, (l.2.1, l.2.2))).bind fun r1 =>
  if !r1 then
   some ([], false)
  else
   (spec_RefuteLinear_L5 fuel ((l.1, (l.2.1, l.2.2)), [], 0)).bind fun s2 =>
    (spec_l21Solve s2.1.1 (s2.1.2.2.length : Int) s2.2).bind fun r3 =>
     some (r3.1, r3.2)
def impl_RefuteLinear_L9 : Nat → ((Int × Int × (List (List Int))) × (List (List Int)) × Int × (List Int) × (List (List Int)) × Int × Int) → Option ((Int × Int × (List (List Int))) × (List (List Int)) × Int × (List Int))
 | 0, _ => none
 | n + 1, (l, rows, v, row, t23, t24, t25) =>
  if decide (t25 < t24) then
   if inb t25 t23 then
    if inb v (gd t23 t25 []) then
     if row.length + [gd (gd t23 t25 []) v 0].length ≤ lim then
      impl_RefuteLinear_L9 n ((l.1, (l.2.1, l.2.2)), rows, v, row ++ [gd (gd t23 t25 []) v 0], t23, t24, w64 (t25 + 1))
     else none
    else none
   else none
  else
   some ((l.1, (l.2.1, l.2.2)), rows, v, row)
def impl_RefuteLinear_L5 : Nat → ((Int × Int × (List (List Int))) × (List (List Int)) × Int) → Option ((Int × Int × (List (List Int))) × (List (List Int)))
 | 0, _ => none
 | n + 1, (l, rows, v) =>
  if decide (v ≤ l.2.1) then
   (impl_RefuteLinear_L9 fuel ((l.1, (l.2.1, l.2.2)), rows, v, [], l.2.2, (l.2.2.length : Int), 0)).bind fun s2 =>
    if s2.2.2.1 == s2.1.2.1 then
     if s2.2.2.2.length + [1].length ≤ lim then
      if s2.2.1.length + [s2.2.2.2 ++ [1]].length ≤ lim then
       impl_RefuteLinear_L5 n ((s2.1.1, (s2.1.2.1, s2.1.2.2)), s2.2.1 ++ [s2.2.2.2 ++ [1]], w64 (s2.2.2.1 + 1))
      else none
     else none
    else
     if s2.2.2.2.length + [0].length ≤ lim then
      if s2.2.1.length + [s2.2.2.2 ++ [0]].length ≤ lim then
       impl_RefuteLinear_L5 n ((s2.1.1, (s2.1.2.1, s2.1.2.2)), s2.2.1 ++ [s2.2.2.2 ++ [0]], w64 (s2.2.2.1 + 1))
      else none
     else none
  else
   some ((l.1, (l.2.1, l.2.2)), rows)
def impl_RefuteLinear (l : Int × Int × (List (List Int))) : Option ((List Int) × Bool) :=
 (impl_IsLinear (l.1, (l.2.1, l.2.2))).bind fun r1 =>
  if !r1 then
   some ([], false)
  else
   (impl_RefuteLinear_L5 fuel ((l.1, (l.2.1, l.2.2)), [], 0)).bind fun s2 =>
    (impl_eliminate s2.1.1 (s2.1.2.2.length : Int) s2.2).bind fun r3 =>
     (impl_eliminated_leastSolution_p r3).bind fun r4 =>
      some (r4.1, r4.2)
end T
open Go Go.Va
namespace T
def mix {α : Type} (nw old : Nat → α) (N i : Nat) : List α := (List.range N).map fun q => if q < i then nw q else old q
section
variable {α : Type} {nw old : Nat → α} {N i : Nat}
theorem mix_len : (mix nw old N i).length = N := by simp [mix]
theorem mix_get {q : Nat} {d : α} (h : q < N) : (mix nw old N i).getD q d = if q < i then nw q else old q := by
 rw [getD_of (by rw [mix_len]; exact h)]; simp [mix]
theorem mix_set (h : i < N) : (mix nw old N i).set i (nw i) = mix nw old N (i + 1) := by
 unfold mix
 apply List.ext_getElem
 ·simp
 ·intro q h1 h2
  rw [List.getElem_set]
  simp only [List.getElem_map, List.getElem_range]
  by_cases e : i = q
  ·subst e; rw [if_pos rfl, if_pos (by omega)]
  ·rw [if_neg e]
   by_cases e2 : q < i
   ·rw [if_pos e2, if_pos (by omega)]
   ·rw [if_neg e2, if_neg (by omega)]
theorem mix_same (h : i < N) (he : nw i = old i) : mix nw old N (i + 1) = mix nw old N i := by
 unfold mix
 refine List.map_congr_left fun q hq => ?_
 by_cases e : q = i
 ·subst e; rw [if_pos (by omega), if_neg (by omega), he]
 ·by_cases e2 : q < i
  ·rw [if_pos e2, if_pos (by omega)]
  ·rw [if_neg e2, if_neg (by omega)]
theorem mix_zero {l : List α} {d : α} (h : l.length = N) : mix nw (fun q => l.getD q d) N 0 = l := by
 apply List.ext_getElem
 ·rw [mix_len, h]
 ·intro q h1 h2
  simp only [mix, List.getElem_map, List.getElem_range]
  rw [if_neg (by omega), getD_of h2]
theorem mix_full : mix nw old N N = (List.range N).map nw := by
 unfold mix
 refine List.map_congr_left fun q hq => ?_
 rw [if_pos (List.mem_range.1 hq)]
end
def pr4 (p : Int) : Prop := p = 2 ∨ p = 3 ∨ p = 5 ∨ p = 7
def okRow (p : Int) (W : Nat) (r : List Int) : Prop := r.length = W ∧ ∀ x ∈ r, 0 ≤ x ∧ x < p
def invP (p x : Int) : Int := (impl_inverseOf x p).getD 0
theorem inv_tab : ∀ p : Fin 8, ∀ x : Fin 8, (p.val = 2 ∨ p.val = 3 ∨ p.val = 5 ∨ p.val = 7) → 0 < x.val → x.val < p.val →
    impl_inverseOf (x.val : Int) (p.val : Int) = some (invP (p.val : Int) (x.val : Int)) ∧ spec_l21Inverse (p.val : Int) (x.val : Int) = some (invP (p.val : Int) (x.val : Int)) ∧ 1 ≤ invP (p.val : Int) (x.val : Int) ∧ invP (p.val : Int) (x.val : Int) < (p.val : Int) := by decide +kernel
theorem inv_ok {p x : Int} (hp : pr4 p) (h0 : 0 < x) (h1 : x < p) : impl_inverseOf x p = some (invP p x) ∧ spec_l21Inverse p x = some (invP p x) ∧ 1 ≤ invP p x ∧ invP p x < p := by
 unfold pr4 at hp
 have := inv_tab ⟨p.toNat, by omega⟩ ⟨x.toNat, by omega⟩ (by simp; omega) (by simp; omega) (by simp; omega)
 simp only [Int.toNat_of_nonneg (show 0 ≤ p by omega), Int.toNat_of_nonneg (show 0 ≤ x by omega)] at this
 exact this
def scaleR (p b : Int) (r : List Int) : List Int := (List.range r.length).map fun i => Int.tmod (r.getD i 0 * b) p
def lessR (p : Int) (row : List Int) (v : Nat) (r : List Int) : List Int := (List.range r.length).map fun i => Int.tmod (r.getD i 0 + (p - r.getD v 0) * row.getD i 0) p
section
variable {p : Int} {W : Nat} {r row : List Int}
theorem ok_get (h : okRow p W r) {i : Nat} (hi : i < W) : 0 ≤ r.getD i 0 ∧ r.getD i 0 < p := by
 have : i < r.length := by rw [h.1]; exact hi
 rw [getD_of this]; exact h.2 _ (List.getElem_mem this)
theorem mod_in (hp : pr4 p) {x : Int} (h : 0 ≤ x) : 0 ≤ Int.tmod x p ∧ Int.tmod x p < p := by
 unfold pr4 at hp
 rw [Int.tmod_eq_emod_of_nonneg h]
 exact ⟨Int.emod_nonneg _ (by omega), Int.emod_lt_of_pos _ (by omega)⟩
theorem prod_le {a b : Int} (h0 : 0 ≤ a) (h1 : a ≤ 8) (g0 : 0 ≤ b) (g1 : b ≤ 8) : 0 ≤ a * b ∧ a * b ≤ 64 := by
 have h2 := Int.mul_nonneg h0 g0
 have h3 := Int.mul_le_mul h1 g1 g0 (by omega)
 exact ⟨h2, by omega⟩
theorem scale_ok (hp : pr4 p) (h : okRow p W r) {b : Int} (hb : 0 ≤ b ∧ b < p) : okRow p W (scaleR p b r) := by
 refine ⟨by unfold scaleR; simp; exact h.1, fun x hx => ?_⟩
 unfold scaleR at hx
 obtain ⟨i, hi, rfl⟩ := List.mem_map.1 hx
 have hi := List.mem_range.1 hi
 have := ok_get h (i := i) (by rw [← h.1]; exact hi)
 exact mod_in hp (Int.mul_nonneg this.1 hb.1)
theorem less_ok (hp : pr4 p) (h : okRow p W r) (hr : okRow p W row) {v : Nat} (hv : v < W) : okRow p W (lessR p row v r) := by
 refine ⟨by unfold lessR; simp; exact h.1, fun x hx => ?_⟩
 unfold lessR at hx
 obtain ⟨i, hi, rfl⟩ := List.mem_map.1 hx
 have hi := List.mem_range.1 hi
 have h1 := ok_get h (i := i) (by rw [← h.1]; exact hi)
 have h2 := ok_get hr (i := i) (by rw [← h.1]; exact hi)
 have h3 := ok_get h hv
 exact mod_in hp (by have := Int.mul_nonneg (show 0 ≤ p - r.getD v 0 by omega) h2.1; omega)
theorem less_zero (hp : pr4 p) (h : okRow p W r) (hr : okRow p W row) {v : Nat} (h0 : r.getD v 0 = 0) : lessR p row v r = r := by
 unfold lessR
 apply List.ext_getElem
 ·simp
 ·intro i h1 h2
  simp only [List.getElem_map, List.getElem_range]
  have g := h.2 _ (List.getElem_mem h2)
  have g2 := ok_get hr (i := i) (by rw [← h.1]; exact h2)
  rw [h0, Int.sub_zero, getD_of h2]
  have hnn := Int.mul_nonneg (show 0 ≤ p by unfold pr4 at hp; omega) g2.1
  rw [Int.tmod_eq_emod_of_nonneg (by omega), Int.add_mul_emod_self_left]
  exact Int.emod_eq_of_lt g.1 g.2
theorem w64_small {x : Int} (h0 : -1000000 ≤ x) (h1 : x ≤ 1000000) : w64 x = x := w64_id (by omega) (by omega)
theorem less_w (hp : pr4 p) (h : okRow p W r) (hr : okRow p W row) {v i : Nat} (hv : v < W) (hi : i < W) :
    Int.tmod (w64 (r.getD i 0 + w64 (w64 (p - r.getD v 0) * row.getD i 0))) p = Int.tmod (r.getD i 0 + (p - r.getD v 0) * row.getD i 0) p := by
  have h1 := ok_get h hi
  have h2 := ok_get hr hi
  have h3 := ok_get h hv
  unfold pr4 at hp
  have h4 := prod_le (a := p - r.getD v 0) (b := row.getD i 0) (by omega) (by omega) (by omega) (by omega)
  rw [w64_small (x := p - r.getD v 0) (by omega) (by omega), w64_small (x := (p - r.getD v 0) * row.getD i 0) (by omega) (by omega), w64_small (by omega) (by omega)]
theorem spec_less_ok (hp : pr4 p) (hW : W ≤ 1000) (h : okRow p W r) (hr : okRow p W row) {v : Nat} (hv : v < W) : spec_l21Less p r row (r.getD v 0) = some (lessR p row v r) := by
 unfold spec_l21Less
 have hlr := h.1
 have hlo := hr.1
 have hp0 : p ≠ 0 := by unfold pr4 at hp; omega
 have := forS r.length (fun f o i => spec_l21Less_L3 f (p, r, row, r.getD v 0, o, i)) (fun j => (List.range j).map fun i => Int.tmod (r.getD i 0 + (p - r.getD v 0) * row.getD i 0) p) (r := some (lessR p row v r)) (fun f j hj => ?_) (fun f => ?_) (n := fuel) (by unfold fuel; omega)
 ·have this : spec_l21Less_L3 fuel (p, r, row, r.getD v 0, [], 0) = _ := this
  rw [this]; rfl
 ·have e : (List.range (j + 1)).map (fun i => Int.tmod (r.getD i 0 + (p - r.getD v 0) * row.getD i 0) p) = (List.range j).map (fun i => Int.tmod (r.getD i 0 + (p - r.getD v 0) * row.getD i 0) p) ++ [Int.tmod (r.getD j 0 + (p - r.getD v 0) * row.getD j 0) p] := by rw [List.range_succ, List.map_append]; rfl
  have hjo : j < row.length := by omega
  simp only [spec_l21Less_L3, inb_nat, hj, hjo, gd_D, less_w hp h hr hv (show j < W by omega), e, if_true, w64_succ (show j < 4611686018427387904 by omega)]
  rw [if_pos (by simp; omega), if_pos hp0, if_pos (by simp; unfold lim; omega)]
 ·simp only [spec_l21Less_L3]
  rw [if_neg (by simp)]; rfl
theorem spec_scale_ok (hp : pr4 p) (hW : W ≤ 1000) (h : okRow p W r) {b : Int} (hb : 0 ≤ b ∧ b < p) : spec_l21Scale p r b = some (scaleR p b r) := by
 unfold spec_l21Scale
 have hlr := h.1
 have hp0 : p ≠ 0 := by unfold pr4 at hp; omega
 have := forS r.length (fun f o i => spec_l21Scale_L3 f (p, r, b, o, i)) (fun j => (List.range j).map fun i => Int.tmod (r.getD i 0 * b) p) (r := some (scaleR p b r)) (fun f j hj => ?_) (fun f => ?_) (n := fuel) (by unfold fuel; omega)
 ·have this : spec_l21Scale_L3 fuel (p, r, b, [], 0) = _ := this
  rw [this]; rfl
 ·have e : (List.range (j + 1)).map (fun i => Int.tmod (r.getD i 0 * b) p) = (List.range j).map (fun i => Int.tmod (r.getD i 0 * b) p) ++ [Int.tmod (r.getD j 0 * b) p] := by rw [List.range_succ, List.map_append]; rfl
  have h1 := ok_get h (i := j) (by omega)
  unfold pr4 at hp
  have h4 := prod_le (a := r.getD j 0) (b := b) (by omega) (by omega) (by omega) (by omega)
  simp only [spec_l21Scale_L3, inb_nat, hj, gd_D, w64_small (x := r.getD j 0 * b) (by omega) (by omega), e, if_true, w64_succ (show j < 4611686018427387904 by omega)]
  rw [if_pos (by simp; omega), if_pos hp0, if_pos (by simp; unfold lim; omega)]
 ·simp only [spec_l21Scale_L3]
  rw [if_neg (by simp)]; rfl
end
abbrev ES := List (List Int) × List Int × List (List Int)
def nzB (v : Nat) (r : List Int) : Bool := r.getD v 0 != 0
def elimS (p : Int) (s : ES) (v : Nat) : ES :=
 let at' := s.2.2.findIdx (nzB v)
 if at' < s.2.2.length then
  let row := scaleR p (invP p ((s.2.2.getD at' []).getD v 0)) (s.2.2.getD at' [])
  (s.1.map (lessR p row v) ++ [row], s.2.1 ++ [(v : Int)], (s.2.2.eraseIdx at').map (lessR p row v))
 else s
def elimF (p : Int) (rows : List (List Int)) (V : Nat) : ES := (List.range V).foldl (elimS p) ([], [], rows)
structure ESok (p : Int) (W N v : Nat) (s : ES) : Prop where
 t : ∀ r ∈ s.1, okRow p W r
 l : ∀ r ∈ s.2.2, okRow p W r
 bl : s.2.1.length = s.1.length
 n : s.1.length + s.2.2.length = N
 bv : ∀ x ∈ s.2.1, 0 ≤ x ∧ x < (v : Int)
 bn : s.2.1.Nodup
section
variable {p : Int} {W N : Nat}
theorem find_nz {l : List (List Int)} {v : Nat} (h : l.findIdx (nzB v) < l.length) (hl : ∀ r ∈ l, okRow p W r) (hv : v < W) : 0 < (l.getD (l.findIdx (nzB v)) []).getD v 0 ∧ (l.getD (l.findIdx (nzB v)) []).getD v 0 < p ∧ okRow p W (l.getD (l.findIdx (nzB v)) []) := by
 have h1 := List.findIdx_getElem (p := nzB v) (xs := l) (w := h)
 have h2 := hl _ (List.getElem_mem h)
 rw [getD_of h]
 generalize l[l.findIdx (nzB v)]'h = r at h1 h2 ⊢
 have h3 := ok_get h2 hv
 have h4 : r.getD v 0 ≠ 0 := by unfold nzB at h1; exact bne_iff_ne.1 h1
 exact ⟨by omega, h3.2, h2⟩
theorem elimS_ok (hp : pr4 p) {s : ES} {v : Nat} (h : ESok p W N v s) (hv : v < W) : ESok p W N (v + 1) (elimS p s v) := by
 unfold elimS
 by_cases hc : s.2.2.findIdx (nzB v) < s.2.2.length
 ·obtain ⟨h1, h2, h3⟩ := find_nz hc h.l hv
  obtain ⟨_, _, i1, i2⟩ := inv_ok hp h1 h2
  have hrow := scale_ok hp h3 (b := invP p ((s.2.2.getD (s.2.2.findIdx (nzB v)) []).getD v 0)) ⟨by omega, i2⟩
  dsimp only
  rw [if_pos hc]
  refine ⟨fun r hr => ?_, fun r hr => ?_, by simp; exact h.bl, ?_, fun x hx => ?_, ?_⟩
  ·rcases List.mem_append.1 hr with hr | hr
   ·obtain ⟨q, hq, rfl⟩ := List.mem_map.1 hr
    exact less_ok hp (h.t q hq) hrow hv
   ·rw [List.mem_singleton.1 hr]; exact hrow
  ·obtain ⟨q, hq, rfl⟩ := List.mem_map.1 hr
   exact less_ok hp (h.l q (List.mem_of_mem_eraseIdx hq)) hrow hv
  ·have := h.n
   have h9 : (s.2.2.eraseIdx (s.2.2.findIdx (nzB v))).length = s.2.2.length - 1 := List.length_eraseIdx_of_lt hc
   simp only [List.length_append, List.length_map, List.length_singleton]
   omega
  ·rcases List.mem_append.1 hx with hx | hx
   ·have := h.bv x hx; omega
   ·rw [List.mem_singleton.1 hx]; omega
  ·refine List.nodup_append.2 ⟨h.bn, by simp, fun a ha b hb => ?_⟩
   rw [List.mem_singleton.1 hb]
   have := h.bv a ha
   omega
 ·dsimp only
  rw [if_neg hc]
  exact ⟨h.t, h.l, h.bl, h.n, fun x hx => by have := h.bv x hx; omega, h.bn⟩
theorem elimF_ok (hp : pr4 p) {rows : List (List Int)} (hr : ∀ r ∈ rows, okRow p W r) : ∀ v, v ≤ W → ESok p W rows.length v (elimF p rows v) := by
 intro v
 induction v with
 | zero => intro _; exact ⟨fun r h => by simp [elimF] at h, hr, rfl, by simp [elimF], fun x h => by simp [elimF] at h, by simp [elimF]⟩
 | succ v ih =>
  intro hv
  unfold elimF
  rw [range_fold]
  exact elimS_ok hp (ih (by omega)) (by omega)
end
end T
open Go Go.Va
namespace T
section
variable {p : Int} {W N : Nat}
theorem map_rangeD {α β : Type} (g : α → β) {l : List α} {d : α} : ((List.range l.length).map fun q => g (l.getD q d)) = l.map g := by
 apply List.ext_getElem
 ·simp
 ·intro i h1 h2
  simp only [List.getElem_map, List.getElem_range]
  rw [getD_of (by simpa using h2)]
theorem seekX {β : Type} (l : List (List Int)) (v : Nat) (L : Nat → Int → Option β) (g : Nat → β)
    (hs : ∀ n (k : Nat) (hk : k < l.length), L (n + 1) k = if nzB v l[k] then some (g k) else L n ((k + 1 : Nat) : Int)) (he : ∀ n, L (n + 1) (l.length : Nat) = some (g l.length)) :
    ∀ (c k n : Nat), k + c = l.length → c < n → L n k = some (g (k + (l.drop k).findIdx (nzB v))) := by
  intro c
  induction c with
  | zero =>
    intro k n hk hn
    obtain ⟨n, rfl⟩ : ∃ z, n = z + 1 := ⟨n - 1, by omega⟩
    have : k = l.length := by omega
    subst this
    rw [he, List.drop_length]; rfl
  | succ c ih =>
    intro k n hk hn
    obtain ⟨n, rfl⟩ : ∃ z, n = z + 1 := ⟨n - 1, by omega⟩
    have hkl : k < l.length := by omega
    rw [hs n k hkl, List.drop_eq_getElem_cons hkl, List.findIdx_cons]
    cases hb : nzB v l[k] with
    | true => simp
    | false =>
      simp only [Bool.false_eq_true, if_false]
      rw [ih (k + 1) n (by omega) (by omega)]
      simp only [cond_false]
      congr 2; omega
theorem spec_L10 {s : ES} {v V : Nat} (h : ESok p W N v s) (hv : v < W) (hN : N ≤ 100000) (t6 : ES) :
    spec_l21Eliminate_L10 fuel (p, (V : Int), (t6.1, (t6.2.1, t6.2.2)), (s.1, (s.2.1, s.2.2)), (v : Int), 0) = some (p, (V : Int), (t6.1, (t6.2.1, t6.2.2)), (s.1, (s.2.1, s.2.2)), (v : Int), ((s.2.2.findIdx (nzB v) : Nat) : Int)) := by
  have hn := h.n
  have := seekX s.2.2 v (fun f i => spec_l21Eliminate_L10 f (p, (V : Int), (t6.1, (t6.2.1, t6.2.2)), (s.1, (s.2.1, s.2.2)), (v : Int), i)) (fun k => (p, (V : Int), (t6.1, (t6.2.1, t6.2.2)), (s.1, (s.2.1, s.2.2)), (v : Int), (k : Int))) (fun f k hk => ?_) (fun f => ?_) s.2.2.length 0 fuel (by omega) (by unfold fuel; omega)
  · rw [List.drop_zero, Nat.zero_add] at this
    exact this
  · have hr := h.l _ (List.getElem_mem hk)
    have hvl : v < s.2.2[k].length := by rw [hr.1]; exact hv
    simp only [spec_l21Eliminate_L10, inb_nat, hk, gd_nat hk, hvl, gd_D, if_true, w64_succ (show k < 4611686018427387904 by omega)]
    rw [if_pos (by simp; omega)]
    unfold nzB
    by_cases hz : s.2.2[k].getD v 0 = 0
    · rw [if_pos (by simpa using hz), if_neg (by simpa using hz)]
    · rw [if_neg (by simpa using hz), if_pos (by simpa using hz)]
  · simp only [spec_l21Eliminate_L10]
    rw [if_neg (by simp)]
theorem spec_L16 (hp : pr4 p) (hW : W ≤ 1000) {l : List (List Int)} {row : List Int} (hl : ∀ r ∈ l, okRow p W r) (hlen : l.length ≤ 100000) (hr : okRow p W row) {v : Nat} (hv : v < W) (V : Int) (t6 s : ES) :
    spec_l21Eliminate_L16 fuel (p, V, (t6.1, (t6.2.1, t6.2.2)), (s.1, (s.2.1, s.2.2)), (v : Int), row, l, 0) = some (p, V, (t6.1, (t6.2.1, t6.2.2)), (s.1, (s.2.1, s.2.2)), (v : Int), row, l.map (lessR p row v)) := by
  have := forS l.length (fun f o i => spec_l21Eliminate_L16 f (p, V, (t6.1, (t6.2.1, t6.2.2)), (s.1, (s.2.1, s.2.2)), (v : Int), row, o, i)) (fun k => mix (fun q => lessR p row v (l.getD q [])) (fun q => l.getD q []) l.length k)
    (r := some (p, V, (t6.1, (t6.2.1, t6.2.2)), (s.1, (s.2.1, s.2.2)), (v : Int), row, l.map (lessR p row v))) (fun f k hk => ?_) (fun f => ?_) (n := fuel) (by unfold fuel; omega)
  · rw [mix_zero rfl] at this; exact this
  · have hml : (mix (fun q => lessR p row v (l.getD q [])) (fun q => l.getD q []) l.length k).length = l.length := mix_len
    have hin : k < (mix (fun q => lessR p row v (l.getD q [])) (fun q => l.getD q []) l.length k).length := by rw [hml]; exact hk
    have hg : (mix (fun q => lessR p row v (l.getD q [])) (fun q => l.getD q []) l.length k).getD k [] = l.getD k [] := by rw [mix_get hk, if_neg (by omega)]
    have hrk : okRow p W (l.getD k []) := by rw [getD_of hk]; exact hl _ (List.getElem_mem hk)
    have hvl : v < (l.getD k []).length := by rw [hrk.1]; exact hv
    have hst := mix_set (nw := fun q => lessR p row v (l.getD q [])) (old := fun q => l.getD q []) hk
    simp only [spec_l21Eliminate_L16, inb_nat, hin, gd_D, hg, hvl, spec_less_ok hp hW hrk hr hv, Option.bind_some, stt_nat, hst, if_true, w64_succ (show k < 4611686018427387904 by omega)]
    rw [if_pos (by rw [hml]; simp; omega)]
  · simp only [spec_l21Eliminate_L16, mix_len]
    rw [if_neg (by simp), mix_full]
    rw [map_rangeD (lessR p row v)]
theorem spec_L20 (hp : pr4 p) (hW : W ≤ 1000) {l : List (List Int)} {row : List Int} (hl : ∀ r ∈ l, okRow p W r) (hlen : l.length ≤ 100000) (hr : okRow p W row) {v : Nat} (hv : v < W) (V : Int) (t6 : ES) (b : List Int) (q : List (List Int)) (t12 : List (List Int)) :
    spec_l21Eliminate_L20 fuel (p, V, (t6.1, (t6.2.1, t6.2.2)), (l, (b, q)), (v : Int), row, t12, 0) = some (p, V, (t6.1, (t6.2.1, t6.2.2)), (l.map (lessR p row v), (b, q)), (v : Int), row, t12) := by
  have := forS l.length (fun f o i => spec_l21Eliminate_L20 f (p, V, (t6.1, (t6.2.1, t6.2.2)), (o, (b, q)), (v : Int), row, t12, i)) (fun k => mix (fun q => lessR p row v (l.getD q [])) (fun q => l.getD q []) l.length k)
    (r := some (p, V, (t6.1, (t6.2.1, t6.2.2)), (l.map (lessR p row v), (b, q)), (v : Int), row, t12)) (fun f k hk => ?_) (fun f => ?_) (n := fuel) (by unfold fuel; omega)
  · rw [mix_zero rfl] at this; exact this
  · have hml : (mix (fun q => lessR p row v (l.getD q [])) (fun q => l.getD q []) l.length k).length = l.length := mix_len
    have hin : k < (mix (fun q => lessR p row v (l.getD q [])) (fun q => l.getD q []) l.length k).length := by rw [hml]; exact hk
    have hg : (mix (fun q => lessR p row v (l.getD q [])) (fun q => l.getD q []) l.length k).getD k [] = l.getD k [] := by rw [mix_get hk, if_neg (by omega)]
    have hrk : okRow p W (l.getD k []) := by rw [getD_of hk]; exact hl _ (List.getElem_mem hk)
    have hvl : v < (l.getD k []).length := by rw [hrk.1]; exact hv
    have hst := mix_set (nw := fun q => lessR p row v (l.getD q [])) (old := fun q => l.getD q []) hk
    simp only [spec_l21Eliminate_L20, inb_nat, hin, gd_D, hg, hvl, spec_less_ok hp hW hrk hr hv, Option.bind_some, stt_nat, hst, if_true, w64_succ (show k < 4611686018427387904 by omega)]
    rw [if_pos (by rw [hml]; simp; omega)]
  · simp only [spec_l21Eliminate_L20, mix_len]
    rw [if_neg (by simp), mix_full]
    rw [map_rangeD (lessR p row v)]
theorem erase_take {l : List (List Int)} {k : Nat} : l.eraseIdx k = l.take k ++ l.drop (k + 1) := List.eraseIdx_eq_take_drop_succ l k
theorem spec_Eliminate_ok (hp : pr4 p) {V : Nat} (hVW : V ≤ W) (hW : W ≤ 1000) {rows : List (List Int)} (hr : ∀ r ∈ rows, okRow p W r) (hN : rows.length ≤ 100000) : spec_l21Eliminate p (V : Int) rows = some (elimF p rows V) := by
 unfold spec_l21Eliminate
 have h3 := forS rows.length (fun f o i => spec_l21Eliminate_L3 f (p, (V : Int), rows, ([], ([], [])), ([], ([], o)), i)) (fun k => rows.take k) (r := some (p, (V : Int), ([], ([], [])), ([], ([], rows)))) (fun f k hk => by
  have hrk := hr _ (List.getElem_mem hk)
  have hlr := hrk.1
  simp only [spec_l21Eliminate_L3, inb_nat, hk, gd_nat hk, spec_l1Own_ok (show rows[k].length ≤ 1099511627775 by omega), Option.bind_some, List.take_succ_eq_append_getElem hk, if_true, w64_succ (show k < 4611686018427387904 by omega)]
  rw [if_pos (by simp; omega), if_pos (by simp; unfold lim; omega)]) (fun f => by
  simp only [spec_l21Eliminate_L3, List.take_length]
  rw [if_neg (by simp)]) (n := fuel) (by unfold fuel; omega)
 have h3 : spec_l21Eliminate_L3 fuel (p, (V : Int), rows, ([], ([], [])), ([], ([], [])), 0) = _ := h3
 simp only [h3, Option.bind_some]
 have h7 := forS V (fun f (s : ES) i => spec_l21Eliminate_L7 f (p, (V : Int), ([], ([], [])), (s.1, (s.2.1, s.2.2)), i)) (fun v => elimF p rows v) (r := some (([], ([], [])), elimF p rows V)) (fun f v hv => ?_) (fun f => ?_) (n := fuel) (by unfold fuel; omega)
 ·have h7 : spec_l21Eliminate_L7 fuel (p, (V : Int), ([], ([], [])), ([], ([], rows)), 0) = _ := h7
  rw [h7]; rfl
 ·have hok := elimF_ok hp hr v (by omega)
  have hnx : elimF p rows (v + 1) = elimS p (elimF p rows v) v := by unfold elimF; rw [range_fold]
  rw [hnx]
  generalize elimF p rows v = s at hok
  have hn := hok.n
  have hbl := hok.bl
  have h10 := spec_L10 (V := V) hok (show v < W by omega) hN ([], ([], []))
  have h10 : spec_l21Eliminate_L10 fuel (p, (V : Int), ([], ([], [])), (s.1, (s.2.1, s.2.2)), (v : Int), 0) = _ := h10
  simp only [spec_l21Eliminate_L7, h10, Option.bind_some]
  rw [if_pos (by simp; omega)]
  by_cases hc : s.2.2.findIdx (nzB v) < s.2.2.length
  ·obtain ⟨f1, f2, f3⟩ := find_nz hc hok.l (show v < W by omega)
   obtain ⟨_, i1, i2, i3⟩ := inv_ok hp f1 f2
   have hsc := spec_scale_ok hp hW f3 (b := invP p ((s.2.2.getD (s.2.2.findIdx (nzB v)) []).getD v 0)) ⟨by omega, i3⟩
   have hrow := scale_ok hp f3 (b := invP p ((s.2.2.getD (s.2.2.findIdx (nzB v)) []).getD v 0)) ⟨by omega, i3⟩
   have hS : elimS p s v = (s.1.map (lessR p (scaleR p (invP p ((s.2.2.getD (s.2.2.findIdx (nzB v)) []).getD v 0)) (s.2.2.getD (s.2.2.findIdx (nzB v)) [])) v) ++ [scaleR p (invP p ((s.2.2.getD (s.2.2.findIdx (nzB v)) []).getD v 0)) (s.2.2.getD (s.2.2.findIdx (nzB v)) [])], s.2.1 ++ [(v : Int)], (s.2.2.eraseIdx (s.2.2.findIdx (nzB v))).map (lessR p (scaleR p (invP p ((s.2.2.getD (s.2.2.findIdx (nzB v)) []).getD v 0)) (s.2.2.getD (s.2.2.findIdx (nzB v)) [])) v)) := by
    unfold elimS; dsimp only; rw [if_pos hc]
   rw [hS]
   generalize hK : s.2.2.findIdx (nzB v) = K at *
   generalize hI : invP p ((s.2.2.getD K []).getD v 0) = I at *
   have hvl : v < (s.2.2.getD K []).length := by rw [f3.1]; omega
   have hoth : ([] ++ ((s.2.2.take (Int.toNat (K : Int))).drop (Int.toNat 0))) ++ ((s.2.2.take (Int.toNat (s.2.2.length : Int))).drop (Int.toNat (w64 ((K : Int) + 1)))) = s.2.2.eraseIdx K := by
    rw [w64_succ (show K < 4611686018427387904 by omega), erase_take]; simp
   have hel : (s.2.2.eraseIdx K).length ≤ 100000 := by have := List.length_eraseIdx_le s.2.2 K; omega
   have h16 := spec_L16 hp hW (l := s.2.2.eraseIdx K) (fun r h => hok.l r (List.mem_of_mem_eraseIdx h)) hel hrow (show v < W by omega) (V : Int) ([], ([], [])) s
   have h16 : spec_l21Eliminate_L16 fuel (p, (V : Int), ([], ([], [])), (s.1, (s.2.1, s.2.2)), (v : Int), scaleR p I (s.2.2.getD K []), s.2.2.eraseIdx K, 0) = _ := h16
   have h20 := spec_L20 hp hW (l := s.1) hok.t (by omega) hrow (show v < W by omega) (V : Int) ([], ([], [])) s.2.1 s.2.2 ((s.2.2.eraseIdx K).map (lessR p (scaleR p I (s.2.2.getD K [])) v))
   have h20 : spec_l21Eliminate_L20 fuel (p, (V : Int), ([], ([], [])), (s.1, (s.2.1, s.2.2)), (v : Int), scaleR p I (s.2.2.getD K []), (s.2.2.eraseIdx K).map (lessR p (scaleR p I (s.2.2.getD K [])) v), 0) = _ := h20
   rw [if_neg (by simp; omega)]
   simp only [inb_nat, hc, gd_D, hvl, if_true, i1, hsc, Option.bind_some, hoth, h16, h20, w64_succ (show v < 4611686018427387904 by omega)]
   rw [if_pos (by omega), if_pos (by simp; unfold lim; omega), if_pos (by rw [w64_succ (show K < 4611686018427387904 by omega)]; omega), if_pos (by rw [w64_succ (show K < 4611686018427387904 by omega)]; simp; unfold lim; omega), if_pos (by simp; unfold lim; omega), if_pos (by simp; unfold lim; omega)]
  ·have hS : elimS p s v = s := by unfold elimS; dsimp only; rw [if_neg hc]
   have hle := List.findIdx_le_length (xs := s.2.2) (p := nzB v)
   rw [hS, if_pos (by simp; omega)]
   simp only [w64_succ (show v < 4611686018427387904 by omega)]
 ·simp only [spec_l21Eliminate_L7]
  rw [if_neg (by simp)]
end
end T
open Go Go.Va
namespace T
def barr (V : Nat) (b : List Int) : List Int := (List.range V).map (posL b)
section
variable {p : Int} {W N V : Nat}
theorem posL_snoc {b : List Int} {x : Int} {u : Nat} : posL (b ++ [x]) u = if (u : Int) ∈ b then posL b u else if x = (u : Int) then (b.length : Int) else -1 := by
 unfold posL
 rw [List.findIdx?_append]
 by_cases h : (u : Int) ∈ b
 ·rw [if_pos h]
  have h1 : (b.findIdx? fun y => y == (u : Int)).isSome = true := by
   rw [List.findIdx?_isSome, List.any_eq_true]
   exact ⟨_, h, by simp⟩
  obtain ⟨i, hi⟩ := Option.isSome_iff_exists.1 h1
  rw [hi]; rfl
 ·rw [if_neg h]
  have h1 : (b.findIdx? fun y => y == (u : Int)) = none := by
   rw [List.findIdx?_eq_none_iff]
   intro y hy
   simp only [beq_eq_false_iff_ne]
   intro e; exact h (e ▸ hy)
  rw [h1]
  by_cases hx : x = (u : Int)
  ·rw [if_pos hx, hx]; simp [List.findIdx?_cons]
  ·rw [if_neg hx]
   have : (x == (u : Int)) = false := by simpa using hx
   simp [List.findIdx?_cons, this]
theorem barr_len {b : List Int} : (barr V b).length = V := by simp [barr]
theorem barr_get {b : List Int} {u : Nat} (h : u < V) : (barr V b).getD u 0 = posL b u := by rw [getD_of (by rw [barr_len]; exact h)]; simp [barr]
theorem posL_none {b : List Int} {u : Nat} (h : (u : Int) ∉ b) : posL b u = -1 := by
 unfold posL
 have h1 : (b.findIdx? fun y => y == (u : Int)) = none := by
  rw [List.findIdx?_eq_none_iff]
  intro y hy
  simp only [beq_eq_false_iff_ne]
  intro e; exact h (e ▸ hy)
 rw [h1]
theorem posL_at {b : List Int} {u : Nat} (h : (u : Int) ∈ b) : ∃ i, ∃ hi : i < b.length, posL b u = (i : Int) ∧ b[i] = (u : Int) := by
 unfold posL
 have h1 : (b.findIdx? fun y => y == (u : Int)).isSome = true := by
  rw [List.findIdx?_isSome, List.any_eq_true]
  exact ⟨_, h, by simp⟩
 obtain ⟨i, hi⟩ := Option.isSome_iff_exists.1 h1
 rw [hi]
 obtain ⟨g1, g2, _⟩ := List.findIdx?_eq_some_iff_getElem.1 hi
 exact ⟨i, g1, rfl, by simpa using g2⟩
theorem barr_set {b : List Int} {v : Nat} (hv : v < V) (hb : (v : Int) ∉ b) : (barr V b).set v (b.length : Int) = barr V (b ++ [(v : Int)]) := by
 unfold barr
 apply List.ext_getElem
 ·simp
 ·intro u h1 h2
  rw [List.getElem_set]
  simp only [List.getElem_map, List.getElem_range, posL_snoc]
  by_cases e : v = u
  ·subst e; rw [if_pos rfl, if_neg hb, if_pos rfl]
  ·rw [if_neg e]
   by_cases hu : (u : Int) ∈ b
   ·rw [if_pos hu]
   ·rw [if_neg hu, if_neg (by omega), posL_none hu]
theorem cloneRows_ok {rows : List (List Int)} (hN : rows.length ≤ 100000) (hr : ∀ r ∈ rows, r.length ≤ 100000) : impl_cloneRows rows = some rows := by
 unfold impl_cloneRows
 have := forS rows.length (fun f o i => impl_cloneRows_L3 f (o, rows, (rows.length : Int), i)) (fun k => rows.take k) (r := some rows) (fun f k hk => by
  have hl := hr _ (List.getElem_mem hk)
  have hcl : impl_clone rows[k] = some rows[k] := by
   unfold impl_clone
   rw [if_pos (by simp; unfold lim; omega)]; simp
  simp only [impl_cloneRows_L3, inb_nat, hk, gd_nat hk, hcl, Option.bind_some, List.take_succ_eq_append_getElem hk, if_true, w64_succ (show k < 4611686018427387904 by omega)]
  rw [if_pos (by simp; omega), if_pos (by simp; unfold lim; omega)]) (fun f => by
  simp only [impl_cloneRows_L3, List.take_length]
  rw [if_neg (by simp)]) (n := fuel) (by unfold fuel; omega)
 have this : impl_cloneRows_L3 fuel ([], rows, (rows.length : Int), 0) = _ := this
 rw [this]; rfl
theorem impl_L6 {t l : List (List Int)} {v : Nat} (hl : ∀ r ∈ l, okRow p W r) (hv : v < W) (hN : t.length + l.length ≤ 100000) (a b c : Int) (bd : List Int) :
    impl_eliminate_L6 fuel (p, (V : Int), (a, (b, (t ++ l, (c, bd)))), (v : Int), (t.length : Int)) = some (p, (V : Int), (a, (b, (t ++ l, (c, bd)))), (v : Int), ((t.length + l.findIdx (nzB v) : Nat) : Int)) := by
  have hlen : (t ++ l).length = t.length + l.length := List.length_append
  have key := fun P => seekX (l := l) v (fun f i => impl_eliminate_L6 f (p, (V : Int), (a, (b, (t ++ l, (c, bd)))), (v : Int), (t.length : Int) + i)) (fun k => (p, (V : Int), (a, (b, (t ++ l, (c, bd)))), (v : Int), ((t.length + k : Nat) : Int))) (fun f k hk => ?_) (fun f => ?_) l.length 0 fuel (by omega) P
  · have := key (by unfold fuel; omega)
    rw [List.drop_zero, Nat.zero_add] at this
    have e : ((t.length : Nat) : Int) + ((0 : Nat) : Int) = (t.length : Int) := by omega
    rw [e] at this
    exact this
  · have hr := hl _ (List.getElem_mem hk)
    have hkk : t.length + k < (t ++ l).length := by omega
    have hg : (t ++ l).getD (t.length + k) [] = l[k] := by rw [getD_of hkk, List.getElem_append_right (by omega)]; simp
    have hvl : v < l[k].length := by rw [hr.1]; exact hv
    have e : (t.length : Int) + (k : Int) = ((t.length + k : Nat) : Int) := by push_cast; rfl
    have e2 : (t.length : Int) + ((k + 1 : Nat) : Int) = ((t.length + k + 1 : Nat) : Int) := by push_cast; omega
    simp only [impl_eliminate_L6, e, e2, inb_nat, hkk, gd_D, hg, hvl, if_true, w64_succ (show t.length + k < 4611686018427387904 by omega)]
    rw [if_pos (decide_eq_true (Int.ofNat_lt.2 hkk))]
    unfold nzB
    by_cases hz : l[k].getD v 0 = 0
    · rw [if_pos (by simpa using hz), if_neg (by simpa using hz)]
    · rw [if_neg (by simpa using hz), if_pos (by simpa using hz)]
  · have e : (t.length : Int) + (l.length : Int) = ((t.length + l.length : Nat) : Int) := by push_cast; rfl
    simp only [impl_eliminate_L6, hlen, e]
    rw [if_neg (by simp)]
theorem impl_L14 (hp : pr4 p) (hW : W ≤ 1000) {R : List (List Int)} {T : Nat} (hT : T < R.length) (hr : okRow p W (R.getD T [])) {f0 : Int} (hf : 0 ≤ f0 ∧ f0 < p) (a b c : Int) (bd : List Int) (v : Int) :
    impl_eliminate_L14 fuel ((T : Int), p, (V : Int), (a, (b, (R, (c, bd)))), v, f0, ((R.getD T []).length : Int), 0) = some ((T : Int), p, (V : Int), (a, (b, (R.set T (scaleR p f0 (R.getD T [])), (c, bd)))), v) := by
  have hp0 : p ≠ 0 := by unfold pr4 at hp; omega
  generalize hq : R.getD T [] = r at hr
  have hrl := hr.1
  have := forS r.length (fun f (o : List (List Int)) i => impl_eliminate_L14 f ((T : Int), p, (V : Int), (a, (b, (o, (c, bd)))), v, f0, (r.length : Int), i)) (fun k => R.set T (mix (fun i => Int.tmod (r.getD i 0 * f0) p) (fun i => r.getD i 0) r.length k))
    (r := some ((T : Int), p, (V : Int), (a, (b, (R.set T (scaleR p f0 r), (c, bd)))), v)) (fun f k hk => ?_) (fun f => ?_) (n := fuel) (by unfold fuel; omega)
  · have e : R.set T (mix (fun i => Int.tmod (r.getD i 0 * f0) p) (fun i => r.getD i 0) r.length 0) = R := by
      rw [mix_zero rfl, ← hq, getD_of hT, List.set_getElem_self]
    rw [e] at this
    exact this
  · have hTl : T < (R.set T (mix (fun i => Int.tmod (r.getD i 0 * f0) p) (fun i => r.getD i 0) r.length k)).length := by simpa using hT
    have hg : gd (R.set T (mix (fun i => Int.tmod (r.getD i 0 * f0) p) (fun i => r.getD i 0) r.length k)) (T : Int) [] = mix (fun i => Int.tmod (r.getD i 0 * f0) p) (fun i => r.getD i 0) r.length k := by
      rw [gd_D, getD_of hTl]; simp
    have hkl : k < (mix (fun i => Int.tmod (r.getD i 0 * f0) p) (fun i => r.getD i 0) r.length k).length := by rw [mix_len]; exact hk
    have hgk : (mix (fun i => Int.tmod (r.getD i 0 * f0) p) (fun i => r.getD i 0) r.length k).getD k 0 = r.getD k 0 := by rw [mix_get hk, if_neg (by omega)]
    have hst := mix_set (nw := fun i => Int.tmod (r.getD i 0 * f0) p) (old := fun i => r.getD i 0) hk
    have h1 := ok_get hr (i := k) (by omega)
    have h4 := prod_le (a := r.getD k 0) (b := f0) (by omega) (by unfold pr4 at hp; omega) (by omega) (by unfold pr4 at hp; omega)
    simp only [impl_eliminate_L14, hg, inb_nat, hkl, gd_D, hgk, w64_small (x := r.getD k 0 * f0) (by omega) (by omega), stt_nat, List.set_set, hst, if_true, w64_succ (show k < 4611686018427387904 by omega)]
    rw [if_pos (by simp; omega), if_pos hp0]
  · simp only [impl_eliminate_L14, mix_full]
    rw [if_neg (by simp)]; rfl
theorem impl_L24 (hp : pr4 p) (hW : W ≤ 1000) {R : List (List Int)} {T K : Nat} (hT : T < R.length) (hK : K < R.length) (hne : K ≠ T) (hrT : okRow p W (R.getD T [])) (hrK : okRow p W (R.getD K [])) {v : Nat} (hv : v < W) (a b c : Int) (bd : List Int) (t130 t131 : Int) :
    impl_eliminate_L24 fuel ((T : Int), (K : Int), (), p, (V : Int), (a, (b, (R, (c, bd)))), (v : Int), (R.getD K []).getD v 0, t130, t131, ((R.getD K []).length : Int), 0) = some ((T : Int), (), p, (V : Int), (a, (b, (R.set K (lessR p (R.getD T []) v (R.getD K [])), (c, bd)))), (v : Int), t130, t131) := by
  have hp0 : p ≠ 0 := by unfold pr4 at hp; omega
  generalize hq : R.getD K [] = r at hrK
  generalize hq2 : R.getD T [] = row at hrT
  have hrl := hrK.1
  have := forS r.length (fun f (o : List (List Int)) i => impl_eliminate_L24 f ((T : Int), (K : Int), (), p, (V : Int), (a, (b, (o, (c, bd)))), (v : Int), r.getD v 0, t130, t131, (r.length : Int), i)) (fun k => R.set K (mix (fun i => Int.tmod (r.getD i 0 + (p - r.getD v 0) * row.getD i 0) p) (fun i => r.getD i 0) r.length k))
    (r := some ((T : Int), (), p, (V : Int), (a, (b, (R.set K (lessR p row v r), (c, bd)))), (v : Int), t130, t131)) (fun f k hk => ?_) (fun f => ?_) (n := fuel) (by unfold fuel; omega)
  · have e : R.set K (mix (fun i => Int.tmod (r.getD i 0 + (p - r.getD v 0) * row.getD i 0) p) (fun i => r.getD i 0) r.length 0) = R := by
      rw [mix_zero rfl, ← hq, getD_of hK, List.set_getElem_self]
    rw [e] at this
    exact this
  · have hKl : K < (R.set K (mix (fun i => Int.tmod (r.getD i 0 + (p - r.getD v 0) * row.getD i 0) p) (fun i => r.getD i 0) r.length k)).length := by simpa using hK
    have hTl : T < (R.set K (mix (fun i => Int.tmod (r.getD i 0 + (p - r.getD v 0) * row.getD i 0) p) (fun i => r.getD i 0) r.length k)).length := by simpa using hT
    have hg : gd (R.set K (mix (fun i => Int.tmod (r.getD i 0 + (p - r.getD v 0) * row.getD i 0) p) (fun i => r.getD i 0) r.length k)) (K : Int) [] = mix (fun i => Int.tmod (r.getD i 0 + (p - r.getD v 0) * row.getD i 0) p) (fun i => r.getD i 0) r.length k := by
      rw [gd_D, getD_of hKl]; simp
    have hg2 : gd (R.set K (mix (fun i => Int.tmod (r.getD i 0 + (p - r.getD v 0) * row.getD i 0) p) (fun i => r.getD i 0) r.length k)) (T : Int) [] = row := by
      have hRT : R[T] = row := by rw [getD_of hT] at hq2; exact hq2
      rw [gd_D, getD_of hTl, List.getElem_set_ne (by omega)]; exact hRT
    have hkl : k < (mix (fun i => Int.tmod (r.getD i 0 + (p - r.getD v 0) * row.getD i 0) p) (fun i => r.getD i 0) r.length k).length := by rw [mix_len]; exact hk
    have hkr : k < row.length := by rw [hrT.1]; omega
    have hgk : (mix (fun i => Int.tmod (r.getD i 0 + (p - r.getD v 0) * row.getD i 0) p) (fun i => r.getD i 0) r.length k).getD k 0 = r.getD k 0 := by rw [mix_get hk, if_neg (by omega)]
    have hst := mix_set (nw := fun i => Int.tmod (r.getD i 0 + (p - r.getD v 0) * row.getD i 0) p) (old := fun i => r.getD i 0) hk
    simp only [impl_eliminate_L24, hg, hg2, inb_nat, hkl, hkr, gd_D, hgk, less_w hp hrK hrT hv (show k < W by omega), stt_nat, List.set_set, hst, if_true, w64_succ (show k < 4611686018427387904 by omega)]
    rw [if_pos (by simp; omega), if_pos hp0]
  · simp only [impl_eliminate_L24, mix_full]
    rw [if_neg (by simp)]; rfl
def othR (p : Int) (R : List (List Int)) (T v k : Nat) : List Int := if k = T then R.getD k [] else lessR p (R.getD T []) v (R.getD k [])
theorem impl_L19 (hp : pr4 p) (hW : W ≤ 1000) {R : List (List Int)} {T : Nat} (hT : T < R.length) (hR : ∀ k, k < R.length → okRow p W (R.getD k [])) (hN : R.length ≤ 100000) {v : Nat} (hv : v < W) (a b : Int) (bd : List Int) :
    impl_eliminate_L19 fuel ((T : Int), (), p, (V : Int), (a, (b, (R, ((T : Int), bd)))), (v : Int), (R.length : Int), 0) = some (p, (V : Int), (a, (b, ((List.range R.length).map (othR p R T v), ((T : Int), bd)))), (v : Int)) := by
  have := forS R.length (fun f (o : List (List Int)) i => impl_eliminate_L19 f ((T : Int), (), p, (V : Int), (a, (b, (o, ((T : Int), bd)))), (v : Int), (R.length : Int), i)) (fun k => mix (othR p R T v) (fun k => R.getD k []) R.length k)
    (r := some (p, (V : Int), (a, (b, ((List.range R.length).map (othR p R T v), ((T : Int), bd)))), (v : Int))) (fun f k hk => ?_) (fun f => ?_) (n := fuel) (by unfold fuel; omega)
  · rw [mix_zero rfl] at this
    exact this
  · generalize hM : mix (othR p R T v) (fun k => R.getD k []) R.length k = M
    have hMl : M.length = R.length := by rw [← hM]; exact mix_len
    have hMk : M.getD k [] = R.getD k [] := by rw [← hM, mix_get hk, if_neg (by omega)]
    have hMT : M.getD T [] = R.getD T [] := by
      rw [← hM, mix_get hT]
      split
      · unfold othR; rw [if_pos rfl]
      · rfl
    have hin : k < M.length := by omega
    have hrk := hR k hk
    have hvl : v < (R.getD k []).length := by rw [hrk.1]; exact hv
    have hnx : k ≠ T → M.set k (lessR p (R.getD T []) v (R.getD k [])) = mix (othR p R T v) (fun k => R.getD k []) R.length (k + 1) := fun hne => by
      have := mix_set (nw := othR p R T v) (old := fun k => R.getD k []) hk
      rw [← this, hM]
      unfold othR; rw [if_neg hne]
    have hsame : othR p R T v k = R.getD k [] → mix (othR p R T v) (fun k => R.getD k []) R.length (k + 1) = M := fun h => by rw [mix_same hk h, hM]
    simp only [impl_eliminate_L19, inb_nat, hin, gd_D, hMk, hvl, if_true, w64_succ (show k < 4611686018427387904 by omega)]
    rw [if_pos (by simp; omega)]
    by_cases hkT : k = T
    · rw [if_neg (by simp [hkT]), hsame (by unfold othR; rw [if_pos hkT])]
    · rw [if_pos (by simp; omega)]
      by_cases hz : (R.getD k []).getD v 0 = 0
      · rw [if_neg (by simpa using hz), hsame (by unfold othR; rw [if_neg hkT, less_zero hp hrk (hR T hT) hz])]
      · rw [if_pos (by simpa using hz)]
        have h24 := impl_L24 (V := V) hp hW (R := M) (T := T) (K := k) (by omega) hin hkT (by rw [hMT]; exact hR T hT) (by rw [hMk]; exact hrk) hv a b (T : Int) bd (R.length : Int) (k : Int)
        rw [hMk, hMT] at h24
        simp only [h24, Option.bind_some, hnx hkT, w64_succ (show k < 4611686018427387904 by omega)]
  · simp only [impl_eliminate_L19, mix_full]
    rw [if_neg (by simp)]
theorem upL_app {t l : List (List Int)} {K : Nat} (hK : K < l.length) : upL (t ++ l) t.length (t.length + K) [] = t ++ l.getD K [] :: l.eraseIdx K := by
 unfold upL
 have e1 : (t ++ l).take t.length = t := by simp
 have e2 : (t ++ l).getD (t.length + K) [] = l.getD K [] := by
  rw [getD_of (by simp; omega), getD_of hK, List.getElem_append_right (by omega)]; simp
 have e3 : (t ++ l).drop t.length = l := by simp
 have e4 : (t ++ l).drop (t.length + K + 1) = l.drop (K + 1) := by
  rw [List.drop_append, List.drop_of_length_le (by omega), show t.length + K + 1 - t.length = K + 1 by omega]; rfl
 rw [e1, e2, e3, e4, Nat.add_sub_cancel_left, erase_take]
theorem impl_eliminate_ok (hp : pr4 p) (hVW : V ≤ W) (hW : W ≤ 1000) {rows : List (List Int)} (hr : ∀ r ∈ rows, okRow p W r) (hN : rows.length ≤ 100000) :
    impl_eliminate p (V : Int) rows = some (true, (p, ((V : Int), ((elimF p rows V).1 ++ (elimF p rows V).2.2, (((elimF p rows V).1.length : Int), barr V (elimF p rows V).2.1))))) := by
  unfold impl_eliminate
  rw [cloneRows_ok hN fun r h => by have := (hr r h).1; omega, freeI_ok (N := V) (by omega)]
  simp only [Option.bind_some]
  have h3 := forS V (fun f (s : List (List Int) × (Int × List Int)) i => impl_eliminate_L3 f (p, (V : Int), (p, ((V : Int), (s.1, (s.2.1, s.2.2)))), i)) (fun v => ((elimF p rows v).1 ++ (elimF p rows v).2.2, (((elimF p rows v).1.length : Int), barr V (elimF p rows v).2.1)))
    (r := some (p, ((V : Int), ((elimF p rows V).1 ++ (elimF p rows V).2.2, (((elimF p rows V).1.length : Int), barr V (elimF p rows V).2.1))))) (fun f v hv => ?_) (fun f => ?_) (n := fuel) (by unfold fuel; omega)
  · have e0 : barr V (elimF p rows 0).2.1 = List.replicate V (-1) := by
      apply List.ext_getElem
      · simp [barr]
      · intro i h1 h2
        have : posL ([] : List Int) i = -1 := posL_none (by simp)
        simp only [barr, elimF, List.range_zero, List.foldl_nil, List.getElem_map, List.getElem_range, this, List.getElem_replicate]
    have h3 : impl_eliminate_L3 fuel (p, (V : Int), (p, ((V : Int), (([] : List (List Int)) ++ rows, (0, barr V (elimF p rows 0).2.1)))), 0) = _ := h3
    rw [e0] at h3
    rw [List.nil_append] at h3
    rw [h3]; rfl
  · have hok := elimF_ok hp hr v (by omega)
    have hnx : elimF p rows (v + 1) = elimS p (elimF p rows v) v := by unfold elimF; rw [range_fold]
    rw [hnx]
    generalize elimF p rows v = s at hok
    have hn := hok.n
    have hbl := hok.bl
    obtain ⟨t, bo, l⟩ := s
    dsimp only at hn hbl hok ⊢
    have h6 := impl_L6 (V := V) (p := p) (W := W) (t := t) (l := l) (v := v) hok.l (show v < W by omega) (by omega) p (V : Int) (t.length : Int) (barr V bo)
    simp only [impl_eliminate_L3, h6, Option.bind_some]
    rw [if_pos (by simp; omega)]
    have hlen : (t ++ l).length = t.length + l.length := List.length_append
    by_cases hc : l.findIdx (nzB v) < l.length
    · obtain ⟨f1, f2, f3⟩ := find_nz hc hok.l (show v < W by omega)
      obtain ⟨i0, i1, i2, i3⟩ := inv_ok hp f1 f2
      have hrow := scale_ok hp f3 (b := invP p ((l.getD (l.findIdx (nzB v)) []).getD v 0)) ⟨by omega, i3⟩
      have hS : elimS p (t, bo, l) v = (t.map (lessR p (scaleR p (invP p ((l.getD (l.findIdx (nzB v)) []).getD v 0)) (l.getD (l.findIdx (nzB v)) [])) v) ++ [scaleR p (invP p ((l.getD (l.findIdx (nzB v)) []).getD v 0)) (l.getD (l.findIdx (nzB v)) [])], bo ++ [(v : Int)], (l.eraseIdx (l.findIdx (nzB v))).map (lessR p (scaleR p (invP p ((l.getD (l.findIdx (nzB v)) []).getD v 0)) (l.getD (l.findIdx (nzB v)) [])) v)) := by
        unfold elimS; dsimp only; rw [if_pos hc]
      rw [hS]
      generalize hK : l.findIdx (nzB v) = K at *
      generalize hx : l.getD K [] = x at *
      generalize hI : invP p (x.getD v 0) = I at *
      have hvx : v < x.length := by rw [f3.1]; omega
      have hup : upL (t ++ l) (Int.toNat (t.length : Int)) (Int.toNat ((t.length + K : Nat) : Int)) [] = t ++ x :: l.eraseIdx K := by
        rw [Int.toNat_natCast, Int.toNat_natCast, upL_app hc, hx]
      have hgx : gd (t ++ l) ((t.length + K : Nat) : Int) [] = x := by
        rw [gd_D, getD_of (by omega), List.getElem_append_right (by omega), ← hx, getD_of hc]; simp
      have hTl : t.length < (t ++ x :: l.eraseIdx K).length := by simp
      have hsx : stt (t ++ x :: l.eraseIdx K) (t.length : Int) x = t ++ x :: l.eraseIdx K := by
        rw [stt_nat]; simp
      have hgT : gd (t ++ x :: l.eraseIdx K) (t.length : Int) [] = x := by rw [gd_D, getD_of hTl]; simp
      have hgTD : (t ++ x :: l.eraseIdx K).getD t.length [] = x := hgT
      have w1 : w64 ((t.length : Int) + 1) = ((t.length + 1 : Nat) : Int) := w64_succ (by omega)
      have w2 : w64 (((t.length + K : Nat) : Int) + 1) = ((t.length + K + 1 : Nat) : Int) := w64_succ (by omega)
      have hR0l : (t ++ x :: l.eraseIdx K).length = rows.length := by
        have h9 : (l.eraseIdx K).length = l.length - 1 := List.length_eraseIdx_of_lt hc
        simp only [List.length_append, List.length_cons]; omega
      have h14 := impl_L14 (V := V) hp hW (R := t ++ x :: l.eraseIdx K) (T := t.length) hTl (by rw [hgTD]; exact f3) (f0 := I) ⟨by omega, i3⟩ p (V : Int) (t.length : Int) (barr V bo) (v : Int)
      rw [hgTD] at h14
      have hset : (t ++ x :: l.eraseIdx K).set t.length (scaleR p I x) = t ++ scaleR p I x :: l.eraseIdx K := by simp
      rw [hset] at h14
      have hR1 : ∀ k, k < (t ++ scaleR p I x :: l.eraseIdx K).length → okRow p W ((t ++ scaleR p I x :: l.eraseIdx K).getD k []) := fun k hk => by
        have hm : (t ++ scaleR p I x :: l.eraseIdx K).getD k [] ∈ t ++ scaleR p I x :: l.eraseIdx K := by rw [getD_of hk]; exact List.getElem_mem hk
        rcases List.mem_append.1 hm with h | h
        · exact hok.t _ h
        · rcases List.mem_cons.1 h with h | h
          · rw [h]; exact hrow
          · exact hok.l _ (List.mem_of_mem_eraseIdx h)
      have hR1l : (t ++ scaleR p I x :: l.eraseIdx K).length = rows.length := by rw [← hR0l]; simp
      have h19 := impl_L19 (V := V) hp hW (R := t ++ scaleR p I x :: l.eraseIdx K) (T := t.length) (by simp) hR1 (by omega) (show v < W by omega) p (V : Int) (barr V bo)
      have hfin : (List.range (t ++ scaleR p I x :: l.eraseIdx K).length).map (othR p (t ++ scaleR p I x :: l.eraseIdx K) t.length v) = (t.map (lessR p (scaleR p I x) v) ++ [scaleR p I x]) ++ (l.eraseIdx K).map (lessR p (scaleR p I x) v) := by
        have hgt : (t ++ scaleR p I x :: l.eraseIdx K).getD t.length [] = scaleR p I x := by rw [getD_of (by simp)]; simp
        rw [List.append_assoc, List.singleton_append]
        apply List.ext_getElem
        · simp
        · intro k h1 h2
          simp only [List.getElem_map, List.getElem_range]
          unfold othR
          rw [hgt]
          have hk : k < (t ++ scaleR p I x :: l.eraseIdx K).length := by simpa using h1
          by_cases c1 : k < t.length
          · rw [if_neg (by omega), getD_of hk, List.getElem_append_left c1, List.getElem_append_left (by simpa using c1), List.getElem_map]
          · by_cases c2 : k = t.length
            · subst c2
              rw [if_pos rfl, hgt, List.getElem_append_right (by simp)]; simp
            · rw [if_neg c2, getD_of hk, List.getElem_append_right (by omega), List.getElem_append_right (by simp; omega)]
              simp only [List.length_map]
              rw [List.getElem_cons, dif_neg (by omega), List.getElem_cons, dif_neg (by omega), List.getElem_map]
      rw [hfin] at h19
      have hvb : v < (barr V bo).length := by rw [barr_len]; exact hv
      have hnb : (v : Int) ∉ bo := fun h => by have := hok.bv _ h; omega
      have hbs : (barr V bo).set v (t.length : Int) = barr V (bo ++ [(v : Int)]) := by
        have := barr_set hv hnb
        rw [hbl] at this
        exact this
      rw [if_neg (by rw [hlen]; simp; omega), if_pos (by rw [inb_nat]; omega)]
      simp only [hup, hgx, hsx, hgT, inb_nat, hTl, hvx, i0, Option.bind_some, h14, h19, hvb, stt_nat, hbs, if_true, w1, w2, w64_succ (show v < 4611686018427387904 by omega)]
      rw [if_pos (by rw [hlen]; omega), if_pos (by rw [hlen]; omega)]
      have hgv : gd x (v : Int) 0 = x.getD v 0 := gd_D
      simp only [hgv, i0, Option.bind_some, h14]
      rw [if_pos ⟨by omega, by omega, trivial⟩]
      rw [h19]
      simp only [Option.bind_some, inb_nat, hvb, stt_nat, hbs, if_true, w1, w64_succ (show v < 4611686018427387904 by omega)]
      rw [show (List.map (lessR p (scaleR p I x) v) t ++ [scaleR p I x]).length = t.length + 1 by simp]
    · have hS : elimS p (t, bo, l) v = (t, bo, l) := by unfold elimS; dsimp only; rw [if_neg hc]
      have hle := List.findIdx_le_length (xs := l) (p := nzB v)
      rw [hS, if_pos (by rw [hlen]; simp; omega)]
      simp only [w64_succ (show v < 4611686018427387904 by omega)]
  · simp only [impl_eliminate_L3]
    rw [if_neg (by simp)]
end
end T
open Go Go.Va
namespace T
def freeL (N : Nat) (b : List Int) : List Int := ((List.range N).filter fun v : Nat => !decide ((v : Int) ∈ b)).map fun v : Nat => (v : Int)
theorem freeL_succ {N : Nat} {b : List Int} : freeL (N + 1) b = freeL N b ++ (if (N : Int) ∈ b then [] else [(N : Int)]) := by
 unfold freeL
 rw [List.range_succ, List.filter_append, List.map_append]
 congr 1
 by_cases h : (N : Int) ∈ b <;> simp [h]
theorem freeL_mem {N : Nat} {b : List Int} {x : Int} (h : x ∈ freeL N b) : ∃ u : Nat, u < N ∧ x = (u : Int) := by
 unfold freeL at h
 obtain ⟨u, hu, rfl⟩ := List.mem_map.1 h
 exact ⟨u, List.mem_range.1 (List.mem_filter.1 hu).1, rfl⟩
theorem freeL_le {N : Nat} {b : List Int} : (freeL N b).length ≤ N := by
 unfold freeL
 rw [List.length_map]
 have := List.length_filter_le (fun v : Nat => !decide ((v : Int) ∈ b)) (List.range N)
 rw [List.length_range] at this
 exact this
section
variable {p : Int} {W N V : Nat}
theorem posL_uniq {b : List Int} (hb : b.Nodup) {i : Nat} (hi : i < b.length) {u : Nat} (h : b[i] = (u : Int)) : posL b u = (i : Int) := by
 obtain ⟨j, hj, h1, h2⟩ := posL_at (b := b) (u := u) (h ▸ List.getElem_mem hi)
 rw [h1]
 rcases Nat.lt_trichotomy i j with h3 | h3 | h3
 ·exact absurd (h.trans h2.symm) (List.pairwise_iff_getElem.1 hb i j hi hj h3)
 ·rw [h3]
 ·exact absurd (h2.trans h.symm) (List.pairwise_iff_getElem.1 hb j i hj hi h3)
theorem posL_neg {b : List Int} {u : Nat} : posL b u < 0 ↔ (u : Int) ∉ b := by
 by_cases h : (u : Int) ∈ b
 ·obtain ⟨i, hi, h1, _⟩ := posL_at h
  rw [h1]; simp [h]
 ·rw [posL_none h]; simp [h]
def keptE (p : Int) (V : Nat) (s : ES) : Bool × Int × Int × List (List Int) × Int × List Int := (true, (p, ((V : Int), (s.1 ++ s.2.2, ((s.1.length : Int), barr V s.2.1)))))
def failB (V : Nat) (s : ES) : Bool := s.2.2.any (nzB V)
theorem fails_ok {s : ES} (hs : ESok p W N V s) (hV : V < W) (hN : N ≤ 100000) : impl_eliminated_fails_p (keptE p V s) = some (failB V s) := by
 obtain ⟨t, b, l⟩ := s
 have hn := hs.n
 dsimp only at hn
 unfold impl_eliminated_fails_p
 have e1 : (((t ++ l).take (Int.toNat ((t ++ l).length : Int))).drop (Int.toNat (t.length : Int))) = l := by rw [Int.toNat_natCast, Int.toNat_natCast, List.take_length]; simp
 have key := allX l (fun m i => impl_eliminated_fails_p_L2 m (keptE p V (t, b, l), l, (l.length : Int), i)) (fun r => !nzB V r) (.inr true) (.inl ()) (fun m k hk => ?_) (fun m => ?_) (n := fuel) (by unfold fuel; omega)
 ·have h1 : (keptE p V (t, b, l)).1 = true := rfl
  have h2 : (keptE p V (t, b, l)).2.2.2.1 = t ++ l := rfl
  have h3 : (keptE p V (t, b, l)).2.2.2.2.1 = (t.length : Int) := rfl
  rw [if_pos h1, if_pos h1, h2, h3, if_pos ⟨by omega, by rw [List.length_append]; omega, by omega⟩, e1, key]
  unfold failB
  have e : (l.all fun r => !nzB V r) = !(l.any (nzB V)) := by rw [List.not_any_eq_all_not]
  rw [e]
  cases l.any (nzB V) <;> simp
 ·have hr := hs.l _ (List.getElem_mem hk)
  have hvl : V < l[k].length := by rw [hr.1]; exact hV
  have h1 : (keptE p V (t, b, l)).1 = true := rfl
  have h2 : (keptE p V (t, b, l)).2.2.1 = (V : Int) := rfl
  simp only [impl_eliminated_fails_p_L2, inb_nat, hk, gd_nat hk, h1, h2, hvl, gd_D, if_true, w64_succ (show k < 4611686018427387904 by omega)]
  rw [if_pos (by simp; omega)]
  unfold nzB
  by_cases hz : l[k].getD V 0 = 0
  ·rw [if_neg (by simpa using hz), if_pos (by simpa using hz)]
  ·rw [if_pos (by simpa using hz), if_neg (by simpa using hz)]
 ·simp only [impl_eliminated_fails_p_L2]
  rw [if_neg (by simp)]
theorem empty_ok {s : ES} (hs : ESok p W N V s) (hV : V < W) (hN : N ≤ 100000) : spec_l21Empty s (V : Int) = some (failB V s) := by
 obtain ⟨t, b, l⟩ := s
 have hn := hs.n
 dsimp only at hn
 unfold spec_l21Empty
 have key := allX l (fun m i => spec_l21Empty_L2 m ((V : Int), (t, (b, l)), i)) (fun r => !nzB V r) (.inr true) (.inl ()) (fun m k hk => ?_) (fun m => ?_) (n := fuel) (by unfold fuel; omega)
 ·dsimp only
  rw [key]
  unfold failB
  have e : (l.all fun r => !nzB V r) = !(l.any (nzB V)) := by rw [List.not_any_eq_all_not]
  rw [e]
  cases l.any (nzB V) <;> simp
 ·have hr := hs.l _ (List.getElem_mem hk)
  have hvl : V < l[k].length := by rw [hr.1]; exact hV
  simp only [spec_l21Empty_L2, inb_nat, hk, gd_nat hk, hvl, gd_D, if_true, w64_succ (show k < 4611686018427387904 by omega)]
  rw [if_pos (by simp; omega)]
  unfold nzB
  by_cases hz : l[k].getD V 0 = 0
  ·rw [if_neg (by simpa using hz), if_pos (by simpa using hz)]
  ·rw [if_pos (by simpa using hz), if_neg (by simpa using hz)]
 ·simp only [spec_l21Empty_L2]
  rw [if_neg (by simp)]
theorem freeVars_ok {s : ES} (hV : V ≤ 1000) : impl_eliminated_freeVars_p (keptE p V s) = some (freeL V s.2.1) := by
 unfold impl_eliminated_freeVars_p
 have h1 : (keptE p V s).1 = true := rfl
 have h2 : (keptE p V s).2.2.2.2.2 = barr V s.2.1 := rfl
 have := forS V (fun f o i => impl_eliminated_freeVars_p_L3 f (o, barr V s.2.1, (V : Int), i)) (fun k => freeL k s.2.1) (r := some (freeL V s.2.1)) (fun f k hk => ?_) (fun f => ?_) (n := fuel) (by unfold fuel; omega)
 ·have this : impl_eliminated_freeVars_p_L3 fuel ([], barr V s.2.1, (V : Int), 0) = _ := this
  rw [if_pos h1, h2, barr_len, this]; rfl
 ·have hl : k < (barr V s.2.1).length := by rw [barr_len]; exact hk
  have hle := freeL_le (N := k) (b := s.2.1)
  simp only [impl_eliminated_freeVars_p_L3, inb_nat, hl, gd_D, barr_get hk, if_true, w64_succ (show k < 4611686018427387904 by omega), freeL_succ]
  rw [if_pos (by simp; omega)]
  by_cases hm : (k : Int) ∈ s.2.1
  ·rw [if_neg (by rw [decide_eq_true_iff, posL_neg]; exact fun h => h hm), if_pos hm, List.append_nil]
  ·rw [if_pos (by rw [decide_eq_true_iff, posL_neg]; exact hm), if_neg hm, if_pos (by simp; unfold lim; omega)]
 ·simp only [impl_eliminated_freeVars_p_L3]
  rw [if_neg (by simp)]
def solV (V : Nat) (s : ES) (u : Nat) : Int := if posL s.2.1 u < 0 then 0 else (s.1.getD (posL s.2.1 u).toNat []).getD V 0
def solL (V : Nat) (s : ES) : List Int := (List.range V).map (solV V s)
theorem getD_repl {V k : Nat} : (List.replicate V (0 : Int)).getD k 0 = 0 := by
 rw [List.getD_eq_getElem?_getD, List.getElem?_replicate]; split <;> rfl
theorem solution_ok (hp : pr4 p) {s : ES} (hs : ESok p W N V s) (hV : V < W) (hN : N ≤ 100000) (hW : W ≤ 1000) : impl_eliminated_solution_p (keptE p V s) (List.replicate V 0) = some (solL V s) := by
 have hp0 : p ≠ 0 := by unfold pr4 at hp; omega
 have hpb : 2 ≤ p ∧ p ≤ 7 := by unfold pr4 at hp; omega
 obtain ⟨t, b, l⟩ := s
 have hn := hs.n
 have hbl := hs.bl
 dsimp only at hn hbl
 generalize hE : keptE p V (t, b, l) = E
 have h1 : E.1 = true := by rw [← hE]; rfl
 have h2 : E.2.1 = p := by rw [← hE]; rfl
 have h3 : E.2.2.1 = (V : Int) := by rw [← hE]; rfl
 have h4 : E.2.2.2.1 = t ++ l := by rw [← hE]; rfl
 have h5 : E.2.2.2.2.2 = barr V b := by rw [← hE]; rfl
 have hfr : impl_eliminated_freeVars_p E = some (freeL V b) := by rw [← hE]; exact freeVars_ok (by omega)
 generalize hF : freeL V b = F at hfr
 have hFl : F.length ≤ V := by rw [← hF]; exact freeL_le
 have hFm : ∀ k (hk : k < F.length), ∃ u : Nat, u < V ∧ F[k] = (u : Int) := fun k hk => freeL_mem (b := b) (by rw [hF]; exact List.getElem_mem hk)
 have l4 := forS F.length (fun f (_ : Unit) i => impl_eliminated_solution_p_L4 f ((), E, List.replicate V (0 : Int), List.replicate V (0 : Int), F, (F.length : Int), i)) (fun _ => ()) (r := some (E, List.replicate V (0 : Int), List.replicate V (0 : Int), F)) (fun f k hk => by
  obtain ⟨u, hu, e⟩ := hFm k hk
  have hk2 : k < (List.replicate V (0 : Int)).length := by simp; omega
  have hu2 : u < (List.replicate V (0 : Int)).length := by simp; omega
  simp only [impl_eliminated_solution_p_L4, inb_nat, hk, gd_nat hk, e, hk2, hu2, gd_D, getD_repl, stt_nat, if_true, w64_succ (show k < 4611686018427387904 by omega)]
  rw [if_pos (by simp; omega), List.set_replicate_self]) (fun f => by
  simp only [impl_eliminated_solution_p_L4]
  rw [if_neg (by simp)]) (n := fuel) (by unfold fuel; omega)
 have l14 : ∀ (out : List Int) (v i : Nat) (x : Int), i < t.length → 0 ≤ x ∧ x < p → impl_eliminated_solution_p_L14 fuel ((), E, List.replicate V (0 : Int), out, F, (v : Int), (i : Int), x, barr V b, (V : Int), (v : Int), (F.length : Int), 0) = some (E, List.replicate V (0 : Int), out, F, (v : Int), x, barr V b, (V : Int), (v : Int)) := by
  intro out v i x hi hx
  refine forS F.length (fun f (_ : Unit) j => impl_eliminated_solution_p_L14 f ((), E, List.replicate V (0 : Int), out, F, (v : Int), (i : Int), x, barr V b, (V : Int), (v : Int), (F.length : Int), j)) (fun _ => ()) (r := some (E, List.replicate V (0 : Int), out, F, (v : Int), x, barr V b, (V : Int), (v : Int))) (fun f k hk => ?_) (fun f => ?_) (n := fuel) (by unfold fuel; omega)
  ·obtain ⟨u, hu, e⟩ := hFm k hk
   have hil : i < (t ++ l).length := by rw [List.length_append]; omega
   have hrow : okRow p W ((t ++ l).getD i []) := by rw [getD_of hil, List.getElem_append_left hi]; exact hs.t _ (List.getElem_mem hi)
   have hk2 : k < (List.replicate V (0 : Int)).length := by simp; omega
   have hul : u < ((t ++ l).getD i []).length := by rw [hrow.1]; omega
   simp only [impl_eliminated_solution_p_L14, inb_nat, hk, gd_nat hk, e, h1, h2, h4, hil, hul, hk2, gd_D, getD_repl, Int.mul_zero, if_true, w64_succ (show k < 4611686018427387904 by omega)]
   rw [if_pos (by simp; omega), w64_small (x := 0) (by omega) (by omega), Int.add_zero, w64_small (x := x) (by omega) (by omega)]
  ·simp only [impl_eliminated_solution_p_L14]
   rw [if_neg (by simp)]
 have l9 := forS V (fun f (o : List Int) i => impl_eliminated_solution_p_L9 f (E, List.replicate V (0 : Int), o, F, barr V b, (V : Int), i)) (fun v => mix (solV V (t, b, l)) (fun _ => 0) V v) (r := some (solL V (t, b, l))) (fun f v hv => ?_) (fun f => ?_) (n := fuel) (by unfold fuel; omega)
 ·have e0 : mix (solV V (t, b, l)) (fun _ => 0) V 0 = List.replicate V (0 : Int) := by
   apply List.ext_getElem
   ·rw [mix_len]; simp
   ·intro i _ _; simp [mix]
  rw [e0] at l9
  have l9 : impl_eliminated_solution_p_L9 fuel (E, List.replicate V (0 : Int), List.replicate V (0 : Int), F, barr V b, (V : Int), 0) = _ := l9
  have l4 : impl_eliminated_solution_p_L4 fuel ((), E, List.replicate V (0 : Int), List.replicate V (0 : Int), F, (F.length : Int), 0) = _ := l4
  unfold impl_eliminated_solution_p
  rw [if_pos h1, h3, if_pos (by unfold lim; omega), hfr]
  simp only [Option.bind_some, Int.toNat_natCast, l4]
  rw [if_pos h1, h5, barr_len, l9]; rfl
 ·have hvl : v < (barr V b).length := by rw [barr_len]; exact hv
  simp only [impl_eliminated_solution_p_L9, inb_nat, hvl, gd_D, barr_get hv, h1, h3, h4, if_true]
  rw [if_pos (by simp; omega)]
  by_cases hm : (v : Int) ∈ b
  ·obtain ⟨i, hi, g1, _⟩ := posL_at hm
   have hit : i < t.length := by omega
   have hil : i < (t ++ l).length := by rw [List.length_append]; omega
   have hg : (t ++ l).getD i [] = t.getD i [] := by rw [getD_of hil, List.getElem_append_left hit, getD_of hit]
   have hrow : okRow p W (t.getD i []) := by rw [getD_of hit]; exact hs.t _ (List.getElem_mem hit)
   have hx := ok_get hrow hV
   have hVl : V < (t.getD i []).length := by rw [hrow.1]; exact hV
   have hml : v < (mix (solV V (t, b, l)) (fun _ => 0) V v).length := by rw [mix_len]; exact hv
   have hsv : solV V (t, b, l) v = (t.getD i []).getD V 0 := by
    unfold solV; dsimp only; rw [g1, if_neg (by omega), Int.toNat_natCast]
   have hst := mix_set (nw := solV V (t, b, l)) (old := fun _ => (0 : Int)) hv
   rw [hsv] at hst
   rw [g1, if_neg (by simp)]
   simp only [inb_nat, hil, hg, gd_D, hVl, if_true, barr_len]
   rw [l14 _ v i _ hit hx]
   simp only [Option.bind_some, h1, h2, inb_nat, hml, if_true, stt_nat, w64_succ (show v < 4611686018427387904 by omega)]
   rw [if_pos hp0, Int.tmod_eq_of_lt hx.1 hx.2, hst]
  ·rw [if_pos (by rw [decide_eq_true_iff, posL_neg]; exact hm), mix_same hv (by unfold solV; rw [if_pos (posL_neg.2 hm)]), w64_succ (show v < 4611686018427387904 by omega)]
 ·simp only [impl_eliminated_solution_p_L9, mix_full]
  rw [if_neg (by simp)]; rfl
theorem least_ok (hp : pr4 p) {s : ES} (hs : ESok p W N V s) (hV : V < W) (hN : N ≤ 100000) (hW : W ≤ 1000) : impl_eliminated_leastSolution_p (keptE p V s) = some (if failB V s then ([], false) else (solL V s, true)) := by
 unfold impl_eliminated_leastSolution_p
 rw [fails_ok hs hV hN]
 simp only [Option.bind_some]
 cases failB V s with
 | true => rfl
 | false =>
  have h1 : (keptE p V s).1 = true := rfl
  have h3 : (keptE p V s).2.2.1 = (V : Int) := rfl
  simp only [Bool.false_eq_true, if_false]
  rw [if_pos h1, h3, if_pos (by unfold lim; omega), Int.toNat_natCast, solution_ok hp hs hV hN hW]; rfl
theorem solve_ok (hp : pr4 p) (hV : V < W) (hW : W ≤ 1000) {rows : List (List Int)} (hr : ∀ r ∈ rows, okRow p W r) (hN : rows.length ≤ 100000) : spec_l21Solve p (V : Int) rows = some (if failB V (elimF p rows V) then ([], false) else (solL V (elimF p rows V), true)) := by
 unfold spec_l21Solve
 have hs := elimF_ok hp hr V (by omega)
 rw [spec_Eliminate_ok hp (by omega) hW hr hN]
 simp only [Option.bind_some]
 generalize elimF p rows V = s at hs
 have he := empty_ok hs hV hN
 have he : spec_l21Empty (s.1, (s.2.1, s.2.2)) (V : Int) = _ := he
 rw [he]
 simp only [Option.bind_some]
 cases failB V s with
 | true => rfl
 | false =>
  simp only [Bool.false_eq_true, if_false]
  rw [if_pos (by unfold lim; omega), Int.toNat_natCast]
  have hbl := hs.bl
  have hn := hs.n
  have l6 := forS s.2.1.length (fun f (o : List Int) i => spec_l21Solve_L6 f ((V : Int), (s.1, (s.2.1, s.2.2)), o, i)) (fun j => (List.range V).map fun u => if 0 ≤ posL s.2.1 u ∧ posL s.2.1 u < (j : Int) then (s.1.getD (posL s.2.1 u).toNat []).getD V 0 else 0) (r := some (solL V s)) (fun f j hj => ?_) (fun f => ?_) (n := fuel) (by unfold fuel; omega)
  ·have e0 : ((List.range V).map fun u => if 0 ≤ posL s.2.1 u ∧ posL s.2.1 u < ((0 : Nat) : Int) then (s.1.getD (posL s.2.1 u).toNat []).getD V 0 else 0) = List.replicate V (0 : Int) := by
    apply List.ext_getElem
    ·simp
    ·intro i _ _
     simp only [List.getElem_map, List.getElem_range, List.getElem_replicate]
     rw [if_neg (by omega)]
   rw [e0] at l6
   have l6 : spec_l21Solve_L6 fuel ((V : Int), (s.1, (s.2.1, s.2.2)), List.replicate V (0 : Int), 0) = _ := l6
   rw [l6]; rfl
  ·have hbv := hs.bv _ (List.getElem_mem hj)
   obtain ⟨u, hu⟩ : ∃ u : Nat, s.2.1[j] = (u : Int) := ⟨s.2.1[j].toNat, by omega⟩
   have hpu := posL_uniq hs.bn hj hu
   have hj1 : j < s.1.length := by omega
   have hrow : okRow p W (s.1.getD j []) := by rw [getD_of hj1]; exact hs.t _ (List.getElem_mem hj1)
   have hVl : V < (s.1.getD j []).length := by rw [hrow.1]; exact hV
   have huV : u < V := by omega
   simp only [spec_l21Solve_L6, inb_nat, hj, hj1, gd_nat hj, hu, gd_D, hVl, if_true, stt_nat, w64_succ (show j < 4611686018427387904 by omega)]
   rw [if_pos (by simp; omega), if_pos (by simp; omega)]
   congr 1
   refine congrArg (fun o => ((V : Int), (s.1, (s.2.1, s.2.2)), o, ((j + 1 : Nat) : Int))) ?_
   apply List.ext_getElem
   ·simp
   ·intro w h1 h2
    rw [List.getElem_set]
    simp only [List.getElem_map, List.getElem_range]
    by_cases e : u = w
    ·subst e
     rw [if_pos rfl, hpu, if_pos (by omega), Int.toNat_natCast]
    ·rw [if_neg e]
     have hne : posL s.2.1 w ≠ (j : Int) := fun h => by
      have hm : (w : Int) ∈ s.2.1 := by
       by_cases hm : (w : Int) ∈ s.2.1
       ·exact hm
       ·rw [posL_none hm] at h; omega
      obtain ⟨i, hi, g1, g2⟩ := posL_at hm
      have : i = j := by omega
      subst this
      rw [hu] at g2; omega
     by_cases c : 0 ≤ posL s.2.1 w ∧ posL s.2.1 w < (j : Int)
     ·rw [if_pos c, if_pos (by omega)]
     ·rw [if_neg c, if_neg (by omega)]
  ·simp only [spec_l21Solve_L6]
   rw [if_neg (by simp)]
   unfold solL
   congr 1
   refine List.map_congr_left fun u _ => ?_
   unfold solV
   by_cases hm : (u : Int) ∈ s.2.1
   ·obtain ⟨i, hi, g1, _⟩ := posL_at hm
    rw [g1, if_pos (by omega), if_neg (by omega)]
   ·rw [posL_none hm, if_neg (by omega), if_pos (by omega)]
end
end T
open Go Go.Va
namespace T
section
variable {a : Lin}
theorem spec_l21Good_ok (h : linS a) : spec_l21Good a = some (goodB a) := by
 have := spec_IsLinear_ok h
 unfold spec_IsLinear at this
 have e : spec_l21Good (a.1, (a.2.1, a.2.2)) = spec_l21Good a := rfl
 rw [e] at this
 cases hg : spec_l21Good a with
 | none => rw [hg] at this; cases this
 | some b => rw [hg] at this; exact this
theorem lin_of (h : goodB a = true) : pr4 a.1 ∧ ∃ V : Nat, a.2.1 = (V : Int) ∧ V ≤ 8 ∧ a.2.2.length ≤ 8 ∧ ∀ r ∈ a.2.2, okRow a.1 (V + 1) r := by
 unfold goodB at h
 simp only [Bool.and_eq_true, decide_eq_true_eq, List.all_eq_true] at h
 obtain ⟨⟨⟨h1, h2⟩, h3⟩, h4⟩ := h
 refine ⟨by unfold primeB at h1; simp at h1; unfold pr4; omega, a.2.1.toNat, by omega, by omega, h3, fun r hr => ?_⟩
 obtain ⟨g1, g2⟩ := h4 r hr
 unfold belowB at g2
 exact ⟨by omega, fun x hx => by simpa using List.all_eq_true.1 g2 x hx⟩
theorem elim_kept {p : Int} {W V : Nat} (hp : pr4 p) (hV : V ≤ W) (hW : W ≤ 1000) {rows : List (List Int)} (hr : ∀ r ∈ rows, okRow p W r) (hN : rows.length ≤ 100000) : impl_eliminate p (V : Int) rows = some (keptE p V (elimF p rows V)) := impl_eliminate_ok hp hV hW hr hN
def colR (rows : List (List Int)) (V v : Nat) : List Int := (rows.map fun r => r.getD v 0) ++ [if v = V then 1 else 0]
theorem colR_ok {p : Int} (hp : pr4 p) {rows : List (List Int)} {V : Nat} (hr : ∀ r ∈ rows, okRow p (V + 1) r) : ∀ r ∈ (List.range (V + 1)).map (colR rows V), okRow p (rows.length + 1) r := fun r h => by
 obtain ⟨v, hv, rfl⟩ := List.mem_map.1 h
 have hv := List.mem_range.1 hv
 refine ⟨by simp [colR], fun x hx => ?_⟩
 unfold colR at hx
 unfold pr4 at hp
 rcases List.mem_append.1 hx with hx | hx
 ·obtain ⟨q, hq, rfl⟩ := List.mem_map.1 hx
  exact ok_get (hr q hq) hv
 ·rw [List.mem_singleton.1 hx]; split <;> omega
theorem impl_cols {p : Int} {rows : List (List Int)} {V : Nat} (hV : V ≤ 8) (hN : rows.length ≤ 8) (hr : ∀ r ∈ rows, okRow p (V + 1) r) : impl_RefuteLinear_L5 fuel ((p, ((V : Int), rows)), [], 0) = some ((p, ((V : Int), rows)), (List.range (V + 1)).map (colR rows V)) := by
 have := forS (V + 1) (fun f o i => impl_RefuteLinear_L5 f ((p, ((V : Int), rows)), o, i)) (fun k => (List.range k).map (colR rows V)) (r := some ((p, ((V : Int), rows)), (List.range (V + 1)).map (colR rows V))) (fun f v hv => ?_) (fun f => ?_) (n := fuel) (by unfold fuel; omega)
 ·exact this
 ·have l9 := forS rows.length (fun f o i => impl_RefuteLinear_L9 f ((p, ((V : Int), rows)), (List.range v).map (colR rows V), (v : Int), o, rows, (rows.length : Int), i)) (fun k => (rows.take k).map fun r => r.getD v 0) (r := some ((p, ((V : Int), rows)), (List.range v).map (colR rows V), (v : Int), rows.map fun r => r.getD v 0)) (fun f k hk => by
   have hvl : v < rows[k].length := by rw [(hr _ (List.getElem_mem hk)).1]; exact hv
   simp only [impl_RefuteLinear_L9, inb_nat, hk, gd_nat hk, hvl, gd_D, List.take_succ_eq_append_getElem hk, List.map_append, List.map_cons, List.map_nil, if_true, w64_succ (show k < 4611686018427387904 by omega)]
   rw [if_pos (by simp; omega), if_pos (by simp; unfold lim; omega)]) (fun f => by
   simp only [impl_RefuteLinear_L9, List.take_length]
   rw [if_neg (by simp)]) (n := fuel) (by unfold fuel; omega)
  have l9 : impl_RefuteLinear_L9 fuel ((p, ((V : Int), rows)), (List.range v).map (colR rows V), (v : Int), [], rows, (rows.length : Int), 0) = _ := l9
  simp only [impl_RefuteLinear_L5, l9, Option.bind_some, List.range_succ, List.map_append, List.map_cons, List.map_nil, w64_succ (show v < 4611686018427387904 by omega)]
  rw [if_pos (by simp; omega)]
  by_cases e : v = V
  ·rw [if_pos (by subst e; exact beq_self_eq_true _), if_pos (by simp; unfold lim; omega), if_pos (by simp; unfold lim; omega)]
   unfold colR
   rw [if_pos e]
  ·rw [if_neg (by rw [beq_iff_eq]; omega), if_pos (by simp; unfold lim; omega), if_pos (by simp; unfold lim; omega)]
   have : colR rows V v = (rows.map fun r => r.getD v 0) ++ [0] := by unfold colR; rw [if_neg e]
   rw [this]
 ·simp only [impl_RefuteLinear_L5]
  rw [if_neg (by simp; omega)]
theorem spec_cols {p : Int} {rows : List (List Int)} {V : Nat} (hV : V ≤ 8) (hN : rows.length ≤ 8) (hr : ∀ r ∈ rows, okRow p (V + 1) r) : spec_RefuteLinear_L5 fuel ((p, ((V : Int), rows)), [], 0) = some ((p, ((V : Int), rows)), (List.range (V + 1)).map (colR rows V)) := by
 have := forS (V + 1) (fun f o i => spec_RefuteLinear_L5 f ((p, ((V : Int), rows)), o, i)) (fun k => (List.range k).map (colR rows V)) (r := some ((p, ((V : Int), rows)), (List.range (V + 1)).map (colR rows V))) (fun f v hv => ?_) (fun f => ?_) (n := fuel) (by unfold fuel; omega)
 ·exact this
 ·have l9 := forS rows.length (fun f o i => spec_RefuteLinear_L9 f ((p, ((V : Int), rows)), (List.range v).map (colR rows V), (v : Int), o, i)) (fun k => (rows.take k).map fun r => r.getD v 0) (r := some ((p, ((V : Int), rows)), (List.range v).map (colR rows V), (v : Int), rows.map fun r => r.getD v 0)) (fun f k hk => by
   have hvl : v < rows[k].length := by rw [(hr _ (List.getElem_mem hk)).1]; exact hv
   simp only [spec_RefuteLinear_L9, inb_nat, hk, gd_nat hk, hvl, gd_D, List.take_succ_eq_append_getElem hk, List.map_append, List.map_cons, List.map_nil, if_true, w64_succ (show k < 4611686018427387904 by omega)]
   rw [if_pos (by simp; omega), if_pos (by simp; unfold lim; omega)]) (fun f => by
   simp only [spec_RefuteLinear_L9, List.take_length]
   rw [if_neg (by simp)]) (n := fuel) (by unfold fuel; omega)
  have l9 : spec_RefuteLinear_L9 fuel ((p, ((V : Int), rows)), (List.range v).map (colR rows V), (v : Int), [], 0) = _ := l9
  simp only [spec_RefuteLinear_L5, l9, Option.bind_some, List.range_succ, List.map_append, List.map_cons, List.map_nil, w64_succ (show v < 4611686018427387904 by omega)]
  rw [if_pos (by simp; omega)]
  by_cases e : v = V
  ·rw [if_pos (by subst e; exact beq_self_eq_true _), if_pos (by simp; unfold lim; omega), if_pos (by simp; unfold lim; omega)]
   unfold colR
   rw [if_pos e]
  ·rw [if_neg (by rw [beq_iff_eq]; omega), if_pos (by simp; unfold lim; omega), if_pos (by simp; unfold lim; omega)]
   have : colR rows V v = (rows.map fun r => r.getD v 0) ++ [0] := by unfold colR; rw [if_neg e]
   rw [this]
 ·simp only [spec_RefuteLinear_L5]
  rw [if_neg (by simp; omega)]
end
end T
open Go Go.Va
namespace T
def cg (p a b : Int) : Prop := ∃ k, a = b + p * k
section
variable {p a b c d : Int}
theorem cg_of (h : a = b) : cg p a b := ⟨0, by rw [h]; simp⟩
theorem cg_symm (h : cg p a b) : cg p b a := by obtain ⟨k, h⟩ := h; exact ⟨-k, by grind⟩
theorem cg_trans (h : cg p a b) (g : cg p b c) : cg p a c := by obtain ⟨k, h⟩ := h; obtain ⟨m, g⟩ := g; exact ⟨k + m, by grind⟩
theorem cg_add (h : cg p a b) (g : cg p c d) : cg p (a + c) (b + d) := by obtain ⟨k, h⟩ := h; obtain ⟨m, g⟩ := g; exact ⟨k + m, by grind⟩
theorem cg_mul (x : Int) (h : cg p a b) : cg p (x * a) (x * b) := by obtain ⟨k, h⟩ := h; exact ⟨x * k, by grind⟩
theorem cg_mulr (x : Int) (h : cg p a b) : cg p (a * x) (b * x) := by obtain ⟨k, h⟩ := h; exact ⟨x * k, by grind⟩
theorem cg_mod {x : Int} (h0 : 0 ≤ x) : cg p (Int.tmod x p) x := by
 rw [Int.tmod_eq_emod_of_nonneg h0]
 have := Int.emod_add_mul_ediv x p
 exact ⟨-(x / p), by grind⟩
theorem cg_eq (h : cg p a b) (ha : 0 ≤ a ∧ a < p) (hb : 0 ≤ b ∧ b < p) : a = b := by
 obtain ⟨k, h⟩ := h
 have h1 := Int.emod_eq_of_lt ha.1 ha.2
 have h2 := Int.emod_eq_of_lt hb.1 hb.2
 rw [h, Int.add_mul_emod_self_left, h2] at h1
 rw [h1] at h2 ⊢
 omega
end
inductive Sp (p : Int) (V : Nat) (A : List (List Int)) : (Nat → Int) → Prop
 | zero : Sp p V A fun _ => 0
 | add {f : Nat → Int} (r : List Int) (c : Int) : r ∈ A → Sp p V A f → Sp p V A fun i => f i + c * r.getD i 0
 | cgr {f g : Nat → Int} : Sp p V A f → (∀ i, i < V → cg p (g i) (f i)) → Sp p V A g
section
variable {p : Int} {V W N : Nat} {A B : List (List Int)} {f g : Nat → Int}
theorem Sp.lin (hf : Sp p V A f) (hg : Sp p V A g) (c : Int) : Sp p V A fun i => f i + c * g i := by
 induction hg with
 | zero => exact hf.cgr fun i _ => cg_of (by simp)
 | add r d hr _ ih => exact (ih.add r (c * d) hr).cgr fun i _ => cg_of (by grind)
 | cgr _ h ih => exact ih.cgr fun i hi => cg_add (cg_of rfl) (cg_mul c (h i hi))
theorem Sp.mem {r : List Int} (h : r ∈ A) : Sp p V A fun i => r.getD i 0 := (Sp.add r 1 h .zero).cgr fun i _ => cg_of (by simp)
theorem Sp.sub (h : ∀ r ∈ A, Sp p V B fun i => r.getD i 0) (hf : Sp p V A f) : Sp p V B f := by
 induction hf with
 | zero => exact .zero
 | add r c hr _ ih => exact ih.lin (h r hr) c
 | cgr _ h ih => exact ih.cgr h
def eqSp (p : Int) (V : Nat) (A B : List (List Int)) : Prop := ∀ f, Sp p V A f ↔ Sp p V B f
theorem eqSp_of (h : ∀ r ∈ A, Sp p V B fun i => r.getD i 0) (g : ∀ r ∈ B, Sp p V A fun i => r.getD i 0) : eqSp p V A B := fun _ => ⟨Sp.sub h, Sp.sub g⟩
theorem less_get {row r : List Int} {v i : Nat} (h : i < r.length) : (lessR p row v r).getD i 0 = Int.tmod (r.getD i 0 + (p - r.getD v 0) * row.getD i 0) p := by
 rw [getD_of (by unfold lessR; simp; exact h)]; simp [lessR]
theorem scale_get {r : List Int} {b : Int} {i : Nat} (h : i < r.length) : (scaleR p b r).getD i 0 = Int.tmod (r.getD i 0 * b) p := by
 rw [getD_of (by unfold scaleR; simp; exact h)]; simp [scaleR]
theorem less_cg (hp : pr4 p) {row r : List Int} {v i : Nat} (h : okRow p W r) (hr : okRow p W row) (hv : v < W) (hi : i < W) : cg p ((lessR p row v r).getD i 0) (r.getD i 0 + (p - r.getD v 0) * row.getD i 0) := by
 rw [less_get (by rw [h.1]; exact hi)]
 have h1 := ok_get h hi
 have h2 := ok_get hr hi
 have h3 := ok_get h hv
 have := Int.mul_nonneg (show 0 ≤ p - r.getD v 0 by omega) h2.1
 exact cg_mod (by omega)
theorem scale_cg {r : List Int} {b : Int} {i : Nat} (h : okRow p W r) (hb : 0 ≤ b) (hi : i < W) : cg p ((scaleR p b r).getD i 0) (r.getD i 0 * b) := by
 rw [scale_get (by rw [h.1]; exact hi)]
 exact cg_mod (Int.mul_nonneg (ok_get h hi).1 hb)
theorem inv_one : ∀ p : Fin 8, ∀ x : Fin 8, (p.val = 2 ∨ p.val = 3 ∨ p.val = 5 ∨ p.val = 7) → 0 < x.val → x.val < p.val → Int.tmod ((x.val : Int) * invP (p.val : Int) (x.val : Int)) (p.val : Int) = 1 := by decide +kernel
theorem inv_mul {x : Int} (hp : pr4 p) (h0 : 0 < x) (h1 : x < p) : Int.tmod (x * invP p x) p = 1 := by
 unfold pr4 at hp
 have := inv_one ⟨p.toNat, by omega⟩ ⟨x.toNat, by omega⟩ (by simp; omega) (by simp; omega) (by simp; omega)
 simp only [Int.toNat_of_nonneg (show 0 ≤ p by omega), Int.toNat_of_nonneg (show 0 ≤ x by omega)] at this
 exact this
def pivR (p : Int) (s : ES) (v : Nat) : List Int := scaleR p (invP p ((s.2.2.getD (s.2.2.findIdx (nzB v)) []).getD v 0)) (s.2.2.getD (s.2.2.findIdx (nzB v)) [])
theorem elimS_pos {s : ES} {v : Nat} (hc : s.2.2.findIdx (nzB v) < s.2.2.length) : elimS p s v = (s.1.map (lessR p (pivR p s v) v) ++ [pivR p s v], s.2.1 ++ [(v : Int)], (s.2.2.eraseIdx (s.2.2.findIdx (nzB v))).map (lessR p (pivR p s v) v)) := by
 unfold elimS pivR; dsimp only; rw [if_pos hc]
theorem elimS_neg {s : ES} {v : Nat} (hc : ¬ s.2.2.findIdx (nzB v) < s.2.2.length) : elimS p s v = s := by
 unfold elimS; dsimp only; rw [if_neg hc]
theorem piv_ok (hp : pr4 p) {s : ES} {v : Nat} (hs : ESok p W N v s) (hv : v < W) (hc : s.2.2.findIdx (nzB v) < s.2.2.length) :
    okRow p W (pivR p s v) ∧ (pivR p s v).getD v 0 = 1 ∧ (∀ V, Sp p V (s.1 ++ s.2.2) fun i => if i < W then (pivR p s v).getD i 0 else (pivR p s v).getD i 0) ∧ ∃ x ∈ s.2.2, ∃ b, 0 ≤ b ∧ b < p ∧ pivR p s v = scaleR p b x ∧ okRow p W x ∧ x = s.2.2.getD (s.2.2.findIdx (nzB v)) [] := by
  obtain ⟨f1, f2, f3⟩ := find_nz hc hs.l hv
  obtain ⟨_, _, i2, i3⟩ := inv_ok hp f1 f2
  have hm : s.2.2.getD (s.2.2.findIdx (nzB v)) [] ∈ s.2.2 := by rw [getD_of hc]; exact List.getElem_mem hc
  have him := inv_mul hp f1 f2
  unfold pivR
  generalize s.2.2.getD (s.2.2.findIdx (nzB v)) [] = x at *
  generalize invP p (x.getD v 0) = I at *
  refine ⟨scale_ok hp f3 ⟨by omega, i3⟩, ?_, fun V => ?_, x, hm, I, by omega, i3, rfl, f3, rfl⟩
  · rw [scale_get (by rw [f3.1]; exact hv)]; exact him
  · have h1 : Sp p V (s.1 ++ s.2.2) fun i => 0 + I * x.getD i 0 := Sp.add x I (List.mem_append_right _ hm) .zero
    refine h1.cgr fun i hi => ?_
    simp only [ite_self]
    by_cases h : i < W
    · exact cg_trans (scale_cg f3 (by omega) h) (cg_of (by grind))
    · have e1 : (scaleR p I x).getD i 0 = 0 := by rw [List.getD_eq_getElem?_getD, List.getElem?_eq_none (by unfold scaleR; simp; rw [f3.1]; omega)]; rfl
      have e2 : x.getD i 0 = 0 := by rw [List.getD_eq_getElem?_getD, List.getElem?_eq_none (by rw [f3.1]; omega)]; rfl
      rw [e1, e2]; exact cg_of (by simp)
theorem step_sp (hp : pr4 p) {s : ES} {v : Nat} (hs : ESok p W N v s) (hv : v < W) (hVW : V ≤ W) : eqSp p V (s.1 ++ s.2.2) ((elimS p s v).1 ++ (elimS p s v).2.2) := by
 by_cases hc : s.2.2.findIdx (nzB v) < s.2.2.length
 ·obtain ⟨o1, o2, o3, x, hx, b, hb0, hb1, o4, o5, o6⟩ := piv_ok hp hs hv hc
  rw [elimS_pos hc]
  have hrow := o3 V
  simp only [ite_self] at hrow
  generalize hP : pivR p s v = P at *
  have hless : ∀ r, okRow p W r → Sp p V (s.1 ++ s.2.2) (fun i => r.getD i 0) → Sp p V (s.1 ++ s.2.2) fun i => (lessR p P v r).getD i 0 := fun r hr hsp => (hsp.lin hrow (p - r.getD v 0)).cgr fun i hi => less_cg hp hr o1 hv (by omega)
  have hokm : ∀ r ∈ s.1 ++ s.2.2, okRow p W r := fun r hr => by
   rcases List.mem_append.1 hr with h | h
   ·exact hs.t r h
   ·exact hs.l r h
  refine eqSp_of (fun r hr => ?_) (fun r hr => ?_)
  ·have hP2 : Sp p V ((s.1.map (lessR p P v) ++ [P]) ++ (s.2.2.eraseIdx (s.2.2.findIdx (nzB v))).map (lessR p P v)) fun i => P.getD i 0 := Sp.mem (by simp)
   have back : ∀ r, okRow p W r → lessR p P v r ∈ (s.1.map (lessR p P v) ++ [P]) ++ (s.2.2.eraseIdx (s.2.2.findIdx (nzB v))).map (lessR p P v) → Sp p V ((s.1.map (lessR p P v) ++ [P]) ++ (s.2.2.eraseIdx (s.2.2.findIdx (nzB v))).map (lessR p P v)) fun i => r.getD i 0 := fun r hr hm => by
    refine ((Sp.mem hm).lin hP2 (r.getD v 0 - p)).cgr fun i hi => ?_
    have := less_cg hp hr o1 hv (show i < W by omega)
    exact cg_symm (cg_trans (cg_add this (cg_of rfl)) (cg_of (by grind)))
   rcases List.mem_append.1 hr with h | h
   ·exact back r (hs.t r h) (List.mem_append_left _ (List.mem_append_left _ (List.mem_map_of_mem h)))
   ·by_cases e : r = x
    ·
     subst e
     refine (Sp.add P (r.getD v 0) (by simp) .zero).cgr fun i hi => ?_
     have h1 := scale_cg (b := b) o5 hb0 (show i < W by omega)
     have h2 := scale_cg (b := b) o5 hb0 hv
     rw [← o4] at h1 h2
     rw [o2] at h2
     obtain ⟨k, h1⟩ := h1
     obtain ⟨m, h2⟩ := h2
     exact ⟨r.getD i 0 * m - r.getD v 0 * k, by grind⟩
    ·have hme : r ∈ s.2.2.eraseIdx (s.2.2.findIdx (nzB v)) := by
      obtain ⟨j, hj, rfl⟩ := List.getElem_of_mem h
      rw [List.mem_eraseIdx_iff_getElem]
      refine ⟨j, hj, ?_, rfl⟩
      intro ej
      apply e
      rw [o6, getD_of hc]
      simp only [ej]
     exact back r (hs.l r h) (List.mem_append_right _ (List.mem_map_of_mem hme))
  ·rcases List.mem_append.1 hr with h | h
   ·rcases List.mem_append.1 h with h | h
    ·obtain ⟨q, hq, rfl⟩ := List.mem_map.1 h
     exact hless q (hs.t q hq) (Sp.mem (List.mem_append_left _ hq))
    ·rw [List.mem_singleton.1 h]; exact hrow
   ·obtain ⟨q, hq, rfl⟩ := List.mem_map.1 h
    have hq2 := List.mem_of_mem_eraseIdx hq
    exact hless q (hs.l q hq2) (Sp.mem (List.mem_append_right _ hq2))
 ·rw [elimS_neg hc]; exact fun _ => Iff.rfl
theorem elim_sp (hp : pr4 p) (hr : ∀ r ∈ A, okRow p W r) (hVW : V ≤ W) : ∀ v, v ≤ W → eqSp p V A ((elimF p A v).1 ++ (elimF p A v).2.2) := by
 intro v
 induction v with
 | zero => intro _; exact fun _ => Iff.rfl
 | succ v ih =>
  intro hv
  have hok := elimF_ok hp hr v (by omega)
  have hnx : elimF p A (v + 1) = elimS p (elimF p A v) v := by unfold elimF; rw [range_fold]
  rw [hnx]
  exact fun f => (ih (by omega) f).trans (step_sp hp hok (by omega) hVW f)
end
end T
open Go Go.Va
namespace T
section
variable {p : Int} {V W N : Nat} {A B : List (List Int)} {f g : Nat → Int}
def bndL (N : Nat) (b : List Int) : List Int := ((List.range N).filter fun v : Nat => decide ((v : Int) ∈ b)).map fun v : Nat => (v : Int)
theorem bndL_succ {N : Nat} {b : List Int} : bndL (N + 1) b = bndL N b ++ (if (N : Int) ∈ b then [(N : Int)] else []) := by
 unfold bndL
 rw [List.range_succ, List.filter_append, List.map_append]
 congr 1
 by_cases h : (N : Int) ∈ b <;> simp [h]
theorem bndL_snoc {N : Nat} {b : List Int} {x : Int} (h : (N : Int) ≤ x) : bndL N (b ++ [x]) = bndL N b := by
 unfold bndL
 congr 1
 refine List.filter_congr fun u hu => ?_
 have := List.mem_range.1 hu
 have e : ((u : Int) ∈ b ++ [x]) ↔ (u : Int) ∈ b := by
  rw [List.mem_append, List.mem_singleton]
  exact ⟨fun h => h.resolve_right (by omega), Or.inl⟩
 simp only [e]
structure RR (p : Int) (v : Nat) (s : ES) : Prop where
 piv : ∀ i, i < s.1.length → ∀ j, j < s.1.length → (s.1.getD i []).getD (s.2.1.getD j 0).toNat 0 = if i = j then 1 else 0
 low : ∀ i, i < s.1.length → ∀ u : Nat, (u : Int) < s.2.1.getD i 0 → (s.1.getD i []).getD u 0 = 0
 zl : ∀ r ∈ s.2.2, ∀ u : Nat, u < v → r.getD u 0 = 0
 bnd : bndL v s.2.1 = s.2.1
theorem getD_mapD {α β : Type} {l : List α} {h : α → β} {i : Nat} {d : α} {e : β} (hi : i < l.length) : (l.map h).getD i e = h (l.getD i d) := by
 rw [getD_of (by simpa using hi), getD_of hi, List.getElem_map]
theorem getD_left {α : Type} {l m : List α} {i : Nat} {d : α} (hi : i < l.length) : (l ++ m).getD i d = l.getD i d := by
 rw [getD_of (by rw [List.length_append]; omega), getD_of hi, List.getElem_append_left hi]
theorem getD_snoc {α : Type} {l : List α} {x d : α} : (l ++ [x]).getD l.length d = x := by
 rw [getD_of (by simp)]; simp
theorem getD_mem {α : Type} {l : List α} {i : Nat} {d : α} (hi : i < l.length) : l.getD i d ∈ l := by rw [getD_of hi]; exact List.getElem_mem hi
theorem step_rr (hp : pr4 p) {s : ES} {v : Nat} (hs : ESok p W N v s) (hv : v < W) (h : RR p v s) : RR p (v + 1) (elimS p s v) := by
 have hp0 : 2 ≤ p ∧ p ≤ 7 := by unfold pr4 at hp; omega
 have hbl := hs.bl
 by_cases hc : s.2.2.findIdx (nzB v) < s.2.2.length
 ·obtain ⟨o1, o2, _, x, hx, b, hb0, hb1, o4, o5, o6⟩ := piv_ok hp hs hv hc
  rw [elimS_pos hc]
  generalize hP : pivR p s v = P at *
  have hPz : ∀ u, u < v → P.getD u 0 = 0 := fun u hu => by
   rw [o4, scale_get (by rw [o5.1]; omega), h.zl x hx u hu]; simp
  have hsame : ∀ r, okRow p W r → ∀ u, u < v → (lessR p P v r).getD u 0 = r.getD u 0 := fun r hr u hu => by
   have := ok_get hr (show u < W by omega)
   rw [less_get (by rw [hr.1]; omega), hPz u hu, Int.mul_zero, Int.add_zero, Int.tmod_eq_of_lt this.1 this.2]
  have hat : ∀ r, okRow p W r → (lessR p P v r).getD v 0 = 0 := fun r hr => by
   rw [less_get (by rw [hr.1]; omega), o2, Int.mul_one, show r.getD v 0 + (p - r.getD v 0) = p by omega, Int.tmod_self]
  have hbv : ∀ j, j < s.1.length → 0 ≤ s.2.1.getD j 0 ∧ s.2.1.getD j 0 < (v : Int) := fun j hj => hs.bv _ (getD_mem (by omega))
  have hbn : (s.2.1 ++ [(v : Int)]).getD s.1.length 0 = (v : Int) := by rw [← hbl, getD_snoc]
  have htn : (s.1.map (lessR p P v) ++ [P]).getD s.1.length [] = P := by
   have := getD_snoc (l := s.1.map (lessR p P v)) (x := P) (d := [])
   rw [List.length_map] at this; exact this
  have hti : ∀ i, i < s.1.length → (s.1.map (lessR p P v) ++ [P]).getD i [] = lessR p P v (s.1.getD i []) := fun i hi => by
   rw [getD_left (by simpa using hi), getD_mapD (d := []) hi]
  have hbi : ∀ j, j < s.1.length → (s.2.1 ++ [(v : Int)]).getD j 0 = s.2.1.getD j 0 := fun j hj => getD_left (by omega)
  have hlen : (s.1.map (lessR p P v) ++ [P]).length = s.1.length + 1 := by simp
  refine ⟨fun i hi j hj => ?_, fun i hi u hu => ?_, fun r hr u hu => ?_, ?_⟩
  ·dsimp only at hi hj ⊢
   rw [hlen] at hi hj
   by_cases ci : i = s.1.length
   ·subst ci
    rw [htn]
    by_cases cj : j = s.1.length
    ·subst cj; rw [hbn, Int.toNat_natCast, o2, if_pos rfl]
    ·have hj2 : j < s.1.length := by omega
     have := hbv j hj2
     rw [hbi j hj2, hPz _ (by omega), if_neg (by omega)]
   ·have hi2 : i < s.1.length := by omega
    have hok := hs.t _ (getD_mem (d := []) hi2)
    rw [hti i hi2]
    by_cases cj : j = s.1.length
    ·subst cj; rw [hbn, Int.toNat_natCast, hat _ hok, if_neg ci]
    ·have hj2 : j < s.1.length := by omega
     have := hbv j hj2
     rw [hbi j hj2, hsame _ hok _ (by omega), h.piv i hi2 j hj2]
  ·dsimp only at hi hu ⊢
   rw [hlen] at hi
   by_cases ci : i = s.1.length
   ·subst ci
    rw [hbn] at hu
    rw [htn, hPz u (by omega)]
   ·have hi2 : i < s.1.length := by omega
    have hok := hs.t _ (getD_mem (d := []) hi2)
    rw [hbi i hi2] at hu
    have := hbv i hi2
    rw [hti i hi2, hsame _ hok u (by omega), h.low i hi2 u hu]
  ·dsimp only at hr
   obtain ⟨q, hq, rfl⟩ := List.mem_map.1 hr
   have hq2 := List.mem_of_mem_eraseIdx hq
   by_cases e : u = v
   ·subst e; exact hat q (hs.l q hq2)
   ·rw [hsame q (hs.l q hq2) u (by omega)]; exact h.zl q hq2 u (by omega)
  ·dsimp only
   rw [bndL_succ, if_pos (by simp), bndL_snoc (by omega), h.bnd]
 ·rw [elimS_neg hc]
  have hnm : (v : Int) ∉ s.2.1 := fun hm => by have := hs.bv _ hm; omega
  refine ⟨h.piv, h.low, fun r hr u hu => ?_, ?_⟩
  ·by_cases e : u = v
   ·subst e
    have h1 := List.findIdx_eq_length.1 (show s.2.2.findIdx (nzB u) = s.2.2.length by have := List.findIdx_le_length (xs := s.2.2) (p := nzB u); omega) r hr
    unfold nzB at h1
    simpa using h1
   ·exact h.zl r hr u (by omega)
  ·rw [bndL_succ, if_neg hnm, h.bnd, List.append_nil]
theorem elim_rr (hp : pr4 p) (hr : ∀ r ∈ A, okRow p W r) : ∀ v, v ≤ W → RR p v (elimF p A v) := by
 intro v
 induction v with
 | zero => intro _; exact ⟨fun i hi => by simp [elimF] at hi, fun i hi => by simp [elimF] at hi, fun r _ u hu => by omega, by simp [elimF, bndL]⟩
 | succ v ih =>
  intro hv
  have hok := elimF_ok hp hr v (by omega)
  have hnx : elimF p A (v + 1) = elimS p (elimF p A v) v := by unfold elimF; rw [range_fold]
  rw [hnx]
  exact step_rr hp hok (by omega) (ih (by omega))
def sumN (n : Nat) (h : Nat → Int) : Int := ((List.range n).map h).sum
theorem sumN_succ {n : Nat} {h : Nat → Int} : sumN (n + 1) h = sumN n h + h n := by
 unfold sumN; rw [List.range_succ, List.map_append, List.sum_append]; simp
theorem sumN_add {n : Nat} {h k : Nat → Int} {c : Int} : sumN n (fun j => h j + c * k j) = sumN n h + c * sumN n k := by
 induction n with
 | zero => simp [sumN]
 | succ n ih => rw [sumN_succ, sumN_succ, sumN_succ, ih]; grind
theorem sumN_congr {n : Nat} {h k : Nat → Int} (e : ∀ j, j < n → h j = k j) : sumN n h = sumN n k := by
 unfold sumN; congr 1; exact List.map_congr_left fun j hj => e j (List.mem_range.1 hj)
theorem sumN_cg {n : Nat} {h k : Nat → Int} (e : ∀ j, j < n → cg p (h j) (k j)) : cg p (sumN n h) (sumN n k) := by
 induction n with
 | zero => exact cg_of rfl
 | succ n ih => rw [sumN_succ, sumN_succ]; exact cg_add (ih fun j hj => e j (by omega)) (e n (by omega))
theorem sumN_one {n m : Nat} {h : Nat → Int} (hm : m < n) (e : ∀ j, j < n → j ≠ m → h j = 0) : sumN n h = h m := by
 induction n with
 | zero => omega
 | succ n ih =>
  rw [sumN_succ]
  by_cases c : m = n
  ·subst c
   have : sumN m h = 0 := by
    have := sumN_congr (n := m) (h := h) (k := fun _ => 0) fun j hj => e j (by omega) (by omega)
    rw [this]
    clear this e ih hm
    induction m with
    | zero => rfl
    | succ m ih => rw [sumN_succ, ih]; rfl
   omega
  ·rw [ih (by omega) fun j hj hjm => e j (by omega) hjm, e n (by omega) (by omega)]; omega
theorem sumN_zero {n : Nat} {h : Nat → Int} (e : ∀ j, j < n → cg p (h j) 0) : cg p (sumN n h) 0 := by
 induction n with
 | zero => exact cg_of rfl
 | succ n ih => rw [sumN_succ]; exact cg_trans (cg_add (ih fun j hj => e j (by omega)) (e n (by omega))) (cg_of rfl)
end
end T
open Go Go.Va
namespace T
section
variable {p : Int} {V W N : Nat} {A B C D : List (List Int)} {f g : Nat → Int}
theorem eqSp.symm (h : eqSp p V A B) : eqSp p V B A := fun f => (h f).symm
theorem eqSp.trans (h : eqSp p V A B) (g : eqSp p V B C) : eqSp p V A C := fun f => (h f).trans (g f)
end
end T
open Go Go.Va
namespace T
section
variable {p : Int} {V W N k : Nat} {A B C D : List (List Int)} {f g : Nat → Int}
theorem sp_phi {c : Nat → Int} (h : ∀ r ∈ A, cg p (sumN k fun i => r.getD i 0 * c i) (r.getD k 0)) (hf : Sp p (k + 1) A f) : cg p (sumN k fun i => f i * c i) (f k) := by
 induction hf with
 | zero => exact sumN_zero fun j _ => cg_of (by simp)
 | add r d hr _ ih =>
  rename_i f0 _
  dsimp only
  have e : sumN k (fun i => (f0 i + d * r.getD i 0) * c i) = sumN k (fun i => f0 i * c i) + d * sumN k (fun i => r.getD i 0 * c i) := by
   rw [← sumN_add]; exact sumN_congr fun j _ => by grind
  rw [e]
  exact cg_add ih (cg_mul d (h r hr))
 | cgr _ hc ih =>
  refine cg_trans (sumN_cg fun j hj => cg_mulr _ (hc j (by omega))) (cg_trans ih (cg_symm (hc k (by omega))))
theorem left_zero (hp : pr4 p) (hA : ∀ r ∈ A, okRow p (k + 1) r) {c : Nat → Int} (h : ∀ r ∈ A, cg p (sumN k fun i => r.getD i 0 * c i) (r.getD k 0)) : (elimF p A k).2.2.filter (nzB k) = [] := by
 have hs := elimF_ok hp hA k (by omega)
 have hz := (elim_rr hp hA k (by omega)).zl
 rw [List.filter_eq_nil_iff]
 intro r hr
 have h1 : Sp p (k + 1) A fun i => r.getD i 0 := ((elim_sp hp hA (V := k + 1) (Nat.le_refl _) k (by omega)) _).2 (Sp.mem (List.mem_append_right _ hr))
 have h2 := sp_phi h h1
 have h3 : cg p (r.getD k 0) 0 := cg_trans (cg_symm h2) (sumN_zero fun j hj => by rw [hz r hr j hj]; exact cg_of (by simp))
 have h4 := ok_get (hs.l r hr) (show k < k + 1 by omega)
 have h5 := cg_eq h3 h4 ⟨by omega, by unfold pr4 at hp; omega⟩
 unfold nzB
 rw [h5]; simp
end
end T
open Go Go.Va
namespace T
def i64 (x : Int) : Prop := -9223372036854775808 ≤ x ∧ x ≤ 9223372036854775807
section
variable {c : List Int} {ar : Int}
end
end T
open Go Go.Va
namespace T
abbrev NS := Bool × Int × List (List (List Int)) × List (List (List ByteArray))
abbrev NIn (σ : Type) := Int × List Int × σ × NS × List Int × Unit
abbrev NOut (σ : Type) := List Int × σ × NS × List Int × Bool
def hM {σ : Type} : Nat → (Int × List Int × σ × NS × List Int × Unit × Int × Bool × List (List Int) × Int × Int) → Option (Int × List Int × σ × NS × List Int × Unit × Int × Bool)
 | 0, _ => none
 | n + 1, (t0, t1, t2, t3, t4, t5, t8, t9, t50, t51, t52) =>
  if decide (t52 < t51) then
   if inb t52 t50 then
    if t9 then
     if t3.1 = true then
      if inb t0 t3.2.2.2 then
       if inb t52 (gd t3.2.2.2 t0 []) then
        (impl_compose (gd t50 t52 []) t1).bind fun r2 =>
         (impl_keyOf r2).bind fun r3 =>
          hM n (t0, t1, t2, t3, t4, (), t8, mhas (gd (gd t3.2.2.2 t0 []) t52 []) r3, t50, t51, w64 (t52 + 1))
       else none
      else none
     else none
    else
     hM n (t0, t1, t2, t3, t4, (), t8, false, t50, t51, w64 (t52 + 1))
   else none
  else
   some (t0, t1, t2, t3, t4, (), t8, t9)
def hL {σ : Type} (rec : NIn σ → Option (NOut σ)) : Nat → (Int × List Int × σ × NS × List Int × Unit × Int) → Option ((List Int × σ × NS × List Int × Unit) ⊕ (List Int × σ × NS × List Int × Unit × Bool))
 | 0, _ => none
 | n + 1, (t0, t1, t2, t3, t4, t5, t8) =>
  if t3.1 = true then
   if decide (t8 < t3.2.1) then
    if inb t0 t4 then
     if decide ((gd t4 t0 0) ≥ 0) then
      if inb t0 t4 then
       if (gd t4 t0 0) != t8 then
        hL rec n (t0, t1, t2, t3, t4, (), w64 (t8 + 1))
       else
        if inb t0 t1 then
         if t3.1 = true then
          if inb t0 t3.2.2.1 then
           (hM fuel (t0, stt t1 t0 t8, t2, t3, t4, (), t8, true, gd t3.2.2.1 t0 [], ((gd t3.2.2.1 t0 []).length : Int), 0)).bind fun s2 =>
            if s2.2.2.2.2.2.2.2 then
             (rec (w64 (s2.1 + 1), s2.2.1, s2.2.2.1, s2.2.2.2.1, s2.2.2.2.2.1, ())).bind fun r3 =>
              if !r3.2.2.2.2 then
               some (.inr (r3.1, r3.2.1, r3.2.2.1, r3.2.2.2.1, (), false))
              else
               hL rec n (s2.1, r3.1, r3.2.1, r3.2.2.1, r3.2.2.2.1, (), w64 (s2.2.2.2.2.2.2.1 + 1))
            else
             hL rec n (s2.1, s2.2.1, s2.2.2.1, s2.2.2.2.1, s2.2.2.2.2.1, (), w64 (s2.2.2.2.2.2.2.1 + 1))
          else none
         else none
        else none
      else none
     else
      if inb t0 t1 then
       if t3.1 = true then
        if inb t0 t3.2.2.1 then
         (hM fuel (t0, stt t1 t0 t8, t2, t3, t4, (), t8, true, gd t3.2.2.1 t0 [], ((gd t3.2.2.1 t0 []).length : Int), 0)).bind fun s4 =>
          if s4.2.2.2.2.2.2.2 then
           (rec (w64 (s4.1 + 1), s4.2.1, s4.2.2.1, s4.2.2.2.1, s4.2.2.2.2.1, ())).bind fun r5 =>
            if !r5.2.2.2.2 then
             some (.inr (r5.1, r5.2.1, r5.2.2.1, r5.2.2.2.1, (), false))
            else
             hL rec n (s4.1, r5.1, r5.2.1, r5.2.2.1, r5.2.2.2.1, (), w64 (s4.2.2.2.2.2.2.1 + 1))
          else
           hL rec n (s4.1, s4.2.1, s4.2.2.1, s4.2.2.2.1, s4.2.2.2.2.1, (), w64 (s4.2.2.2.2.2.2.1 + 1))
        else none
       else none
      else none
    else none
   else
    some (.inl (t1, t2, t3, t4, ()))
  else none
def hBody {σ : Type} (cb : List Int → σ → Option (σ × Bool)) (rec : NIn σ → Option (NOut σ)) (x : NIn σ) : Option (NOut σ) :=
 if x.1 == (x.2.1.length : Int) then
  (cb x.2.1 x.2.2.1).bind fun r1 => some (x.2.1, r1.1, x.2.2.2.1, x.2.2.2.2.1, r1.2)
 else
  (hL rec fuel (x.1, x.2.1, x.2.2.1, x.2.2.2.1, x.2.2.2.2.1, (), 0)).bind fun s2 =>
   match s2 with
   | .inl s3 => some (s3.1, s3.2.1, s3.2.2.1, s3.2.2.2.1, true)
   | .inr s4 => some (s4.1, s4.2.1, s4.2.2.1, s4.2.2.2.1, s4.2.2.2.2.2)
def hF {σ : Type} (cb : List Int → σ → Option (σ × Bool)) : Nat → NIn σ → Option (NOut σ)
 | 0, _ => none
 | d + 1, x => hBody cb (hF cb d) x
section
variable {V n : Nat} {cs : List Con} {given : List Int}
end
end T
set_option linter.unusedVariables false
open Go Go.Va
namespace T
def laws_vBig (code : List Int) : Option (Bool) :=
 some (decide ((code.length : Int) > 65536))
def spec_l1Cur_next (c : (List Int) × Int × Int) : Option (((List Int) × Int × Int) × Int) :=
 if decide (c.2.1 < (c.1.length : Int)) then
  if inb c.2.1 c.1 then
   if decide ((w64 (c.2.1 + 1)) ≤ (c.1.length : Int)) then
    some ((c.1, (w64 (c.2.1 + 1), IntKind.wrap .u64 ((IntKind.wrap .u64 ((IntKind.wrap .u64 (c.2.2 * 6364136223846793005)) + (IntKind.wrap .u64 (w64 (gd c.1 c.2.1 0))))) + 550289))), w64 (gd c.1 c.2.1 0))
   else
    if (0 : Int) ≤ 40 then
     some ((c.1, (w64 (c.2.1 + 1), IntKind.wrap .u64 ((IntKind.wrap .u64 ((IntKind.wrap .u64 (c.2.2 * 6364136223846793005)) + (IntKind.wrap .u64 (w64 (gd c.1 c.2.1 0))))) + 550289))), w64 (andI .u64 (shrI .u64 (IntKind.wrap .u64 ((IntKind.wrap .u64 ((IntKind.wrap .u64 (c.2.2 * 6364136223846793005)) + (IntKind.wrap .u64 (w64 (gd c.1 c.2.1 0))))) + 550289)) 40) 255))
    else none
  else none
 else
  if decide ((w64 (c.2.1 + 1)) ≤ (c.1.length : Int)) then
   some ((c.1, (w64 (c.2.1 + 1), IntKind.wrap .u64 ((IntKind.wrap .u64 ((IntKind.wrap .u64 (c.2.2 * 6364136223846793005)) + (IntKind.wrap .u64 (0)))) + 550289))), 0)
  else
   if (0 : Int) ≤ 40 then
    some ((c.1, (w64 (c.2.1 + 1), IntKind.wrap .u64 ((IntKind.wrap .u64 ((IntKind.wrap .u64 (c.2.2 * 6364136223846793005)) + (IntKind.wrap .u64 (0)))) + 550289))), w64 (andI .u64 (shrI .u64 (IntKind.wrap .u64 ((IntKind.wrap .u64 ((IntKind.wrap .u64 (c.2.2 * 6364136223846793005)) + (IntKind.wrap .u64 (0)))) + 550289)) 40) 255))
   else none
def spec_l1Cur_pick (c : (List Int) × Int × Int) (n_ : Int) : Option (((List Int) × Int × Int) × Int) :=
 if decide (n_ ≤ 1) then
  some ((c.1, (c.2.1, c.2.2)), 0)
 else
  (spec_l1Cur_next (c.1, (c.2.1, c.2.2))).bind fun r1 =>
   if decide (n_ > 200) then
    (spec_l1Cur_next (r1.1.1, (r1.1.2.1, r1.1.2.2))).bind fun r2 =>
     if n_ ≠ 0 then
      some ((r2.1.1, (r2.1.2.1, r2.1.2.2)), Int.tmod (w64 ((w64 (r1.2 * 256)) + r2.2)) n_)
     else none
   else
    if n_ ≠ 0 then
     some ((r1.1.1, (r1.1.2.1, r1.1.2.2)), Int.tmod r1.2 n_)
    else none
def spec_l1Cur_among (c : (List Int) × Int × Int) (list : List Int) : Option (((List Int) × Int × Int) × Int) :=
 (spec_l1Cur_pick (c.1, (c.2.1, c.2.2)) (list.length : Int)).bind fun r1 =>
  if inb r1.2 list then
   some ((r1.1.1, (r1.1.2.1, r1.1.2.2)), gd list r1.2 0)
  else none
def spec_l1Cur_one (c : (List Int) × Int × Int) (n_ : Int) : Option (((List Int) × Int × Int) × Bool) :=
 (spec_l1Cur_pick (c.1, (c.2.1, c.2.2)) n_).bind fun r1 =>
  some ((r1.1.1, (r1.1.2.1, r1.1.2.2)), r1.2 == 0)
def spec_l1Cur_linear_L8 : Nat → (((List Int) × Int × Int) × (Int × (Int × (List (List Int)))) × Int × (Int × (Int × (List (List Int)))) × Int × (List Int) × Int) → Option (((List Int) × Int × Int) × (Int × (Int × (List (List Int)))) × Int × (Int × (Int × (List (List Int)))) × Int × (List Int))
 | 0, _ => none
 | n + 1, (t0, t2, t3, t4, t5, t6, t7) =>
  if decide (t7 ≤ t4.2.1) then
   (spec_l1Cur_pick (t0.1, (t0.2.1, t0.2.2)) t3).bind fun r4 =>
    if t6.length + [r4.2].length ≤ lim then
     spec_l1Cur_linear_L8 n ((r4.1.1, (r4.1.2.1, r4.1.2.2)), (t2.1, (t2.2.1, t2.2.2)), t3, (t4.1, (t4.2.1, t4.2.2)), t5, t6 ++ [r4.2], w64 (t7 + 1))
    else none
  else
   some ((t0.1, (t0.2.1, t0.2.2)), (t2.1, (t2.2.1, t2.2.2)), t3, (t4.1, (t4.2.1, t4.2.2)), t5, t6)
def spec_l1Cur_linear_L4 : Nat → (((List Int) × Int × Int) × (Int × (Int × (List (List Int)))) × Int × (Int × (Int × (List (List Int)))) × Int) → Option (((List Int) × Int × Int) × (Int × (Int × (List (List Int)))) × Int × (Int × (Int × (List (List Int)))))
 | 0, _ => none
 | n + 1, (t0, t2, t3, t4, t5) =>
  if decide (t5 > 0) then
   (spec_l1Cur_linear_L8 fuel ((t0.1, (t0.2.1, t0.2.2)), (t2.1, (t2.2.1, t2.2.2)), t3, (t4.1, (t4.2.1, t4.2.2)), t5, [], 0)).bind fun s4 =>
    if decide ((s4.2.2.2.1.2.2.length : Int) > 0) then
     (spec_l1Cur_one (s4.1.1, (s4.1.2.1, s4.1.2.2)) 4).bind fun r5 =>
      if r5.2 then
       if inb 0 s4.2.2.2.1.2.2 then
        (spec_l1Cur_pick (r5.1.1, (r5.1.2.1, r5.1.2.2)) s4.2.2.1).bind fun r6 =>
         (spec_l21Scale s4.2.2.1 (gd s4.2.2.2.1.2.2 0 []) r6.2).bind fun r7 =>
          (spec_l1Cur_one (r6.1.1, (r6.1.2.1, r6.1.2.2)) 2).bind fun r8 =>
           if r8.2 then
            (spec_l1Cur_pick (r8.1.1, (r8.1.2.1, r8.1.2.2)) s4.2.2.1).bind fun r9 =>
             if inb s4.2.2.2.1.2.1 r7 then
              if s4.2.2.2.1.2.2.length + [stt r7 s4.2.2.2.1.2.1 r9.2].length ≤ lim then
               spec_l1Cur_linear_L4 n ((r9.1.1, (r9.1.2.1, r9.1.2.2)), (s4.2.1.1, (s4.2.1.2.1, s4.2.1.2.2)), s4.2.2.1, (s4.2.2.2.1.1, (s4.2.2.2.1.2.1, s4.2.2.2.1.2.2 ++ [stt r7 s4.2.2.2.1.2.1 r9.2])), w64 (s4.2.2.2.2.1 - 1))
              else none
             else none
           else
            if s4.2.2.2.1.2.2.length + [r7].length ≤ lim then
             spec_l1Cur_linear_L4 n ((r8.1.1, (r8.1.2.1, r8.1.2.2)), (s4.2.1.1, (s4.2.1.2.1, s4.2.1.2.2)), s4.2.2.1, (s4.2.2.2.1.1, (s4.2.2.2.1.2.1, s4.2.2.2.1.2.2 ++ [r7])), w64 (s4.2.2.2.2.1 - 1))
            else none
       else none
      else
       if s4.2.2.2.1.2.2.length + [s4.2.2.2.2.2].length ≤ lim then
        spec_l1Cur_linear_L4 n ((r5.1.1, (r5.1.2.1, r5.1.2.2)), (s4.2.1.1, (s4.2.1.2.1, s4.2.1.2.2)), s4.2.2.1, (s4.2.2.2.1.1, (s4.2.2.2.1.2.1, s4.2.2.2.1.2.2 ++ [s4.2.2.2.2.2])), w64 (s4.2.2.2.2.1 - 1))
       else none
    else
     if s4.2.2.2.1.2.2.length + [s4.2.2.2.2.2].length ≤ lim then
      spec_l1Cur_linear_L4 n ((s4.1.1, (s4.1.2.1, s4.1.2.2)), (s4.2.1.1, (s4.2.1.2.1, s4.2.1.2.2)), s4.2.2.1, (s4.2.2.2.1.1, (s4.2.2.2.1.2.1, s4.2.2.2.1.2.2 ++ [s4.2.2.2.2.2])), w64 (s4.2.2.2.2.1 - 1))
     else none
  else
   some ((t0.1, (t0.2.1, t0.2.2)), (t2.1, (t2.2.1, t2.2.2)), t3, (t4.1, (t4.2.1, t4.2.2)))
def spec_l1Cur_linear_L22 : Nat → (((List Int) × Int × Int) × (Int × (Int × (List (List Int)))) × (Int × (Int × (List (List Int))))) → Option (((List Int) × Int × Int) × (Int × (Int × (List (List Int)))) × (Int × (Int × (List (List Int)))))
 | 0, _ => none
 | n + 1, (t0, t2, t4) =>
  (spec_l1Cur_pick (t0.1, (t0.2.1, t0.2.2)) 2).bind fun r14 =>
   if decide ((t4.2.2.length : Int) < (w64 (8 + r14.2))) then
    if 0 ≤ (w64 (t4.2.1 + 1)) ∧ (w64 (t4.2.1 + 1)) ≤ (w64 (t4.2.1 + 1)) ∧ (w64 (t4.2.1 + 1)) ≤ lim then
     if t4.2.2.length + [List.replicate (Int.toNat (w64 (t4.2.1 + 1))) (0 : Int)].length ≤ lim then
      spec_l1Cur_linear_L22 n ((r14.1.1, (r14.1.2.1, r14.1.2.2)), (t2.1, (t2.2.1, t2.2.2)), (t4.1, (t4.2.1, t4.2.2 ++ [List.replicate (Int.toNat (w64 (t4.2.1 + 1))) (0 : Int)])))
     else none
    else none
   else
    some ((r14.1.1, (r14.1.2.1, r14.1.2.2)), (t2.1, (t2.2.1, t2.2.2)), (t4.1, (t4.2.1, t4.2.2)))
def spec_l1Cur_linear (t0 : (List Int) × Int × Int) : Option (((List Int) × Int × Int) × (Int × (Int × (List (List Int))))) :=
 (spec_l1Cur_among (t0.1, (t0.2.1, t0.2.2)) [2, 2, 3, 3, 5, 7]).bind fun r1 =>
  (spec_l1Cur_among (r1.1.1, (r1.1.2.1, r1.1.2.2)) [2, 3, 3, 4, 1, 5, 0, 8]).bind fun r2 =>
   (spec_l1Cur_among (r2.1.1, (r2.1.2.1, r2.1.2.2)) [1, 2, 2, 3, 3, 4, 0]).bind fun r3 =>
    (spec_l1Cur_linear_L4 fuel ((r3.1.1, (r3.1.2.1, r3.1.2.2)), (0, (0, [])), r1.2, (r1.2, (r2.2, [])), r3.2)).bind fun s4 =>
     (spec_l1Cur_pick (s4.1.1, (s4.1.2.1, s4.1.2.2)) 40).bind fun r5 =>
      if r5.2 == 0 then
       (spec_l1Cur_among (r5.1.1, (r5.1.2.1, r5.1.2.2)) [4, 1, 0, 11, 9]).bind fun r6 =>
        some ((r6.1.1, (r6.1.2.1, r6.1.2.2)), (r6.2, (s4.2.2.2.2.1, s4.2.2.2.2.2)))
      else
       if r5.2 == 1 then
        (spec_l1Cur_among (r5.1.1, (r5.1.2.1, r5.1.2.2)) [(-1), 9, w64 (s4.2.2.2.2.1 + 1)]).bind fun r7 =>
         some ((r7.1.1, (r7.1.2.1, r7.1.2.2)), (s4.2.2.2.1, (r7.2, s4.2.2.2.2.2)))
       else
        if r5.2 == 2 then
         (spec_l1Cur_linear_L22 fuel ((r5.1.1, (r5.1.2.1, r5.1.2.2)), (s4.2.1.1, (s4.2.1.2.1, s4.2.1.2.2)), (s4.2.2.2.1, (s4.2.2.2.2.1, s4.2.2.2.2.2)))).bind fun s8 =>
          some ((s8.1.1, (s8.1.2.1, s8.1.2.2)), (s8.2.2.1, (s8.2.2.2.1, s8.2.2.2.2)))
        else
         if r5.2 == 3 then
          if decide ((s4.2.2.2.2.2.length : Int) > 0) then
           if inb 0 s4.2.2.2.2.2 then
            (spec_l1Cur_among (r5.1.1, (r5.1.2.1, r5.1.2.2)) [(-1), s4.2.2.1]).bind fun r9 =>
             if inb 0 (gd s4.2.2.2.2.2 0 []) then
              some ((r9.1.1, (r9.1.2.1, r9.1.2.2)), (s4.2.2.2.1, (s4.2.2.2.2.1, stt s4.2.2.2.2.2 0 (stt (gd s4.2.2.2.2.2 0 []) 0 r9.2))))
             else none
           else none
          else
           some ((r5.1.1, (r5.1.2.1, r5.1.2.2)), (s4.2.2.2.1, (s4.2.2.2.2.1, s4.2.2.2.2.2)))
         else
          some ((r5.1.1, (r5.1.2.1, r5.1.2.2)), (s4.2.2.2.1, (s4.2.2.2.2.1, s4.2.2.2.2.2)))
def spec_DrawIsLinear (code : List Int) : Option ((Int × (Int × (List (List Int))))) :=
 (spec_l1Cur_linear (code, (0, 0))).bind fun r1 =>
  some (r1.2.1, (r1.2.2.1, r1.2.2.2))
def spec_DrawRefuteLinear (code : List Int) : Option ((Int × (Int × (List (List Int))))) :=
 (spec_DrawIsLinear code).bind fun r1 =>
  some (r1.1, (r1.2.1, r1.2.2))
def laws_vInts_L4 : Nat → ((List Int) × (List Int) × Int) → Option ((Unit) ⊕ (Bool))
 | 0, _ => none
 | n + 1, (a, b, i) =>
  if decide (i < (a.length : Int)) then
   if inb i a then
    if inb i b then
     if (gd a i 0) != (gd b i 0) then
      some (.inr false)
     else
      laws_vInts_L4 n (a, b, w64 (i + 1))
    else none
   else none
  else
   some (.inl ())
def laws_vInts (a : List Int) (b : List Int) : Option (Bool) :=
 if (a.length : Int) != (b.length : Int) then
  some false
 else
  (laws_vInts_L4 fuel (a, b, 0)).bind fun s1 =>
   match s1 with
   | .inl s2 =>
    some true
   | .inr s3 =>
    some s3
def spec_l1Least (a : Int) (b : Int) : Option (Int) :=
 if decide (a < b) then
  some a
 else
  some b
def spec_DrawIsLinearRefutation_L6 : Nat → ((Int × (Int × (List (List Int)))) × ((List Int) × Int × Int) × (Int × (Int × (List (List Int)))) × (List Int) × Int) → Option ((Int × (Int × (List (List Int)))) × ((List Int) × Int × Int) × (Int × (Int × (List (List Int)))) × (List Int))
 | 0, _ => none
 | n + 1, (t2, c, l, y, i) =>
  if decide (i < (l.2.2.length : Int)) then
   (spec_l1Least l.1 12).bind fun r3 =>
    (spec_l1Most 1 r3).bind fun r4 =>
     (spec_l1Cur_pick (c.1, (c.2.1, c.2.2)) r4).bind fun r5 =>
      if y.length + [r5.2].length ≤ lim then
       spec_DrawIsLinearRefutation_L6 n ((t2.1, (t2.2.1, t2.2.2)), (r5.1.1, (r5.1.2.1, r5.1.2.2)), (l.1, (l.2.1, l.2.2)), y ++ [r5.2], w64 (i + 1))
      else none
  else
   some ((t2.1, (t2.2.1, t2.2.2)), (c.1, (c.2.1, c.2.2)), (l.1, (l.2.1, l.2.2)), y)
def spec_DrawIsLinearRefutation (code : List Int) : Option ((Int × (Int × (List (List Int)))) × (List Int)) :=
 (spec_l1Cur_linear (code, (0, 0))).bind fun r1 =>
  (spec_RefuteLinear (r1.2.1, (r1.2.2.1, r1.2.2.2))).bind fun r2 =>
   if !r2.2 then
    (spec_DrawIsLinearRefutation_L6 fuel ((0, (0, [])), (r1.1.1, (r1.1.2.1, r1.1.2.2)), (r1.2.1, (r1.2.2.1, r1.2.2.2)), r2.1, 0)).bind fun s3 =>
     (spec_l1Cur_one (s3.2.1.1, (s3.2.1.2.1, s3.2.1.2.2)) 12).bind fun r4 =>
      if r4.2 then
       (spec_l1Cur_among (r4.1.1, (r4.1.2.1, r4.1.2.2)) [0, (-1)]).bind fun r5 =>
        if s3.2.2.2.length + [r5.2].length ≤ lim then
         some ((s3.2.2.1.1, (s3.2.2.1.2.1, s3.2.2.1.2.2)), s3.2.2.2 ++ [r5.2])
        else none
      else
       some ((s3.2.2.1.1, (s3.2.2.1.2.1, s3.2.2.1.2.2)), s3.2.2.2)
   else
    (spec_l1Cur_one (r1.1.1, (r1.1.2.1, r1.1.2.2)) 12).bind fun r6 =>
     if r6.2 then
      (spec_l1Cur_among (r6.1.1, (r6.1.2.1, r6.1.2.2)) [0, (-1)]).bind fun r7 =>
       if r2.1.length + [r7.2].length ≤ lim then
        some ((r1.2.1, (r1.2.2.1, r1.2.2.2)), r2.1 ++ [r7.2])
       else none
     else
      some ((r1.2.1, (r1.2.2.1, r1.2.2.2)), r2.1)
def laws_FnLinearRefutations (t0 : List Int) : Option (Bool) :=
 (laws_vBig t0).bind fun r1 =>
  if r1 then
   some true
  else
   (spec_DrawRefuteLinear t0).bind fun r2 =>
    (impl_RefuteLinear (r2.1, (r2.2.1, r2.2.2))).bind fun r3 =>
     (spec_RefuteLinear (r2.1, (r2.2.1, r2.2.2))).bind fun r4 =>
      if r3.2 != r4.2 then
       some false
      else
       (laws_vInts r3.1 r4.1).bind fun r5 =>
        if !r5 then
         some false
        else
         (impl_SolveLinear (r2.1, (r2.2.1, r2.2.2))).bind fun r6 =>
          (impl_IsLinear (r2.1, (r2.2.1, r2.2.2))).bind fun r7 =>
           if r7 then
            if r3.2 == r6.2 then
             some false
            else
             if r3.2 then
              (impl_IsLinearRefutation (r2.1, (r2.2.1, r2.2.2)) r3.1).bind fun r8 =>
               if !r8.2 then
                some false
               else
                if !r8.1 then
                 some false
                else
                 (spec_DrawIsLinearRefutation t0).bind fun r9 =>
                  (impl_IsLinearRefutation (r9.1.1, (r9.1.2.1, r9.1.2.2)) r9.2).bind fun r10 =>
                   (spec_IsLinearRefutation (r9.1.1, (r9.1.2.1, r9.1.2.2)) r9.2).bind fun r11 =>
                    if r10.1 != r11.1 then
                     some false
                    else
                     if r10.2 != r11.2 then
                      some false
                     else
                      (impl_SolveLinear (r9.1.1, (r9.1.2.1, r9.1.2.2))).bind fun r12 =>
                       if !r10.1 then
                        some true
                       else
                        some (!r12.2)
             else
              (spec_DrawIsLinearRefutation t0).bind fun r13 =>
               (impl_IsLinearRefutation (r13.1.1, (r13.1.2.1, r13.1.2.2)) r13.2).bind fun r14 =>
                (spec_IsLinearRefutation (r13.1.1, (r13.1.2.1, r13.1.2.2)) r13.2).bind fun r15 =>
                 if r14.1 != r15.1 then
                  some false
                 else
                  if r14.2 != r15.2 then
                   some false
                  else
                   (impl_SolveLinear (r13.1.1, (r13.1.2.1, r13.1.2.2))).bind fun r16 =>
                    if !r14.1 then
                     some true
                    else
                     some (!r16.2)
           else
            if r3.2 then
             (impl_IsLinearRefutation (r2.1, (r2.2.1, r2.2.2)) r3.1).bind fun r17 =>
              if !r17.2 then
               some false
              else
               if !r17.1 then
                some false
               else
                (spec_DrawIsLinearRefutation t0).bind fun r18 =>
                 (impl_IsLinearRefutation (r18.1.1, (r18.1.2.1, r18.1.2.2)) r18.2).bind fun r19 =>
                  (spec_IsLinearRefutation (r18.1.1, (r18.1.2.1, r18.1.2.2)) r18.2).bind fun r20 =>
                   if r19.1 != r20.1 then
                    some false
                   else
                    if r19.2 != r20.2 then
                     some false
                    else
                     (impl_SolveLinear (r18.1.1, (r18.1.2.1, r18.1.2.2))).bind fun r21 =>
                      if !r19.1 then
                       some true
                      else
                       some (!r21.2)
            else
             (spec_DrawIsLinearRefutation t0).bind fun r22 =>
              (impl_IsLinearRefutation (r22.1.1, (r22.1.2.1, r22.1.2.2)) r22.2).bind fun r23 =>
               (spec_IsLinearRefutation (r22.1.1, (r22.1.2.1, r22.1.2.2)) r22.2).bind fun r24 =>
                if r23.1 != r24.1 then
                 some false
                else
                 if r23.2 != r24.2 then
                  some false
                 else
                  (impl_SolveLinear (r22.1.1, (r22.1.2.1, r22.1.2.2))).bind fun r25 =>
                   if !r23.1 then
                    some true
                   else
                    some (!r25.2)
end T
open Go Go.Va
namespace T
section
variable {p : Int} {V W N k : Nat} {A B C D : List (List Int)} {f g : Nat → Int}
def solC (p : Int) (k : Nat) (A : List (List Int)) (c : Nat → Int) : Prop := ∀ r ∈ A, cg p (sumN k fun i => r.getD i 0 * c i) (r.getD k 0)
theorem told_sol (hp : pr4 p) (hA : ∀ r ∈ A, okRow p (k + 1) r) (hf : failB k (elimF p A k) = false) : solC p k A (solV k (elimF p A k)) := by
 have hs := elimF_ok hp hA k (by omega)
 have hrr := elim_rr hp hA k (by omega)
 have hsp := elim_sp hp hA (V := k + 1) (Nat.le_refl _) k (by omega)
 generalize elimF p A k = s at *
 have h1 : ∀ r ∈ s.1 ++ s.2.2, cg p (sumN k fun i => r.getD i 0 * solV k s i) (r.getD k 0) := by
  intro r hr
  rcases List.mem_append.1 hr with hr | hr
  ·obtain ⟨i, hi, rfl⟩ := List.mem_iff_getElem.1 hr
   have hb : i < s.2.1.length := by have := hs.bl; omega
   have hbv := hs.bv _ (List.getElem_mem hb)
   have hbn : s.2.1[i] = (((s.2.1[i]).toNat : Nat) : Int) := by omega
   have hpos := posL_uniq hs.bn hb hbn
   have e1 : solV k s (s.2.1[i]).toNat = (s.1[i]).getD k 0 := by
    unfold solV
    rw [hpos, if_neg (by omega), Int.toNat_natCast, getD_of hi]
   have e2 : (s.1[i]).getD (s.2.1[i]).toNat 0 = 1 := by
    have := hrr.piv i hi i hi
    rw [getD_of hi, getD_of hb, if_pos rfl] at this
    exact this
   have e3 := sumN_one (n := k) (m := (s.2.1[i]).toNat) (h := fun u => (s.1[i]).getD u 0 * solV k s u) (by omega) fun u hu hne => by
    by_cases hm : (u : Int) ∈ s.2.1
    ·obtain ⟨j, hj, hj1, hj2⟩ := posL_at hm
     have hji : j ≠ i := fun e => by subst e; rw [hj2] at hne; exact hne (by omega)
     have := hrr.piv i hi j (by have := hs.bl; omega)
     rw [getD_of hi, getD_of hj, if_neg (fun e => hji e.symm), hj2, Int.toNat_natCast] at this
     rw [this]; simp
    ·have : solV k s u = 0 := by unfold solV; rw [if_pos (posL_neg.2 hm)]
     rw [this]; simp
   rw [e3]
   exact cg_of (by rw [e1, e2]; simp)
  ·have hz := hrr.zl r hr
   have h0 : nzB k r = false := by
    unfold failB at hf
    rw [List.any_eq_false] at hf
    simpa using hf r hr
   have h0 : r.getD k 0 = 0 := by unfold nzB at h0; simpa using h0
   rw [h0]
   exact sumN_zero fun j hj => by rw [hz j hj]; exact cg_of (by simp)
 intro r hr
 exact sp_phi h1 ((hsp _).1 (Sp.mem hr))
theorem fail_iff (hp : pr4 p) (hA : ∀ r ∈ A, okRow p (k + 1) r) : failB k (elimF p A k) = false ↔ ∃ c, solC p k A c := by
 constructor
 ·intro h; exact ⟨_, told_sol hp hA h⟩
 ·rintro ⟨c, hc⟩
  have := left_zero hp hA hc
  rw [List.filter_eq_nil_iff] at this
  unfold failB
  rw [List.any_eq_false]
  exact this
theorem sp_coef (hf : Sp p V A f) : ∃ z : Nat → Int, ∀ i, i < V → cg p (f i) (sumN A.length fun v => z v * (A.getD v []).getD i 0) := by
 induction hf with
 | zero => exact ⟨fun _ => 0, fun i _ => cg_symm (sumN_zero fun j _ => cg_of (by simp))⟩
 | add r c hr _ ih =>
  obtain ⟨z, hz⟩ := ih
  obtain ⟨j, hj, rfl⟩ := List.mem_iff_getElem.1 hr
  refine ⟨fun v => z v + c * (if v = j then 1 else 0), fun i hi => ?_⟩
  have e : sumN A.length (fun v => (z v + c * (if v = j then 1 else 0)) * (A.getD v []).getD i 0) = sumN A.length (fun v => z v * (A.getD v []).getD i 0) + c * sumN A.length (fun v => (if v = j then 1 else 0) * (A.getD v []).getD i 0) := by
   rw [← sumN_add]; exact sumN_congr fun v _ => by grind
  have e2 := sumN_one (n := A.length) (m := j) (h := fun v => (if v = j then 1 else 0) * (A.getD v []).getD i 0) hj fun v _ hv => by simp [hv]
  rw [e, e2]
  refine cg_add (hz i hi) (cg_mul c (cg_of ?_))
  rw [getD_of hj, if_pos rfl]; grind
 | cgr _ h ih =>
  obtain ⟨z, hz⟩ := ih
  exact ⟨z, fun i hi => cg_trans (h i hi) (hz i hi)⟩
theorem coef_sp (z : Nat → Int) : ∀ n, n ≤ A.length → Sp p V A fun i => sumN n fun v => z v * (A.getD v []).getD i 0
 | 0, _ => (Sp.zero (p := p) (V := V) (A := A)).cgr fun i _ => cg_of (by simp [sumN])
 | n + 1, h => by
  have hn : n < A.length := by omega
  refine ((coef_sp z n (by omega)).add A[n] (z n) (List.getElem_mem hn)).cgr fun i _ => cg_of ?_
  rw [sumN_succ, getD_of hn]
def refC (p : Int) (k : Nat) (A : List (List Int)) (y : Nat → Int) : Prop := ∀ v, v ≤ k → cg p (sumN A.length fun i => y i * (A.getD i []).getD v 0) (if v = k then 1 else 0)
theorem one_ne (hp : pr4 p) : ¬ cg p 0 1 := fun ⟨q, h⟩ => by
 have hd : p ∣ 1 := ⟨-q, by grind⟩
 have := Int.le_of_dvd (by omega) hd
 unfold pr4 at hp; omega
theorem ref_sol (hp : pr4 p) {y c : Nat → Int} (hy : refC p k A y) (hc : solC p k A c) : False := by
 have h1 := sp_phi hc (coef_sp y A.length (Nat.le_refl _))
 have h2 := hy k (Nat.le_refl _)
 rw [if_pos rfl] at h2
 have h3 : cg p (sumN k fun i => (sumN A.length fun v => y v * (A.getD v []).getD i 0) * c i) 0 := sumN_zero fun v hv => by
  have := hy v (by omega)
  rw [if_neg (by omega)] at this
  exact cg_trans (cg_mulr (c v) this) (cg_of (by simp))
 exact one_ne hp (cg_trans (cg_symm h3) (cg_trans h1 h2))
def colsR (A : List (List Int)) (k : Nat) : List (List Int) := (List.range (k + 1)).map (colR A k)
theorem col_get {v i : Nat} : (colR A k v).getD i 0 = if i < A.length then (A.getD i []).getD v 0 else if i = A.length then (if v = k then 1 else 0) else 0 := by
 unfold colR
 by_cases hi : i < A.length
 ·rw [if_pos hi, getD_left (by simpa using hi), getD_mapD (h := fun r : List Int => r.getD v 0) (d := []) hi]
 ·rw [if_neg hi]
  by_cases he : i = A.length
  ·rw [if_pos he]
   have := getD_snoc (l := A.map fun r : List Int => r.getD v 0) (x := if v = k then (1 : Int) else 0) (d := 0)
   rw [List.length_map] at this
   rw [he]; exact this
  ·rw [if_neg he, List.getD_eq_getElem?_getD, List.getElem?_eq_none (by simp; omega)]; rfl
theorem sol_ref {c : Nat → Int} : solC p A.length (colsR A k) c ↔ refC p k A c := by
 have key : ∀ v, v ≤ k → (cg p (sumN A.length fun i => (colR A k v).getD i 0 * c i) ((colR A k v).getD A.length 0) ↔ cg p (sumN A.length fun i => c i * (A.getD i []).getD v 0) (if v = k then 1 else 0)) := fun v hv => by
  rw [col_get, if_neg (by omega), if_pos rfl]
  have e : (sumN A.length fun i => (colR A k v).getD i 0 * c i) = sumN A.length fun i => c i * (A.getD i []).getD v 0 := sumN_congr fun i hi => by rw [col_get, if_pos hi]; grind
  rw [e]
 constructor
 ·intro h v hv
  exact (key v hv).1 (h _ (List.mem_map_of_mem (List.mem_range.2 (by omega))))
 ·intro h r hr
  obtain ⟨v, hv, rfl⟩ := List.mem_map.1 hr
  have := List.mem_range.1 hv
  exact (key v (by omega)).2 (h v (by omega))
theorem no_ref (hp : pr4 p) (hA : ∀ r ∈ A, okRow p (k + 1) r) (hf : failB A.length (elimF p (colsR A k) A.length) = true) : ∃ c, solC p k A c := by
 have hC := colR_ok hp hA
 have hC : ∀ r ∈ colsR A k, okRow p (A.length + 1) r := hC
 have hs := elimF_ok hp hC A.length (by omega)
 have hrr := elim_rr hp hC A.length (by omega)
 have hsp := elim_sp hp hC (V := A.length + 1) (Nat.le_refl _) A.length (by omega)
 generalize elimF p (colsR A k) A.length = s at *
 unfold failB at hf
 obtain ⟨r, hr, hnz⟩ := List.any_eq_true.1 hf
 have hl : (colsR A k).length = k + 1 := by simp [colsR]
 obtain ⟨z, hz⟩ := sp_coef ((hsp _).2 (Sp.mem (List.mem_append_right s.1 hr)))
 rw [hl] at hz
 have hg : ∀ v i, v < k + 1 → ((colsR A k).getD v []).getD i 0 = (colR A k v).getD i 0 := fun v i hv => by
  have : (colsR A k).getD v [] = colR A k v := by rw [getD_of (by rw [hl]; exact hv)]; simp [colsR]
  rw [this]
 have hc0 := ok_get (hs.l r hr) (show A.length < A.length + 1 by omega)
 have hne : r.getD A.length 0 ≠ 0 := by unfold nzB at hnz; simpa using hnz
 have hzk : cg p (r.getD A.length 0) (z k) := by
  refine cg_trans (hz A.length (by omega)) ?_
  have e := sumN_one (n := k + 1) (m := k) (h := fun v => z v * ((colsR A k).getD v []).getD A.length 0) (by omega) fun v hv hvk => by
   rw [hg v _ hv, col_get, if_neg (by omega), if_pos rfl, if_neg hvk]; simp
  rw [e]
  rw [hg k _ (by omega), col_get, if_neg (by omega), if_pos rfl, if_pos rfl]
  exact cg_of (by simp)
 have hinv := inv_mul hp (x := r.getD A.length 0) (by omega) hc0.2
 have hip := (inv_ok hp (x := r.getD A.length 0) (by omega) hc0.2).2.2
 have hone : cg p (z k * invP p (r.getD A.length 0)) 1 := by
  have h1 := cg_mod (p := p) (x := r.getD A.length 0 * invP p (r.getD A.length 0)) (Int.mul_nonneg (by omega) (by omega))
  rw [hinv] at h1
  exact cg_trans (cg_mulr _ (cg_symm hzk)) (cg_symm h1)
 refine ⟨fun v => - (z v * invP p (r.getD A.length 0)), fun q hq => ?_⟩
 obtain ⟨i, hi, rfl⟩ := List.mem_iff_getElem.1 hq
 have hzi := hz i (by omega)
 rw [hrr.zl r hr i hi, sumN_succ, sumN_congr (k := fun v => A[i].getD v 0 * z v) fun v hv => by rw [hg v i (by omega), col_get, if_pos hi, getD_of hi]; grind, hg k i (by omega), col_get, if_pos hi, getD_of hi] at hzi
 have e : (sumN k fun v => A[i].getD v 0 * - (z v * invP p (r.getD A.length 0))) = 0 + (- invP p (r.getD A.length 0)) * sumN k fun v => A[i].getD v 0 * z v := by
  have h0 : sumN k (fun _ => (0 : Int)) = 0 := by
   have : ∀ n, sumN n (fun _ => (0 : Int)) = 0 := fun n => by
    induction n with
    | zero => rfl
    | succ n ih => rw [sumN_succ, ih]; rfl
   exact this k
  rw [← h0, ← sumN_add]
  exact sumN_congr fun v _ => by grind
 rw [e]
 generalize sumN k (fun v => A[i].getD v 0 * z v) = S at *
 generalize invP p (r.getD A.length 0) = w at *
 generalize A[i].getD k 0 = b at *
 generalize z k = zk at *
 obtain ⟨a1, h1⟩ := hzi
 obtain ⟨a2, h2⟩ := hone
 exact ⟨w * a1 + b * a2, by grind⟩
theorem ref_iff (hp : pr4 p) (hA : ∀ r ∈ A, okRow p (k + 1) r) : failB A.length (elimF p (colsR A k) A.length) = !failB k (elimF p A k) := by
 have hC : ∀ r ∈ colsR A k, okRow p (A.length + 1) r := colR_ok hp hA
 cases h1 : failB A.length (elimF p (colsR A k) A.length) with
 | true =>
  rw [(fail_iff hp hA).2 (no_ref hp hA h1)]; rfl
 | false =>
  obtain ⟨y, hy⟩ := (fail_iff hp hC).1 h1
  cases h2 : failB k (elimF p A k) with
  | true => rfl
  | false =>
   obtain ⟨c, hc⟩ := (fail_iff hp hA).1 h2
   exact (ref_sol hp (sol_ref.1 hy) hc).elim
end
end T
open Go Go.Va
namespace T
abbrev CurT := List Int × Int × Int
def Cur (k : Nat) (c : CurT) : Prop := c.1.length ≤ 65536 ∧ (∀ x ∈ c.1, 0 ≤ x ∧ x < 256) ∧ 0 ≤ c.2.1 ∧ c.2.1 ≤ (k : Int)
theorem and255 (x : Int) : 0 ≤ w64 (andI .u64 x 255) ∧ w64 (andI .u64 x 255) < 256 := by
 have h1 : (BitVec.ofInt 64 x &&& BitVec.ofInt 64 255).toNat ≤ 255 := by
  rw [BitVec.toNat_and]
  have : (BitVec.ofInt 64 255).toNat = 255 := by decide
  rw [this]
  exact Nat.and_le_right
 have h2 : andI .u64 x 255 = ((BitVec.ofInt 64 x &&& BitVec.ofInt 64 255).toNat : Int) := by
  unfold andI
  have e : ∀ n : Nat, n ≤ 255 → IntKind.wrap .u64 (n : Int) = (n : Int) := fun n hn => by
   simp [IntKind.wrap, IntKind.bits, IntKind.signed]
   omega
  exact e _ h1
 rw [h2, w64_id (by omega) (by omega)]
 omega
theorem next_ok {k : Nat} {c : CurT} (h : Cur k c) (hk : k ≤ 1000000000) : ∃ c' x, spec_l1Cur_next c = some (c', x) ∧ Cur (k + 1) c' ∧ 0 ≤ x ∧ x < 256 := by
 obtain ⟨code, at', seed⟩ := c
 obtain ⟨h1, h2, h3, h4⟩ := h
 dsimp only at h1 h2 h3 h4
 have hw : w64 (at' + 1) = at' + 1 := w64_id (by omega) (by omega)
 have hC : ∀ s, Cur (k + 1) (code, (at' + 1, s)) := fun s => ⟨h1, h2, by dsimp only; omega, by dsimp only; omega⟩
 unfold spec_l1Cur_next
 simp only [hw]
 by_cases hc : at' < (code.length : Int)
 ·have hin : inb at' code := ⟨h3, hc⟩
  have hle : at' + 1 ≤ (code.length : Int) := by omega
  have hb : 0 ≤ gd code at' 0 ∧ gd code at' 0 < 256 := by
   have : gd code at' 0 = code.getD at'.toNat 0 := rfl
   rw [this, getD_of (by omega)]
   exact h2 _ (List.getElem_mem _)
  rw [if_pos (decide_eq_true hc), if_pos hin, if_pos (decide_eq_true hle)]
  exact ⟨_, _, rfl, hC _, by rw [w64_id (by omega) (by omega)]; exact hb⟩
 ·have hle : ¬ at' + 1 ≤ (code.length : Int) := by omega
  rw [if_neg (by simpa using hc), if_neg (by simpa using hle), if_pos (by decide)]
  exact ⟨_, _, rfl, hC _, and255 _⟩
theorem pick_ok {k : Nat} {c : CurT} (h : Cur k c) (hk : k ≤ 100000000) (n : Int) (hn : n ≤ 1000000) : ∃ c' x, spec_l1Cur_pick c n = some (c', x) ∧ Cur (k + 2) c' ∧ 0 ≤ x ∧ (1 ≤ n → x < n) ∧ (n ≤ 1 → x = 0) := by
 have mono : ∀ {c : CurT} {i j : Nat}, i ≤ j → Cur i c → Cur j c := fun hij ⟨a, b, d, e⟩ => ⟨a, b, d, by omega⟩
 unfold spec_l1Cur_pick
 by_cases h1 : n ≤ 1
 ·rw [if_pos (decide_eq_true h1)]
  exact ⟨_, _, rfl, mono (by omega) h, by omega, fun _ => by omega, fun _ => rfl⟩
 ·rw [if_neg (by simpa using h1)]
  obtain ⟨c1, x1, e1, g1, a1, b1⟩ := next_ok h (by omega)
  have e1 : spec_l1Cur_next (c.1, (c.2.1, c.2.2)) = _ := e1
  simp only [e1, Option.bind_some]
  by_cases h2 : n > 200
  ·obtain ⟨c2, x2, e2, g2, a2, b2⟩ := next_ok g1 (by omega)
   have e2 : spec_l1Cur_next (c1.1, (c1.2.1, c1.2.2)) = _ := e2
   rw [if_pos (decide_eq_true h2)]
   simp only [e2, Option.bind_some]
   rw [if_pos (by omega)]
   have w1 : w64 (x1 * 256) = x1 * 256 := w64_id (by omega) (by omega)
   have w2 : w64 (x1 * 256 + x2) = x1 * 256 + x2 := w64_id (by omega) (by omega)
   refine ⟨_, _, rfl, g2, ?_, fun _ => ?_, fun h => absurd h h1⟩
   ·rw [w1, w2, Int.tmod_eq_emod_of_nonneg (by omega)]; exact Int.emod_nonneg _ (by omega)
   ·rw [w1, w2, Int.tmod_eq_emod_of_nonneg (by omega)]; exact Int.emod_lt_of_pos _ (by omega)
  ·rw [if_neg (by simpa using h2), if_pos (by omega)]
   refine ⟨_, _, rfl, mono (by omega) g1, ?_, fun _ => ?_, fun h => absurd h h1⟩
   ·rw [Int.tmod_eq_emod_of_nonneg a1]; exact Int.emod_nonneg _ (by omega)
   ·rw [Int.tmod_eq_emod_of_nonneg a1]; exact Int.emod_lt_of_pos _ (by omega)
theorem among_ok {k : Nat} {c : CurT} (h : Cur k c) (hk : k ≤ 100000000) {l : List Int} (h0 : 0 < l.length) (hl : l.length ≤ 1000) : ∃ c' x, spec_l1Cur_among c l = some (c', x) ∧ Cur (k + 2) c' ∧ x ∈ l := by
 obtain ⟨c1, x1, e1, g1, a1, b1, _⟩ := pick_ok h hk (l.length : Int) (by omega)
 have b1 := b1 (by omega)
 unfold spec_l1Cur_among
 have e1 : spec_l1Cur_pick (c.1, (c.2.1, c.2.2)) (l.length : Int) = _ := e1
 simp only [e1, Option.bind_some]
 have hin : inb x1 l := ⟨a1, b1⟩
 rw [if_pos hin]
 refine ⟨_, _, rfl, g1, ?_⟩
 have : gd l x1 0 = l.getD x1.toNat 0 := rfl
 rw [this]
 exact getD_mem (by omega)
theorem one_ok {k : Nat} {c : CurT} (h : Cur k c) (hk : k ≤ 100000000) (n : Int) (hn : n ≤ 1000000) : ∃ c' x, spec_l1Cur_one c n = some (c', x) ∧ Cur (k + 2) c' := by
 obtain ⟨c1, x1, e1, g1, _⟩ := pick_ok h hk n hn
 unfold spec_l1Cur_one
 have e1 : spec_l1Cur_pick (c.1, (c.2.1, c.2.2)) n = _ := e1
 simp only [e1, Option.bind_some]
 exact ⟨_, _, rfl, g1⟩
theorem Cur.mono {c : CurT} {i j : Nat} (hij : i ≤ j) : Cur i c → Cur j c := fun ⟨a, b, d, e⟩ => ⟨a, b, d, by omega⟩
end T
open Go Go.Va
namespace T
abbrev LinT := Int × (Int × List (List Int))
section
variable {p : Int} {V : Nat}
theorem drawRow (hp : pr4 p) (hV : V ≤ 8) {t2 : LinT} {pr : Int} {rows : List (List Int)} {t5 : Int} : ∀ (d v f k : Nat) (c : CurT) (row : List Int), v + d = V + 1 → d < f → Cur k c → k + 2 * d ≤ 1000000 → okRow p v row →
    ∃ c' row', spec_l1Cur_linear_L8 f (c, t2, p, (pr, ((V : Int), rows)), t5, row, (v : Int)) = some (c', t2, p, (pr, ((V : Int), rows)), t5, row') ∧ Cur (k + 2 * d) c' ∧ okRow p (V + 1) row' := by
  intro d
  induction d with
  | zero =>
    intro v f k c row hv hf hc hk hr
    obtain ⟨f, rfl⟩ : ∃ z, f = z + 1 := ⟨f - 1, by omega⟩
    have : v = V + 1 := by omega
    subst this
    refine ⟨c, row, ?_, hc, hr⟩
    simp only [spec_l1Cur_linear_L8]
    rw [if_neg (by rw [decide_eq_true_eq]; omega)]
  | succ d ih =>
    intro v f k c row hv hf hc hk hr
    obtain ⟨f, rfl⟩ : ∃ z, f = z + 1 := ⟨f - 1, by omega⟩
    have hp' : 2 ≤ p ∧ p ≤ 7 := by unfold pr4 at hp; omega
    obtain ⟨c1, x1, e1, g1, a1, b1, _⟩ := pick_ok hc (by omega) p (by omega)
    have b1 := b1 (by omega)
    have e1 : spec_l1Cur_pick (c.1, (c.2.1, c.2.2)) p = _ := e1
    obtain ⟨c', row', e2, g2, r2⟩ := ih (v + 1) f (k + 2) c1 (row ++ [x1]) (by omega) (by omega) g1 (by omega) ⟨by rw [List.length_append, hr.1]; rfl, fun y hy => by
      rcases List.mem_append.1 hy with hy | hy
      · exact hr.2 y hy
      · rw [List.mem_singleton.1 hy]; exact ⟨a1, b1⟩⟩
    have hlen := hr.1
    refine ⟨c', row', ?_, g2.mono (by omega), r2⟩
    simp only [spec_l1Cur_linear_L8, e1, Option.bind_some, w64_succ (show v < 4611686018427387904 by omega)]
    rw [if_pos (by simp; omega), if_pos (by rw [List.length_singleton]; unfold lim; omega)]
    exact e2
theorem drawRows (hp : pr4 p) (hV : V ≤ 8) {t2 : LinT} : ∀ (d f k : Nat) (c : CurT) (rows : List (List Int)), d < f → Cur k c → k + 40 * d ≤ 1000000 → (∀ r ∈ rows, okRow p (V + 1) r) → rows.length + d ≤ 100 →
    ∃ c' rows', spec_l1Cur_linear_L4 f (c, t2, p, (p, ((V : Int), rows)), (d : Int)) = some (c', t2, p, (p, ((V : Int), rows'))) ∧ Cur (k + 40 * d) c' ∧ (∀ r ∈ rows', okRow p (V + 1) r) ∧ rows'.length ≤ rows.length + d := by
  intro d
  induction d with
  | zero =>
    intro f k c rows hf hc hk hr hl
    obtain ⟨f, rfl⟩ : ∃ z, f = z + 1 := ⟨f - 1, by omega⟩
    refine ⟨c, rows, ?_, hc, hr, by omega⟩
    simp only [spec_l1Cur_linear_L4]
    rw [if_neg (by simp)]
  | succ d ih =>
    intro f k c rows hf hc hk hr hl
    obtain ⟨f, rfl⟩ : ∃ z, f = z + 1 := ⟨f - 1, by omega⟩
    have hp' : 2 ≤ p ∧ p ≤ 7 := by unfold pr4 at hp; omega
    obtain ⟨c1, row, e1, g1, r1⟩ := drawRow (t2 := t2) (pr := p) (rows := rows) (t5 := ((d + 1 : Nat) : Int)) hp hV (V + 1) 0 fuel k c [] (by omega) (by unfold fuel; omega) hc (by omega) ⟨rfl, by simp⟩
    have e1 : spec_l1Cur_linear_L8 fuel ((c.1, (c.2.1, c.2.2)), (t2.1, (t2.2.1, t2.2.2)), p, (p, ((V : Int), rows)), ((d + 1 : Nat) : Int), [], 0) = _ := e1
    have hw : w64 (((d + 1 : Nat) : Int) - 1) = (d : Int) := by rw [w64_id (by omega) (by omega)]; omega
    have more : ∀ (c2 : CurT) (k2 : Nat) (row2 : List Int), Cur k2 c2 → k2 ≤ k + 40 → okRow p (V + 1) row2 → ∃ c' rows', (if rows.length + [row2].length ≤ lim then spec_l1Cur_linear_L4 f ((c2.1, (c2.2.1, c2.2.2)), (t2.1, (t2.2.1, t2.2.2)), p, (p, ((V : Int), rows ++ [row2])), w64 (((d + 1 : Nat) : Int) - 1)) else none) = some (c', t2, p, (p, ((V : Int), rows'))) ∧ Cur (k + 40 * (d + 1)) c' ∧ (∀ r ∈ rows', okRow p (V + 1) r) ∧ rows'.length ≤ rows.length + (d + 1) := by
      intro c2 k2 row2 hc2 hk2 hr2
      obtain ⟨c', rows', e, g, r, l⟩ := ih f (k + 40) c2 (rows ++ [row2]) (by omega) (hc2.mono hk2) (by omega) (fun r h => by
        rcases List.mem_append.1 h with h | h
        · exact hr r h
        · rw [List.mem_singleton.1 h]; exact hr2) (by rw [List.length_append, List.length_singleton]; omega)
      rw [if_pos (by rw [List.length_singleton]; unfold lim; omega), hw]
      exact ⟨c', rows', e, g.mono (by omega), r, by rw [List.length_append, List.length_singleton] at l; omega⟩
    simp only [spec_l1Cur_linear_L4]
    rw [if_pos (by simp)]
    simp only [e1, Option.bind_some]
    by_cases h0 : (rows.length : Int) > 0
    · rw [if_pos (decide_eq_true h0)]
      obtain ⟨c2, b2, e2, g2⟩ := one_ok g1 (by omega) 4 (by omega)
      have e2 : spec_l1Cur_one (c1.1, (c1.2.1, c1.2.2)) 4 = _ := e2
      simp only [e2, Option.bind_some]
      cases b2 with
      | false =>
        simp only [Bool.false_eq_true, if_false]
        exact more c2 _ row g2 (by omega) r1
      | true =>
        have hr0 : okRow p (V + 1) (gd rows 0 []) := by
          have : gd rows 0 [] = rows.getD 0 [] := rfl
          rw [this]; exact hr _ (getD_mem (by omega))
        have hin0 : inb (0 : Int) rows := by unfold inb; omega
        obtain ⟨c3, x3, e3, g3, a3, b3, _⟩ := pick_ok g2 (by omega) p (by omega)
        have b3 := b3 (by omega)
        have e3 : spec_l1Cur_pick (c2.1, (c2.2.1, c2.2.2)) p = _ := e3
        have e4 := spec_scale_ok hp (show V + 1 ≤ 1000 by omega) hr0 ⟨a3, b3⟩
        have k4 := scale_ok hp hr0 ⟨a3, b3⟩
        obtain ⟨c5, b5, e5, g5⟩ := one_ok g3 (by omega) 2 (by omega)
        have e5 : spec_l1Cur_one (c3.1, (c3.2.1, c3.2.2)) 2 = _ := e5
        simp only [if_true, hin0, e3, e4, e5, Option.bind_some]
        cases b5 with
        | false =>
          simp only [Bool.false_eq_true, if_false]
          exact more c5 _ _ g5 (by omega) k4
        | true =>
          obtain ⟨c6, x6, e6, g6, a6, b6, _⟩ := pick_ok g5 (by omega) p (by omega)
          have b6 := b6 (by omega)
          have e6 : spec_l1Cur_pick (c5.1, (c5.2.1, c5.2.2)) p = _ := e6
          have hin : inb (V : Int) (scaleR p x3 (gd rows 0 [])) := by unfold inb; rw [k4.1]; omega
          simp only [if_true, e6, Option.bind_some]
          rw [if_pos hin]
          refine more c6 _ _ g6 (by omega) ⟨by rw [stt_nat, List.length_set]; exact k4.1, fun y hy => ?_⟩
          rw [stt_nat] at hy
          rcases List.mem_or_eq_of_mem_set hy with hy | hy
          · exact k4.2 y hy
          · rw [hy]; exact ⟨a6, b6⟩
    · rw [if_neg (by simpa using h0)]
      exact more c1 _ row g1 (by omega) r1
theorem drawZ (hV : V ≤ 8) {t2 : LinT} {p : Int} : ∀ (d f k : Nat) (c : CurT) (rows : List (List Int)), rows.length + d = 9 → d < f → Cur k c → k + 2 * d ≤ 1000000 → (∀ r ∈ rows, r.length ≤ 9) →
    ∃ c' rows', spec_l1Cur_linear_L22 f (c, t2, (p, ((V : Int), rows))) = some (c', t2, (p, ((V : Int), rows'))) ∧ Cur (k + 2 * (d + 1)) c' ∧ (∀ r ∈ rows', r.length ≤ 9) ∧ rows'.length ≤ 9 := by
  intro d
  induction d with
  | zero =>
    intro f k c rows hl hf hc hk hr
    obtain ⟨f, rfl⟩ : ∃ z, f = z + 1 := ⟨f - 1, by omega⟩
    obtain ⟨c1, x1, e1, g1, a1, b1, _⟩ := pick_ok hc (by omega) 2 (by omega)
    have b1 := b1 (by omega)
    have e1 : spec_l1Cur_pick (c.1, (c.2.1, c.2.2)) 2 = _ := e1
    refine ⟨c1, rows, ?_, g1, hr, by omega⟩
    have hw : w64 (8 + x1) = 8 + x1 := w64_id (by omega) (by omega)
    simp only [spec_l1Cur_linear_L22, e1, Option.bind_some, hw]
    rw [if_neg (by simp; omega)]
  | succ d ih =>
    intro f k c rows hl hf hc hk hr
    obtain ⟨f, rfl⟩ : ∃ z, f = z + 1 := ⟨f - 1, by omega⟩
    obtain ⟨c1, x1, e1, g1, a1, b1, _⟩ := pick_ok hc (by omega) 2 (by omega)
    have b1 := b1 (by omega)
    have e1 : spec_l1Cur_pick (c.1, (c.2.1, c.2.2)) 2 = _ := e1
    have hw : w64 (8 + x1) = 8 + x1 := w64_id (by omega) (by omega)
    have hwV : w64 ((V : Int) + 1) = (V : Int) + 1 := w64_id (by omega) (by omega)
    simp only [spec_l1Cur_linear_L22, e1, Option.bind_some, hw, hwV]
    by_cases h : (rows.length : Int) < 8 + x1
    · obtain ⟨c', rows', e, g, r, l⟩ := ih f (k + 2) c1 (rows ++ [List.replicate (Int.toNat ((V : Int) + 1)) 0]) (by simp; omega) (by omega) g1 (by omega) (fun r h => by
        rcases List.mem_append.1 h with h | h
        · exact hr r h
        · rw [List.mem_singleton.1 h, List.length_replicate]; omega)
      refine ⟨c', rows', ?_, g.mono (by omega), r, l⟩
      rw [if_pos (decide_eq_true h), if_pos (by unfold lim; omega), if_pos (by rw [List.length_singleton]; unfold lim; omega)]
      exact e
    · rw [if_neg (by simpa using h)]
      exact ⟨c1, rows, rfl, g1.mono (by omega), hr, by omega⟩
theorem linear_ok {k : Nat} {c : CurT} (hc : Cur k c) (hk : k ≤ 100000) : ∃ c' l, spec_l1Cur_linear c = some (c', l) ∧ Cur (k + 1000) c' ∧ l.2.2.length ≤ 9 ∧ (∀ r ∈ l.2.2, r.length ≤ 9) ∧ l.1 ≤ 1000 := by
 obtain ⟨c1, p, e1, g1, m1⟩ := among_ok hc (by omega) (l := [2, 2, 3, 3, 5, 7]) (by simp) (by simp)
 obtain ⟨c2, v, e2, g2, m2⟩ := among_ok g1 (by omega) (l := [2, 3, 3, 4, 1, 5, 0, 8]) (by simp) (by simp)
 obtain ⟨c3, m, e3, g3, m3⟩ := among_ok g2 (by omega) (l := [1, 2, 2, 3, 3, 4, 0]) (by simp) (by simp)
 have hp : pr4 p := by simp at m1; unfold pr4; omega
 have hv : 0 ≤ v ∧ v ≤ 8 := by simp at m2; omega
 have hm : 0 ≤ m ∧ m ≤ 4 := by simp at m3; omega
 obtain ⟨V, rfl⟩ : ∃ V : Nat, v = (V : Int) := ⟨v.toNat, by omega⟩
 obtain ⟨M, rfl⟩ : ∃ M : Nat, m = (M : Int) := ⟨m.toNat, by omega⟩
 have hp' : 2 ≤ p ∧ p ≤ 7 := by unfold pr4 at hp; omega
 obtain ⟨c4, rows, e4, g4, r4, l4⟩ := drawRows (t2 := (0, (0, []))) hp (show V ≤ 8 by omega) M fuel (k + 6) c3 [] (by unfold fuel; omega) g3 (by omega) (by simp) (by simp; omega)
 obtain ⟨c5, x5, e5, g5, a5, b5, _⟩ := pick_ok g4 (by omega) 40 (by omega)
 have e1 : spec_l1Cur_among (c.1, (c.2.1, c.2.2)) [2, 2, 3, 3, 5, 7] = _ := e1
 have e2 : spec_l1Cur_among (c1.1, (c1.2.1, c1.2.2)) [2, 3, 3, 4, 1, 5, 0, 8] = _ := e2
 have e3 : spec_l1Cur_among (c2.1, (c2.2.1, c2.2.2)) [1, 2, 2, 3, 3, 4, 0] = _ := e3
 have e4 : spec_l1Cur_linear_L4 fuel ((c3.1, (c3.2.1, c3.2.2)), (0, (0, [])), p, (p, ((V : Int), [])), (M : Int)) = _ := e4
 have e5 : spec_l1Cur_pick (c4.1, (c4.2.1, c4.2.2)) 40 = _ := e5
 have hlen : rows.length ≤ 4 := by simp at l4; omega
 have hrl : ∀ r ∈ rows, r.length ≤ 9 := fun r hr => by have := (r4 r hr).1; omega
 unfold spec_l1Cur_linear
 simp only [e1, e2, e3, e4, e5, Option.bind_some]
 by_cases h0 : x5 = 0
 ·rw [if_pos (by simpa using h0)]
  obtain ⟨c6, x6, e6, g6, m6⟩ := among_ok g5 (by omega) (l := [4, 1, 0, 11, 9]) (by simp) (by simp)
  have e6 : spec_l1Cur_among (c5.1, (c5.2.1, c5.2.2)) [4, 1, 0, 11, 9] = _ := e6
  simp only [e6, Option.bind_some]
  exact ⟨_, _, rfl, g6.mono (by omega), by dsimp only; omega, hrl, by simp at m6; dsimp only; omega⟩
 ·rw [if_neg (by simpa using h0)]
  by_cases h1 : x5 = 1
  ·rw [if_pos (by simpa using h1)]
   obtain ⟨c6, x6, e6, g6, m6⟩ := among_ok g5 (by omega) (l := [(-1), 9, w64 ((V : Int) + 1)]) (by simp) (by simp)
   have e6 : spec_l1Cur_among (c5.1, (c5.2.1, c5.2.2)) [(-1), 9, w64 ((V : Int) + 1)] = _ := e6
   simp only [e6, Option.bind_some]
   exact ⟨_, _, rfl, g6.mono (by omega), by dsimp only; omega, hrl, by dsimp only; omega⟩
  ·rw [if_neg (by simpa using h1)]
   by_cases h2 : x5 = 2
   ·rw [if_pos (by simpa using h2)]
    obtain ⟨c6, rows6, e6, g6, r6, l6⟩ := drawZ (t2 := (0, (0, []))) (p := p) (show V ≤ 8 by omega) (9 - rows.length) fuel _ c5 rows (by omega) (by unfold fuel; omega) g5 (by omega) hrl
    have e6 : spec_l1Cur_linear_L22 fuel ((c5.1, (c5.2.1, c5.2.2)), (0, (0, [])), (p, ((V : Int), rows))) = _ := e6
    simp only [e6, Option.bind_some]
    exact ⟨_, _, rfl, g6.mono (by omega), l6, r6, by dsimp only; omega⟩
   ·rw [if_neg (by simpa using h2)]
    by_cases h3 : x5 = 3
    ·rw [if_pos (by simpa using h3)]
     by_cases h4 : (rows.length : Int) > 0
     ·rw [if_pos (decide_eq_true h4), if_pos (show inb (0 : Int) rows by unfold inb; omega)]
      obtain ⟨c6, x6, e6, g6, m6⟩ := among_ok g5 (by omega) (l := [(-1), p]) (by simp) (by simp)
      have e6 : spec_l1Cur_among (c5.1, (c5.2.1, c5.2.2)) [(-1), p] = _ := e6
      simp only [e6, Option.bind_some]
      have hg0 : gd rows 0 [] = rows.getD 0 [] := rfl
      have hm0 : rows.getD 0 [] ∈ rows := getD_mem (by omega)
      have hl0 := (r4 _ hm0).1
      rw [if_pos (show inb (0 : Int) (gd rows 0 []) by rw [hg0]; unfold inb; omega)]
      refine ⟨_, _, rfl, g6.mono (by omega), ?_, fun r hr => ?_, by dsimp only; omega⟩
      ·show (stt rows 0 _).length ≤ 9
       unfold stt; rw [List.length_set]; omega
      ·have hr : r ∈ rows.set 0 ((gd rows 0 []).set 0 x6) := hr
       rcases List.mem_or_eq_of_mem_set hr with hr | hr
       ·exact hrl r hr
       ·rw [hr, List.length_set, hg0]; omega
     ·rw [if_neg (by simpa using h4)]
      exact ⟨_, _, rfl, g5.mono (by omega), by dsimp only; omega, hrl, by dsimp only; omega⟩
    ·rw [if_neg (by simpa using h3)]
     exact ⟨_, _, rfl, g5.mono (by omega), by dsimp only; omega, hrl, by dsimp only; omega⟩
end
end T
open Go Go.Va
namespace T
def refR (a : Lin) : List Int × Bool := if goodB a then (if failB a.2.2.length (elimF a.1 (colsR a.2.2 a.2.1.toNat) a.2.2.length) then ([], false) else (solL a.2.2.length (elimF a.1 (colsR a.2.2 a.2.1.toNat) a.2.2.length), true)) else ([], false)
def solR (a : Lin) : List Int × Bool := if goodB a then (if failB a.2.1.toNat (elimF a.1 a.2.2 a.2.1.toNat) then ([], false) else (solL a.2.1.toNat (elimF a.1 a.2.2 a.2.1.toNat), true)) else ([], false)
section
variable {a : Lin}
theorem RefuteLinear_val (h : linS a) : impl_RefuteLinear a = some (refR a) ∧ spec_RefuteLinear a = some (refR a) := by
 obtain ⟨p, v, rows⟩ := a
 unfold impl_RefuteLinear spec_RefuteLinear refR
 rw [impl_IsLinear_ok h, spec_l21Good_ok h]
 cases hg : goodB (p, v, rows) with
 | false => exact ⟨rfl, rfl⟩
 | true =>
  obtain ⟨hp, V, hv, hV, hN, hr⟩ := lin_of hg
  dsimp only at hp hv hN hr
  subst hv
  have hc := colR_ok hp hr
  have hcl : ((List.range (V + 1)).map (colR rows V)).length ≤ 100000 := by simp; omega
  simp only [impl_cols hV hN hr, spec_cols hV hN hr, Option.bind_some, Bool.not_true, Bool.false_eq_true, if_false, if_true]
  have hs := elimF_ok hp hc rows.length (by omega)
  have e1 := elim_kept hp (show rows.length ≤ rows.length + 1 by omega) (by omega) hc hcl
  have e2 := solve_ok hp (show rows.length < rows.length + 1 by omega) (by omega) hc hcl
  have e3 := least_ok hp hs (by omega) hcl (by omega)
  simp only [e1, e2, e3, Option.bind_some]
  exact ⟨rfl, rfl⟩
theorem SolveLinear_val (h : linS a) : impl_SolveLinear a = some (solR a) ∧ spec_SolveLinear a = some (solR a) := by
 obtain ⟨p, v, rows⟩ := a
 unfold impl_SolveLinear spec_SolveLinear solR
 rw [impl_IsLinear_ok h, spec_l21Good_ok h]
 cases hg : goodB (p, v, rows) with
 | false => exact ⟨rfl, rfl⟩
 | true =>
  obtain ⟨hp, V, hv, hV, hN, hr⟩ := lin_of hg
  dsimp only at hp hv hN hr
  subst hv
  have hs := elimF_ok hp hr V (by omega)
  unfold impl_eliminateLinear
  have e1 := elim_kept hp (show V ≤ V + 1 by omega) (by omega) hr (by omega)
  have e2 := solve_ok hp (show V < V + 1 by omega) (by omega) hr (by omega)
  have e3 := least_ok hp hs (by omega) (by omega) (by omega)
  simp only [e1, e2, e3, Option.bind_some, Bool.not_true, Bool.false_eq_true, if_false, if_true]
  exact ⟨rfl, rfl⟩
theorem good_parts (hg : goodB a = true) : pr4 a.1 ∧ (a.2.1.toNat : Int) = a.2.1 ∧ a.2.1.toNat ≤ 8 ∧ a.2.2.length ≤ 8 ∧ ∀ r ∈ a.2.2, okRow a.1 (a.2.1.toNat + 1) r := by
 obtain ⟨hp, V, hv, hV, hN, hr⟩ := lin_of hg
 have e : a.2.1.toNat = V := by rw [hv]; rfl
 rw [e]
 exact ⟨hp, hv.symm, hV, hN, hr⟩
theorem ref_not (hg : goodB a = true) : (refR a).2 = !(solR a).2 := by
 obtain ⟨hp, hv, hV, hN, hr⟩ := good_parts hg
 have := ref_iff hp hr
 unfold refR solR
 rw [hg, this]
 cases failB a.2.1.toNat (elimF a.1 a.2.2 a.2.1.toNat) <;> rfl
theorem dotK_sum {y : List Int} {rows : List (List Int)} {v : Nat} : ∀ k, dotK y rows v k = sumN k fun i => y.getD i 0 * (rows.getD i []).getD v 0
 | 0 => rfl
 | k + 1 => by rw [dotK, sumN_succ, dotK_sum k]
theorem refutes_iff (hp : pr4 a.1) (hv : (a.2.1.toNat : Int) = a.2.1) {y : List Int} : refutes a.1 a.2.1 a.2.2 y = true ↔ refC a.1 a.2.1.toNat a.2.2 fun i => y.getD i 0 := by
 have hp' : 2 ≤ a.1 ∧ a.1 ≤ 7 := by unfold pr4 at hp; omega
 unfold refutes refC
 rw [List.all_eq_true]
 have key : ∀ v, v ≤ a.2.1.toNat → ((dotK y a.2.2 v a.2.2.length % a.1 == if (v : Int) = a.2.1 then 1 else 0) = true ↔ cg a.1 (sumN a.2.2.length fun i => y.getD i 0 * (a.2.2.getD i []).getD v 0) (if v = a.2.1.toNat then 1 else 0)) := fun v hvl => by
  have ei : (if (v : Int) = a.2.1 then (1 : Int) else 0) = if v = a.2.1.toNat then 1 else 0 := by
   by_cases e : v = a.2.1.toNat
   ·rw [if_pos e, if_pos (by omega)]
   ·rw [if_neg e, if_neg (by omega)]
  rw [ei, dotK_sum, beq_iff_eq]
  generalize (sumN a.2.2.length fun i => y.getD i 0 * (a.2.2.getD i []).getD v 0) = S
  have hd : 0 ≤ (if v = a.2.1.toNat then (1 : Int) else 0) ∧ (if v = a.2.1.toNat then (1 : Int) else 0) < a.1 := by split <;> omega
  generalize (if v = a.2.1.toNat then (1 : Int) else 0) = D at hd ⊢
  have hm : cg a.1 (S % a.1) S := by
   have := Int.emod_add_mul_ediv S a.1
   exact ⟨-(S / a.1), by grind⟩
  constructor
  ·intro h; rw [h] at hm; exact cg_symm hm
  ·intro h
   exact cg_eq (cg_trans hm h) ⟨Int.emod_nonneg _ (by omega), Int.emod_lt_of_pos _ (by omega)⟩ hd
 constructor
 ·intro h v hvl; exact (key v hvl).1 (h v (List.mem_range.2 (by omega)))
 ·intro h v hvl; exact (key v (by have := List.mem_range.1 hvl; omega)).2 (h v (by have := List.mem_range.1 hvl; omega))
theorem ref_told (h : (refR a).2 = true) : isRefut a (refR a).1 = (true, true) ∧ goodB a = true := by
 cases hg : goodB a with
 | false => unfold refR at h; rw [hg] at h; simp at h
 | true =>
  obtain ⟨hp, hv, hV, hN, hr⟩ := good_parts hg
  have hC : ∀ r ∈ colsR a.2.2 a.2.1.toNat, okRow a.1 (a.2.2.length + 1) r := colR_ok hp hr
  have hs := elimF_ok hp hC a.2.2.length (by omega)
  cases hf : failB a.2.2.length (elimF a.1 (colsR a.2.2 a.2.1.toNat) a.2.2.length) with
  | true => unfold refR at h; rw [hg, hf] at h; simp at h
  | false =>
   have hsol := told_sol hp hC hf
   have e : (refR a).1 = solL a.2.2.length (elimF a.1 (colsR a.2.2 a.2.1.toNat) a.2.2.length) := by unfold refR; rw [hg, hf]; rfl
   rw [e]
   generalize elimF a.1 (colsR a.2.2 a.2.1.toNat) a.2.2.length = s at hs hsol
   have hl : (solL a.2.2.length s).length = a.2.2.length := by simp [solL]
   have hget : ∀ i, i < a.2.2.length → (solL a.2.2.length s).getD i 0 = solV a.2.2.length s i := fun i hi => by
    rw [getD_of (by rw [hl]; exact hi)]; simp [solL]
   have hin : ∀ i, 0 ≤ solV a.2.2.length s i ∧ solV a.2.2.length s i < a.1 := fun i => by
    unfold solV
    split
    ·unfold pr4 at hp; omega
    ·rename_i h0
     have hm : (i : Int) ∈ s.2.1 := by
      by_cases hm : (i : Int) ∈ s.2.1
      ·exact hm
      ·exact absurd (posL_neg.2 hm) h0
     obtain ⟨j, hj, h1, _⟩ := posL_at hm
     rw [h1, Int.toNat_natCast]
     have hjt : j < s.1.length := by have := hs.bl; omega
     exact ok_get (hs.t _ (getD_mem hjt)) (by omega)
   have hb : belowB a.1 (solL a.2.2.length s) = true := by
    unfold belowB
    rw [List.all_eq_true]
    intro x hx
    obtain ⟨i, hi, rfl⟩ := List.mem_map.1 hx
    have := hin i
    simpa using this
   have hrf : refutes a.1 a.2.1 a.2.2 (solL a.2.2.length s) = true := by
    rw [refutes_iff hp hv]
    intro v hvl
    have := sol_ref.1 hsol v hvl
    rw [sumN_congr (k := fun i => solV a.2.2.length s i * (a.2.2.getD i []).getD v 0) fun i hi => by dsimp only; rw [hget i hi]]
    exact this
   refine ⟨?_, rfl⟩
   unfold isRefut
   rw [hg, hb, hrf, hl]
   simp
theorem ref_stops {z : List Int} (h : (isRefut a z).1 = true) : (solR a).2 = false := by
 unfold isRefut at h
 cases hg : goodB a with
 | false => rw [hg] at h; simp at h
 | true =>
  rw [hg] at h
  simp only [if_true] at h
  split at h
  ·obtain ⟨hp, hv, hV, hN, hr⟩ := good_parts hg
   have h1 := (refutes_iff hp hv).1 h
   unfold solR
   rw [hg]
   cases hf : failB a.2.1.toNat (elimF a.1 a.2.2 a.2.1.toNat) with
   | true => rfl
   | false => exact (ref_sol hp h1 (told_sol hp hr hf)).elim
  ·simp at h
theorem refR_len : (refR a).1.length ≤ a.2.2.length := by
 unfold refR
 split
 ·split
  ·simp
  ·simp [solL]
 ·simp
end
theorem vInts_ok {x y : List Int} (h : x.length ≤ 1048576) : laws_vInts x y = some (decide (x = y)) := by
 unfold laws_vInts
 by_cases hl : x.length = y.length
 ·rw [if_neg (by simp [hl])]
  rw [eqX x y hl (fun n i => laws_vInts_L4 n (x, y, i)) (fun n k h1 h2 => ?_) (fun n => ?_) (n := fuel) (by unfold fuel; omega)]
  ·by_cases e : x = y <;> simp [e]
  ·simp only [laws_vInts_L4, inb_nat, gd_nat h1, gd_nat h2, w64_succ (show k < 4611686018427387904 by omega)]
   by_cases e : x[k] = y[k] <;> simp [h1, h2, e]
  ·simp [laws_vInts_L4]
 ·have : x ≠ y := fun e => hl (by rw [e])
  rw [if_pos (by simp; omega)]; simp [this]
theorem drawFac {l t2 : LinT} (hl : l.2.2.length ≤ 9) (hl1 : l.1 ≤ 1000) : ∀ (d i f k : Nat) (c : CurT) (y : List Int), i + d = l.2.2.length → d < f → Cur k c → k + 2 * d ≤ 1000000 → y.length ≤ 20 + i →
    ∃ c' y', spec_DrawIsLinearRefutation_L6 f (t2, c, l, y, (i : Int)) = some (t2, c', l, y') ∧ Cur (k + 2 * d) c' ∧ y'.length ≤ 40 := by
  intro d
  induction d with
  | zero =>
    intro i f k c y hi hf hc hk hy
    obtain ⟨f, rfl⟩ : ∃ z, f = z + 1 := ⟨f - 1, by omega⟩
    refine ⟨c, y, ?_, hc, by omega⟩
    simp only [spec_DrawIsLinearRefutation_L6]
    rw [if_neg (by rw [decide_eq_true_eq]; omega)]
  | succ d ih =>
    intro i f k c y hi hf hc hk hy
    obtain ⟨f, rfl⟩ : ∃ z, f = z + 1 := ⟨f - 1, by omega⟩
    have hm : ∃ m, (spec_l1Least l.1 12).bind (fun r3 => spec_l1Most 1 r3) = some m ∧ m ≤ 12 := by
      unfold spec_l1Least spec_l1Most
      by_cases h1 : l.1 < 12
      · rw [if_pos (decide_eq_true h1)]
        simp only [Option.bind_some]
        split
        · exact ⟨_, rfl, by omega⟩
        · exact ⟨_, rfl, by omega⟩
      · rw [if_neg (by simpa using h1)]
        simp only [Option.bind_some]
        split
        · exact ⟨_, rfl, by omega⟩
        · exact ⟨_, rfl, by omega⟩
    obtain ⟨m, em, hm⟩ := hm
    obtain ⟨c1, x1, e1, g1, _⟩ := pick_ok hc (by omega) m (by omega)
    have e1 : spec_l1Cur_pick (c.1, (c.2.1, c.2.2)) m = _ := e1
    obtain ⟨c', y', e2, g2, l2⟩ := ih (i + 1) f (k + 2) c1 (y ++ [x1]) (by omega) (by omega) g1 (by omega) (by simp; omega)
    refine ⟨c', y', ?_, g2.mono (by omega), l2⟩
    simp only [spec_DrawIsLinearRefutation_L6]
    rw [if_pos (by rw [decide_eq_true_eq]; omega)]
    cases h3 : spec_l1Least l.1 12 with
    | none => rw [h3] at em; simp at em
    | some r3 =>
      rw [h3] at em
      simp only [Option.bind_some] at em ⊢
      rw [em]
      simp only [Option.bind_some, e1]
      rw [if_pos (by rw [List.length_singleton]; unfold lim; omega), w64_succ (by omega)]
      exact e2
theorem DrawRefuteLinear_ok {code : List Int} (h1 : code.length ≤ 65536) (h2 : ∀ x ∈ code, 0 ≤ x ∧ x < 256) : ∃ l, spec_DrawRefuteLinear code = some l ∧ linS l := by
 obtain ⟨c', l, e, _, l1, l2, _⟩ := linear_ok (k := 0) (c := (code, (0, 0))) ⟨h1, h2, by simp, by simp⟩ (by omega)
 refine ⟨l, ?_, ⟨by omega, fun r hr => by have := l2 r hr; omega⟩⟩
 unfold spec_DrawRefuteLinear spec_DrawIsLinear
 simp only [e, Option.bind_some]
theorem DrawIsLinearRefutation_ok {code : List Int} (h1 : code.length ≤ 65536) (h2 : ∀ x ∈ code, 0 ≤ x ∧ x < 256) : ∃ l z, spec_DrawIsLinearRefutation code = some (l, z) ∧ linS l ∧ z.length ≤ 1000 := by
  obtain ⟨c', l, e, hc, l1, l2, l3⟩ := linear_ok (k := 0) (c := (code, (0, 0))) ⟨h1, h2, by simp, by simp⟩ (by omega)
  have hS : linS l := ⟨by omega, fun r hr => by have := l2 r hr; omega⟩
  have er := (RefuteLinear_val hS).2
  have er : spec_RefuteLinear (l.1, (l.2.1, l.2.2)) = _ := er
  have hlen := refR_len (a := l)
  unfold spec_DrawIsLinearRefutation
  simp only [e, er, Option.bind_some]
  have fin : ∀ (c : CurT) (k : Nat) (y : List Int), Cur k c → k ≤ 100000 → y.length ≤ 40 → ∃ l' z, ((spec_l1Cur_one (c.1, (c.2.1, c.2.2)) 12).bind fun r4 => if r4.2 then
              (spec_l1Cur_among (r4.1.1, (r4.1.2.1, r4.1.2.2)) [0, (-1)]).bind fun r5 =>
                if y.length + [r5.2].length ≤ lim then
                  some ((l.1, (l.2.1, l.2.2)), y ++ [r5.2])
                else none
            else
              some ((l.1, (l.2.1, l.2.2)), y)) = some (l', z) ∧ linS l' ∧ z.length ≤ 1000 := by
    intro c k y hc hk hy
    obtain ⟨c4, b4, e4, g4⟩ := one_ok hc (by omega) 12 (by omega)
    have e4 : spec_l1Cur_one (c.1, (c.2.1, c.2.2)) 12 = _ := e4
    simp only [e4, Option.bind_some]
    cases b4 with
    | false => exact ⟨l, y, rfl, hS, by omega⟩
    | true =>
      obtain ⟨c5, x5, e5, g5, _⟩ := among_ok g4 (by omega) (l := [0, (-1)]) (by simp) (by simp)
      have e5 : spec_l1Cur_among (c4.1, (c4.2.1, c4.2.2)) [0, (-1)] = _ := e5
      simp only [if_true, e5, Option.bind_some]
      rw [if_pos (by rw [List.length_singleton]; unfold lim; omega)]
      exact ⟨l, y ++ [x5], rfl, hS, by simp; omega⟩
  cases hr : (refR l).2 with
  | true =>
    simp only [Bool.not_true, Bool.false_eq_true, if_false]
    exact fin c' _ (refR l).1 hc (by omega) (by omega)
  | false =>
    obtain ⟨c6, y6, e6, g6, l6⟩ := drawFac (t2 := (0, (0, []))) l1 l3 l.2.2.length 0 fuel _ c' (refR l).1 (by omega) (by unfold fuel; omega) hc (by omega) (by omega)
    have e6 : spec_DrawIsLinearRefutation_L6 fuel ((0, (0, [])), (c'.1, (c'.2.1, c'.2.2)), (l.1, (l.2.1, l.2.2)), (refR l).1, 0) = _ := e6
    simp only [Bool.not_false, if_true, e6, Option.bind_some]
    exact fin c6 _ y6 g6 (by omega) l6
theorem FnLinearRefutations_law {code : List Int} (h : wfT (.slice (.num .u8)) code) : laws_FnLinearRefutations code = some true := by
 unfold laws_FnLinearRefutations laws_vBig
 simp only [Option.bind_some]
 by_cases hb : (code.length : Int) > 65536
 ·rw [if_pos (decide_eq_true hb)]
 ·rw [if_neg (by simpa using hb)]
  have h1 : code.length ≤ 65536 := by omega
  have h2 : ∀ x ∈ code, 0 ≤ x ∧ x < 256 := fun x hx => by
   have : IntKind.u8.min ≤ x ∧ x ≤ IntKind.u8.max := h.2 x hx
   have e1 : IntKind.u8.min = 0 := by decide
   have e2 : IntKind.u8.max = 255 := by decide
   omega
  obtain ⟨l, el, hl⟩ := DrawRefuteLinear_ok h1 h2
  obtain ⟨m, z, em, hm, hz⟩ := DrawIsLinearRefutation_ok h1 h2
  obtain ⟨r1, r2⟩ := RefuteLinear_val hl
  have s1 := (SolveLinear_val hl).1
  have s2 := (SolveLinear_val hm).1
  have i1 := impl_IsLinear_ok hl
  have t1 := impl_IsLinearRefutation_ok hm (y := z) (by omega)
  have t2 := spec_IsLinearRefutation_ok hm (y := z) (by omega)
  have hrl := refR_len (a := l)
  have hl1 := hl.1
  have t3 := impl_IsLinearRefutation_ok hl (y := (refR l).1) (by omega)
  have r1 : impl_RefuteLinear (l.1, (l.2.1, l.2.2)) = _ := r1
  have r2 : spec_RefuteLinear (l.1, (l.2.1, l.2.2)) = _ := r2
  have s1 : impl_SolveLinear (l.1, (l.2.1, l.2.2)) = _ := s1
  have s2 : impl_SolveLinear (m.1, (m.2.1, m.2.2)) = _ := s2
  have i1 : impl_IsLinear (l.1, (l.2.1, l.2.2)) = _ := i1
  have t1 : impl_IsLinearRefutation (m.1, (m.2.1, m.2.2)) z = _ := t1
  have t2 : spec_IsLinearRefutation (m.1, (m.2.1, m.2.2)) z = _ := t2
  have t3 : impl_IsLinearRefutation (l.1, (l.2.1, l.2.2)) (refR l).1 = _ := t3
  simp only [el, em, r1, r2, s1, s2, i1, t1, t2, t3, vInts_ok (show (refR l).1.length ≤ 1048576 by omega), Option.bind_some]
  have fin : (if (!(isRefut m z).1) = true then some true else some (!(solR m).2)) = some true := by
   cases hi : (isRefut m z).1 with
   | false => rfl
   | true => rw [ref_stops hi]; rfl
  have hbe : ∀ b : Bool, (b != b) = false := fun b => by cases b <;> rfl
  simp only [hbe, Bool.false_eq_true, if_false, decide_true, Bool.not_true, fin]
  cases hg : goodB l with
  | true =>
   have hne := ref_not hg
   have hbe2 : ∀ b : Bool, (!b == b) = false := fun b => by cases b <;> rfl
   rw [hne]
   simp only [if_true, hbe2, Bool.false_eq_true, if_false]
   cases hs : (solR l).2 with
   | true => simp
   | false =>
    rw [hs] at hne
    rw [(ref_told hne).1]
    simp
  | false =>
   have : (refR l).2 = false := by unfold refR; rw [hg]; rfl
   rw [this]
   simp
end T
