/- Plain lemmas on the typed functions of the program, the first part; no conditions. -/
import Derived.Test.YtcdjlpcapanibacV1
import Derived.Test.YtcdjlpcapanibacV5
import Derived.KernelRfl
set_option linter.all false
namespace Go.Va
theorem w64_def (x : Int) : w64 x = (x + 9223372036854775808) % 18446744073709551616 - 9223372036854775808 := by
 simp [w64, IntKind.wrap, IntKind.bits, IntKind.signed]
 split <;> omega
theorem w64_id {x : Int} (h1 : -9223372036854775808 ≤ x) (h2 : x ≤ 9223372036854775807) : w64 x = x := by
 rw [w64_def]; omega
theorem w64_succ {k : Nat} (h : k < 4611686018427387904) : w64 ((k : Int) + 1) = ((k + 1 : Nat) : Int) := by
 rw [w64_id (by omega) (by omega)]; rfl
theorem inb_nat {α : Type} {k : Nat} {xs : List α} : inb (k : Int) xs ↔ k < xs.length := by
 unfold inb; omega
theorem gd_nat {α : Type} {k : Nat} {xs : List α} {d : α} (h : k < xs.length) : gd xs (k : Int) d = xs[k] := by
 unfold gd; simp [h]
theorem stt_nat {α : Type} {k : Nat} {xs : List α} {x : α} : stt xs (k : Int) x = xs.set k x := by
 unfold stt; simp
def runX {α σ β : Type} (step : σ → α → Option (σ ⊕ β)) (fin : σ → Option β) : List α → σ → Option β
 | [], s => fin s
 | a :: l, s => match step s a with | some (.inl s') => runX step fin l s' | some (.inr r) => some r | none => none
theorem loopX {α σ β : Type} (xs : List α) (L : Nat → σ → Int → Option β) (step : σ → α → Option (σ ⊕ β)) (fin : σ → Option β)
    (hs : ∀ n s (k : Nat) (hk : k < xs.length), L (n + 1) s k = match step s xs[k] with | some (.inl s') => L n s' ((k + 1 : Nat) : Int) | some (.inr r) => some r | none => none)
    (he : ∀ n s, L (n + 1) s (xs.length : Nat) = fin s) : ∀ (n k : Nat) (s : σ), k ≤ xs.length → xs.length - k < n → L n s k = runX step fin (xs.drop k) s := by
  intro n
  induction n with
  | zero => intro k s _ h; omega
  | succ n ih =>
    intro k s hk hn
    rcases Nat.lt_or_ge k xs.length with hlt | hge
    · rw [hs n s k hlt, List.drop_eq_getElem_cons hlt]
      simp only [runX]
      cases step s xs[k] with
      | none => rfl
      | some q =>
        cases q with
        | inl s' => exact ih (k + 1) s' hlt (by omega)
        | inr r => rfl
    · have : k = xs.length := by omega
      subst this
      rw [he, List.drop_length]; rfl
theorem loopX0 {α σ β : Type} (xs : List α) (L : Nat → σ → Int → Option β) (step : σ → α → Option (σ ⊕ β)) (fin : σ → Option β)
    (hs : ∀ n s (k : Nat) (hk : k < xs.length), L (n + 1) s k = match step s xs[k] with | some (.inl s') => L n s' ((k + 1 : Nat) : Int) | some (.inr r) => some r | none => none)
    (he : ∀ n s, L (n + 1) s (xs.length : Nat) = fin s) {n : Nat} (hn : xs.length < n) (s : σ) : L n s 0 = runX step fin xs s := by
  have := loopX xs L step fin hs he n 0 s (Nat.zero_le _) (by omega)
  simpa using this
theorem runX_all {α β : Type} {p : α → Bool} {step : Unit → α → Option (Unit ⊕ β)} {fin : Unit → Option β} {r : β} : ∀ {l : List α}, (∀ a ∈ l, step () a = if p a then some (.inl ()) else some (.inr r)) → runX step fin l () = if l.all p then fin () else some r
 | [], _ => rfl
 | a :: l, h => by
  simp only [runX]
  rw [h a (by simp)]
  cases hp : p a with
  | true => simp only [if_true, List.all_cons, hp, Bool.true_and]; exact runX_all fun b hb => h b (List.mem_cons_of_mem _ hb)
  | false => simp [List.all_cons, hp]
theorem eqX {α : Type} [DecidableEq α] (a b : List α) (hl : a.length = b.length) (L : Nat → Int → Option (Unit ⊕ Bool))
    (hs : ∀ n (k : Nat) (h1 : k < a.length) (h2 : k < b.length), L (n + 1) k = if a[k] = b[k] then L n ((k + 1 : Nat) : Int) else some (.inr false)) (he : ∀ n, L (n + 1) (a.length : Nat) = some (.inl ())) {n : Nat} (hn : a.length < n) :
    L n 0 = some (if a = b then .inl () else .inr false) := by
  have key : ∀ (n k : Nat), k ≤ a.length → a.length - k < n → L n k = some (if a.drop k = b.drop k then .inl () else .inr false) := by
    intro n
    induction n with
    | zero => intro k _ h; omega
    | succ n ih =>
      intro k hk hn
      rcases Nat.lt_or_ge k a.length with hlt | hge
      · have h2 : k < b.length := by omega
        have e : (a.drop k = b.drop k) ↔ (a[k] = b[k] ∧ a.drop (k + 1) = b.drop (k + 1)) := by
          rw [List.drop_eq_getElem_cons hlt, List.drop_eq_getElem_cons h2]; exact List.cons_eq_cons
        rw [hs n k hlt h2]
        by_cases h : a[k] = b[k]
        · rw [if_pos h, ih (k + 1) hlt (by omega)]
          by_cases h3 : a.drop (k + 1) = b.drop (k + 1)
          · rw [if_pos h3, if_pos (e.2 ⟨h, h3⟩)]
          · rw [if_neg h3, if_neg fun h' => h3 (e.1 h').2]
        · rw [if_neg h, if_neg fun h' => h (e.1 h').1]
      · have : k = a.length := by omega
        subst this
        rw [he, List.drop_length, hl, List.drop_length]; rfl
  have := key n 0 (Nat.zero_le _) (by omega)
  simpa using this
theorem allX {α β : Type} (xs : List α) (L : Nat → Int → Option β) (p : α → Bool) (r e : β)
    (hs : ∀ n (k : Nat) (hk : k < xs.length), L (n + 1) k = if p xs[k] then L n ((k + 1 : Nat) : Int) else some r) (he : ∀ n, L (n + 1) (xs.length : Nat) = some e) {n : Nat} (hn : xs.length < n) :
    L n 0 = some (if xs.all p then e else r) := by
  have := loopX0 xs (fun n (_ : Unit) i => L n i) (fun _ a => if p a then some (.inl ()) else some (.inr r)) (fun _ => some e) (fun n s k hk => by rw [hs n k hk]; cases p xs[k] <;> simp) (fun n s => he n) hn ()
  rw [this, runX_all (p := p) (r := r) fun a _ => by cases p a <;> simp]
  cases xs.all p <;> simp
theorem forS {σ β : Type} (N : Nat) (L : Nat → σ → Int → Option β) (S : Nat → σ) {r : Option β}
    (hs : ∀ n (k : Nat), k < N → L (n + 1) (S k) k = L n (S (k + 1)) ((k + 1 : Nat) : Int)) (he : ∀ n, L (n + 1) (S N) (N : Nat) = r) {n : Nat} (hn : N < n) : L n (S 0) 0 = r := by
  have key : ∀ (n k : Nat), k ≤ N → N - k < n → L n (S k) k = r := by
    intro n
    induction n with
    | zero => intro k _ h; omega
    | succ n ih =>
      intro k hk hn
      rcases Nat.lt_or_ge k N with hlt | hge
      · rw [hs n k hlt]; exact ih (k + 1) hlt (by omega)
      · have : k = N := by omega
        subst this; exact he n
  exact key n 0 (Nat.zero_le _) (by omega)
end Go.Va
set_option linter.unusedVariables false
open Go Go.Va
namespace T
def fuel : Nat := 1099511627776
def spec_l21Prime (p : Int) : Option (Bool) :=
 if p == 2 then
  some true
 else
  if p == 3 then
   some true
  else
   if p == 5 then
    some true
   else
    some (p == 7)
def spec_l1In (x : Int) (a : Int) (b : Int) : Option (Bool) :=
 if decide (x ≥ a) then
  some (decide (x ≤ b))
 else
  some false
def spec_l2Elements_L2 : Nat → (Int × (List Int) × Int) → Option ((Unit) ⊕ (Bool))
 | 0, _ => none
 | n + 1, (n_, list, i) =>
  if decide (i < (list.length : Int)) then
   if inb i list then
    (spec_l1In (gd list i 0) 0 (w64 (n_ - 1))).bind fun r1 =>
     if !r1 then
      some (.inr false)
     else
      spec_l2Elements_L2 n (n_, list, w64 (i + 1))
   else none
  else
   some (.inl ())
def spec_l2Elements (n_ : Int) (list : List Int) : Option (Bool) :=
 (spec_l2Elements_L2 fuel (n_, list, 0)).bind fun s1 =>
  match s1 with
  | .inl s2 =>
   some true
  | .inr s3 =>
   some s3
def spec_l8Tuple (n_ : Int) (k : Int) (t : List Int) : Option (Bool) :=
 if (t.length : Int) == k then
  (spec_l2Elements n_ t).bind fun r1 =>
   some r1
 else
  some false
def spec_l21Rows_L2 : Nat → (Int × Int × (List (List Int)) × Int) → Option ((Unit) ⊕ (Bool))
 | 0, _ => none
 | n + 1, (p, vars, rows, i) =>
  if decide (i < (rows.length : Int)) then
   if inb i rows then
    (spec_l8Tuple p (w64 (vars + 1)) (gd rows i [])).bind fun r1 =>
     if !r1 then
      some (.inr false)
     else
      spec_l21Rows_L2 n (p, vars, rows, w64 (i + 1))
   else none
  else
   some (.inl ())
def spec_l21Rows (p : Int) (vars : Int) (rows : List (List Int)) : Option (Bool) :=
 (spec_l21Rows_L2 fuel (p, vars, rows, 0)).bind fun s1 =>
  match s1 with
  | .inl s2 =>
   some true
  | .inr s3 =>
   some s3
def spec_l21Good (l : Int × Int × (List (List Int))) : Option (Bool) :=
 (spec_l21Prime l.1).bind fun r1 =>
  if r1 then
   (spec_l1In l.2.1 0 8).bind fun r2 =>
    if r2 then
     if decide ((l.2.2.length : Int) ≤ 8) then
      (spec_l21Rows l.1 l.2.1 l.2.2).bind fun r3 =>
       some r3
     else
      some false
    else
     some false
  else
   some false
def spec_IsLinear (l : Int × Int × (List (List Int))) : Option (Bool) :=
 (spec_l21Good (l.1, (l.2.1, l.2.2))).bind fun r1 =>
  some r1
def impl_isPrime (p : Int) : Option (Bool) :=
 if p == 2 then
  some true
 else
  if p == 3 then
   some true
  else
   if p == 5 then
    some true
   else
    some (p == 7)
def impl_inSize_L2 : Nat → (Int × (List Int) × Int × Int) → Option ((Unit) ⊕ (Bool))
 | 0, _ => none
 | n + 1, (n_, t7, t8, t9) =>
  if decide (t9 < t8) then
   if inb t9 t7 then
    if decide ((gd t7 t9 0) < 0) then
     some (.inr false)
    else
     if decide ((gd t7 t9 0) ≥ n_) then
      some (.inr false)
     else
      impl_inSize_L2 n (n_, t7, t8, w64 (t9 + 1))
   else none
  else
   some (.inl ())
def impl_inSize (list : List Int) (n_ : Int) : Option (Bool) :=
 (impl_inSize_L2 fuel (n_, list, (list.length : Int), 0)).bind fun s1 =>
  match s1 with
  | .inl s2 =>
   some true
  | .inr s3 =>
   some s3
def impl_IsLinear_L4 : Nat → ((Int × Int × (List (List Int))) × (List (List Int)) × Int × Int) → Option ((Unit) ⊕ (Bool))
 | 0, _ => none
 | n + 1, (l, t26, t27, t28) =>
  if decide (t28 < t27) then
   if inb t28 t26 then
    if ((gd t26 t28 []).length : Int) != (w64 (l.2.1 + 1)) then
     some (.inr false)
    else
     (impl_inSize (gd t26 t28 []) l.1).bind fun r2 =>
      if !r2 then
       some (.inr false)
      else
       impl_IsLinear_L4 n ((l.1, (l.2.1, l.2.2)), t26, t27, w64 (t28 + 1))
   else none
  else
   some (.inl ())
def impl_IsLinear (l : Int × Int × (List (List Int))) : Option (Bool) :=
 (impl_isPrime l.1).bind fun r1 =>
  if !r1 then
   some false
  else
   if decide (l.2.1 < 0) then
    some false
   else
    if decide (l.2.1 > 8) then
     some false
    else
     if decide ((l.2.2.length : Int) > 8) then
      some false
     else
      (impl_IsLinear_L4 fuel ((l.1, (l.2.1, l.2.2)), l.2.2, (l.2.2.length : Int), 0)).bind fun s2 =>
       match s2 with
       | .inl s3 =>
        some true
       | .inr s4 =>
        some s4
def spec_l2Pow_L2 : Nat → (Int × Int × Int) → Option (Int)
 | 0, _ => none
 | n + 1, (n_, k, out) =>
  if decide (k > 0) then
   spec_l2Pow_L2 n (n_, w64 (k - 1), w64 (out * n_))
  else
   some out
def spec_l2Pow (n_ : Int) (k : Int) : Option (Int) :=
 (spec_l2Pow_L2 fuel (n_, k, 1)).bind fun s1 =>
  some s1
def spec_l3Less_L2 : Nat → ((List Int) × (List Int) × Int) → Option ((Unit) ⊕ (Bool))
 | 0, _ => none
 | n + 1, (a, b, i) =>
  if decide (i < (a.length : Int)) then
   if inb i a then
    if inb i b then
     if (gd a i 0) != (gd b i 0) then
      if inb i a then
       if inb i b then
        some (.inr (decide ((gd a i 0) < (gd b i 0))))
       else none
      else none
     else
      spec_l3Less_L2 n (a, b, w64 (i + 1))
    else none
   else none
  else
   some (.inl ())
def spec_l3Less (a : List Int) (b : List Int) : Option (Bool) :=
 (spec_l3Less_L2 fuel (a, b, 0)).bind fun s1 =>
  match s1 with
  | .inl s2 =>
   some false
  | .inr s3 =>
   some s3
def spec_l21Less_L3 : Nat → (Int × (List Int) × (List Int) × Int × (List Int) × Int) → Option ((List Int))
 | 0, _ => none
 | n + 1, (p, row, other, by_, out, i) =>
  if decide (i < (row.length : Int)) then
   if inb i row then
    if inb i other then
     if p ≠ 0 then
      if out.length + [Int.tmod (w64 ((gd row i 0) + (w64 ((w64 (p - by_)) * (gd other i 0))))) p].length ≤ lim then
       spec_l21Less_L3 n (p, row, other, by_, out ++ [Int.tmod (w64 ((gd row i 0) + (w64 ((w64 (p - by_)) * (gd other i 0))))) p], w64 (i + 1))
      else none
     else none
    else none
   else none
  else
   some out
def spec_l21Less (p : Int) (row : List Int) (other : List Int) (by_ : Int) : Option ((List Int)) :=
 (spec_l21Less_L3 fuel (p, row, other, by_, [], 0)).bind fun s1 =>
  some s1
def spec_l1Same_L4 : Nat → ((List Int) × (List Int) × Int) → Option ((Unit) ⊕ (Bool))
 | 0, _ => none
 | n + 1, (a, b, i) =>
  if decide (i < (a.length : Int)) then
   if inb i a then
    if inb i b then
     if (gd a i 0) != (gd b i 0) then
      some (.inr false)
     else
      spec_l1Same_L4 n (a, b, w64 (i + 1))
    else none
   else none
  else
   some (.inl ())
def spec_l1Same (a : List Int) (b : List Int) : Option (Bool) :=
 if (a.length : Int) != (b.length : Int) then
  some false
 else
  (spec_l1Same_L4 fuel (a, b, 0)).bind fun s1 =>
   match s1 with
   | .inl s2 =>
    some true
   | .inr s3 =>
    some s3
def spec_l8Find_L2 : Nat → ((List (List Int)) × (List Int) × Int × Int) → Option ((List (List Int)) × (List Int) × Int)
 | 0, _ => none
 | n + 1, (list, t, from_, to) =>
  if decide (from_ < to) then
   if (2 : Int) ≠ 0 then
    if inb (w64 (Int.tdiv (w64 (from_ + to)) 2)) list then
     (spec_l3Less (gd list (w64 (Int.tdiv (w64 (from_ + to)) 2)) []) t).bind fun r1 =>
      if r1 then
       spec_l8Find_L2 n (list, t, w64 ((w64 (Int.tdiv (w64 (from_ + to)) 2)) + 1), to)
      else
       spec_l8Find_L2 n (list, t, from_, w64 (Int.tdiv (w64 (from_ + to)) 2))
    else none
   else none
  else
   some (list, t, from_)
def spec_l8Find (list : List (List Int)) (t : List Int) : Option (Int × Bool) :=
 (spec_l8Find_L2 fuel (list, t, 0, (list.length : Int))).bind fun s1 =>
  if decide (s1.2.2 < (s1.1.length : Int)) then
   if inb s1.2.2 s1.1 then
    (spec_l1Same (gd s1.1 s1.2.2 []) s1.2.1).bind fun r2 =>
     some (s1.2.2, r2)
   else none
  else
   some (s1.2.2, false)
def impl_power_L2 : Nat → (Int × Int × Int) → Option (Int)
 | 0, _ => none
 | n + 1, (n_, k, p) =>
  if decide (k > 0) then
   impl_power_L2 n (n_, w64 (k - 1), w64 (p * n_))
  else
   some p
def impl_power (n_ : Int) (k : Int) : Option (Int) :=
 (impl_power_L2 fuel (n_, k, 1)).bind fun s1 =>
  some s1
end T
open Go Go.Va
namespace T
abbrev Lin := Int × Int × List (List Int)
def linS (a : Lin) : Prop := a.2.2.length ≤ 1048576 ∧ ∀ r ∈ a.2.2, r.length ≤ 1048576
def primeB (p : Int) : Bool := p == 2 || p == 3 || p == 5 || p == 7
theorem impl_isPrime_ok (p : Int) : impl_isPrime p = some (primeB p) := by
 unfold impl_isPrime primeB
 by_cases h2 : p = 2
 ·simp [h2]
 ·by_cases h3 : p = 3
  ·simp [h3]
  ·by_cases h5 : p = 5 <;> simp [h2, h3, h5]
theorem spec_l21Prime_ok (p : Int) : spec_l21Prime p = some (primeB p) := by
 unfold spec_l21Prime primeB
 by_cases h2 : p = 2
 ·simp [h2]
 ·by_cases h3 : p = 3
  ·simp [h3]
  ·by_cases h5 : p = 5 <;> simp [h2, h3, h5]
theorem spec_l1In_ok (x a b : Int) : spec_l1In x a b = some (decide (a ≤ x ∧ x ≤ b)) := by
 unfold spec_l1In
 by_cases h : a ≤ x <;> simp [h]
def belowB (n : Int) (l : List Int) : Bool := l.all fun x => decide (0 ≤ x ∧ x < n)
theorem impl_inSize_ok {l : List Int} (n : Int) (hl : l.length ≤ 1099511627775) : impl_inSize l n = some (belowB n l) := by
 unfold impl_inSize
 rw [allX l (fun m i => impl_inSize_L2 m (n, l, (l.length : Int), i)) (fun x => decide (0 ≤ x ∧ x < n)) (.inr false) (.inl ()) ?_ ?_ (by unfold fuel; omega)]
 ·unfold belowB; cases l.all (fun x => decide (0 ≤ x ∧ x < n)) <;> simp
 ·intro m k hk
  simp only [impl_inSize_L2, inb_nat, gd_nat hk, w64_succ (show k < 4611686018427387904 by omega)]
  by_cases h1 : l[k] < 0
  ·simp [hk, h1, show ¬ 0 ≤ l[k] by omega]
  ·by_cases h2 : n ≤ l[k]
   ·simp [hk, h1, h2, show ¬ l[k] < n by omega]
   ·simp [hk, h1, h2, show 0 ≤ l[k] ∧ l[k] < n by omega]
 ·intro m
  simp [impl_inSize_L2]
theorem spec_l2Elements_ok {l : List Int} {n : Int} (hn : -9223372036854775808 < n) (hn' : n ≤ 9223372036854775807) (hl : l.length ≤ 1099511627775) : spec_l2Elements n l = some (belowB n l) := by
 unfold spec_l2Elements
 rw [allX l (fun m i => spec_l2Elements_L2 m (n, l, i)) (fun x => decide (0 ≤ x ∧ x < n)) (.inr false) (.inl ()) ?_ ?_ (by unfold fuel; omega)]
 ·unfold belowB; cases l.all (fun x => decide (0 ≤ x ∧ x < n)) <;> simp
 ·intro m k hk
  simp only [spec_l2Elements_L2, inb_nat, gd_nat hk, w64_succ (show k < 4611686018427387904 by omega), spec_l1In_ok, w64_id (show -9223372036854775808 ≤ n - 1 by omega) (show n - 1 ≤ 9223372036854775807 by omega)]
  by_cases h1 : 0 ≤ l[k] ∧ l[k] < n
  ·simp [hk, h1, show l[k] ≤ n - 1 by omega]
  ·have : ¬ (0 ≤ l[k] ∧ l[k] ≤ n - 1) := by omega
   simp [hk, h1, this]
 ·intro m
  simp [spec_l2Elements_L2]
theorem spec_l8Tuple_ok {l : List Int} {n : Int} (k : Int) (hn : -9223372036854775808 < n) (hn' : n ≤ 9223372036854775807) (hl : l.length ≤ 1099511627775) : spec_l8Tuple n k l = some (decide ((l.length : Int) = k) && belowB n l) := by
 unfold spec_l8Tuple
 rw [spec_l2Elements_ok hn hn' hl]
 by_cases h : (l.length : Int) = k <;> simp [h]
def goodB (a : Lin) : Bool := primeB a.1 && decide (0 ≤ a.2.1 ∧ a.2.1 ≤ 8) && decide (a.2.2.length ≤ 8) && a.2.2.all fun r => decide ((r.length : Int) = a.2.1 + 1) && belowB a.1 r
theorem primeB_bd {p : Int} (h : primeB p = true) : 2 ≤ p ∧ p ≤ 7 := by
 unfold primeB at h; simp at h; omega
theorem impl_IsLinear_ok {a : Lin} (h : linS a) : impl_IsLinear a = some (goodB a) := by
 obtain ⟨p, v, rows⟩ := a
 unfold impl_IsLinear goodB
 rw [impl_isPrime_ok]
 cases hp : primeB p with
 | false => simp [hp]
 | true =>
  by_cases h1 : v < 0
  ·simp [hp, h1, show ¬ 0 ≤ v by omega]
  ·by_cases h2 : v > 8
   ·simp [hp, h1, h2, show ¬ v ≤ 8 by omega]
   ·by_cases h3 : rows.length > 8
    ·simp [hp, h1, h2, show ¬ rows.length ≤ 8 by omega, show (rows.length : Int) > 8 by omega]
    ·have key := allX rows (fun m i => impl_IsLinear_L4 m ((p, (v, rows)), rows, (rows.length : Int), i)) (fun r => decide ((r.length : Int) = v + 1) && belowB p r) (.inr false) (.inl ()) ?_ ?_ (n := fuel) (by unfold fuel; omega)
     ·simp only [Option.bind_some, hp, Bool.not_true, Bool.false_eq_true, if_false]
      rw [if_neg (by simpa using h1), if_neg (by simpa using h2), if_neg (by simp; omega), key]
      cases rows.all (fun r => decide ((r.length : Int) = v + 1) && belowB p r) <;> simp <;> omega
     ·intro m k hk
      have hlen := h.2 rows[k] (List.getElem_mem hk)
      simp only [impl_IsLinear_L4, inb_nat, gd_nat hk, w64_succ (show k < 4611686018427387904 by omega), w64_id (show -9223372036854775808 ≤ v + 1 by omega) (show v + 1 ≤ 9223372036854775807 by omega), impl_inSize_ok p (show rows[k].length ≤ 1099511627775 by omega)]
      by_cases h4 : (rows[k].length : Int) = v + 1
      ·cases hb : belowB p rows[k] <;> simp [hk, h4, hb]
      ·simp [hk, h4]
     ·intro m
      simp [impl_IsLinear_L4]
theorem spec_l21Rows_ok {rows : List (List Int)} {p v : Int} (hp : 2 ≤ p ∧ p ≤ 7) (hv : 0 ≤ v ∧ v ≤ 8) (hl : rows.length ≤ 8) (hr : ∀ r ∈ rows, r.length ≤ 1099511627775) : spec_l21Rows p v rows = some (rows.all fun r => decide ((r.length : Int) = v + 1) && belowB p r) := by
 unfold spec_l21Rows
 rw [allX rows (fun m i => spec_l21Rows_L2 m (p, v, rows, i)) (fun r => decide ((r.length : Int) = v + 1) && belowB p r) (.inr false) (.inl ()) ?_ ?_ (by unfold fuel; omega)]
 ·cases rows.all (fun r => decide ((r.length : Int) = v + 1) && belowB p r) <;> simp
 ·intro m k hk
  simp only [spec_l21Rows_L2, inb_nat, gd_nat hk, w64_succ (show k < 4611686018427387904 by omega), w64_id (show -9223372036854775808 ≤ v + 1 by omega) (show v + 1 ≤ 9223372036854775807 by omega), spec_l8Tuple_ok _ (by omega : -9223372036854775808 < p) (by omega) (hr _ (List.getElem_mem hk))]
  cases hb : (decide ((rows[k].length : Int) = v + 1) && belowB p rows[k]) <;> simp [hk]
 ·intro m
  simp [spec_l21Rows_L2]
theorem spec_IsLinear_ok {a : Lin} (h : linS a) : spec_IsLinear a = some (goodB a) := by
 obtain ⟨p, v, rows⟩ := a
 unfold spec_IsLinear spec_l21Good goodB
 rw [spec_l21Prime_ok, spec_l1In_ok]
 cases hp : primeB p with
 | false => simp [hp]
 | true =>
  have hb := primeB_bd hp
  by_cases h1 : 0 ≤ v ∧ v ≤ 8
  ·by_cases h3 : rows.length ≤ 8
   ·rw [spec_l21Rows_ok hb h1 h3 fun r hr => by have := h.2 r hr; omega]
    simp [hp, h1, h3, show (rows.length : Int) ≤ 8 by omega]
   ·simp [hp, h1, h3, show ¬ (rows.length : Int) ≤ 8 by omega]
  ·simp [hp, h1]
end T
open Go Go.Va
namespace T
def cmpL : List Int → List Int → Int
 | [], [] => 0
 | [], _ :: _ => -1
 | _ :: _, [] => 1
 | a :: s, b :: t => if a = b then cmpL s t else if a < b then -1 else 1
theorem spec_l3Less_ok {s t : List Int} (hs : s.length ≤ 1099511627775) (hl : s.length = t.length) : spec_l3Less s t = some (decide (cmpL s t < 0)) := by
 have key : ∀ (n k : Nat), k ≤ s.length → s.length - k < n → (spec_l3Less_L2 n (s, t, (k : Int))).bind (fun s1 => match s1 with | .inl _ => some false | .inr s3 => some s3) = some (decide (cmpL (s.drop k) (t.drop k) < 0)) := by
  intro n
  induction n with
  | zero => intro k _ h; omega
  | succ n ih =>
   intro k h1 hn
   by_cases k1 : k < s.length
   ·have k2 : k < t.length := by omega
    rw [List.drop_eq_getElem_cons k1, List.drop_eq_getElem_cons k2]
    simp only [spec_l3Less_L2, inb_nat, gd_nat k1, gd_nat k2, w64_succ (show k < 4611686018427387904 by omega), cmpL]
    by_cases he : s[k] = t[k]
    ·have := ih (k + 1) k1 (by omega)
     simp [k1, k2, he]
     simpa using this
    ·by_cases hl : s[k] < t[k] <;> simp [k1, k2, he, hl]
   ·rw [List.drop_of_length_le (show s.length ≤ k by omega), List.drop_of_length_le (show t.length ≤ k by omega)]
    simp [spec_l3Less_L2, k1, cmpL]
 have := key fuel 0 (Nat.zero_le _) (by unfold fuel; omega)
 rw [List.drop_zero, List.drop_zero] at this
 exact this
theorem spec_l1Same_ok {a b : List Int} (ha : a.length ≤ 1099511627775) : spec_l1Same a b = some (decide (a = b)) := by
 unfold spec_l1Same
 by_cases hl : a.length = b.length
 ·rw [if_neg (by simp [hl]), eqX a b hl (fun n i => spec_l1Same_L4 n (a, b, i)) ?_ ?_ (by unfold fuel; omega)]
  ·by_cases h : a = b <;> simp [h]
  ·intro n k h1 h2
   simp only [spec_l1Same_L4, inb_nat, gd_nat h1, gd_nat h2, w64_succ (show k < 4611686018427387904 by omega)]
   by_cases h : a[k] = b[k] <;> simp [h1, h2, h]
  ·intro n
   simp [spec_l1Same_L4]
 ·rw [if_pos (by simp; omega), decide_eq_false (fun e => hl (by rw [e]))]
theorem cmpL_refl : ∀ s, cmpL s s = 0
 | [] => rfl
 | a :: s => by simp [cmpL, cmpL_refl s]
theorem cmpL_eq : ∀ {s t}, cmpL s t = 0 ↔ s = t
 | [], [] => by simp [cmpL]
 | [], _ :: _ => by simp [cmpL]
 | _ :: _, [] => by simp [cmpL]
 | a :: s, b :: t => by
  simp only [cmpL]
  by_cases h : a = b
  ·rw [if_pos h, cmpL_eq]; simp [h]
  ·rw [if_neg h]; split <;> simp [h]
theorem cmpL_symm : ∀ s t, cmpL t s = - cmpL s t
 | [], [] => by simp [cmpL]
 | [], _ :: _ => by simp [cmpL]
 | _ :: _, [] => by simp [cmpL]
 | a :: s, b :: t => by
  simp only [cmpL]
  by_cases h : a = b
  ·rw [if_pos h, if_pos h.symm, cmpL_symm s t]
  ·rw [if_neg h, if_neg (Ne.symm h)]
   by_cases h2 : a < b
   ·rw [if_pos h2, if_neg (by omega)]; rfl
   ·rw [if_neg h2, if_pos (by omega)]
theorem cmpL_trans : ∀ {s t u}, cmpL s t < 0 → cmpL t u < 0 → cmpL s u < 0
 | [], [], _, h, _ => by simp [cmpL] at h
 | [], _ :: _, [], _, h => by simp [cmpL] at h
 | [], _ :: _, _ :: _, _, _ => by simp [cmpL]
 | _ :: _, [], _, h, _ => by simp [cmpL] at h
 | _ :: _, _ :: _, [], _, h => by simp [cmpL] at h
 | a :: s, b :: t, c :: u, h1, h2 => by
  simp only [cmpL] at *
  by_cases e1 : a = b
  ·rw [if_pos e1] at h1
   by_cases e2 : b = c
   ·rw [if_pos e2] at h2; rw [if_pos (e1.trans e2)]; exact cmpL_trans h1 h2
   ·rw [if_neg e2] at h2; rw [e1, if_neg e2]; exact h2
  ·rw [if_neg e1] at h1
   have l1 : a < b := by
    by_cases h : a < b
    ·exact h
    ·rw [if_neg h] at h1; omega
   by_cases e2 : b = c
   ·rw [← e2, if_neg e1, if_pos l1]; omega
   ·rw [if_neg e2] at h2
    have l2 : b < c := by
     by_cases h : b < c
     ·exact h
     ·rw [if_neg h] at h2; omega
    rw [if_neg (by omega), if_pos (by omega)]; omega
def incB : List (List Int) → Bool
 | a :: b :: l => decide (cmpL a b < 0) && incB (b :: l)
 | _ => true
theorem incB_tail {a : List Int} {l : List (List Int)} (h : incB (a :: l) = true) : incB l = true := by
 cases l with
 | nil => rfl
 | cons b l => simp only [incB, Bool.and_eq_true] at h; exact h.2
theorem incB_head : ∀ {a : List Int} {l : List (List Int)}, incB (a :: l) = true → ∀ b ∈ l, cmpL a b < 0
 | a, [], _, b, hb => by cases hb
 | a, c :: l, h, b, hb => by
  simp only [incB, Bool.and_eq_true, decide_eq_true_eq] at h
  rcases List.mem_cons.1 hb with rfl | hb
  ·exact h.1
  ·exact cmpL_trans h.1 (incB_head h.2 b hb)
theorem incB_lt : ∀ {l : List (List Int)}, incB l = true → ∀ (i j : Nat) (hi : i < j) (hj : j < l.length), cmpL (l[i]'(by omega)) l[j] < 0
 | [], _, i, j, _, hj => by simp at hj
 | a :: l, h, 0, j + 1, _, hj => by
  simp only [List.getElem_cons_zero, List.getElem_cons_succ]
  exact incB_head h _ (List.getElem_mem _)
 | a :: l, h, i + 1, j + 1, hi, hj => by
  simp only [List.getElem_cons_succ]
  exact incB_lt (incB_tail h) i j (by omega) (by simpa using hj)
theorem incB_iff {l : List (List Int)} : incB l = true ↔ ∀ (i : Nat) (hi : i + 1 < l.length), cmpL (l[i]'(by omega)) l[i + 1] < 0 := by
 constructor
 ·exact fun h i hi => incB_lt h i (i + 1) (by omega) hi
 ·induction l with
  | nil => intro _; rfl
  | cons a l ih =>
   intro h
   cases l with
   | nil => rfl
   | cons b l =>
    simp only [incB, Bool.and_eq_true, decide_eq_true_eq]
    exact ⟨h 0 (by simp), ih fun i hi => by have := h (i + 1) (by simpa using hi); simpa using this⟩
end T
open Go Go.Va
namespace T
theorem pow_le_of {n : Int} (h0 : 0 ≤ n) (h8 : n ≤ 8) : ∀ k : Nat, 0 ≤ n ^ k ∧ n ^ k ≤ 8 ^ k
 | 0 => by simp
 | k + 1 => by
  obtain ⟨h1, h2⟩ := pow_le_of h0 h8 k
  rw [Int.pow_succ, Int.pow_succ]
  exact ⟨Int.mul_nonneg h1 h0, Int.mul_le_mul h2 h8 h0 (by have : (0 : Int) ≤ 8 ^ k := Int.le_trans h1 h2; exact this)⟩
theorem pow8_le : ∀ k : Nat, k ≤ 20 → (8 : Int) ^ k ≤ 8 ^ 20 := by
 intro k hk
 have : ((8 ^ k : Nat) : Int) ≤ ((8 ^ 20 : Nat) : Int) := Int.ofNat_le.2 (Nat.pow_le_pow_right (by omega) hk)
 simpa using this
theorem pow_bd {n : Int} (h0 : 0 ≤ n) (h8 : n ≤ 8) {k : Nat} (hk : k ≤ 20) : 0 ≤ n ^ k ∧ n ^ k ≤ 1152921504606846976 := by
  obtain ⟨h1, h2⟩ := pow_le_of h0 h8 k
  have := pow8_le k hk
  exact ⟨h1, by have e : (8 : Int) ^ 20 = 1152921504606846976 := by decide
                omega⟩
theorem power_L2 {n : Int} (h0 : 0 ≤ n) (h8 : n ≤ 8) : ∀ (m k j : Nat), j + k ≤ 20 → k < m → impl_power_L2 m (n, (k : Int), n ^ j) = some (n ^ (j + k)) := by
 intro m
 induction m with
 | zero => intro k j _ h; omega
 | succ m ih =>
  intro k j hj hk
  simp only [impl_power_L2]
  cases k with
  | zero => simp
  | succ k =>
   have e : w64 (((k + 1 : Nat) : Int) - 1) = (k : Int) := by rw [w64_id (by omega) (by omega)]; omega
   have hb := pow_bd h0 h8 (k := j + 1) (by omega)
   rw [Int.pow_succ] at hb
   rw [e, w64_id (by omega) (by omega), ← Int.pow_succ, if_pos (by simp), ih k (j + 1) (by omega) (by omega)]
   congr 2 <;> omega
theorem impl_power_ok {n : Int} (h0 : 0 ≤ n) (h8 : n ≤ 8) {k : Nat} (hk : k ≤ 20) : impl_power n (k : Int) = some (n ^ k) := by
 unfold impl_power
 have := power_L2 h0 h8 fuel k 0 (by omega) (by unfold fuel; omega)
 rw [Int.pow_zero] at this
 rw [this]; simp
theorem l2Pow_L2 {n : Int} (h0 : 0 ≤ n) (h8 : n ≤ 8) : ∀ (m k j : Nat), j + k ≤ 20 → k < m → spec_l2Pow_L2 m (n, (k : Int), n ^ j) = some (n ^ (j + k)) := by
 intro m
 induction m with
 | zero => intro k j _ h; omega
 | succ m ih =>
  intro k j hj hk
  simp only [spec_l2Pow_L2]
  cases k with
  | zero => simp
  | succ k =>
   have e : w64 (((k + 1 : Nat) : Int) - 1) = (k : Int) := by rw [w64_id (by omega) (by omega)]; omega
   have hb := pow_bd h0 h8 (k := j + 1) (by omega)
   rw [Int.pow_succ] at hb
   rw [e, w64_id (by omega) (by omega), ← Int.pow_succ, if_pos (by simp), ih k (j + 1) (by omega) (by omega)]
   congr 2 <;> omega
theorem spec_l2Pow_ok {n : Int} (h0 : 0 ≤ n) (h8 : n ≤ 8) {k : Nat} (hk : k ≤ 20) : spec_l2Pow n (k : Int) = some (n ^ k) := by
 unfold spec_l2Pow
 have := l2Pow_L2 h0 h8 fuel k 0 (by omega) (by unfold fuel; omega)
 rw [Int.pow_zero] at this
 rw [this]; simp
theorem find_L2 {list : List (List Int)} {t : List Int} {k : Nat} (hl : list.length ≤ 1099511627775) (hk : k ≤ 1099511627775) (hv : ∀ u ∈ list, u.length = k) (ht : t.length = k) (hi : incB list = true) : ∀ (m a b : Nat), a ≤ b → b ≤ list.length → b - a < m →
    (∀ i (h : i < list.length), i < a → cmpL list[i] t < 0) → (∀ i (h : i < list.length), b ≤ i → ¬ cmpL list[i] t < 0) →
    ∃ c : Nat, spec_l8Find_L2 m (list, t, (a : Int), (b : Int)) = some (list, t, (c : Int)) ∧ c ≤ list.length ∧ (∀ i (h : i < list.length), i < c → cmpL list[i] t < 0) ∧ (∀ i (h : i < list.length), c ≤ i → ¬ cmpL list[i] t < 0) := by
  intro m
  induction m with
  | zero => intro a b _ _ h; omega
  | succ m ih =>
    intro a b hab hb hm h1 h2
    simp only [spec_l8Find_L2]
    by_cases hlt : a < b
    · have emid : w64 (Int.tdiv (w64 ((a : Int) + b)) 2) = (((a + b) / 2 : Nat) : Int) := by
        rw [w64_id (x := (a : Int) + b) (by omega) (by omega), Int.tdiv_eq_ediv_of_nonneg (by omega), w64_id (by omega) (by omega)]; omega
      have hmid : (a + b) / 2 < list.length := by omega
      rw [emid]
      have hless := spec_l3Less_ok (s := list[(a + b) / 2]) (t := t) (by rw [hv _ (List.getElem_mem hmid)]; omega) (by rw [hv _ (List.getElem_mem hmid), ht])
      simp only [inb_nat, gd_nat hmid, hless, Option.bind_some, w64_succ (show (a + b) / 2 < 4611686018427387904 by omega)]
      by_cases hc : cmpL list[(a + b) / 2] t < 0
      · obtain ⟨c, e, k1, k2, k3⟩ := ih ((a + b) / 2 + 1) b (by omega) hb (by omega) (fun i h hi' => by
          rcases Nat.lt_or_ge i ((a + b) / 2) with h' | h'
          · exact cmpL_trans (incB_lt hi i ((a + b) / 2) h' hmid) hc
          · have : i = (a + b) / 2 := by omega
            subst this; exact hc) h2
        exact ⟨c, by simpa [hlt, hmid, hc] using e, k1, k2, k3⟩
      · obtain ⟨c, e, k1, k2, k3⟩ := ih a ((a + b) / 2) (by omega) (by omega) (by omega) h1 (fun i h hi' hneg => by
          rcases Nat.lt_or_ge ((a + b) / 2) i with h' | h'
          · exact hc (cmpL_trans (incB_lt hi ((a + b) / 2) i h' h) hneg)
          · have : i = (a + b) / 2 := by omega
            subst this; exact hc hneg)
        exact ⟨c, by simpa [hlt, hmid, hc] using e, k1, k2, k3⟩
    · have : a = b := by omega
      subst this
      exact ⟨a, by simp, hb, h1, h2⟩
theorem spec_l8Find_ok {list : List (List Int)} {t : List Int} {k : Nat} (hl : list.length ≤ 1099511627774) (hk : k ≤ 1099511627775) (hv : ∀ u ∈ list, u.length = k) (ht : t.length = k) (hi : incB list = true) :
    ∃ c : Nat, spec_l8Find list t = some ((c : Int), decide (t ∈ list)) ∧ c ≤ list.length ∧ (∀ i (h : i < list.length), i < c → cmpL list[i] t < 0) ∧ (∀ i (h : i < list.length), c ≤ i → ¬ cmpL list[i] t < 0) := by
  obtain ⟨c, e, k1, k2, k3⟩ := find_L2 (by omega) hk hv ht hi fuel 0 list.length (Nat.zero_le _) (Nat.le_refl _) (by unfold fuel; omega) (fun i _ h => by omega) (fun i h h' => by omega)
  refine ⟨c, ?_, k1, k2, k3⟩
  unfold spec_l8Find
  have e' : spec_l8Find_L2 fuel (list, t, 0, (list.length : Int)) = some (list, t, (c : Int)) := e
  rw [e']
  simp only [Option.bind_some]
  by_cases hc : c < list.length
  · have hs := spec_l1Same_ok (a := list[c]) (b := t) (by rw [hv _ (List.getElem_mem hc)]; omega)
    simp only [inb_nat, gd_nat hc, hs, Option.bind_some]
    have : decide (list[c] = t) = decide (t ∈ list) := by
      by_cases h : list[c] = t
      · rw [decide_eq_true h, decide_eq_true (h ▸ List.getElem_mem hc)]
      · rw [decide_eq_false h]
        symm; rw [decide_eq_false_iff_not]
        intro hm
        obtain ⟨j, hj, rfl⟩ := List.mem_iff_getElem.1 hm
        have hne : j ≠ c := fun e => h (by subst e; rfl)
        rcases Nat.lt_or_ge j c with hlt | hge
        · have := k2 j hj hlt; rw [cmpL_refl] at this; omega
        · exact k3 c hc (Nat.le_refl _) (incB_lt hi c j (by omega) hj)
    simp [hc, this]
  · have : decide (t ∈ list) = false := by
      rw [decide_eq_false_iff_not]
      intro hm
      obtain ⟨j, hj, rfl⟩ := List.mem_iff_getElem.1 hm
      have := k2 j hj (by omega); rw [cmpL_refl] at this; omega
    rw [if_neg (by simp; omega), this]
end T
set_option linter.unusedVariables false
open Go Go.Va
namespace T
def spec_l1Own (l : List Int) : Option ((List Int)) :=
 if ([] : List Int).length + l.length ≤ lim then
  some ([] ++ l)
 else none
def spec_l1Has_L2 : Nat → ((List Int) × Int × Int) → Option ((Unit) ⊕ (Bool))
 | 0, _ => none
 | n + 1, (l, n_, i) =>
  if decide (i < (l.length : Int)) then
   if inb i l then
    if (gd l i 0) == n_ then
     some (.inr true)
    else
     spec_l1Has_L2 n (l, n_, w64 (i + 1))
   else none
  else
   some (.inl ())
def spec_l1Has (l : List Int) (n_ : Int) : Option (Bool) :=
 (spec_l1Has_L2 fuel (l, n_, 0)).bind fun s1 =>
  match s1 with
  | .inl s2 =>
   some false
  | .inr s3 =>
   some s3
end T
open Go Go.Va
namespace T
abbrev Con := List Int × Int × List (List Int)
abbrev Net := Int × Int × List Con
theorem getD_of {α : Type} {l : List α} {k : Nat} {d : α} (h : k < l.length) : l.getD k d = l[k] := by simp [List.getD_eq_getElem?_getD, h]
end T
open Go Go.Va
namespace T
def g0 (l : List Int) (i : Nat) : Int := l.getD i 0
section
variable {v n up : Int} {c : Con} {vals : List Int}
theorem spec_l1Own_ok {l : List Int} (h : l.length ≤ 1099511627775) : spec_l1Own l = some l := by
 unfold spec_l1Own
 rw [if_pos (by unfold lim; simp; omega)]; simp
end
end T
open Go Go.Va
namespace T
def mk (bs : List Bool) : List Int := ((List.range bs.length).filter fun i => bs.getD i false).map fun i : Nat => (i : Int)
theorem getD_set_of {α : Type} {l : List α} {i j : Nat} {y d : α} : (l.set i y).getD j d = if i = j ∧ j < l.length then y else l.getD j d := by
 simp only [List.getD_eq_getElem?_getD, List.getElem?_set]
 by_cases h : i = j
 ·subst h
  by_cases h2 : i < l.length
  ·simp [h2]
  ·simp [h2]
 ·simp [h]
theorem spec_l1Has_ok {l : List Int} {x : Int} (h : l.length ≤ 1048576) : spec_l1Has l x = some (decide (x ∈ l)) := by
 unfold spec_l1Has
 rw [allX l (fun n i => spec_l1Has_L2 n (l, x, i)) (fun y => !decide (y = x)) (.inr true) (.inl ()) ?_ ?_ (by unfold fuel; omega)]
 ·by_cases hx : x ∈ l
  ·rw [if_neg]
   ·simp [hx]
   ·rw [List.all_eq_true]; intro h; have := h x hx; simp at this
  ·rw [if_pos]
   ·simp [hx]
   ·rw [List.all_eq_true]; intro y hy; have : y ≠ x := fun e => hx (e ▸ hy)
    simp [this]
 ·intro n k hk
  simp only [spec_l1Has_L2, inb_nat, gd_nat hk, w64_succ (show k < 4611686018427387904 by omega)]
  by_cases e : l[k] = x <;> simp [hk, e]
 ·intro n; simp [spec_l1Has_L2]
end T
open Go Go.Va
namespace T
theorem w1 : w64 1 = 1 := by rw [w64_def]; rfl
theorem w2 : w64 2 = 2 := by rw [w64_def]; rfl
section
variable {a : Net}
end
end T
set_option linter.unusedVariables false
open Go Go.Va
namespace T
def impl_compose_L3 : Nat → ((List Int) × (List Int) × (List Int) × Int × Int) → Option ((List Int))
 | 0, _ => none
 | n + 1, (g, h, t11, t12, t13) =>
  if decide (t13 < t12) then
   if inb t13 t11 then
    if inb (gd t11 t13 0) g then
     if inb t13 h then
      impl_compose_L3 n (g, stt h t13 (gd g (gd t11 t13 0) 0), t11, t12, w64 (t13 + 1))
     else none
    else none
   else none
  else
   some h
def impl_compose (f : List Int) (g : List Int) : Option ((List Int)) :=
 if 0 ≤ (f.length : Int) ∧ (f.length : Int) ≤ (f.length : Int) ∧ (f.length : Int) ≤ lim then
  (impl_compose_L3 fuel (g, List.replicate (Int.toNat (f.length : Int)) (0 : Int), f, (f.length : Int), 0)).bind fun s1 =>
   some s1
 else none
end T
open Go Go.Va
namespace T
def valI (vs : List Int) (v : Int) : Int := vs.getD v.toNat 0
def conH (vs : List Int) (c : Con) : Bool := decide (c.1.map (valI vs) ∈ c.2.2)
def satB (l : List Con) (vs : List Int) : Bool := l.all (conH vs)
def insB (vars : List Int) (c : Con) : Bool := c.1.all fun v => decide (v ∈ vars)
def insL (a : Net) (vars : List Int) : List Con := a.2.2.filter (insB vars)
section
variable {a : Net}
end
end T
open Go Go.Va
namespace T
theorem gd_D {α : Type} {k : Nat} {xs : List α} {d : α} : gd xs (k : Int) d = xs.getD k d := rfl
abbrev T3 := List (List (List Bool))
abbrev T4 := List (List (List (List Bool)))
def Cell4 (s : Nat) (c : List (List Bool)) : Prop := c.length = s ∧ ∀ x, x < s → (c.getD x []).length = s
def Row4 (n s : Nat) (r : T3) : Prop := r.length = n ∧ ∀ j, j < n → Cell4 s (r.getD j [])
def Ok4 (n s : Nat) (t : T4) : Prop := t.length = n ∧ ∀ i, i < n → Row4 n s (t.getD i [])
def r4 (t : T4) (i j x y : Nat) : Bool := (((t.getD i []).getD j []).getD x []).getD y false
def s4 (t : T4) (i j x y : Nat) (b : Bool) : T4 := t.set i ((t.getD i []).set j (((t.getD i []).getD j []).set x ((((t.getD i []).getD j []).getD x []).set y b)))
def Ok3 (n m : Nat) (u : T3) : Prop := u.length = n ∧ ∀ i, i < n → (u.getD i []).length = n ∧ ∀ j, j < n → ((u.getD i []).getD j []).length = m
def r3 (u : T3) (i j p : Nat) : Bool := ((u.getD i []).getD j []).getD p false
def s3 (u : T3) (i j p : Nat) (b : Bool) : T3 := u.set i ((u.getD i []).set j (((u.getD i []).getD j []).set p b))
section
variable {n s m : Nat} {t : T4} {u : T3}
theorem Ok4.at (h : Ok4 n s t) {i j x : Nat} (hi : i < n) (hj : j < n) (hx : x < s) : i < t.length ∧ j < (t.getD i []).length ∧ x < ((t.getD i []).getD j []).length ∧ (((t.getD i []).getD j []).getD x []).length = s :=
 ⟨by rw [h.1]; exact hi, by rw [(h.2 i hi).1]; exact hj, by rw [((h.2 i hi).2 j hj).1]; exact hx, ((h.2 i hi).2 j hj).2 x hx⟩
theorem Ok3.at (h : Ok3 n m u) {i j : Nat} (hi : i < n) (hj : j < n) : i < u.length ∧ j < (u.getD i []).length ∧ ((u.getD i []).getD j []).length = m :=
 ⟨by rw [h.1]; exact hi, by rw [(h.2 i hi).1]; exact hj, (h.2 i hi).2 j hj⟩
theorem s4_ok (h : Ok4 n s t) {i j x y : Nat} {b : Bool} : Ok4 n s (s4 t i j x y b) := by
 unfold s4
 refine ⟨by rw [List.length_set]; exact h.1, fun i' hi' => ?_⟩
 rw [getD_set_of]
 split
 ·rename_i hc
  obtain ⟨rfl, _⟩ := hc
  have hr := h.2 i hi'
  refine ⟨by rw [List.length_set]; exact hr.1, fun j' hj' => ?_⟩
  rw [getD_set_of]
  split
  ·rename_i hc
   obtain ⟨rfl, _⟩ := hc
   have hcl := hr.2 j hj'
   refine ⟨by rw [List.length_set]; exact hcl.1, fun x' hx' => ?_⟩
   rw [getD_set_of]
   split
   ·rename_i hc
    obtain ⟨rfl, _⟩ := hc
    rw [List.length_set]; exact hcl.2 x hx'
   ·exact hcl.2 x' hx'
  ·exact hr.2 j' hj'
 ·exact h.2 i' hi'
theorem s3_ok (h : Ok3 n m u) {i j p : Nat} {b : Bool} : Ok3 n m (s3 u i j p b) := by
 unfold s3
 refine ⟨by rw [List.length_set]; exact h.1, fun i' hi' => ?_⟩
 rw [getD_set_of]
 split
 ·rename_i hc
  obtain ⟨rfl, _⟩ := hc
  have hr := h.2 i hi'
  refine ⟨by rw [List.length_set]; exact hr.1, fun j' hj' => ?_⟩
  rw [getD_set_of]
  split
  ·rename_i hc
   obtain ⟨rfl, _⟩ := hc
   rw [List.length_set]; exact hr.2 j hj'
  ·exact hr.2 j' hj'
 ·exact h.2 i' hi'
theorem r4_s4 (h : Ok4 n s t) {i j x y : Nat} {b : Bool} (hi : i < n) (hj : j < n) (hx : x < s) (hy : y < s) (i' j' x' y' : Nat) :
    r4 (s4 t i j x y b) i' j' x' y' = if i = i' ∧ j = j' ∧ x = x' ∧ y = y' then b else r4 t i' j' x' y' := by
  obtain ⟨h1, h2, h3, h4⟩ := h.at hi hj hx
  unfold r4 s4
  rw [getD_set_of]
  by_cases e1 : i = i'
  · subst e1
    rw [if_pos ⟨rfl, h1⟩, getD_set_of]
    by_cases e2 : j = j'
    · subst e2
      rw [if_pos ⟨rfl, h2⟩, getD_set_of]
      by_cases e3 : x = x'
      · subst e3
        rw [if_pos ⟨rfl, h3⟩, getD_set_of]
        by_cases e4 : y = y'
        · subst e4; rw [if_pos ⟨rfl, by omega⟩, if_pos ⟨rfl, rfl, rfl, rfl⟩]
        · rw [if_neg (by omega), if_neg (by omega)]
      · rw [if_neg (by omega), if_neg (by omega)]
    · rw [if_neg (by omega), if_neg (by omega)]
  · rw [if_neg (by omega), if_neg (by omega)]
theorem r3_s3 (h : Ok3 n m u) {i j p : Nat} {b : Bool} (hi : i < n) (hj : j < n) (hp : p < m) (i' j' p' : Nat) :
    r3 (s3 u i j p b) i' j' p' = if i = i' ∧ j = j' ∧ p = p' then b else r3 u i' j' p' := by
  obtain ⟨h1, h2, h3⟩ := h.at hi hj
  unfold r3 s3
  rw [getD_set_of]
  by_cases e1 : i = i'
  · subst e1
    rw [if_pos ⟨rfl, h1⟩, getD_set_of]
    by_cases e2 : j = j'
    · subst e2
      rw [if_pos ⟨rfl, h2⟩, getD_set_of]
      by_cases e3 : p = p'
      · subst e3; rw [if_pos ⟨rfl, by omega⟩, if_pos ⟨rfl, rfl, rfl⟩]
      · rw [if_neg (by omega), if_neg (by omega)]
    · rw [if_neg (by omega), if_neg (by omega)]
  · rw [if_neg (by omega), if_neg (by omega)]
end
structure Rel34 (n s : Nat) (t : T4) (u : T3) : Prop where
 o4 : Ok4 n s t
 o3 : Ok3 n (s * s) u
 eq : ∀ i j x y, i < j → j < n → x < s → y < s → r4 t i j x y = r3 u i j (x * s + y) ∧ r4 t j i y x = r3 u i j (x * s + y)
theorem cell_lt {s x y : Nat} (hx : x < s) (hy : y < s) : x * s + y < s * s := by
 have : (x + 1) * s ≤ s * s := Nat.mul_le_mul_right _ hx
 rw [Nat.succ_mul] at this; omega
theorem cell_inj {s x y x' y' : Nat} (hy : y < s) (hy' : y' < s) (h : x * s + y = x' * s + y') : x = x' ∧ y = y' := by
 have h1 : (x * s + y) / s = x := by rw [Nat.mul_comm, Nat.mul_add_div (by omega), Nat.div_eq_of_lt hy]; omega
 have h2 : (x' * s + y') / s = x' := by rw [Nat.mul_comm, Nat.mul_add_div (by omega), Nat.div_eq_of_lt hy']; omega
 have : x = x' := by rw [← h1, ← h2, h]
 subst this
 exact ⟨rfl, by omega⟩
theorem Rel34.drop {n s : Nat} {t : T4} {u : T3} (h : Rel34 n s t u) {i j x y : Nat} (hij : i < j) (hj : j < n) (hx : x < s) (hy : y < s) :
    Rel34 n s (s4 (s4 t i j x y false) j i y x false) (s3 u i j (x * s + y) false) := by
  refine ⟨s4_ok (s4_ok h.o4), s3_ok h.o3, fun i' j' x' y' h1 h2 h3 h4 => ?_⟩
  have hi : i < n := by omega
  rw [r4_s4 (s4_ok h.o4) hj hi hy hx, r4_s4 h.o4 hi hj hx hy, r4_s4 (s4_ok h.o4) hj hi hy hx, r4_s4 h.o4 hi hj hx hy, r3_s3 h.o3 hi hj (cell_lt hx hy)]
  obtain ⟨e1, e2⟩ := h.eq i' j' x' y' h1 h2 h3 h4
  by_cases e : i = i' ∧ j = j' ∧ x = x' ∧ y = y'
  · obtain ⟨rfl, rfl, rfl, rfl⟩ := e
    simp
  · have e3 : ¬ (i = i' ∧ j = j' ∧ x * s + y = x' * s + y') := fun ⟨q1, q2, q3⟩ => by
      have := cell_inj hy h4 q3
      exact e ⟨q1, q2, this.1, this.2⟩
    have e4 : ¬ (j = i' ∧ i = j' ∧ y = x' ∧ x = y') := by omega
    have e5 : ¬ (i = j' ∧ j = i' ∧ x = y' ∧ y = x') := by omega
    have e6 : ¬ (j = j' ∧ i = i' ∧ y = y' ∧ x = x') := by omega
    simp only [if_neg e, if_neg e3, if_neg e4, if_neg e5, if_neg e6]
    exact ⟨e1, e2⟩
end T
open Go Go.Va
namespace T
def V3 (n i j k x y z : Nat) : List Int := (((List.replicate n (0 : Int)).set i (x : Int)).set j (y : Int)).set k (z : Int)
section
variable {a : Net} {n s : Nat} {t : T4} {u : T3}
def hP (a : Net) (n : Nat) (t : T4) (i j k x y z : Nat) : Bool := r4 t i k x z && r4 t j k y z && satB (insL a [(i : Int), (j : Int), (k : Int)]) (V3 n i j k x y z)
end
end T
open Go Go.Va
namespace T
section
variable {a : Net} {n s : Nat} {t : T4} {u : T3}
def PA (n s i : Nat) (t : T4) : Prop := t.length = n ∧ ∀ i', i' < i → Row4 n s (t.getD i' [])
def PB (n s i j : Nat) (t : T4) : Prop := PA n s i t ∧ (t.getD i []).length = n ∧ ∀ j', j' < j → Cell4 s ((t.getD i []).getD j' [])
theorem PA.set {i : Nat} (h : PA n s i t) (r : T3) : PA n s i (t.set i r) := by
 refine ⟨by rw [List.length_set]; exact h.1, fun i' hi' => ?_⟩
 rw [getD_set_of, if_neg (by omega)]; exact h.2 i' hi'
theorem PB.set {i j : Nat} (h : PB n s i j t) (hi : i < n) (c : List (List Bool)) : PB n s i j (t.set i ((t.getD i []).set j c)) := by
 have hl := h.1.1
 refine ⟨h.1.set _, ?_, fun j' hj' => ?_⟩
 ·rw [getD_set_of, if_pos ⟨rfl, by omega⟩, List.length_set]; exact h.2.1
 ·rw [getD_set_of, if_pos ⟨rfl, by omega⟩, getD_set_of, if_neg (by omega)]; exact h.2.2 j' hj'
end
end T
open Go Go.Va
namespace T
section
variable {a : Net} {n s : Nat} {t : T4} {u : T3}
def cI (o : List Nat) : List Int := o.map fun x : Nat => (x : Int)
end
end T
set_option linter.unusedVariables false
open Go Go.Va
namespace T
def impl_keyOf_L3 : Nat → ((List Int) × (List Int) × Int × Int) → Option ((List Int))
 | 0, _ => none
 | n + 1, (b, t10, t11, t12) =>
  if decide (t12 < t11) then
   if inb t12 t10 then
    if (0 : Int) ≤ 8 then
     if b.length + [IntKind.wrap .u8 (shrI .i64 (gd t10 t12 0) 8), IntKind.wrap .u8 (gd t10 t12 0)].length ≤ lim then
      impl_keyOf_L3 n (b ++ [IntKind.wrap .u8 (shrI .i64 (gd t10 t12 0) 8), IntKind.wrap .u8 (gd t10 t12 0)], t10, t11, w64 (t12 + 1))
     else none
    else none
   else none
  else
   some b
def impl_keyOf (list : List Int) : Option (ByteArray) :=
 if (0 : Int) ≤ 0 ∧ (0 : Int) ≤ (w64 (2 * (list.length : Int))) ∧ (w64 (2 * (list.length : Int))) ≤ lim then
  (impl_keyOf_L3 fuel (List.replicate (Int.toNat 0) (0 : Int), list, (list.length : Int), 0)).bind fun s1 =>
   some (bytesOf s1)
 else none
end T
open Go Go.Va
namespace T
def dg (b : Nat) : Nat → Nat → List Nat
 | 0, _ => []
 | k + 1, i => dg b k (i / b) ++ [i % b]
theorem dg_len {b : Nat} : ∀ {k i : Nat}, (dg b k i).length = k
 | 0, _ => rfl
 | k + 1, i => by simp [dg, dg_len (k := k)]
theorem dg_lt {b : Nat} (hb : 0 < b) : ∀ {k i : Nat}, ∀ x ∈ dg b k i, x < b
 | 0, _, x, h => by simp [dg] at h
 | k + 1, i, x, h => by
  simp only [dg] at h
  rcases List.mem_append.1 h with h | h
  ·exact dg_lt hb x h
  ·simp at h; subst h; exact Nat.mod_lt _ hb
theorem dg_zero {b : Nat} : ∀ {k : Nat}, dg b k 0 = List.replicate k 0
 | 0 => rfl
 | k + 1 => by simp [dg, dg_zero (k := k), List.replicate_succ']
theorem cI_len {o : List Nat} : (cI o).length = o.length := by unfold cI; simp
end T
set_option linter.unusedVariables false
open Go Go.Va
namespace T
def spec_l2Args_L3 : Nat → (Int × Int × (List Int) × Int) → Option ((List Int))
 | 0, _ => none
 | n + 1, (n_, at_, out, i) =>
  if decide (i ≥ 0) then
   if n_ ≠ 0 then
    if inb i out then
     if n_ ≠ 0 then
      spec_l2Args_L3 n (n_, w64 (Int.tdiv at_ n_), stt out i (Int.tmod at_ n_), w64 (i - 1))
     else none
    else none
   else none
  else
   some out
def spec_l2Args (n_ : Int) (arity : Int) (at_ : Int) : Option ((List Int)) :=
 if 0 ≤ arity ∧ arity ≤ arity ∧ arity ≤ lim then
  (spec_l2Args_L3 fuel (n_, at_, List.replicate (Int.toNat arity) (0 : Int), w64 (arity - 1))).bind fun s1 =>
   some s1
 else none
def impl_freeTable_L3 : Nat → ((List Int) × Int × Int) → Option ((List Int))
 | 0, _ => none
 | n + 1, (list, t8, t9) =>
  if decide (t9 < t8) then
   if inb t9 list then
    impl_freeTable_L3 n (stt list t9 (-1), t8, w64 (t9 + 1))
   else none
  else
   some list
def impl_freeTable (many : Int) : Option ((List Int)) :=
 if 0 ≤ many ∧ many ≤ many ∧ many ≤ lim then
  (impl_freeTable_L3 fuel (List.replicate (Int.toNat many) (0 : Int), ((List.replicate (Int.toNat many) (0 : Int)).length : Int), 0)).bind fun s1 =>
   some s1
 else none
def impl_argsAt_L3 : Nat → (Int × Int × (List Int) × Int) → Option ((List Int))
 | 0, _ => none
 | n + 1, (i, n_, args, j) =>
  if decide (j ≥ 0) then
   if n_ ≠ 0 then
    if inb j args then
     if n_ ≠ 0 then
      impl_argsAt_L3 n (w64 (Int.tdiv i n_), n_, stt args j (Int.tmod i n_), w64 (j - 1))
     else none
    else none
   else none
  else
   some args
def impl_argsAt (i : Int) (k : Int) (n_ : Int) : Option ((List Int)) :=
 if 0 ≤ k ∧ k ≤ k ∧ k ≤ lim then
  (impl_argsAt_L3 fuel (i, n_, List.replicate (Int.toNat k) (0 : Int), w64 (k - 1))).bind fun s1 =>
   some s1
 else none
def impl_clone (list : List Int) : Option ((List Int)) :=
 if ([] : List Int).length + list.length ≤ lim then
  some ([] ++ list)
 else none
end T
open Go Go.Va
namespace T
theorem tdivN {a b : Nat} (ha : a < 4611686018427387904) : w64 (Int.tdiv (a : Int) (b : Int)) = ((a / b : Nat) : Int) := by
 rw [Int.tdiv_eq_ediv_of_nonneg (by omega), ← Int.natCast_ediv]
 have := Nat.div_le_self a b
 generalize a / b = q at this
 exact w64_id (by omega) (by omega)
theorem tmodN {a b : Nat} : Int.tmod (a : Int) (b : Int) = ((a % b : Nat) : Int) := by
 rw [Int.tmod_eq_emod_of_nonneg (by omega), ← Int.natCast_emod]
section
variable {n : Nat}
end
end T
open Go Go.Va
namespace T
abbrev RelT := Int × List (List Int)
theorem cI_set {l : List Nat} {s : List Nat} {x y : Nat} : (cI (l ++ x :: s)).set l.length (y : Int) = cI (l ++ y :: s) := by
 unfold cI
 rw [List.map_append, List.map_append, List.map_cons, List.map_cons, List.set_append_right _ _ (by simp)]
 simp
theorem args_L3 {b : Nat} (hb : 0 < b) : ∀ (j i f : Nat) (s : List Nat), j < f → i < 4611686018427387904 → j ≤ 1000 →
    impl_argsAt_L3 f ((i : Int), (b : Int), cI (List.replicate j 0 ++ s), (j : Int) - 1) = some (cI (dg b j i ++ s)) := by
  intro j
  induction j with
  | zero =>
    intro i f s hf hi hj
    obtain ⟨f, rfl⟩ : ∃ z, f = z + 1 := ⟨f - 1, by omega⟩
    simp only [impl_argsAt_L3]
    rw [if_neg (by simp)]; rfl
  | succ j ih =>
    intro i f s hf hi hj
    obtain ⟨f, rfl⟩ : ∃ z, f = z + 1 := ⟨f - 1, by omega⟩
    have e1 : ((j + 1 : Nat) : Int) - 1 = (j : Int) := by omega
    have hz : List.replicate (j + 1) 0 ++ s = List.replicate j 0 ++ 0 :: s := by rw [List.replicate_succ']; simp
    have hlen : j < (cI (List.replicate j 0 ++ 0 :: s)).length := by rw [cI_len]; simp
    have hset := cI_set (l := List.replicate j 0) (s := s) (x := 0) (y := i % b)
    rw [List.length_replicate] at hset
    have w2 : w64 ((j : Int) - 1) = (j : Int) - 1 := w64_id (by omega) (by omega)
    have hle := Nat.div_le_self i b
    rw [e1, hz]
    simp only [impl_argsAt_L3, tdivN hi, tmodN, inb_nat, hlen, stt_nat, hset, w2]
    rw [if_pos (by simp), if_pos (by omega), if_pos trivial, if_pos (by omega), ih (i / b) f _ (by omega) (by omega) (by omega)]
    simp [dg]
theorem impl_argsAt_ok {b k i : Nat} (hb : 0 < b) (hk : k ≤ 1000) (hi : i < 4611686018427387904) : impl_argsAt (i : Int) (k : Int) (b : Int) = some (cI (dg b k i)) := by
 have h := args_L3 hb k i fuel [] (by unfold fuel; omega) hi hk
 have e : cI (List.replicate k 0 ++ []) = List.replicate (Int.toNat (k : Int)) (0 : Int) := by unfold cI; simp
 rw [e, List.append_nil] at h
 unfold impl_argsAt
 rw [w64_id (x := (k : Int) - 1) (by omega) (by omega), h, if_pos (by unfold lim; omega)]; rfl
theorem l2Args_L3 {b : Nat} (hb : 0 < b) : ∀ (j i f : Nat) (s : List Nat), j < f → i < 4611686018427387904 → j ≤ 1000 →
    spec_l2Args_L3 f ((b : Int), (i : Int), cI (List.replicate j 0 ++ s), (j : Int) - 1) = some (cI (dg b j i ++ s)) := by
  intro j
  induction j with
  | zero =>
    intro i f s hf hi hj
    obtain ⟨f, rfl⟩ : ∃ z, f = z + 1 := ⟨f - 1, by omega⟩
    simp only [spec_l2Args_L3]
    rw [if_neg (by simp)]; rfl
  | succ j ih =>
    intro i f s hf hi hj
    obtain ⟨f, rfl⟩ : ∃ z, f = z + 1 := ⟨f - 1, by omega⟩
    have e1 : ((j + 1 : Nat) : Int) - 1 = (j : Int) := by omega
    have hz : List.replicate (j + 1) 0 ++ s = List.replicate j 0 ++ 0 :: s := by rw [List.replicate_succ']; simp
    have hlen : j < (cI (List.replicate j 0 ++ 0 :: s)).length := by rw [cI_len]; simp
    have hset := cI_set (l := List.replicate j 0) (s := s) (x := 0) (y := i % b)
    rw [List.length_replicate] at hset
    have w2 : w64 ((j : Int) - 1) = (j : Int) - 1 := w64_id (by omega) (by omega)
    have hle := Nat.div_le_self i b
    rw [e1, hz]
    simp only [spec_l2Args_L3, tdivN hi, tmodN, inb_nat, hlen, stt_nat, hset, w2]
    rw [if_pos (by simp), if_pos (by omega), if_pos trivial, if_pos (by omega), ih (i / b) f _ (by omega) (by omega) (by omega)]
    simp [dg]
theorem spec_l2Args_ok {b k i : Nat} (hb : 0 < b) (hk : k ≤ 1000) (hi : i < 4611686018427387904) : spec_l2Args (b : Int) (k : Int) (i : Int) = some (cI (dg b k i)) := by
 have h := l2Args_L3 hb k i fuel [] (by unfold fuel; omega) hi hk
 have e : cI (List.replicate k 0 ++ []) = List.replicate (Int.toNat (k : Int)) (0 : Int) := by unfold cI; simp
 rw [e, List.append_nil] at h
 unfold spec_l2Args
 rw [w64_id (x := (k : Int) - 1) (by omega) (by omega), h, if_pos (by unfold lim; omega)]; rfl
section
variable {n k m : Nat} {r : RelT}
end
end T
open Go Go.Va
namespace T
section
variable {n k m : Nat} {r : RelT}
theorem range_fold {α : Type} {f : α → Nat → α} {a : α} {i : Nat} : (List.range (i + 1)).foldl f a = f ((List.range i).foldl f a) i := by rw [List.range_succ, List.foldl_append]; rfl
end
end T
open Go Go.Va
namespace T
section
variable {n k m : Nat} {r : RelT} {rels : List RelT}
theorem cI_inj {a b : List Nat} (h : cI a = cI b) : a = b := by
 unfold cI at h
 exact List.map_inj_right (fun x y e => by exact Int.ofNat_inj.1 e) |>.1 h
end
end T
open Go Go.Va
namespace T
theorem freeI_ok {N : Nat} (h : N ≤ 1000) : impl_freeTable (N : Int) = some (List.replicate N (-1)) := by
 unfold impl_freeTable
 rw [Int.toNat_natCast, if_pos (by unfold lim; omega)]
 have := forS N (fun f o i => impl_freeTable_L3 f (o, ((List.replicate N (0 : Int)).length : Int), i)) (fun j => List.replicate j (-1) ++ List.replicate (N - j) (0 : Int)) (r := some (List.replicate N (-1))) (fun f j hj => ?_) (fun f => ?_) (n := fuel) (by unfold fuel; omega)
 ·have this : impl_freeTable_L3 fuel (List.replicate N (0 : Int), ((List.replicate N (0 : Int)).length : Int), 0) = _ := this
  rw [this]; rfl
 ·have hin : j < (List.replicate j (-1) ++ List.replicate (N - j) (0 : Int)).length := by simp; omega
  have e : (List.replicate j (-1) ++ List.replicate (N - j) (0 : Int)).set j (-1) = List.replicate (j + 1) (-1) ++ List.replicate (N - (j + 1)) (0 : Int) := by
   rw [show N - j = (N - (j + 1)) + 1 by omega, List.replicate_succ, List.set_append_right _ _ (by simp), List.replicate_succ']
   simp
  simp only [impl_freeTable_L3, inb_nat, hin, stt_nat, e, if_true, w64_succ (show j < 4611686018427387904 by omega)]
  rw [if_pos (by simp; omega)]
 ·simp only [impl_freeTable_L3]
  rw [if_neg (by simp)]; simp
end T
open Go Go.Va
namespace T
section
variable {n : Int} {rels : List RelT}
end
def posL (V : List Int) (x : Nat) : Int := match V.findIdx? (fun y => y == (x : Int)) with | some i => (i : Int) | none => -1
section
variable {n : Nat} {t : List Int}
end
section
variable {n m : Nat} {t : List Int} {r : RelT} {rels : List RelT}
end
end T
set_option linter.unusedVariables false
open Go Go.Va
namespace T
def spec_l21Inverse_L2 : Nat → (Int × Int × Int) → Option (Int)
 | 0, _ => none
 | n + 1, (p, x, y) =>
  if p ≠ 0 then
   if (Int.tmod (w64 (x * y)) p) != 1 then
    spec_l21Inverse_L2 n (p, x, w64 (y + 1))
   else
    some y
  else none
def spec_l21Inverse (p : Int) (x : Int) : Option (Int) :=
 (spec_l21Inverse_L2 fuel (p, x, 1)).bind fun s1 =>
  some s1
def spec_l21Scale_L3 : Nat → (Int × (List Int) × Int × (List Int) × Int) → Option ((List Int))
 | 0, _ => none
 | n + 1, (p, row, by_, out, i) =>
  if decide (i < (row.length : Int)) then
   if inb i row then
    if p ≠ 0 then
     if out.length + [Int.tmod (w64 ((gd row i 0) * by_)) p].length ≤ lim then
      spec_l21Scale_L3 n (p, row, by_, out ++ [Int.tmod (w64 ((gd row i 0) * by_)) p], w64 (i + 1))
     else none
    else none
   else none
  else
   some out
def spec_l21Scale (p : Int) (row : List Int) (by_ : Int) : Option ((List Int)) :=
 (spec_l21Scale_L3 fuel (p, row, by_, [], 0)).bind fun s1 =>
  some s1
def spec_l21Eliminate_L3 : Nat → (Int × Int × (List (List Int)) × ((List (List Int)) × ((List Int) × (List (List Int)))) × ((List (List Int)) × ((List Int) × (List (List Int)))) × Int) → Option (Int × Int × ((List (List Int)) × ((List Int) × (List (List Int)))) × ((List (List Int)) × ((List Int) × (List (List Int)))))
 | 0, _ => none
 | n + 1, (t0, t1, t2, t6, t7, t8) =>
  if decide (t8 < (t2.length : Int)) then
   if inb t8 t2 then
    (spec_l1Own (gd t2 t8 [])).bind fun r1 =>
     if t7.2.2.length + [r1].length ≤ lim then
      spec_l21Eliminate_L3 n (t0, t1, t2, (t6.1, (t6.2.1, t6.2.2)), (t7.1, (t7.2.1, t7.2.2 ++ [r1])), w64 (t8 + 1))
     else none
   else none
  else
   some (t0, t1, (t6.1, (t6.2.1, t6.2.2)), (t7.1, (t7.2.1, t7.2.2)))
def spec_l21Eliminate_L10 : Nat → (Int × Int × ((List (List Int)) × ((List Int) × (List (List Int)))) × ((List (List Int)) × ((List Int) × (List (List Int)))) × Int × Int) → Option (Int × Int × ((List (List Int)) × ((List Int) × (List (List Int)))) × ((List (List Int)) × ((List Int) × (List (List Int)))) × Int × Int)
 | 0, _ => none
 | n + 1, (t0, t1, t6, t7, t9, t10) =>
  if decide (t10 < (t7.2.2.length : Int)) then
   if inb t10 t7.2.2 then
    if inb t9 (gd t7.2.2 t10 []) then
     if (gd (gd t7.2.2 t10 []) t9 0) == 0 then
      spec_l21Eliminate_L10 n (t0, t1, (t6.1, (t6.2.1, t6.2.2)), (t7.1, (t7.2.1, t7.2.2)), t9, w64 (t10 + 1))
     else
      some (t0, t1, (t6.1, (t6.2.1, t6.2.2)), (t7.1, (t7.2.1, t7.2.2)), t9, t10)
    else none
   else none
  else
   some (t0, t1, (t6.1, (t6.2.1, t6.2.2)), (t7.1, (t7.2.1, t7.2.2)), t9, t10)
def spec_l21Eliminate_L16 : Nat → (Int × Int × ((List (List Int)) × ((List Int) × (List (List Int)))) × ((List (List Int)) × ((List Int) × (List (List Int)))) × Int × (List Int) × (List (List Int)) × Int) → Option (Int × Int × ((List (List Int)) × ((List Int) × (List (List Int)))) × ((List (List Int)) × ((List Int) × (List (List Int)))) × Int × (List Int) × (List (List Int)))
 | 0, _ => none
 | n + 1, (t0, t1, t6, t7, t9, t11, t12, t13) =>
  if decide (t13 < (t12.length : Int)) then
   if inb t13 t12 then
    if inb t13 t12 then
     if inb t9 (gd t12 t13 []) then
      (spec_l21Less t0 (gd t12 t13 []) t11 (gd (gd t12 t13 []) t9 0)).bind fun r6 =>
       if inb t13 t12 then
        spec_l21Eliminate_L16 n (t0, t1, (t6.1, (t6.2.1, t6.2.2)), (t7.1, (t7.2.1, t7.2.2)), t9, t11, stt t12 t13 r6, w64 (t13 + 1))
       else none
     else none
    else none
   else none
  else
   some (t0, t1, (t6.1, (t6.2.1, t6.2.2)), (t7.1, (t7.2.1, t7.2.2)), t9, t11, t12)
def spec_l21Eliminate_L20 : Nat → (Int × Int × ((List (List Int)) × ((List Int) × (List (List Int)))) × ((List (List Int)) × ((List Int) × (List (List Int)))) × Int × (List Int) × (List (List Int)) × Int) → Option (Int × Int × ((List (List Int)) × ((List Int) × (List (List Int)))) × ((List (List Int)) × ((List Int) × (List (List Int)))) × Int × (List Int) × (List (List Int)))
 | 0, _ => none
 | n + 1, (t0, t1, t6, t7, t9, t11, t12, t14) =>
  if decide (t14 < (t7.1.length : Int)) then
   if inb t14 t7.1 then
    if inb t14 t7.1 then
     if inb t9 (gd t7.1 t14 []) then
      (spec_l21Less t0 (gd t7.1 t14 []) t11 (gd (gd t7.1 t14 []) t9 0)).bind fun r8 =>
       if inb t14 t7.1 then
        spec_l21Eliminate_L20 n (t0, t1, (t6.1, (t6.2.1, t6.2.2)), (stt t7.1 t14 r8, (t7.2.1, t7.2.2)), t9, t11, t12, w64 (t14 + 1))
       else none
     else none
    else none
   else none
  else
   some (t0, t1, (t6.1, (t6.2.1, t6.2.2)), (t7.1, (t7.2.1, t7.2.2)), t9, t11, t12)
def spec_l21Eliminate_L7 : Nat → (Int × Int × ((List (List Int)) × ((List Int) × (List (List Int)))) × ((List (List Int)) × ((List Int) × (List (List Int)))) × Int) → Option (((List (List Int)) × ((List Int) × (List (List Int)))) × ((List (List Int)) × ((List Int) × (List (List Int)))))
 | 0, _ => none
 | n + 1, (t0, t1, t6, t7, t9) =>
  if decide (t9 < t1) then
   (spec_l21Eliminate_L10 fuel (t0, t1, (t6.1, (t6.2.1, t6.2.2)), (t7.1, (t7.2.1, t7.2.2)), t9, 0)).bind fun s3 =>
    if s3.2.2.2.2.2 == (s3.2.2.2.1.2.2.length : Int) then
     spec_l21Eliminate_L7 n (s3.1, s3.2.1, (s3.2.2.1.1, (s3.2.2.1.2.1, s3.2.2.1.2.2)), (s3.2.2.2.1.1, (s3.2.2.2.1.2.1, s3.2.2.2.1.2.2)), w64 (s3.2.2.2.2.1 + 1))
    else
     if inb s3.2.2.2.2.2 s3.2.2.2.1.2.2 then
      if inb s3.2.2.2.2.2 s3.2.2.2.1.2.2 then
       if inb s3.2.2.2.2.1 (gd s3.2.2.2.1.2.2 s3.2.2.2.2.2 []) then
        (spec_l21Inverse s3.1 (gd (gd s3.2.2.2.1.2.2 s3.2.2.2.2.2 []) s3.2.2.2.2.1 0)).bind fun r4 =>
         (spec_l21Scale s3.1 (gd s3.2.2.2.1.2.2 s3.2.2.2.2.2 []) r4).bind fun r5 =>
          if (0 : Int) ≤ 0 ∧ 0 ≤ s3.2.2.2.2.2 ∧ s3.2.2.2.2.2 ≤ (s3.2.2.2.1.2.2.length : Int) then
           if ([] : List (List Int)).length + ((s3.2.2.2.1.2.2.take (Int.toNat s3.2.2.2.2.2)).drop (Int.toNat 0)).length ≤ lim then
            if (0 : Int) ≤ (w64 (s3.2.2.2.2.2 + 1)) ∧ (w64 (s3.2.2.2.2.2 + 1)) ≤ (s3.2.2.2.1.2.2.length : Int) ∧ (s3.2.2.2.1.2.2.length : Int) ≤ (s3.2.2.2.1.2.2.length : Int) then
             if ([] ++ ((s3.2.2.2.1.2.2.take (Int.toNat s3.2.2.2.2.2)).drop (Int.toNat 0))).length + ((s3.2.2.2.1.2.2.take (Int.toNat (s3.2.2.2.1.2.2.length : Int))).drop (Int.toNat (w64 (s3.2.2.2.2.2 + 1)))).length ≤ lim then
              (spec_l21Eliminate_L16 fuel (s3.1, s3.2.1, (s3.2.2.1.1, (s3.2.2.1.2.1, s3.2.2.1.2.2)), (s3.2.2.2.1.1, (s3.2.2.2.1.2.1, s3.2.2.2.1.2.2)), s3.2.2.2.2.1, r5, ([] ++ ((s3.2.2.2.1.2.2.take (Int.toNat s3.2.2.2.2.2)).drop (Int.toNat 0))) ++ ((s3.2.2.2.1.2.2.take (Int.toNat (s3.2.2.2.1.2.2.length : Int))).drop (Int.toNat (w64 (s3.2.2.2.2.2 + 1)))), 0)).bind fun s6 =>
               (spec_l21Eliminate_L20 fuel (s6.1, s6.2.1, (s6.2.2.1.1, (s6.2.2.1.2.1, s6.2.2.1.2.2)), (s6.2.2.2.1.1, (s6.2.2.2.1.2.1, s6.2.2.2.1.2.2)), s6.2.2.2.2.1, s6.2.2.2.2.2.1, s6.2.2.2.2.2.2, 0)).bind fun s7 =>
                if s7.2.2.2.1.1.length + [s7.2.2.2.2.2.1].length ≤ lim then
                 if s7.2.2.2.1.2.1.length + [s7.2.2.2.2.1].length ≤ lim then
                  spec_l21Eliminate_L7 n (s7.1, s7.2.1, (s7.2.2.1.1, (s7.2.2.1.2.1, s7.2.2.1.2.2)), (s7.2.2.2.1.1 ++ [s7.2.2.2.2.2.1], (s7.2.2.2.1.2.1 ++ [s7.2.2.2.2.1], s7.2.2.2.2.2.2)), w64 (s7.2.2.2.2.1 + 1))
                 else none
                else none
             else none
            else none
           else none
          else none
       else none
      else none
     else none
  else
   some ((t6.1, (t6.2.1, t6.2.2)), (t7.1, (t7.2.1, t7.2.2)))
def spec_l21Eliminate (t0 : Int) (t1 : Int) (t2 : List (List Int)) : Option (((List (List Int)) × ((List Int) × (List (List Int))))) :=
 (spec_l21Eliminate_L3 fuel (t0, t1, t2, ([], ([], [])), ([], ([], [])), 0)).bind fun s1 =>
  (spec_l21Eliminate_L7 fuel (s1.1, s1.2.1, (s1.2.2.1.1, (s1.2.2.1.2.1, s1.2.2.1.2.2)), (s1.2.2.2.1, (s1.2.2.2.2.1, s1.2.2.2.2.2)), 0)).bind fun s2 =>
   some (s2.2.1, (s2.2.2.1, s2.2.2.2))
def spec_l21Of (l : Int × Int × (List (List Int))) : Option (((List (List Int)) × ((List Int) × (List (List Int))))) :=
 (spec_l21Eliminate l.1 l.2.1 l.2.2).bind fun r1 =>
  some (r1.1, (r1.2.1, r1.2.2))
def spec_l21Empty_L2 : Nat → (Int × ((List (List Int)) × (List Int) × (List (List Int))) × Int) → Option ((Unit) ⊕ (Bool))
 | 0, _ => none
 | n + 1, (vars, w, i) =>
  if decide (i < (w.2.2.length : Int)) then
   if inb i w.2.2 then
    if inb vars (gd w.2.2 i []) then
     if (gd (gd w.2.2 i []) vars 0) != 0 then
      some (.inr true)
     else
      spec_l21Empty_L2 n (vars, (w.1, (w.2.1, w.2.2)), w64 (i + 1))
    else none
   else none
  else
   some (.inl ())
def spec_l21Empty (w : (List (List Int)) × (List Int) × (List (List Int))) (vars : Int) : Option (Bool) :=
 (spec_l21Empty_L2 fuel (vars, (w.1, (w.2.1, w.2.2)), 0)).bind fun s1 =>
  match s1 with
  | .inl s2 =>
   some false
  | .inr s3 =>
   some s3
def spec_CountLinear (l : Int × Int × (List (List Int))) : Option (Int × Bool) :=
 (spec_l21Good (l.1, (l.2.1, l.2.2))).bind fun r1 =>
  if !r1 then
   some (0, false)
  else
   (spec_l21Of (l.1, (l.2.1, l.2.2))).bind fun r2 =>
    (spec_l21Empty (r2.1, (r2.2.1, r2.2.2)) l.2.1).bind fun r3 =>
     if r3 then
      some (0, true)
     else
      (spec_l2Pow l.1 (w64 (l.2.1 - (r2.2.1.length : Int)))).bind fun r4 =>
       some (r4, true)
def impl_cloneRows_L3 : Nat → ((List (List Int)) × (List (List Int)) × Int × Int) → Option ((List (List Int)))
 | 0, _ => none
 | n + 1, (list, t7, t8, t9) =>
  if decide (t9 < t8) then
   if inb t9 t7 then
    (impl_clone (gd t7 t9 [])).bind fun r1 =>
     if list.length + [r1].length ≤ lim then
      impl_cloneRows_L3 n (list ++ [r1], t7, t8, w64 (t9 + 1))
     else none
   else none
  else
   some list
def impl_cloneRows (rows : List (List Int)) : Option ((List (List Int))) :=
 (impl_cloneRows_L3 fuel ([], rows, (rows.length : Int), 0)).bind fun s1 =>
  some s1
def impl_inverseOf_L2 : Nat → (Int × Int × Int) → Option ((Unit) ⊕ (Int))
 | 0, _ => none
 | n + 1, (x, p, y) =>
  if decide (y < p) then
   if p ≠ 0 then
    if (Int.tmod (w64 (x * y)) p) == 1 then
     some (.inr y)
    else
     impl_inverseOf_L2 n (x, p, w64 (y + 1))
   else none
  else
   some (.inl ())
def impl_inverseOf (x : Int) (p : Int) : Option (Int) :=
 (impl_inverseOf_L2 fuel (x, p, 1)).bind fun s1 =>
  match s1 with
  | .inl s2 =>
   some 0
  | .inr s3 =>
   some s3
def impl_eliminate_L6 : Nat → (Int × Int × (Int × (Int × ((List (List Int)) × (Int × (List Int))))) × Int × Int) → Option (Int × Int × (Int × (Int × ((List (List Int)) × (Int × (List Int))))) × Int × Int)
 | 0, _ => none
 | n + 1, (t0, t1, t7, t8, t9) =>
  if decide (t9 < (t7.2.2.1.length : Int)) then
   if inb t9 t7.2.2.1 then
    if inb t8 (gd t7.2.2.1 t9 []) then
     if (gd (gd t7.2.2.1 t9 []) t8 0) == 0 then
      impl_eliminate_L6 n (t0, t1, (t7.1, (t7.2.1, (t7.2.2.1, (t7.2.2.2.1, t7.2.2.2.2)))), t8, w64 (t9 + 1))
     else
      some (t0, t1, (t7.1, (t7.2.1, (t7.2.2.1, (t7.2.2.2.1, t7.2.2.2.2)))), t8, t9)
    else none
   else none
  else
   some (t0, t1, (t7.1, (t7.2.1, (t7.2.2.1, (t7.2.2.2.1, t7.2.2.2.2)))), t8, t9)
def impl_eliminate_L14 : Nat → (Int × Int × Int × (Int × (Int × ((List (List Int)) × (Int × (List Int))))) × Int × Int × Int × Int) → Option (Int × Int × Int × (Int × (Int × ((List (List Int)) × (Int × (List Int))))) × Int)
 | 0, _ => none
 | n + 1, (row10, t0, t1, t7, t8, t11, t110, t111) =>
  if decide (t111 < t110) then
   if inb t111 (gd t7.2.2.1 row10 []) then
    if t0 ≠ 0 then
     if inb t111 (gd t7.2.2.1 row10 []) then
      impl_eliminate_L14 n (row10, t0, t1, (t7.1, (t7.2.1, (stt t7.2.2.1 row10 (stt (gd t7.2.2.1 row10 []) t111 (Int.tmod (w64 ((gd (gd t7.2.2.1 row10 []) t111 0) * t11)) t0)), (t7.2.2.2.1, t7.2.2.2.2)))), t8, t11, t110, w64 (t111 + 1))
     else none
    else none
   else none
  else
   some (row10, t0, t1, (t7.1, (t7.2.1, (t7.2.2.1, (t7.2.2.2.1, t7.2.2.2.2)))), t8)
def impl_eliminate_L24 : Nat → (Int × Int × Unit × Int × Int × (Int × (Int × ((List (List Int)) × (Int × (List Int))))) × Int × Int × Int × Int × Int × Int) → Option (Int × Unit × Int × Int × (Int × (Int × ((List (List Int)) × (Int × (List Int))))) × Int × Int × Int)
 | 0, _ => none
 | n + 1, (row10, row14, al129, t0, t1, t7, t8, t15, t130, t131, t151, t152) =>
  if decide (t152 < t151) then
   if inb t152 (gd t7.2.2.1 row14 []) then
    if inb t152 (gd t7.2.2.1 row10 []) then
     if t0 ≠ 0 then
      if inb t152 (gd t7.2.2.1 row14 []) then
       impl_eliminate_L24 n (row10, row14, (), t0, t1, (t7.1, (t7.2.1, (stt t7.2.2.1 row14 (stt (gd t7.2.2.1 row14 []) t152 (Int.tmod (w64 ((gd (gd t7.2.2.1 row14 []) t152 0) + (w64 ((w64 (t0 - t15)) * (gd (gd t7.2.2.1 row10 []) t152 0))))) t0)), (t7.2.2.2.1, t7.2.2.2.2)))), t8, t15, t130, t131, t151, w64 (t152 + 1))
      else none
     else none
    else none
   else none
  else
   some (row10, (), t0, t1, (t7.1, (t7.2.1, (t7.2.2.1, (t7.2.2.2.1, t7.2.2.2.2)))), t8, t130, t131)
def impl_eliminate_L19 : Nat → (Int × Unit × Int × Int × (Int × (Int × ((List (List Int)) × (Int × (List Int))))) × Int × Int × Int) → Option (Int × Int × (Int × (Int × ((List (List Int)) × (Int × (List Int))))) × Int)
 | 0, _ => none
 | n + 1, (row10, al129, t0, t1, t7, t8, t130, t131) =>
  if decide (t131 < t130) then
   if inb t131 t7.2.2.1 then
    if inb t8 (gd t7.2.2.1 t131 []) then
     if t131 != t7.2.2.2.1 then
      if (gd (gd t7.2.2.1 t131 []) t8 0) != 0 then
       (impl_eliminate_L24 fuel (row10, t131, (), t0, t1, (t7.1, (t7.2.1, (t7.2.2.1, (t7.2.2.2.1, t7.2.2.2.2)))), t8, gd (gd t7.2.2.1 t131 []) t8 0, t130, t131, ((gd t7.2.2.1 t131 []).length : Int), 0)).bind fun s6 =>
        impl_eliminate_L19 n (s6.1, (), s6.2.2.1, s6.2.2.2.1, (s6.2.2.2.2.1.1, (s6.2.2.2.2.1.2.1, (s6.2.2.2.2.1.2.2.1, (s6.2.2.2.2.1.2.2.2.1, s6.2.2.2.2.1.2.2.2.2)))), s6.2.2.2.2.2.1, s6.2.2.2.2.2.2.1, w64 (s6.2.2.2.2.2.2.2 + 1))
      else
       impl_eliminate_L19 n (row10, (), t0, t1, (t7.1, (t7.2.1, (t7.2.2.1, (t7.2.2.2.1, t7.2.2.2.2)))), t8, t130, w64 (t131 + 1))
     else
      impl_eliminate_L19 n (row10, (), t0, t1, (t7.1, (t7.2.1, (t7.2.2.1, (t7.2.2.2.1, t7.2.2.2.2)))), t8, t130, w64 (t131 + 1))
    else none
   else none
  else
   some (t0, t1, (t7.1, (t7.2.1, (t7.2.2.1, (t7.2.2.2.1, t7.2.2.2.2)))), t8)
def impl_eliminate_L3 : Nat → (Int × Int × (Int × (Int × ((List (List Int)) × (Int × (List Int))))) × Int) → Option ((Int × (Int × ((List (List Int)) × (Int × (List Int))))))
 | 0, _ => none
 | n + 1, (t0, t1, t7, t8) =>
  if decide (t8 < t1) then
   (impl_eliminate_L6 fuel (t0, t1, (t7.1, (t7.2.1, (t7.2.2.1, (t7.2.2.2.1, t7.2.2.2.2)))), t8, t7.2.2.2.1)).bind fun s3 =>
    if s3.2.2.2.2 == (s3.2.2.1.2.2.1.length : Int) then
     impl_eliminate_L3 n (s3.1, s3.2.1, (s3.2.2.1.1, (s3.2.2.1.2.1, (s3.2.2.1.2.2.1, (s3.2.2.1.2.2.2.1, s3.2.2.1.2.2.2.2)))), w64 (s3.2.2.2.1 + 1))
    else
     if inb s3.2.2.2.2 s3.2.2.1.2.2.1 then
      if (0 : Int) ≤ (w64 (s3.2.2.1.2.2.2.1 + 1)) ∧ (w64 (s3.2.2.1.2.2.2.1 + 1)) ≤ (w64 (s3.2.2.2.2 + 1)) ∧ (w64 (s3.2.2.2.2 + 1)) ≤ (s3.2.2.1.2.2.1.length : Int) then
       if (0 : Int) ≤ s3.2.2.1.2.2.2.1 ∧ s3.2.2.1.2.2.2.1 ≤ s3.2.2.2.2 ∧ s3.2.2.2.2 ≤ (s3.2.2.1.2.2.1.length : Int) then
        if (w64 (s3.2.2.1.2.2.2.1 + 1)) = s3.2.2.1.2.2.2.1 + 1 ∧ (w64 (s3.2.2.2.2 + 1)) = s3.2.2.2.2 + 1 ∧ s3.2.2.2.2 = s3.2.2.2.2 then
         if inb s3.2.2.1.2.2.2.1 (upL s3.2.2.1.2.2.1 (Int.toNat s3.2.2.1.2.2.2.1) (Int.toNat s3.2.2.2.2) []) then
          if s3.2.2.1.2.2.2.1 = s3.2.2.1.2.2.2.1 then
           if inb s3.2.2.2.1 (gd (stt (upL s3.2.2.1.2.2.1 (Int.toNat s3.2.2.1.2.2.2.1) (Int.toNat s3.2.2.2.2) []) s3.2.2.1.2.2.2.1 (gd s3.2.2.1.2.2.1 s3.2.2.2.2 [])) s3.2.2.1.2.2.2.1 []) then
            (impl_inverseOf (gd (gd (stt (upL s3.2.2.1.2.2.1 (Int.toNat s3.2.2.1.2.2.2.1) (Int.toNat s3.2.2.2.2) []) s3.2.2.1.2.2.2.1 (gd s3.2.2.1.2.2.1 s3.2.2.2.2 [])) s3.2.2.1.2.2.2.1 []) s3.2.2.2.1 0) s3.1).bind fun r4 =>
             (impl_eliminate_L14 fuel (s3.2.2.1.2.2.2.1, s3.1, s3.2.1, (s3.2.2.1.1, (s3.2.2.1.2.1, (stt (upL s3.2.2.1.2.2.1 (Int.toNat s3.2.2.1.2.2.2.1) (Int.toNat s3.2.2.2.2) []) s3.2.2.1.2.2.2.1 (gd s3.2.2.1.2.2.1 s3.2.2.2.2 []), (s3.2.2.1.2.2.2.1, s3.2.2.1.2.2.2.2)))), s3.2.2.2.1, r4, ((gd (stt (upL s3.2.2.1.2.2.1 (Int.toNat s3.2.2.1.2.2.2.1) (Int.toNat s3.2.2.2.2) []) s3.2.2.1.2.2.2.1 (gd s3.2.2.1.2.2.1 s3.2.2.2.2 [])) s3.2.2.1.2.2.2.1 []).length : Int), 0)).bind fun s5 =>
              (impl_eliminate_L19 fuel (s5.1, (), s5.2.1, s5.2.2.1, (s5.2.2.2.1.1, (s5.2.2.2.1.2.1, (s5.2.2.2.1.2.2.1, (s5.2.2.2.1.2.2.2.1, s5.2.2.2.1.2.2.2.2)))), s5.2.2.2.2, (s5.2.2.2.1.2.2.1.length : Int), 0)).bind fun s6 =>
               if inb s6.2.2.2 s6.2.2.1.2.2.2.2 then
                impl_eliminate_L3 n (s6.1, s6.2.1, (s6.2.2.1.1, (s6.2.2.1.2.1, (s6.2.2.1.2.2.1, (w64 (s6.2.2.1.2.2.2.1 + 1), stt s6.2.2.1.2.2.2.2 s6.2.2.2 s6.2.2.1.2.2.2.1)))), w64 (s6.2.2.2 + 1))
               else none
           else none
          else none
         else none
        else none
       else none
      else none
     else none
  else
   some (t7.1, (t7.2.1, (t7.2.2.1, (t7.2.2.2.1, t7.2.2.2.2))))
def impl_eliminate (t0 : Int) (t1 : Int) (t2 : List (List Int)) : Option ((Bool × Int × Int × (List (List Int)) × Int × (List Int))) :=
 (impl_cloneRows t2).bind fun r1 =>
  (impl_freeTable t1).bind fun r2 =>
   (impl_eliminate_L3 fuel (t0, t1, (t0, (t1, (r1, (0, r2)))), 0)).bind fun s3 =>
    some (true, (s3.1, (s3.2.1, (s3.2.2.1, (s3.2.2.2.1, s3.2.2.2.2)))))
def impl_eliminateLinear (l : Int × Int × (List (List Int))) : Option ((Bool × Int × Int × (List (List Int)) × Int × (List Int))) :=
 (impl_eliminate l.1 l.2.1 l.2.2).bind fun r1 =>
  some r1
def impl_eliminated_freeVars_L3 : Nat → (Unit × (Int × (Int × ((List (List Int)) × (Int × (List Int))))) × (List Int) × Int × Int) → Option ((Int × (Int × ((List (List Int)) × (Int × (List Int))))) × (List Int))
 | 0, _ => none
 | n + 1, (al10, e, list, t11, t12) =>
  if decide (t12 < t11) then
   if inb t12 e.2.2.2.2 then
    if decide ((gd e.2.2.2.2 t12 0) < 0) then
     if list.length + [t12].length ≤ lim then
      impl_eliminated_freeVars_L3 n ((), (e.1, (e.2.1, (e.2.2.1, (e.2.2.2.1, e.2.2.2.2)))), list ++ [t12], t11, w64 (t12 + 1))
     else none
    else
     impl_eliminated_freeVars_L3 n ((), (e.1, (e.2.1, (e.2.2.1, (e.2.2.2.1, e.2.2.2.2)))), list, t11, w64 (t12 + 1))
   else none
  else
   some ((e.1, (e.2.1, (e.2.2.1, (e.2.2.2.1, e.2.2.2.2)))), list)
def impl_eliminated_freeVars (e : Int × (Int × ((List (List Int)) × (Int × (List Int))))) : Option ((Int × (Int × ((List (List Int)) × (Int × (List Int))))) × (List Int)) :=
 (impl_eliminated_freeVars_L3 fuel ((), (e.1, (e.2.1, (e.2.2.1, (e.2.2.2.1, e.2.2.2.2)))), [], (e.2.2.2.2.length : Int), 0)).bind fun s1 =>
  some ((s1.1.1, (s1.1.2.1, (s1.1.2.2.1, (s1.1.2.2.2.1, s1.1.2.2.2.2)))), s1.2)
def impl_eliminated_fails_p_L2 : Nat → ((Bool × Int × Int × (List (List Int)) × Int × (List Int)) × (List (List Int)) × Int × Int) → Option ((Unit) ⊕ (Bool))
 | 0, _ => none
 | n + 1, (e, t13, t14, t15) =>
  if decide (t15 < t14) then
   if inb t15 t13 then
    if e.1 = true then
     if inb e.2.2.1 (gd t13 t15 []) then
      if (gd (gd t13 t15 []) e.2.2.1 0) != 0 then
       some (.inr true)
      else
       impl_eliminated_fails_p_L2 n (e, t13, t14, w64 (t15 + 1))
     else none
    else none
   else none
  else
   some (.inl ())
def impl_eliminated_fails_p (e : Bool × Int × Int × (List (List Int)) × Int × (List Int)) : Option (Bool) :=
 if e.1 = true then
  if e.1 = true then
   if (0 : Int) ≤ e.2.2.2.2.1 ∧ e.2.2.2.2.1 ≤ (e.2.2.2.1.length : Int) ∧ (e.2.2.2.1.length : Int) ≤ (e.2.2.2.1.length : Int) then
    (impl_eliminated_fails_p_L2 fuel (e, (e.2.2.2.1.take (Int.toNat (e.2.2.2.1.length : Int))).drop (Int.toNat e.2.2.2.2.1), (((e.2.2.2.1.take (Int.toNat (e.2.2.2.1.length : Int))).drop (Int.toNat e.2.2.2.2.1)).length : Int), 0)).bind fun s1 =>
     match s1 with
     | .inl s2 =>
      some false
     | .inr s3 =>
      some s3
   else none
  else none
 else none
def impl_eliminated_freeVars_p_L3 : Nat → ((List Int) × (List Int) × Int × Int) → Option ((List Int))
 | 0, _ => none
 | n + 1, (list, t10, t11, t12) =>
  if decide (t12 < t11) then
   if inb t12 t10 then
    if decide ((gd t10 t12 0) < 0) then
     if list.length + [t12].length ≤ lim then
      impl_eliminated_freeVars_p_L3 n (list ++ [t12], t10, t11, w64 (t12 + 1))
     else none
    else
     impl_eliminated_freeVars_p_L3 n (list, t10, t11, w64 (t12 + 1))
   else none
  else
   some list
def impl_eliminated_freeVars_p (e : Bool × Int × Int × (List (List Int)) × Int × (List Int)) : Option ((List Int)) :=
 if e.1 = true then
  (impl_eliminated_freeVars_p_L3 fuel ([], e.2.2.2.2.2, (e.2.2.2.2.2.length : Int), 0)).bind fun s1 =>
   some s1
 else none
def impl_CountLinear (l : Int × Int × (List (List Int))) : Option (Int × Bool) :=
 (impl_IsLinear (l.1, (l.2.1, l.2.2))).bind fun r1 =>
  if !r1 then
   some (0, false)
  else
   (impl_eliminateLinear (l.1, (l.2.1, l.2.2))).bind fun r2 =>
    (impl_eliminated_fails_p r2).bind fun r3 =>
     if r3 then
      some (0, true)
     else
      (impl_eliminated_freeVars_p r2).bind fun r4 =>
       (impl_power l.1 (r4.length : Int)).bind fun r5 =>
        some (r5, true)
def spec_l21Free_L3 : Nat → (Int × ((List (List Int)) × (List Int) × (List (List Int))) × (List Int) × Int) → Option ((List Int))
 | 0, _ => none
 | n + 1, (vars, w, out, v) =>
  if decide (v < vars) then
   (spec_l1Has w.2.1 v).bind fun r1 =>
    if !r1 then
     if out.length + [v].length ≤ lim then
      spec_l21Free_L3 n (vars, (w.1, (w.2.1, w.2.2)), out ++ [v], w64 (v + 1))
     else none
    else
     spec_l21Free_L3 n (vars, (w.1, (w.2.1, w.2.2)), out, w64 (v + 1))
  else
   some out
def spec_l21Free (w : (List (List Int)) × (List Int) × (List (List Int))) (vars : Int) : Option ((List Int)) :=
 (spec_l21Free_L3 fuel (vars, (w.1, (w.2.1, w.2.2)), [], 0)).bind fun s1 =>
  some s1
def spec_FreeVars (l : Int × Int × (List (List Int))) : Option ((List Int) × Bool) :=
 (spec_l21Good (l.1, (l.2.1, l.2.2))).bind fun r1 =>
  if !r1 then
   some ([], false)
  else
   (spec_l21Of (l.1, (l.2.1, l.2.2))).bind fun r2 =>
    (spec_l21Free (r2.1, (r2.2.1, r2.2.2)) l.2.1).bind fun r3 =>
     some (r3, true)
def impl_FreeVars (l : Int × Int × (List (List Int))) : Option ((List Int) × Bool) :=
 (impl_IsLinear (l.1, (l.2.1, l.2.2))).bind fun r1 =>
  if !r1 then
   some ([], false)
  else
   (impl_eliminateLinear (l.1, (l.2.1, l.2.2))).bind fun r2 =>
    (impl_eliminated_freeVars_p r2).bind fun r3 =>
     some (r3, true)
def spec_l21Solve_L6 : Nat → (Int × ((List (List Int)) × ((List Int) × (List (List Int)))) × (List Int) × Int) → Option ((List Int))
 | 0, _ => none
 | n + 1, (vars, w, out, i) =>
  if decide (i < (w.2.1.length : Int)) then
   if inb i w.2.1 then
    if inb i w.1 then
     if inb vars (gd w.1 i []) then
      if inb (gd w.2.1 i 0) out then
       spec_l21Solve_L6 n (vars, (w.1, (w.2.1, w.2.2)), stt out (gd w.2.1 i 0) (gd (gd w.1 i []) vars 0), w64 (i + 1))
      else none
     else none
    else none
   else none
  else
   some out
def spec_l21Solve (p : Int) (vars : Int) (rows : List (List Int)) : Option ((List Int) × Bool) :=
 (spec_l21Eliminate p vars rows).bind fun r1 =>
  (spec_l21Empty (r1.1, (r1.2.1, r1.2.2)) vars).bind fun r2 =>
   if r2 then
    some ([], false)
   else
    if 0 ≤ vars ∧ vars ≤ vars ∧ vars ≤ lim then
     (spec_l21Solve_L6 fuel (vars, (r1.1, (r1.2.1, r1.2.2)), List.replicate (Int.toNat vars) (0 : Int), 0)).bind fun s3 =>
      some (s3, true)
    else none
def spec_SolveLinear (l : Int × Int × (List (List Int))) : Option ((List Int) × Bool) :=
 (spec_l21Good (l.1, (l.2.1, l.2.2))).bind fun r1 =>
  if !r1 then
   some ([], false)
  else
   (spec_l21Solve l.1 l.2.1 l.2.2).bind fun r2 =>
    some (r2.1, r2.2)
def impl_eliminated_solution_L4 : Nat → (Unit × (Int × (Int × ((List (List Int)) × (Int × (List Int))))) × (List Int) × (List Int) × (List Int) × Int × Int) → Option ((Int × (Int × ((List (List Int)) × (Int × (List Int))))) × (List Int) × (List Int) × (List Int))
 | 0, _ => none
 | n + 1, (al21, t0, t1, t5, t6, t22, t23) =>
  if decide (t23 < t22) then
   if inb t23 t6 then
    if inb t23 t1 then
     if inb (gd t6 t23 0) t5 then
      impl_eliminated_solution_L4 n ((), (t0.1, (t0.2.1, (t0.2.2.1, (t0.2.2.2.1, t0.2.2.2.2)))), t1, stt t5 (gd t6 t23 0) (gd t1 t23 0), t6, t22, w64 (t23 + 1))
     else none
    else none
   else none
  else
   some ((t0.1, (t0.2.1, (t0.2.2.1, (t0.2.2.2.1, t0.2.2.2.2)))), t1, t5, t6)
def impl_eliminated_solution_L14 : Nat → (Unit × Unit × (Int × (Int × ((List (List Int)) × (Int × (List Int))))) × (List Int) × (List Int) × (List Int) × Int × Int × Int × Int × Int × Int × Int) → Option (Unit × (Int × (Int × ((List (List Int)) × (Int × (List Int))))) × (List Int) × (List Int) × (List Int) × Int × Int × Int × Int)
 | 0, _ => none
 | n + 1, (al39, al61, t0, t1, t5, t6, t9, t10, t11, t40, t41, t62, t63) =>
  if decide (t63 < t62) then
   if inb t63 t6 then
    if inb t10 t0.2.2.1 then
     if inb (gd t6 t63 0) (gd t0.2.2.1 t10 []) then
      if inb t63 t1 then
       impl_eliminated_solution_L14 n ((), (), (t0.1, (t0.2.1, (t0.2.2.1, (t0.2.2.2.1, t0.2.2.2.2)))), t1, t5, t6, t9, t10, w64 (t11 + (w64 ((w64 (t0.1 - (gd (gd t0.2.2.1 t10 []) (gd t6 t63 0) 0))) * (gd t1 t63 0)))), t40, t41, t62, w64 (t63 + 1))
      else none
     else none
    else none
   else none
  else
   some ((), (t0.1, (t0.2.1, (t0.2.2.1, (t0.2.2.2.1, t0.2.2.2.2)))), t1, t5, t6, t9, t11, t40, t41)
def impl_eliminated_solution_L9 : Nat → (Unit × (Int × (Int × ((List (List Int)) × (Int × (List Int))))) × (List Int) × (List Int) × (List Int) × Int × Int) → Option ((Int × (Int × ((List (List Int)) × (Int × (List Int))))) × (List Int))
 | 0, _ => none
 | n + 1, (al39, t0, t1, t5, t6, t40, t41) =>
  if decide (t41 < t40) then
   if inb t41 t0.2.2.2.2 then
    if decide ((gd t0.2.2.2.2 t41 0) < 0) then
     impl_eliminated_solution_L9 n ((), (t0.1, (t0.2.1, (t0.2.2.1, (t0.2.2.2.1, t0.2.2.2.2)))), t1, t5, t6, t40, w64 (t41 + 1))
    else
     if inb (gd t0.2.2.2.2 t41 0) t0.2.2.1 then
      if inb t0.2.1 (gd t0.2.2.1 (gd t0.2.2.2.2 t41 0) []) then
       (impl_eliminated_solution_L14 fuel ((), (), (t0.1, (t0.2.1, (t0.2.2.1, (t0.2.2.2.1, t0.2.2.2.2)))), t1, t5, t6, t41, gd t0.2.2.2.2 t41 0, gd (gd t0.2.2.1 (gd t0.2.2.2.2 t41 0) []) t0.2.1 0, t40, t41, (t6.length : Int), 0)).bind fun s3 =>
        if s3.2.1.1 ≠ 0 then
         if inb s3.2.2.2.2.2.1 s3.2.2.2.1 then
          impl_eliminated_solution_L9 n ((), (s3.2.1.1, (s3.2.1.2.1, (s3.2.1.2.2.1, (s3.2.1.2.2.2.1, s3.2.1.2.2.2.2)))), s3.2.2.1, stt s3.2.2.2.1 s3.2.2.2.2.2.1 (Int.tmod s3.2.2.2.2.2.2.1 s3.2.1.1), s3.2.2.2.2.1, s3.2.2.2.2.2.2.2.1, w64 (s3.2.2.2.2.2.2.2.2 + 1))
         else none
        else none
      else none
     else none
   else none
  else
   some ((t0.1, (t0.2.1, (t0.2.2.1, (t0.2.2.2.1, t0.2.2.2.2)))), t5)
def impl_eliminated_solution (t0 : Int × (Int × ((List (List Int)) × (Int × (List Int))))) (t1 : List Int) : Option ((Int × (Int × ((List (List Int)) × (Int × (List Int))))) × (List Int)) :=
 if 0 ≤ t0.2.1 ∧ t0.2.1 ≤ t0.2.1 ∧ t0.2.1 ≤ lim then
  (impl_eliminated_freeVars (t0.1, (t0.2.1, (t0.2.2.1, (t0.2.2.2.1, t0.2.2.2.2))))).bind fun r1 =>
   (impl_eliminated_solution_L4 fuel ((), (r1.1.1, (r1.1.2.1, (r1.1.2.2.1, (r1.1.2.2.2.1, r1.1.2.2.2.2)))), t1, List.replicate (Int.toNat t0.2.1) (0 : Int), r1.2, (r1.2.length : Int), 0)).bind fun s2 =>
    (impl_eliminated_solution_L9 fuel ((), (s2.1.1, (s2.1.2.1, (s2.1.2.2.1, (s2.1.2.2.2.1, s2.1.2.2.2.2)))), s2.2.1, s2.2.2.1, s2.2.2.2, (s2.1.2.2.2.2.length : Int), 0)).bind fun s3 =>
     some ((s3.1.1, (s3.1.2.1, (s3.1.2.2.1, (s3.1.2.2.2.1, s3.1.2.2.2.2)))), s3.2)
 else none
def impl_eliminated_solution_p_L4 : Nat → (Unit × (Bool × Int × Int × (List (List Int)) × Int × (List Int)) × (List Int) × (List Int) × (List Int) × Int × Int) → Option ((Bool × Int × Int × (List (List Int)) × Int × (List Int)) × (List Int) × (List Int) × (List Int))
 | 0, _ => none
 | n + 1, (al21, t0, t1, t5, t6, t22, t23) =>
  if decide (t23 < t22) then
   if inb t23 t6 then
    if inb t23 t1 then
     if inb (gd t6 t23 0) t5 then
      impl_eliminated_solution_p_L4 n ((), t0, t1, stt t5 (gd t6 t23 0) (gd t1 t23 0), t6, t22, w64 (t23 + 1))
     else none
    else none
   else none
  else
   some (t0, t1, t5, t6)
def impl_eliminated_solution_p_L14 : Nat → (Unit × (Bool × Int × Int × (List (List Int)) × Int × (List Int)) × (List Int) × (List Int) × (List Int) × Int × Int × Int × (List Int) × Int × Int × Int × Int) → Option ((Bool × Int × Int × (List (List Int)) × Int × (List Int)) × (List Int) × (List Int) × (List Int) × Int × Int × (List Int) × Int × Int)
 | 0, _ => none
 | n + 1, (al61, t0, t1, t5, t6, t9, t10, t11, t39, t40, t41, t62, t63) =>
  if decide (t63 < t62) then
   if inb t63 t6 then
    if t0.1 = true then
     if t0.1 = true then
      if inb t10 t0.2.2.2.1 then
       if inb (gd t6 t63 0) (gd t0.2.2.2.1 t10 []) then
        if inb t63 t1 then
         impl_eliminated_solution_p_L14 n ((), t0, t1, t5, t6, t9, t10, w64 (t11 + (w64 ((w64 (t0.2.1 - (gd (gd t0.2.2.2.1 t10 []) (gd t6 t63 0) 0))) * (gd t1 t63 0)))), t39, t40, t41, t62, w64 (t63 + 1))
        else none
       else none
      else none
     else none
    else none
   else none
  else
   some (t0, t1, t5, t6, t9, t11, t39, t40, t41)
def impl_eliminated_solution_p_L9 : Nat → ((Bool × Int × Int × (List (List Int)) × Int × (List Int)) × (List Int) × (List Int) × (List Int) × (List Int) × Int × Int) → Option ((List Int))
 | 0, _ => none
 | n + 1, (t0, t1, t5, t6, t39, t40, t41) =>
  if decide (t41 < t40) then
   if inb t41 t39 then
    if decide ((gd t39 t41 0) < 0) then
     impl_eliminated_solution_p_L9 n (t0, t1, t5, t6, t39, t40, w64 (t41 + 1))
    else
     if t0.1 = true then
      if inb (gd t39 t41 0) t0.2.2.2.1 then
       if t0.1 = true then
        if inb t0.2.2.1 (gd t0.2.2.2.1 (gd t39 t41 0) []) then
         (impl_eliminated_solution_p_L14 fuel ((), t0, t1, t5, t6, t41, gd t39 t41 0, gd (gd t0.2.2.2.1 (gd t39 t41 0) []) t0.2.2.1 0, t39, t40, t41, (t6.length : Int), 0)).bind fun s3 =>
          if s3.1.1 = true then
           if s3.1.2.1 ≠ 0 then
            if inb s3.2.2.2.2.1 s3.2.2.1 then
             impl_eliminated_solution_p_L9 n (s3.1, s3.2.1, stt s3.2.2.1 s3.2.2.2.2.1 (Int.tmod s3.2.2.2.2.2.1 s3.1.2.1), s3.2.2.2.1, s3.2.2.2.2.2.2.1, s3.2.2.2.2.2.2.2.1, w64 (s3.2.2.2.2.2.2.2.2 + 1))
            else none
           else none
          else none
        else none
       else none
      else none
     else none
   else none
  else
   some t5
def impl_eliminated_solution_p (t0 : Bool × Int × Int × (List (List Int)) × Int × (List Int)) (t1 : List Int) : Option ((List Int)) :=
 if t0.1 = true then
  if 0 ≤ t0.2.2.1 ∧ t0.2.2.1 ≤ t0.2.2.1 ∧ t0.2.2.1 ≤ lim then
   (impl_eliminated_freeVars_p t0).bind fun r1 =>
    (impl_eliminated_solution_p_L4 fuel ((), t0, t1, List.replicate (Int.toNat t0.2.2.1) (0 : Int), r1, (r1.length : Int), 0)).bind fun s2 =>
     if s2.1.1 = true then
      (impl_eliminated_solution_p_L9 fuel (s2.1, s2.2.1, s2.2.2.1, s2.2.2.2, s2.1.2.2.2.2.2, (s2.1.2.2.2.2.2.length : Int), 0)).bind fun s3 =>
       some s3
     else none
  else none
 else none
def impl_eliminated_leastSolution_p (e : Bool × Int × Int × (List (List Int)) × Int × (List Int)) : Option ((List Int) × Bool) :=
 (impl_eliminated_fails_p e).bind fun r1 =>
  if r1 then
   some ([], false)
  else
   if e.1 = true then
    if 0 ≤ e.2.2.1 ∧ e.2.2.1 ≤ e.2.2.1 ∧ e.2.2.1 ≤ lim then
     (impl_eliminated_solution_p e (List.replicate (Int.toNat e.2.2.1) (0 : Int))).bind fun r2 =>
      some (r2, true)
    else none
   else none
def impl_SolveLinear (l : Int × Int × (List (List Int))) : Option ((List Int) × Bool) :=
 (impl_IsLinear (l.1, (l.2.1, l.2.2))).bind fun r1 =>
  if !r1 then
   some ([], false)
  else
   (impl_eliminateLinear (l.1, (l.2.1, l.2.2))).bind fun r2 =>
    (impl_eliminated_leastSolution_p r2).bind fun r3 =>
     some (r3.1, r3.2)
end T
open Go Go.Va
namespace T
def mix {α : Type} (nw old : Nat → α) (N i : Nat) : List α := (List.range N).map fun q => if q < i then nw q else old q
section
variable {α : Type} {nw old : Nat → α} {N i : Nat}
theorem mix_len : (mix nw old N i).length = N := by simp [mix]
theorem mix_get {q : Nat} {d : α} (h : q < N) : (mix nw old N i).getD q d = if q < i then nw q else old q := by
 rw [getD_of (by rw [mix_len]; exact h)]; simp [mix]
theorem mix_set (h : i < N) : (mix nw old N i).set i (nw i) = mix nw old N (i + 1) := by
 unfold mix
 apply List.ext_getElem
 ·simp
 ·intro q h1 h2
  rw [List.getElem_set]
  simp only [List.getElem_map, List.getElem_range]
  by_cases e : i = q
  ·subst e; rw [if_pos rfl, if_pos (by omega)]
  ·rw [if_neg e]
   by_cases e2 : q < i
   ·rw [if_pos e2, if_pos (by omega)]
   ·rw [if_neg e2, if_neg (by omega)]
theorem mix_same (h : i < N) (he : nw i = old i) : mix nw old N (i + 1) = mix nw old N i := by
 unfold mix
 refine List.map_congr_left fun q hq => ?_
 by_cases e : q = i
 ·subst e; rw [if_pos (by omega), if_neg (by omega), he]
 ·by_cases e2 : q < i
  ·rw [if_pos e2, if_pos (by omega)]
  ·rw [if_neg e2, if_neg (by omega)]
theorem mix_zero {l : List α} {d : α} (h : l.length = N) : mix nw (fun q => l.getD q d) N 0 = l := by
 apply List.ext_getElem
 ·rw [mix_len, h]
 ·intro q h1 h2
  simp only [mix, List.getElem_map, List.getElem_range]
  rw [if_neg (by omega), getD_of h2]
theorem mix_full : mix nw old N N = (List.range N).map nw := by
 unfold mix
 refine List.map_congr_left fun q hq => ?_
 rw [if_pos (List.mem_range.1 hq)]
end
def pr4 (p : Int) : Prop := p = 2 ∨ p = 3 ∨ p = 5 ∨ p = 7
def okRow (p : Int) (W : Nat) (r : List Int) : Prop := r.length = W ∧ ∀ x ∈ r, 0 ≤ x ∧ x < p
def invP (p x : Int) : Int := (impl_inverseOf x p).getD 0
theorem inv_tab : ∀ p : Fin 8, ∀ x : Fin 8, (p.val = 2 ∨ p.val = 3 ∨ p.val = 5 ∨ p.val = 7) → 0 < x.val → x.val < p.val →
    impl_inverseOf (x.val : Int) (p.val : Int) = some (invP (p.val : Int) (x.val : Int)) ∧ spec_l21Inverse (p.val : Int) (x.val : Int) = some (invP (p.val : Int) (x.val : Int)) ∧ 1 ≤ invP (p.val : Int) (x.val : Int) ∧ invP (p.val : Int) (x.val : Int) < (p.val : Int) := by decide +kernel
theorem inv_ok {p x : Int} (hp : pr4 p) (h0 : 0 < x) (h1 : x < p) : impl_inverseOf x p = some (invP p x) ∧ spec_l21Inverse p x = some (invP p x) ∧ 1 ≤ invP p x ∧ invP p x < p := by
 unfold pr4 at hp
 have := inv_tab ⟨p.toNat, by omega⟩ ⟨x.toNat, by omega⟩ (by simp; omega) (by simp; omega) (by simp; omega)
 simp only [Int.toNat_of_nonneg (show 0 ≤ p by omega), Int.toNat_of_nonneg (show 0 ≤ x by omega)] at this
 exact this
def scaleR (p b : Int) (r : List Int) : List Int := (List.range r.length).map fun i => Int.tmod (r.getD i 0 * b) p
def lessR (p : Int) (row : List Int) (v : Nat) (r : List Int) : List Int := (List.range r.length).map fun i => Int.tmod (r.getD i 0 + (p - r.getD v 0) * row.getD i 0) p
section
variable {p : Int} {W : Nat} {r row : List Int}
theorem ok_get (h : okRow p W r) {i : Nat} (hi : i < W) : 0 ≤ r.getD i 0 ∧ r.getD i 0 < p := by
 have : i < r.length := by rw [h.1]; exact hi
 rw [getD_of this]; exact h.2 _ (List.getElem_mem this)
theorem mod_in (hp : pr4 p) {x : Int} (h : 0 ≤ x) : 0 ≤ Int.tmod x p ∧ Int.tmod x p < p := by
 unfold pr4 at hp
 rw [Int.tmod_eq_emod_of_nonneg h]
 exact ⟨Int.emod_nonneg _ (by omega), Int.emod_lt_of_pos _ (by omega)⟩
theorem prod_le {a b : Int} (h0 : 0 ≤ a) (h1 : a ≤ 8) (g0 : 0 ≤ b) (g1 : b ≤ 8) : 0 ≤ a * b ∧ a * b ≤ 64 := by
 have h2 := Int.mul_nonneg h0 g0
 have h3 := Int.mul_le_mul h1 g1 g0 (by omega)
 exact ⟨h2, by omega⟩
theorem scale_ok (hp : pr4 p) (h : okRow p W r) {b : Int} (hb : 0 ≤ b ∧ b < p) : okRow p W (scaleR p b r) := by
 refine ⟨by unfold scaleR; simp; exact h.1, fun x hx => ?_⟩
 unfold scaleR at hx
 obtain ⟨i, hi, rfl⟩ := List.mem_map.1 hx
 have hi := List.mem_range.1 hi
 have := ok_get h (i := i) (by rw [← h.1]; exact hi)
 exact mod_in hp (Int.mul_nonneg this.1 hb.1)
theorem less_ok (hp : pr4 p) (h : okRow p W r) (hr : okRow p W row) {v : Nat} (hv : v < W) : okRow p W (lessR p row v r) := by
 refine ⟨by unfold lessR; simp; exact h.1, fun x hx => ?_⟩
 unfold lessR at hx
 obtain ⟨i, hi, rfl⟩ := List.mem_map.1 hx
 have hi := List.mem_range.1 hi
 have h1 := ok_get h (i := i) (by rw [← h.1]; exact hi)
 have h2 := ok_get hr (i := i) (by rw [← h.1]; exact hi)
 have h3 := ok_get h hv
 exact mod_in hp (by have := Int.mul_nonneg (show 0 ≤ p - r.getD v 0 by omega) h2.1; omega)
theorem less_zero (hp : pr4 p) (h : okRow p W r) (hr : okRow p W row) {v : Nat} (h0 : r.getD v 0 = 0) : lessR p row v r = r := by
 unfold lessR
 apply List.ext_getElem
 ·simp
 ·intro i h1 h2
  simp only [List.getElem_map, List.getElem_range]
  have g := h.2 _ (List.getElem_mem h2)
  have g2 := ok_get hr (i := i) (by rw [← h.1]; exact h2)
  rw [h0, Int.sub_zero, getD_of h2]
  have hnn := Int.mul_nonneg (show 0 ≤ p by unfold pr4 at hp; omega) g2.1
  rw [Int.tmod_eq_emod_of_nonneg (by omega), Int.add_mul_emod_self_left]
  exact Int.emod_eq_of_lt g.1 g.2
theorem w64_small {x : Int} (h0 : -1000000 ≤ x) (h1 : x ≤ 1000000) : w64 x = x := w64_id (by omega) (by omega)
theorem less_w (hp : pr4 p) (h : okRow p W r) (hr : okRow p W row) {v i : Nat} (hv : v < W) (hi : i < W) :
    Int.tmod (w64 (r.getD i 0 + w64 (w64 (p - r.getD v 0) * row.getD i 0))) p = Int.tmod (r.getD i 0 + (p - r.getD v 0) * row.getD i 0) p := by
  have h1 := ok_get h hi
  have h2 := ok_get hr hi
  have h3 := ok_get h hv
  unfold pr4 at hp
  have h4 := prod_le (a := p - r.getD v 0) (b := row.getD i 0) (by omega) (by omega) (by omega) (by omega)
  rw [w64_small (x := p - r.getD v 0) (by omega) (by omega), w64_small (x := (p - r.getD v 0) * row.getD i 0) (by omega) (by omega), w64_small (by omega) (by omega)]
theorem spec_less_ok (hp : pr4 p) (hW : W ≤ 1000) (h : okRow p W r) (hr : okRow p W row) {v : Nat} (hv : v < W) : spec_l21Less p r row (r.getD v 0) = some (lessR p row v r) := by
 unfold spec_l21Less
 have hlr := h.1
 have hlo := hr.1
 have hp0 : p ≠ 0 := by unfold pr4 at hp; omega
 have := forS r.length (fun f o i => spec_l21Less_L3 f (p, r, row, r.getD v 0, o, i)) (fun j => (List.range j).map fun i => Int.tmod (r.getD i 0 + (p - r.getD v 0) * row.getD i 0) p) (r := some (lessR p row v r)) (fun f j hj => ?_) (fun f => ?_) (n := fuel) (by unfold fuel; omega)
 ·have this : spec_l21Less_L3 fuel (p, r, row, r.getD v 0, [], 0) = _ := this
  rw [this]; rfl
 ·have e : (List.range (j + 1)).map (fun i => Int.tmod (r.getD i 0 + (p - r.getD v 0) * row.getD i 0) p) = (List.range j).map (fun i => Int.tmod (r.getD i 0 + (p - r.getD v 0) * row.getD i 0) p) ++ [Int.tmod (r.getD j 0 + (p - r.getD v 0) * row.getD j 0) p] := by rw [List.range_succ, List.map_append]; rfl
  have hjo : j < row.length := by omega
  simp only [spec_l21Less_L3, inb_nat, hj, hjo, gd_D, less_w hp h hr hv (show j < W by omega), e, if_true, w64_succ (show j < 4611686018427387904 by omega)]
  rw [if_pos (by simp; omega), if_pos hp0, if_pos (by simp; unfold lim; omega)]
 ·simp only [spec_l21Less_L3]
  rw [if_neg (by simp)]; rfl
theorem spec_scale_ok (hp : pr4 p) (hW : W ≤ 1000) (h : okRow p W r) {b : Int} (hb : 0 ≤ b ∧ b < p) : spec_l21Scale p r b = some (scaleR p b r) := by
 unfold spec_l21Scale
 have hlr := h.1
 have hp0 : p ≠ 0 := by unfold pr4 at hp; omega
 have := forS r.length (fun f o i => spec_l21Scale_L3 f (p, r, b, o, i)) (fun j => (List.range j).map fun i => Int.tmod (r.getD i 0 * b) p) (r := some (scaleR p b r)) (fun f j hj => ?_) (fun f => ?_) (n := fuel) (by unfold fuel; omega)
 ·have this : spec_l21Scale_L3 fuel (p, r, b, [], 0) = _ := this
  rw [this]; rfl
 ·have e : (List.range (j + 1)).map (fun i => Int.tmod (r.getD i 0 * b) p) = (List.range j).map (fun i => Int.tmod (r.getD i 0 * b) p) ++ [Int.tmod (r.getD j 0 * b) p] := by rw [List.range_succ, List.map_append]; rfl
  have h1 := ok_get h (i := j) (by omega)
  unfold pr4 at hp
  have h4 := prod_le (a := r.getD j 0) (b := b) (by omega) (by omega) (by omega) (by omega)
  simp only [spec_l21Scale_L3, inb_nat, hj, gd_D, w64_small (x := r.getD j 0 * b) (by omega) (by omega), e, if_true, w64_succ (show j < 4611686018427387904 by omega)]
  rw [if_pos (by simp; omega), if_pos hp0, if_pos (by simp; unfold lim; omega)]
 ·simp only [spec_l21Scale_L3]
  rw [if_neg (by simp)]; rfl
end
abbrev ES := List (List Int) × List Int × List (List Int)
def nzB (v : Nat) (r : List Int) : Bool := r.getD v 0 != 0
def elimS (p : Int) (s : ES) (v : Nat) : ES :=
 let at' := s.2.2.findIdx (nzB v)
 if at' < s.2.2.length then
  let row := scaleR p (invP p ((s.2.2.getD at' []).getD v 0)) (s.2.2.getD at' [])
  (s.1.map (lessR p row v) ++ [row], s.2.1 ++ [(v : Int)], (s.2.2.eraseIdx at').map (lessR p row v))
 else s
def elimF (p : Int) (rows : List (List Int)) (V : Nat) : ES := (List.range V).foldl (elimS p) ([], [], rows)
structure ESok (p : Int) (W N v : Nat) (s : ES) : Prop where
 t : ∀ r ∈ s.1, okRow p W r
 l : ∀ r ∈ s.2.2, okRow p W r
 bl : s.2.1.length = s.1.length
 n : s.1.length + s.2.2.length = N
 bv : ∀ x ∈ s.2.1, 0 ≤ x ∧ x < (v : Int)
 bn : s.2.1.Nodup
section
variable {p : Int} {W N : Nat}
theorem find_nz {l : List (List Int)} {v : Nat} (h : l.findIdx (nzB v) < l.length) (hl : ∀ r ∈ l, okRow p W r) (hv : v < W) : 0 < (l.getD (l.findIdx (nzB v)) []).getD v 0 ∧ (l.getD (l.findIdx (nzB v)) []).getD v 0 < p ∧ okRow p W (l.getD (l.findIdx (nzB v)) []) := by
 have h1 := List.findIdx_getElem (p := nzB v) (xs := l) (w := h)
 have h2 := hl _ (List.getElem_mem h)
 rw [getD_of h]
 generalize l[l.findIdx (nzB v)]'h = r at h1 h2 ⊢
 have h3 := ok_get h2 hv
 have h4 : r.getD v 0 ≠ 0 := by unfold nzB at h1; exact bne_iff_ne.1 h1
 exact ⟨by omega, h3.2, h2⟩
theorem elimS_ok (hp : pr4 p) {s : ES} {v : Nat} (h : ESok p W N v s) (hv : v < W) : ESok p W N (v + 1) (elimS p s v) := by
 unfold elimS
 by_cases hc : s.2.2.findIdx (nzB v) < s.2.2.length
 ·obtain ⟨h1, h2, h3⟩ := find_nz hc h.l hv
  obtain ⟨_, _, i1, i2⟩ := inv_ok hp h1 h2
  have hrow := scale_ok hp h3 (b := invP p ((s.2.2.getD (s.2.2.findIdx (nzB v)) []).getD v 0)) ⟨by omega, i2⟩
  dsimp only
  rw [if_pos hc]
  refine ⟨fun r hr => ?_, fun r hr => ?_, by simp; exact h.bl, ?_, fun x hx => ?_, ?_⟩
  ·rcases List.mem_append.1 hr with hr | hr
   ·obtain ⟨q, hq, rfl⟩ := List.mem_map.1 hr
    exact less_ok hp (h.t q hq) hrow hv
   ·rw [List.mem_singleton.1 hr]; exact hrow
  ·obtain ⟨q, hq, rfl⟩ := List.mem_map.1 hr
   exact less_ok hp (h.l q (List.mem_of_mem_eraseIdx hq)) hrow hv
  ·have := h.n
   have h9 : (s.2.2.eraseIdx (s.2.2.findIdx (nzB v))).length = s.2.2.length - 1 := List.length_eraseIdx_of_lt hc
   simp only [List.length_append, List.length_map, List.length_singleton]
   omega
  ·rcases List.mem_append.1 hx with hx | hx
   ·have := h.bv x hx; omega
   ·rw [List.mem_singleton.1 hx]; omega
  ·refine List.nodup_append.2 ⟨h.bn, by simp, fun a ha b hb => ?_⟩
   rw [List.mem_singleton.1 hb]
   have := h.bv a ha
   omega
 ·dsimp only
  rw [if_neg hc]
  exact ⟨h.t, h.l, h.bl, h.n, fun x hx => by have := h.bv x hx; omega, h.bn⟩
theorem elimF_ok (hp : pr4 p) {rows : List (List Int)} (hr : ∀ r ∈ rows, okRow p W r) : ∀ v, v ≤ W → ESok p W rows.length v (elimF p rows v) := by
 intro v
 induction v with
 | zero => intro _; exact ⟨fun r h => by simp [elimF] at h, hr, rfl, by simp [elimF], fun x h => by simp [elimF] at h, by simp [elimF]⟩
 | succ v ih =>
  intro hv
  unfold elimF
  rw [range_fold]
  exact elimS_ok hp (ih (by omega)) (by omega)
end
end T
open Go Go.Va
namespace T
section
variable {p : Int} {W N : Nat}
theorem map_rangeD {α β : Type} (g : α → β) {l : List α} {d : α} : ((List.range l.length).map fun q => g (l.getD q d)) = l.map g := by
 apply List.ext_getElem
 ·simp
 ·intro i h1 h2
  simp only [List.getElem_map, List.getElem_range]
  rw [getD_of (by simpa using h2)]
theorem seekX {β : Type} (l : List (List Int)) (v : Nat) (L : Nat → Int → Option β) (g : Nat → β)
    (hs : ∀ n (k : Nat) (hk : k < l.length), L (n + 1) k = if nzB v l[k] then some (g k) else L n ((k + 1 : Nat) : Int)) (he : ∀ n, L (n + 1) (l.length : Nat) = some (g l.length)) :
    ∀ (c k n : Nat), k + c = l.length → c < n → L n k = some (g (k + (l.drop k).findIdx (nzB v))) := by
  intro c
  induction c with
  | zero =>
    intro k n hk hn
    obtain ⟨n, rfl⟩ : ∃ z, n = z + 1 := ⟨n - 1, by omega⟩
    have : k = l.length := by omega
    subst this
    rw [he, List.drop_length]; rfl
  | succ c ih =>
    intro k n hk hn
    obtain ⟨n, rfl⟩ : ∃ z, n = z + 1 := ⟨n - 1, by omega⟩
    have hkl : k < l.length := by omega
    rw [hs n k hkl, List.drop_eq_getElem_cons hkl, List.findIdx_cons]
    cases hb : nzB v l[k] with
    | true => simp
    | false =>
      simp only [Bool.false_eq_true, if_false]
      rw [ih (k + 1) n (by omega) (by omega)]
      simp only [cond_false]
      congr 2; omega
theorem spec_L10 {s : ES} {v V : Nat} (h : ESok p W N v s) (hv : v < W) (hN : N ≤ 100000) (t6 : ES) :
    spec_l21Eliminate_L10 fuel (p, (V : Int), (t6.1, (t6.2.1, t6.2.2)), (s.1, (s.2.1, s.2.2)), (v : Int), 0) = some (p, (V : Int), (t6.1, (t6.2.1, t6.2.2)), (s.1, (s.2.1, s.2.2)), (v : Int), ((s.2.2.findIdx (nzB v) : Nat) : Int)) := by
  have hn := h.n
  have := seekX s.2.2 v (fun f i => spec_l21Eliminate_L10 f (p, (V : Int), (t6.1, (t6.2.1, t6.2.2)), (s.1, (s.2.1, s.2.2)), (v : Int), i)) (fun k => (p, (V : Int), (t6.1, (t6.2.1, t6.2.2)), (s.1, (s.2.1, s.2.2)), (v : Int), (k : Int))) (fun f k hk => ?_) (fun f => ?_) s.2.2.length 0 fuel (by omega) (by unfold fuel; omega)
  · rw [List.drop_zero, Nat.zero_add] at this
    exact this
  · have hr := h.l _ (List.getElem_mem hk)
    have hvl : v < s.2.2[k].length := by rw [hr.1]; exact hv
    simp only [spec_l21Eliminate_L10, inb_nat, hk, gd_nat hk, hvl, gd_D, if_true, w64_succ (show k < 4611686018427387904 by omega)]
    rw [if_pos (by simp; omega)]
    unfold nzB
    by_cases hz : s.2.2[k].getD v 0 = 0
    · rw [if_pos (by simpa using hz), if_neg (by simpa using hz)]
    · rw [if_neg (by simpa using hz), if_pos (by simpa using hz)]
  · simp only [spec_l21Eliminate_L10]
    rw [if_neg (by simp)]
theorem spec_L16 (hp : pr4 p) (hW : W ≤ 1000) {l : List (List Int)} {row : List Int} (hl : ∀ r ∈ l, okRow p W r) (hlen : l.length ≤ 100000) (hr : okRow p W row) {v : Nat} (hv : v < W) (V : Int) (t6 s : ES) :
    spec_l21Eliminate_L16 fuel (p, V, (t6.1, (t6.2.1, t6.2.2)), (s.1, (s.2.1, s.2.2)), (v : Int), row, l, 0) = some (p, V, (t6.1, (t6.2.1, t6.2.2)), (s.1, (s.2.1, s.2.2)), (v : Int), row, l.map (lessR p row v)) := by
  have := forS l.length (fun f o i => spec_l21Eliminate_L16 f (p, V, (t6.1, (t6.2.1, t6.2.2)), (s.1, (s.2.1, s.2.2)), (v : Int), row, o, i)) (fun k => mix (fun q => lessR p row v (l.getD q [])) (fun q => l.getD q []) l.length k)
    (r := some (p, V, (t6.1, (t6.2.1, t6.2.2)), (s.1, (s.2.1, s.2.2)), (v : Int), row, l.map (lessR p row v))) (fun f k hk => ?_) (fun f => ?_) (n := fuel) (by unfold fuel; omega)
  · rw [mix_zero rfl] at this; exact this
  · have hml : (mix (fun q => lessR p row v (l.getD q [])) (fun q => l.getD q []) l.length k).length = l.length := mix_len
    have hin : k < (mix (fun q => lessR p row v (l.getD q [])) (fun q => l.getD q []) l.length k).length := by rw [hml]; exact hk
    have hg : (mix (fun q => lessR p row v (l.getD q [])) (fun q => l.getD q []) l.length k).getD k [] = l.getD k [] := by rw [mix_get hk, if_neg (by omega)]
    have hrk : okRow p W (l.getD k []) := by rw [getD_of hk]; exact hl _ (List.getElem_mem hk)
    have hvl : v < (l.getD k []).length := by rw [hrk.1]; exact hv
    have hst := mix_set (nw := fun q => lessR p row v (l.getD q [])) (old := fun q => l.getD q []) hk
    simp only [spec_l21Eliminate_L16, inb_nat, hin, gd_D, hg, hvl, spec_less_ok hp hW hrk hr hv, Option.bind_some, stt_nat, hst, if_true, w64_succ (show k < 4611686018427387904 by omega)]
    rw [if_pos (by rw [hml]; simp; omega)]
  · simp only [spec_l21Eliminate_L16, mix_len]
    rw [if_neg (by simp), mix_full]
    rw [map_rangeD (lessR p row v)]
theorem spec_L20 (hp : pr4 p) (hW : W ≤ 1000) {l : List (List Int)} {row : List Int} (hl : ∀ r ∈ l, okRow p W r) (hlen : l.length ≤ 100000) (hr : okRow p W row) {v : Nat} (hv : v < W) (V : Int) (t6 : ES) (b : List Int) (q : List (List Int)) (t12 : List (List Int)) :
    spec_l21Eliminate_L20 fuel (p, V, (t6.1, (t6.2.1, t6.2.2)), (l, (b, q)), (v : Int), row, t12, 0) = some (p, V, (t6.1, (t6.2.1, t6.2.2)), (l.map (lessR p row v), (b, q)), (v : Int), row, t12) := by
  have := forS l.length (fun f o i => spec_l21Eliminate_L20 f (p, V, (t6.1, (t6.2.1, t6.2.2)), (o, (b, q)), (v : Int), row, t12, i)) (fun k => mix (fun q => lessR p row v (l.getD q [])) (fun q => l.getD q []) l.length k)
    (r := some (p, V, (t6.1, (t6.2.1, t6.2.2)), (l.map (lessR p row v), (b, q)), (v : Int), row, t12)) (fun f k hk => ?_) (fun f => ?_) (n := fuel) (by unfold fuel; omega)
  · rw [mix_zero rfl] at this; exact this
  · have hml : (mix (fun q => lessR p row v (l.getD q [])) (fun q => l.getD q []) l.length k).length = l.length := mix_len
    have hin : k < (mix (fun q => lessR p row v (l.getD q [])) (fun q => l.getD q []) l.length k).length := by rw [hml]; exact hk
    have hg : (mix (fun q => lessR p row v (l.getD q [])) (fun q => l.getD q []) l.length k).getD k [] = l.getD k [] := by rw [mix_get hk, if_neg (by omega)]
    have hrk : okRow p W (l.getD k []) := by rw [getD_of hk]; exact hl _ (List.getElem_mem hk)
    have hvl : v < (l.getD k []).length := by rw [hrk.1]; exact hv
    have hst := mix_set (nw := fun q => lessR p row v (l.getD q [])) (old := fun q => l.getD q []) hk
    simp only [spec_l21Eliminate_L20, inb_nat, hin, gd_D, hg, hvl, spec_less_ok hp hW hrk hr hv, Option.bind_some, stt_nat, hst, if_true, w64_succ (show k < 4611686018427387904 by omega)]
    rw [if_pos (by rw [hml]; simp; omega)]
  · simp only [spec_l21Eliminate_L20, mix_len]
    rw [if_neg (by simp), mix_full]
    rw [map_rangeD (lessR p row v)]
theorem erase_take {l : List (List Int)} {k : Nat} : l.eraseIdx k = l.take k ++ l.drop (k + 1) := List.eraseIdx_eq_take_drop_succ l k
theorem spec_Eliminate_ok (hp : pr4 p) {V : Nat} (hVW : V ≤ W) (hW : W ≤ 1000) {rows : List (List Int)} (hr : ∀ r ∈ rows, okRow p W r) (hN : rows.length ≤ 100000) : spec_l21Eliminate p (V : Int) rows = some (elimF p rows V) := by
 unfold spec_l21Eliminate
 have h3 := forS rows.length (fun f o i => spec_l21Eliminate_L3 f (p, (V : Int), rows, ([], ([], [])), ([], ([], o)), i)) (fun k => rows.take k) (r := some (p, (V : Int), ([], ([], [])), ([], ([], rows)))) (fun f k hk => by
  have hrk := hr _ (List.getElem_mem hk)
  have hlr := hrk.1
  simp only [spec_l21Eliminate_L3, inb_nat, hk, gd_nat hk, spec_l1Own_ok (show rows[k].length ≤ 1099511627775 by omega), Option.bind_some, List.take_succ_eq_append_getElem hk, if_true, w64_succ (show k < 4611686018427387904 by omega)]
  rw [if_pos (by simp; omega), if_pos (by simp; unfold lim; omega)]) (fun f => by
  simp only [spec_l21Eliminate_L3, List.take_length]
  rw [if_neg (by simp)]) (n := fuel) (by unfold fuel; omega)
 have h3 : spec_l21Eliminate_L3 fuel (p, (V : Int), rows, ([], ([], [])), ([], ([], [])), 0) = _ := h3
 simp only [h3, Option.bind_some]
 have h7 := forS V (fun f (s : ES) i => spec_l21Eliminate_L7 f (p, (V : Int), ([], ([], [])), (s.1, (s.2.1, s.2.2)), i)) (fun v => elimF p rows v) (r := some (([], ([], [])), elimF p rows V)) (fun f v hv => ?_) (fun f => ?_) (n := fuel) (by unfold fuel; omega)
 ·have h7 : spec_l21Eliminate_L7 fuel (p, (V : Int), ([], ([], [])), ([], ([], rows)), 0) = _ := h7
  rw [h7]; rfl
 ·have hok := elimF_ok hp hr v (by omega)
  have hnx : elimF p rows (v + 1) = elimS p (elimF p rows v) v := by unfold elimF; rw [range_fold]
  rw [hnx]
  generalize elimF p rows v = s at hok
  have hn := hok.n
  have hbl := hok.bl
  have h10 := spec_L10 (V := V) hok (show v < W by omega) hN ([], ([], []))
  have h10 : spec_l21Eliminate_L10 fuel (p, (V : Int), ([], ([], [])), (s.1, (s.2.1, s.2.2)), (v : Int), 0) = _ := h10
  simp only [spec_l21Eliminate_L7, h10, Option.bind_some]
  rw [if_pos (by simp; omega)]
  by_cases hc : s.2.2.findIdx (nzB v) < s.2.2.length
  ·obtain ⟨f1, f2, f3⟩ := find_nz hc hok.l (show v < W by omega)
   obtain ⟨_, i1, i2, i3⟩ := inv_ok hp f1 f2
   have hsc := spec_scale_ok hp hW f3 (b := invP p ((s.2.2.getD (s.2.2.findIdx (nzB v)) []).getD v 0)) ⟨by omega, i3⟩
   have hrow := scale_ok hp f3 (b := invP p ((s.2.2.getD (s.2.2.findIdx (nzB v)) []).getD v 0)) ⟨by omega, i3⟩
   have hS : elimS p s v = (s.1.map (lessR p (scaleR p (invP p ((s.2.2.getD (s.2.2.findIdx (nzB v)) []).getD v 0)) (s.2.2.getD (s.2.2.findIdx (nzB v)) [])) v) ++ [scaleR p (invP p ((s.2.2.getD (s.2.2.findIdx (nzB v)) []).getD v 0)) (s.2.2.getD (s.2.2.findIdx (nzB v)) [])], s.2.1 ++ [(v : Int)], (s.2.2.eraseIdx (s.2.2.findIdx (nzB v))).map (lessR p (scaleR p (invP p ((s.2.2.getD (s.2.2.findIdx (nzB v)) []).getD v 0)) (s.2.2.getD (s.2.2.findIdx (nzB v)) [])) v)) := by
    unfold elimS; dsimp only; rw [if_pos hc]
   rw [hS]
   generalize hK : s.2.2.findIdx (nzB v) = K at *
   generalize hI : invP p ((s.2.2.getD K []).getD v 0) = I at *
   have hvl : v < (s.2.2.getD K []).length := by rw [f3.1]; omega
   have hoth : ([] ++ ((s.2.2.take (Int.toNat (K : Int))).drop (Int.toNat 0))) ++ ((s.2.2.take (Int.toNat (s.2.2.length : Int))).drop (Int.toNat (w64 ((K : Int) + 1)))) = s.2.2.eraseIdx K := by
    rw [w64_succ (show K < 4611686018427387904 by omega), erase_take]; simp
   have hel : (s.2.2.eraseIdx K).length ≤ 100000 := by have := List.length_eraseIdx_le s.2.2 K; omega
   have h16 := spec_L16 hp hW (l := s.2.2.eraseIdx K) (fun r h => hok.l r (List.mem_of_mem_eraseIdx h)) hel hrow (show v < W by omega) (V : Int) ([], ([], [])) s
   have h16 : spec_l21Eliminate_L16 fuel (p, (V : Int), ([], ([], [])), (s.1, (s.2.1, s.2.2)), (v : Int), scaleR p I (s.2.2.getD K []), s.2.2.eraseIdx K, 0) = _ := h16
   have h20 := spec_L20 hp hW (l := s.1) hok.t (by omega) hrow (show v < W by omega) (V : Int) ([], ([], [])) s.2.1 s.2.2 ((s.2.2.eraseIdx K).map (lessR p (scaleR p I (s.2.2.getD K [])) v))
   have h20 : spec_l21Eliminate_L20 fuel (p, (V : Int), ([], ([], [])), (s.1, (s.2.1, s.2.2)), (v : Int), scaleR p I (s.2.2.getD K []), (s.2.2.eraseIdx K).map (lessR p (scaleR p I (s.2.2.getD K [])) v), 0) = _ := h20
   rw [if_neg (by simp; omega)]
   simp only [inb_nat, hc, gd_D, hvl, if_true, i1, hsc, Option.bind_some, hoth, h16, h20, w64_succ (show v < 4611686018427387904 by omega)]
   rw [if_pos (by omega), if_pos (by simp; unfold lim; omega), if_pos (by rw [w64_succ (show K < 4611686018427387904 by omega)]; omega), if_pos (by rw [w64_succ (show K < 4611686018427387904 by omega)]; simp; unfold lim; omega), if_pos (by simp; unfold lim; omega), if_pos (by simp; unfold lim; omega)]
  ·have hS : elimS p s v = s := by unfold elimS; dsimp only; rw [if_neg hc]
   have hle := List.findIdx_le_length (xs := s.2.2) (p := nzB v)
   rw [hS, if_pos (by simp; omega)]
   simp only [w64_succ (show v < 4611686018427387904 by omega)]
 ·simp only [spec_l21Eliminate_L7]
  rw [if_neg (by simp)]
end
end T
open Go Go.Va
namespace T
def barr (V : Nat) (b : List Int) : List Int := (List.range V).map (posL b)
section
variable {p : Int} {W N V : Nat}
theorem posL_snoc {b : List Int} {x : Int} {u : Nat} : posL (b ++ [x]) u = if (u : Int) ∈ b then posL b u else if x = (u : Int) then (b.length : Int) else -1 := by
 unfold posL
 rw [List.findIdx?_append]
 by_cases h : (u : Int) ∈ b
 ·rw [if_pos h]
  have h1 : (b.findIdx? fun y => y == (u : Int)).isSome = true := by
   rw [List.findIdx?_isSome, List.any_eq_true]
   exact ⟨_, h, by simp⟩
  obtain ⟨i, hi⟩ := Option.isSome_iff_exists.1 h1
  rw [hi]; rfl
 ·rw [if_neg h]
  have h1 : (b.findIdx? fun y => y == (u : Int)) = none := by
   rw [List.findIdx?_eq_none_iff]
   intro y hy
   simp only [beq_eq_false_iff_ne]
   intro e; exact h (e ▸ hy)
  rw [h1]
  by_cases hx : x = (u : Int)
  ·rw [if_pos hx, hx]; simp [List.findIdx?_cons]
  ·rw [if_neg hx]
   have : (x == (u : Int)) = false := by simpa using hx
   simp [List.findIdx?_cons, this]
theorem barr_len {b : List Int} : (barr V b).length = V := by simp [barr]
theorem barr_get {b : List Int} {u : Nat} (h : u < V) : (barr V b).getD u 0 = posL b u := by rw [getD_of (by rw [barr_len]; exact h)]; simp [barr]
theorem posL_none {b : List Int} {u : Nat} (h : (u : Int) ∉ b) : posL b u = -1 := by
 unfold posL
 have h1 : (b.findIdx? fun y => y == (u : Int)) = none := by
  rw [List.findIdx?_eq_none_iff]
  intro y hy
  simp only [beq_eq_false_iff_ne]
  intro e; exact h (e ▸ hy)
 rw [h1]
theorem posL_at {b : List Int} {u : Nat} (h : (u : Int) ∈ b) : ∃ i, ∃ hi : i < b.length, posL b u = (i : Int) ∧ b[i] = (u : Int) := by
 unfold posL
 have h1 : (b.findIdx? fun y => y == (u : Int)).isSome = true := by
  rw [List.findIdx?_isSome, List.any_eq_true]
  exact ⟨_, h, by simp⟩
 obtain ⟨i, hi⟩ := Option.isSome_iff_exists.1 h1
 rw [hi]
 obtain ⟨g1, g2, _⟩ := List.findIdx?_eq_some_iff_getElem.1 hi
 exact ⟨i, g1, rfl, by simpa using g2⟩
theorem barr_set {b : List Int} {v : Nat} (hv : v < V) (hb : (v : Int) ∉ b) : (barr V b).set v (b.length : Int) = barr V (b ++ [(v : Int)]) := by
 unfold barr
 apply List.ext_getElem
 ·simp
 ·intro u h1 h2
  rw [List.getElem_set]
  simp only [List.getElem_map, List.getElem_range, posL_snoc]
  by_cases e : v = u
  ·subst e; rw [if_pos rfl, if_neg hb, if_pos rfl]
  ·rw [if_neg e]
   by_cases hu : (u : Int) ∈ b
   ·rw [if_pos hu]
   ·rw [if_neg hu, if_neg (by omega), posL_none hu]
theorem cloneRows_ok {rows : List (List Int)} (hN : rows.length ≤ 100000) (hr : ∀ r ∈ rows, r.length ≤ 100000) : impl_cloneRows rows = some rows := by
 unfold impl_cloneRows
 have := forS rows.length (fun f o i => impl_cloneRows_L3 f (o, rows, (rows.length : Int), i)) (fun k => rows.take k) (r := some rows) (fun f k hk => by
  have hl := hr _ (List.getElem_mem hk)
  have hcl : impl_clone rows[k] = some rows[k] := by
   unfold impl_clone
   rw [if_pos (by simp; unfold lim; omega)]; simp
  simp only [impl_cloneRows_L3, inb_nat, hk, gd_nat hk, hcl, Option.bind_some, List.take_succ_eq_append_getElem hk, if_true, w64_succ (show k < 4611686018427387904 by omega)]
  rw [if_pos (by simp; omega), if_pos (by simp; unfold lim; omega)]) (fun f => by
  simp only [impl_cloneRows_L3, List.take_length]
  rw [if_neg (by simp)]) (n := fuel) (by unfold fuel; omega)
 have this : impl_cloneRows_L3 fuel ([], rows, (rows.length : Int), 0) = _ := this
 rw [this]; rfl
theorem impl_L6 {t l : List (List Int)} {v : Nat} (hl : ∀ r ∈ l, okRow p W r) (hv : v < W) (hN : t.length + l.length ≤ 100000) (a b c : Int) (bd : List Int) :
    impl_eliminate_L6 fuel (p, (V : Int), (a, (b, (t ++ l, (c, bd)))), (v : Int), (t.length : Int)) = some (p, (V : Int), (a, (b, (t ++ l, (c, bd)))), (v : Int), ((t.length + l.findIdx (nzB v) : Nat) : Int)) := by
  have hlen : (t ++ l).length = t.length + l.length := List.length_append
  have key := fun P => seekX (l := l) v (fun f i => impl_eliminate_L6 f (p, (V : Int), (a, (b, (t ++ l, (c, bd)))), (v : Int), (t.length : Int) + i)) (fun k => (p, (V : Int), (a, (b, (t ++ l, (c, bd)))), (v : Int), ((t.length + k : Nat) : Int))) (fun f k hk => ?_) (fun f => ?_) l.length 0 fuel (by omega) P
  · have := key (by unfold fuel; omega)
    rw [List.drop_zero, Nat.zero_add] at this
    have e : ((t.length : Nat) : Int) + ((0 : Nat) : Int) = (t.length : Int) := by omega
    rw [e] at this
    exact this
  · have hr := hl _ (List.getElem_mem hk)
    have hkk : t.length + k < (t ++ l).length := by omega
    have hg : (t ++ l).getD (t.length + k) [] = l[k] := by rw [getD_of hkk, List.getElem_append_right (by omega)]; simp
    have hvl : v < l[k].length := by rw [hr.1]; exact hv
    have e : (t.length : Int) + (k : Int) = ((t.length + k : Nat) : Int) := by push_cast; rfl
    have e2 : (t.length : Int) + ((k + 1 : Nat) : Int) = ((t.length + k + 1 : Nat) : Int) := by push_cast; omega
    simp only [impl_eliminate_L6, e, e2, inb_nat, hkk, gd_D, hg, hvl, if_true, w64_succ (show t.length + k < 4611686018427387904 by omega)]
    rw [if_pos (decide_eq_true (Int.ofNat_lt.2 hkk))]
    unfold nzB
    by_cases hz : l[k].getD v 0 = 0
    · rw [if_pos (by simpa using hz), if_neg (by simpa using hz)]
    · rw [if_neg (by simpa using hz), if_pos (by simpa using hz)]
  · have e : (t.length : Int) + (l.length : Int) = ((t.length + l.length : Nat) : Int) := by push_cast; rfl
    simp only [impl_eliminate_L6, hlen, e]
    rw [if_neg (by simp)]
theorem impl_L14 (hp : pr4 p) (hW : W ≤ 1000) {R : List (List Int)} {T : Nat} (hT : T < R.length) (hr : okRow p W (R.getD T [])) {f0 : Int} (hf : 0 ≤ f0 ∧ f0 < p) (a b c : Int) (bd : List Int) (v : Int) :
    impl_eliminate_L14 fuel ((T : Int), p, (V : Int), (a, (b, (R, (c, bd)))), v, f0, ((R.getD T []).length : Int), 0) = some ((T : Int), p, (V : Int), (a, (b, (R.set T (scaleR p f0 (R.getD T [])), (c, bd)))), v) := by
  have hp0 : p ≠ 0 := by unfold pr4 at hp; omega
  generalize hq : R.getD T [] = r at hr
  have hrl := hr.1
  have := forS r.length (fun f (o : List (List Int)) i => impl_eliminate_L14 f ((T : Int), p, (V : Int), (a, (b, (o, (c, bd)))), v, f0, (r.length : Int), i)) (fun k => R.set T (mix (fun i => Int.tmod (r.getD i 0 * f0) p) (fun i => r.getD i 0) r.length k))
    (r := some ((T : Int), p, (V : Int), (a, (b, (R.set T (scaleR p f0 r), (c, bd)))), v)) (fun f k hk => ?_) (fun f => ?_) (n := fuel) (by unfold fuel; omega)
  · have e : R.set T (mix (fun i => Int.tmod (r.getD i 0 * f0) p) (fun i => r.getD i 0) r.length 0) = R := by
      rw [mix_zero rfl, ← hq, getD_of hT, List.set_getElem_self]
    rw [e] at this
    exact this
  · have hTl : T < (R.set T (mix (fun i => Int.tmod (r.getD i 0 * f0) p) (fun i => r.getD i 0) r.length k)).length := by simpa using hT
    have hg : gd (R.set T (mix (fun i => Int.tmod (r.getD i 0 * f0) p) (fun i => r.getD i 0) r.length k)) (T : Int) [] = mix (fun i => Int.tmod (r.getD i 0 * f0) p) (fun i => r.getD i 0) r.length k := by
      rw [gd_D, getD_of hTl]; simp
    have hkl : k < (mix (fun i => Int.tmod (r.getD i 0 * f0) p) (fun i => r.getD i 0) r.length k).length := by rw [mix_len]; exact hk
    have hgk : (mix (fun i => Int.tmod (r.getD i 0 * f0) p) (fun i => r.getD i 0) r.length k).getD k 0 = r.getD k 0 := by rw [mix_get hk, if_neg (by omega)]
    have hst := mix_set (nw := fun i => Int.tmod (r.getD i 0 * f0) p) (old := fun i => r.getD i 0) hk
    have h1 := ok_get hr (i := k) (by omega)
    have h4 := prod_le (a := r.getD k 0) (b := f0) (by omega) (by unfold pr4 at hp; omega) (by omega) (by unfold pr4 at hp; omega)
    simp only [impl_eliminate_L14, hg, inb_nat, hkl, gd_D, hgk, w64_small (x := r.getD k 0 * f0) (by omega) (by omega), stt_nat, List.set_set, hst, if_true, w64_succ (show k < 4611686018427387904 by omega)]
    rw [if_pos (by simp; omega), if_pos hp0]
  · simp only [impl_eliminate_L14, mix_full]
    rw [if_neg (by simp)]; rfl
theorem impl_L24 (hp : pr4 p) (hW : W ≤ 1000) {R : List (List Int)} {T K : Nat} (hT : T < R.length) (hK : K < R.length) (hne : K ≠ T) (hrT : okRow p W (R.getD T [])) (hrK : okRow p W (R.getD K [])) {v : Nat} (hv : v < W) (a b c : Int) (bd : List Int) (t130 t131 : Int) :
    impl_eliminate_L24 fuel ((T : Int), (K : Int), (), p, (V : Int), (a, (b, (R, (c, bd)))), (v : Int), (R.getD K []).getD v 0, t130, t131, ((R.getD K []).length : Int), 0) = some ((T : Int), (), p, (V : Int), (a, (b, (R.set K (lessR p (R.getD T []) v (R.getD K [])), (c, bd)))), (v : Int), t130, t131) := by
  have hp0 : p ≠ 0 := by unfold pr4 at hp; omega
  generalize hq : R.getD K [] = r at hrK
  generalize hq2 : R.getD T [] = row at hrT
  have hrl := hrK.1
  have := forS r.length (fun f (o : List (List Int)) i => impl_eliminate_L24 f ((T : Int), (K : Int), (), p, (V : Int), (a, (b, (o, (c, bd)))), (v : Int), r.getD v 0, t130, t131, (r.length : Int), i)) (fun k => R.set K (mix (fun i => Int.tmod (r.getD i 0 + (p - r.getD v 0) * row.getD i 0) p) (fun i => r.getD i 0) r.length k))
    (r := some ((T : Int), (), p, (V : Int), (a, (b, (R.set K (lessR p row v r), (c, bd)))), (v : Int), t130, t131)) (fun f k hk => ?_) (fun f => ?_) (n := fuel) (by unfold fuel; omega)
  · have e : R.set K (mix (fun i => Int.tmod (r.getD i 0 + (p - r.getD v 0) * row.getD i 0) p) (fun i => r.getD i 0) r.length 0) = R := by
      rw [mix_zero rfl, ← hq, getD_of hK, List.set_getElem_self]
    rw [e] at this
    exact this
  · have hKl : K < (R.set K (mix (fun i => Int.tmod (r.getD i 0 + (p - r.getD v 0) * row.getD i 0) p) (fun i => r.getD i 0) r.length k)).length := by simpa using hK
    have hTl : T < (R.set K (mix (fun i => Int.tmod (r.getD i 0 + (p - r.getD v 0) * row.getD i 0) p) (fun i => r.getD i 0) r.length k)).length := by simpa using hT
    have hg : gd (R.set K (mix (fun i => Int.tmod (r.getD i 0 + (p - r.getD v 0) * row.getD i 0) p) (fun i => r.getD i 0) r.length k)) (K : Int) [] = mix (fun i => Int.tmod (r.getD i 0 + (p - r.getD v 0) * row.getD i 0) p) (fun i => r.getD i 0) r.length k := by
      rw [gd_D, getD_of hKl]; simp
    have hg2 : gd (R.set K (mix (fun i => Int.tmod (r.getD i 0 + (p - r.getD v 0) * row.getD i 0) p) (fun i => r.getD i 0) r.length k)) (T : Int) [] = row := by
      have hRT : R[T] = row := by rw [getD_of hT] at hq2; exact hq2
      rw [gd_D, getD_of hTl, List.getElem_set_ne (by omega)]; exact hRT
    have hkl : k < (mix (fun i => Int.tmod (r.getD i 0 + (p - r.getD v 0) * row.getD i 0) p) (fun i => r.getD i 0) r.length k).length := by rw [mix_len]; exact hk
    have hkr : k < row.length := by rw [hrT.1]; omega
    have hgk : (mix (fun i => Int.tmod (r.getD i 0 + (p - r.getD v 0) * row.getD i 0) p) (fun i => r.getD i 0) r.length k).getD k 0 = r.getD k 0 := by rw [mix_get hk, if_neg (by omega)]
    have hst := mix_set (nw := fun i => Int.tmod (r.getD i 0 + (p - r.getD v 0) * row.getD i 0) p) (old := fun i => r.getD i 0) hk
    simp only [impl_eliminate_L24, hg, hg2, inb_nat, hkl, hkr, gd_D, hgk, less_w hp hrK hrT hv (show k < W by omega), stt_nat, List.set_set, hst, if_true, w64_succ (show k < 4611686018427387904 by omega)]
    rw [if_pos (by simp; omega), if_pos hp0]
  · simp only [impl_eliminate_L24, mix_full]
    rw [if_neg (by simp)]; rfl
def othR (p : Int) (R : List (List Int)) (T v k : Nat) : List Int := if k = T then R.getD k [] else lessR p (R.getD T []) v (R.getD k [])
theorem impl_L19 (hp : pr4 p) (hW : W ≤ 1000) {R : List (List Int)} {T : Nat} (hT : T < R.length) (hR : ∀ k, k < R.length → okRow p W (R.getD k [])) (hN : R.length ≤ 100000) {v : Nat} (hv : v < W) (a b : Int) (bd : List Int) :
    impl_eliminate_L19 fuel ((T : Int), (), p, (V : Int), (a, (b, (R, ((T : Int), bd)))), (v : Int), (R.length : Int), 0) = some (p, (V : Int), (a, (b, ((List.range R.length).map (othR p R T v), ((T : Int), bd)))), (v : Int)) := by
  have := forS R.length (fun f (o : List (List Int)) i => impl_eliminate_L19 f ((T : Int), (), p, (V : Int), (a, (b, (o, ((T : Int), bd)))), (v : Int), (R.length : Int), i)) (fun k => mix (othR p R T v) (fun k => R.getD k []) R.length k)
    (r := some (p, (V : Int), (a, (b, ((List.range R.length).map (othR p R T v), ((T : Int), bd)))), (v : Int))) (fun f k hk => ?_) (fun f => ?_) (n := fuel) (by unfold fuel; omega)
  · rw [mix_zero rfl] at this
    exact this
  · generalize hM : mix (othR p R T v) (fun k => R.getD k []) R.length k = M
    have hMl : M.length = R.length := by rw [← hM]; exact mix_len
    have hMk : M.getD k [] = R.getD k [] := by rw [← hM, mix_get hk, if_neg (by omega)]
    have hMT : M.getD T [] = R.getD T [] := by
      rw [← hM, mix_get hT]
      split
      · unfold othR; rw [if_pos rfl]
      · rfl
    have hin : k < M.length := by omega
    have hrk := hR k hk
    have hvl : v < (R.getD k []).length := by rw [hrk.1]; exact hv
    have hnx : k ≠ T → M.set k (lessR p (R.getD T []) v (R.getD k [])) = mix (othR p R T v) (fun k => R.getD k []) R.length (k + 1) := fun hne => by
      have := mix_set (nw := othR p R T v) (old := fun k => R.getD k []) hk
      rw [← this, hM]
      unfold othR; rw [if_neg hne]
    have hsame : othR p R T v k = R.getD k [] → mix (othR p R T v) (fun k => R.getD k []) R.length (k + 1) = M := fun h => by rw [mix_same hk h, hM]
    simp only [impl_eliminate_L19, inb_nat, hin, gd_D, hMk, hvl, if_true, w64_succ (show k < 4611686018427387904 by omega)]
    rw [if_pos (by simp; omega)]
    by_cases hkT : k = T
    · rw [if_neg (by simp [hkT]), hsame (by unfold othR; rw [if_pos hkT])]
    · rw [if_pos (by simp; omega)]
      by_cases hz : (R.getD k []).getD v 0 = 0
      · rw [if_neg (by simpa using hz), hsame (by unfold othR; rw [if_neg hkT, less_zero hp hrk (hR T hT) hz])]
      · rw [if_pos (by simpa using hz)]
        have h24 := impl_L24 (V := V) hp hW (R := M) (T := T) (K := k) (by omega) hin hkT (by rw [hMT]; exact hR T hT) (by rw [hMk]; exact hrk) hv a b (T : Int) bd (R.length : Int) (k : Int)
        rw [hMk, hMT] at h24
        simp only [h24, Option.bind_some, hnx hkT, w64_succ (show k < 4611686018427387904 by omega)]
  · simp only [impl_eliminate_L19, mix_full]
    rw [if_neg (by simp)]
theorem upL_app {t l : List (List Int)} {K : Nat} (hK : K < l.length) : upL (t ++ l) t.length (t.length + K) [] = t ++ l.getD K [] :: l.eraseIdx K := by
 unfold upL
 have e1 : (t ++ l).take t.length = t := by simp
 have e2 : (t ++ l).getD (t.length + K) [] = l.getD K [] := by
  rw [getD_of (by simp; omega), getD_of hK, List.getElem_append_right (by omega)]; simp
 have e3 : (t ++ l).drop t.length = l := by simp
 have e4 : (t ++ l).drop (t.length + K + 1) = l.drop (K + 1) := by
  rw [List.drop_append, List.drop_of_length_le (by omega), show t.length + K + 1 - t.length = K + 1 by omega]; rfl
 rw [e1, e2, e3, e4, Nat.add_sub_cancel_left, erase_take]
theorem impl_eliminate_ok (hp : pr4 p) (hVW : V ≤ W) (hW : W ≤ 1000) {rows : List (List Int)} (hr : ∀ r ∈ rows, okRow p W r) (hN : rows.length ≤ 100000) :
    impl_eliminate p (V : Int) rows = some (true, (p, ((V : Int), ((elimF p rows V).1 ++ (elimF p rows V).2.2, (((elimF p rows V).1.length : Int), barr V (elimF p rows V).2.1))))) := by
  unfold impl_eliminate
  rw [cloneRows_ok hN fun r h => by have := (hr r h).1; omega, freeI_ok (N := V) (by omega)]
  simp only [Option.bind_some]
  have h3 := forS V (fun f (s : List (List Int) × (Int × List Int)) i => impl_eliminate_L3 f (p, (V : Int), (p, ((V : Int), (s.1, (s.2.1, s.2.2)))), i)) (fun v => ((elimF p rows v).1 ++ (elimF p rows v).2.2, (((elimF p rows v).1.length : Int), barr V (elimF p rows v).2.1)))
    (r := some (p, ((V : Int), ((elimF p rows V).1 ++ (elimF p rows V).2.2, (((elimF p rows V).1.length : Int), barr V (elimF p rows V).2.1))))) (fun f v hv => ?_) (fun f => ?_) (n := fuel) (by unfold fuel; omega)
  · have e0 : barr V (elimF p rows 0).2.1 = List.replicate V (-1) := by
      apply List.ext_getElem
      · simp [barr]
      · intro i h1 h2
        have : posL ([] : List Int) i = -1 := posL_none (by simp)
        simp only [barr, elimF, List.range_zero, List.foldl_nil, List.getElem_map, List.getElem_range, this, List.getElem_replicate]
    have h3 : impl_eliminate_L3 fuel (p, (V : Int), (p, ((V : Int), (([] : List (List Int)) ++ rows, (0, barr V (elimF p rows 0).2.1)))), 0) = _ := h3
    rw [e0] at h3
    rw [List.nil_append] at h3
    rw [h3]; rfl
  · have hok := elimF_ok hp hr v (by omega)
    have hnx : elimF p rows (v + 1) = elimS p (elimF p rows v) v := by unfold elimF; rw [range_fold]
    rw [hnx]
    generalize elimF p rows v = s at hok
    have hn := hok.n
    have hbl := hok.bl
    obtain ⟨t, bo, l⟩ := s
    dsimp only at hn hbl hok ⊢
    have h6 := impl_L6 (V := V) (p := p) (W := W) (t := t) (l := l) (v := v) hok.l (show v < W by omega) (by omega) p (V : Int) (t.length : Int) (barr V bo)
    simp only [impl_eliminate_L3, h6, Option.bind_some]
    rw [if_pos (by simp; omega)]
    have hlen : (t ++ l).length = t.length + l.length := List.length_append
    by_cases hc : l.findIdx (nzB v) < l.length
    · obtain ⟨f1, f2, f3⟩ := find_nz hc hok.l (show v < W by omega)
      obtain ⟨i0, i1, i2, i3⟩ := inv_ok hp f1 f2
      have hrow := scale_ok hp f3 (b := invP p ((l.getD (l.findIdx (nzB v)) []).getD v 0)) ⟨by omega, i3⟩
      have hS : elimS p (t, bo, l) v = (t.map (lessR p (scaleR p (invP p ((l.getD (l.findIdx (nzB v)) []).getD v 0)) (l.getD (l.findIdx (nzB v)) [])) v) ++ [scaleR p (invP p ((l.getD (l.findIdx (nzB v)) []).getD v 0)) (l.getD (l.findIdx (nzB v)) [])], bo ++ [(v : Int)], (l.eraseIdx (l.findIdx (nzB v))).map (lessR p (scaleR p (invP p ((l.getD (l.findIdx (nzB v)) []).getD v 0)) (l.getD (l.findIdx (nzB v)) [])) v)) := by
        unfold elimS; dsimp only; rw [if_pos hc]
      rw [hS]
      generalize hK : l.findIdx (nzB v) = K at *
      generalize hx : l.getD K [] = x at *
      generalize hI : invP p (x.getD v 0) = I at *
      have hvx : v < x.length := by rw [f3.1]; omega
      have hup : upL (t ++ l) (Int.toNat (t.length : Int)) (Int.toNat ((t.length + K : Nat) : Int)) [] = t ++ x :: l.eraseIdx K := by
        rw [Int.toNat_natCast, Int.toNat_natCast, upL_app hc, hx]
      have hgx : gd (t ++ l) ((t.length + K : Nat) : Int) [] = x := by
        rw [gd_D, getD_of (by omega), List.getElem_append_right (by omega), ← hx, getD_of hc]; simp
      have hTl : t.length < (t ++ x :: l.eraseIdx K).length := by simp
      have hsx : stt (t ++ x :: l.eraseIdx K) (t.length : Int) x = t ++ x :: l.eraseIdx K := by
        rw [stt_nat]; simp
      have hgT : gd (t ++ x :: l.eraseIdx K) (t.length : Int) [] = x := by rw [gd_D, getD_of hTl]; simp
      have hgTD : (t ++ x :: l.eraseIdx K).getD t.length [] = x := hgT
      have w1 : w64 ((t.length : Int) + 1) = ((t.length + 1 : Nat) : Int) := w64_succ (by omega)
      have w2 : w64 (((t.length + K : Nat) : Int) + 1) = ((t.length + K + 1 : Nat) : Int) := w64_succ (by omega)
      have hR0l : (t ++ x :: l.eraseIdx K).length = rows.length := by
        have h9 : (l.eraseIdx K).length = l.length - 1 := List.length_eraseIdx_of_lt hc
        simp only [List.length_append, List.length_cons]; omega
      have h14 := impl_L14 (V := V) hp hW (R := t ++ x :: l.eraseIdx K) (T := t.length) hTl (by rw [hgTD]; exact f3) (f0 := I) ⟨by omega, i3⟩ p (V : Int) (t.length : Int) (barr V bo) (v : Int)
      rw [hgTD] at h14
      have hset : (t ++ x :: l.eraseIdx K).set t.length (scaleR p I x) = t ++ scaleR p I x :: l.eraseIdx K := by simp
      rw [hset] at h14
      have hR1 : ∀ k, k < (t ++ scaleR p I x :: l.eraseIdx K).length → okRow p W ((t ++ scaleR p I x :: l.eraseIdx K).getD k []) := fun k hk => by
        have hm : (t ++ scaleR p I x :: l.eraseIdx K).getD k [] ∈ t ++ scaleR p I x :: l.eraseIdx K := by rw [getD_of hk]; exact List.getElem_mem hk
        rcases List.mem_append.1 hm with h | h
        · exact hok.t _ h
        · rcases List.mem_cons.1 h with h | h
          · rw [h]; exact hrow
          · exact hok.l _ (List.mem_of_mem_eraseIdx h)
      have hR1l : (t ++ scaleR p I x :: l.eraseIdx K).length = rows.length := by rw [← hR0l]; simp
      have h19 := impl_L19 (V := V) hp hW (R := t ++ scaleR p I x :: l.eraseIdx K) (T := t.length) (by simp) hR1 (by omega) (show v < W by omega) p (V : Int) (barr V bo)
      have hfin : (List.range (t ++ scaleR p I x :: l.eraseIdx K).length).map (othR p (t ++ scaleR p I x :: l.eraseIdx K) t.length v) = (t.map (lessR p (scaleR p I x) v) ++ [scaleR p I x]) ++ (l.eraseIdx K).map (lessR p (scaleR p I x) v) := by
        have hgt : (t ++ scaleR p I x :: l.eraseIdx K).getD t.length [] = scaleR p I x := by rw [getD_of (by simp)]; simp
        rw [List.append_assoc, List.singleton_append]
        apply List.ext_getElem
        · simp
        · intro k h1 h2
          simp only [List.getElem_map, List.getElem_range]
          unfold othR
          rw [hgt]
          have hk : k < (t ++ scaleR p I x :: l.eraseIdx K).length := by simpa using h1
          by_cases c1 : k < t.length
          · rw [if_neg (by omega), getD_of hk, List.getElem_append_left c1, List.getElem_append_left (by simpa using c1), List.getElem_map]
          · by_cases c2 : k = t.length
            · subst c2
              rw [if_pos rfl, hgt, List.getElem_append_right (by simp)]; simp
            · rw [if_neg c2, getD_of hk, List.getElem_append_right (by omega), List.getElem_append_right (by simp; omega)]
              simp only [List.length_map]
              rw [List.getElem_cons, dif_neg (by omega), List.getElem_cons, dif_neg (by omega), List.getElem_map]
      rw [hfin] at h19
      have hvb : v < (barr V bo).length := by rw [barr_len]; exact hv
      have hnb : (v : Int) ∉ bo := fun h => by have := hok.bv _ h; omega
      have hbs : (barr V bo).set v (t.length : Int) = barr V (bo ++ [(v : Int)]) := by
        have := barr_set hv hnb
        rw [hbl] at this
        exact this
      rw [if_neg (by rw [hlen]; simp; omega), if_pos (by rw [inb_nat]; omega)]
      simp only [hup, hgx, hsx, hgT, inb_nat, hTl, hvx, i0, Option.bind_some, h14, h19, hvb, stt_nat, hbs, if_true, w1, w2, w64_succ (show v < 4611686018427387904 by omega)]
      rw [if_pos (by rw [hlen]; omega), if_pos (by rw [hlen]; omega)]
      have hgv : gd x (v : Int) 0 = x.getD v 0 := gd_D
      simp only [hgv, i0, Option.bind_some, h14]
      rw [if_pos ⟨by omega, by omega, trivial⟩]
      rw [h19]
      simp only [Option.bind_some, inb_nat, hvb, stt_nat, hbs, if_true, w1, w64_succ (show v < 4611686018427387904 by omega)]
      rw [show (List.map (lessR p (scaleR p I x) v) t ++ [scaleR p I x]).length = t.length + 1 by simp]
    · have hS : elimS p (t, bo, l) v = (t, bo, l) := by unfold elimS; dsimp only; rw [if_neg hc]
      have hle := List.findIdx_le_length (xs := l) (p := nzB v)
      rw [hS, if_pos (by rw [hlen]; simp; omega)]
      simp only [w64_succ (show v < 4611686018427387904 by omega)]
  · simp only [impl_eliminate_L3]
    rw [if_neg (by simp)]
end
end T
open Go Go.Va
namespace T
def freeL (N : Nat) (b : List Int) : List Int := ((List.range N).filter fun v : Nat => !decide ((v : Int) ∈ b)).map fun v : Nat => (v : Int)
theorem freeL_succ {N : Nat} {b : List Int} : freeL (N + 1) b = freeL N b ++ (if (N : Int) ∈ b then [] else [(N : Int)]) := by
 unfold freeL
 rw [List.range_succ, List.filter_append, List.map_append]
 congr 1
 by_cases h : (N : Int) ∈ b <;> simp [h]
theorem freeL_mem {N : Nat} {b : List Int} {x : Int} (h : x ∈ freeL N b) : ∃ u : Nat, u < N ∧ x = (u : Int) := by
 unfold freeL at h
 obtain ⟨u, hu, rfl⟩ := List.mem_map.1 h
 exact ⟨u, List.mem_range.1 (List.mem_filter.1 hu).1, rfl⟩
theorem freeL_le {N : Nat} {b : List Int} : (freeL N b).length ≤ N := by
 unfold freeL
 rw [List.length_map]
 have := List.length_filter_le (fun v : Nat => !decide ((v : Int) ∈ b)) (List.range N)
 rw [List.length_range] at this
 exact this
theorem freeL_snoc {N : Nat} {b : List Int} {x : Int} (h : (N : Int) ≤ x) : freeL N (b ++ [x]) = freeL N b := by
 unfold freeL
 congr 1
 refine List.filter_congr fun u hu => ?_
 have := List.mem_range.1 hu
 have e : ((u : Int) ∈ b ++ [x]) ↔ (u : Int) ∈ b := by
  rw [List.mem_append, List.mem_singleton]
  exact ⟨fun h => h.resolve_right (by omega), Or.inl⟩
 simp only [e]
section
variable {p : Int} {W N V : Nat}
theorem free_len (hp : pr4 p) {rows : List (List Int)} (hr : ∀ r ∈ rows, okRow p W r) : ∀ v, v ≤ W → (freeL v (elimF p rows v).2.1).length + (elimF p rows v).2.1.length = v := by
 intro v
 induction v with
 | zero => intro _; simp [freeL, elimF]
 | succ v ih =>
  intro hv
  have h1 := ih (by omega)
  have hok := elimF_ok hp hr v (by omega)
  have hnx : elimF p rows (v + 1) = elimS p (elimF p rows v) v := by unfold elimF; rw [range_fold]
  rw [hnx]
  generalize elimF p rows v = s at hok h1
  unfold elimS
  dsimp only
  split
  ·rw [freeL_succ, if_pos (by simp), freeL_snoc (by omega)]
   simp only [List.append_nil, List.length_append, List.length_singleton]
   omega
  ·have : (v : Int) ∉ s.2.1 := fun h => by have := hok.bv _ h; omega
   rw [freeL_succ, if_neg this]
   simp only [List.length_append, List.length_singleton]
   omega
theorem posL_uniq {b : List Int} (hb : b.Nodup) {i : Nat} (hi : i < b.length) {u : Nat} (h : b[i] = (u : Int)) : posL b u = (i : Int) := by
 obtain ⟨j, hj, h1, h2⟩ := posL_at (b := b) (u := u) (h ▸ List.getElem_mem hi)
 rw [h1]
 rcases Nat.lt_trichotomy i j with h3 | h3 | h3
 ·exact absurd (h.trans h2.symm) (List.pairwise_iff_getElem.1 hb i j hi hj h3)
 ·rw [h3]
 ·exact absurd (h2.trans h.symm) (List.pairwise_iff_getElem.1 hb j i hj hi h3)
theorem posL_neg {b : List Int} {u : Nat} : posL b u < 0 ↔ (u : Int) ∉ b := by
 by_cases h : (u : Int) ∈ b
 ·obtain ⟨i, hi, h1, _⟩ := posL_at h
  rw [h1]; simp [h]
 ·rw [posL_none h]; simp [h]
def keptE (p : Int) (V : Nat) (s : ES) : Bool × Int × Int × List (List Int) × Int × List Int := (true, (p, ((V : Int), (s.1 ++ s.2.2, ((s.1.length : Int), barr V s.2.1)))))
def failB (V : Nat) (s : ES) : Bool := s.2.2.any (nzB V)
theorem fails_ok {s : ES} (hs : ESok p W N V s) (hV : V < W) (hN : N ≤ 100000) : impl_eliminated_fails_p (keptE p V s) = some (failB V s) := by
 obtain ⟨t, b, l⟩ := s
 have hn := hs.n
 dsimp only at hn
 unfold impl_eliminated_fails_p
 have e1 : (((t ++ l).take (Int.toNat ((t ++ l).length : Int))).drop (Int.toNat (t.length : Int))) = l := by rw [Int.toNat_natCast, Int.toNat_natCast, List.take_length]; simp
 have key := allX l (fun m i => impl_eliminated_fails_p_L2 m (keptE p V (t, b, l), l, (l.length : Int), i)) (fun r => !nzB V r) (.inr true) (.inl ()) (fun m k hk => ?_) (fun m => ?_) (n := fuel) (by unfold fuel; omega)
 ·have h1 : (keptE p V (t, b, l)).1 = true := rfl
  have h2 : (keptE p V (t, b, l)).2.2.2.1 = t ++ l := rfl
  have h3 : (keptE p V (t, b, l)).2.2.2.2.1 = (t.length : Int) := rfl
  rw [if_pos h1, if_pos h1, h2, h3, if_pos ⟨by omega, by rw [List.length_append]; omega, by omega⟩, e1, key]
  unfold failB
  have e : (l.all fun r => !nzB V r) = !(l.any (nzB V)) := by rw [List.not_any_eq_all_not]
  rw [e]
  cases l.any (nzB V) <;> simp
 ·have hr := hs.l _ (List.getElem_mem hk)
  have hvl : V < l[k].length := by rw [hr.1]; exact hV
  have h1 : (keptE p V (t, b, l)).1 = true := rfl
  have h2 : (keptE p V (t, b, l)).2.2.1 = (V : Int) := rfl
  simp only [impl_eliminated_fails_p_L2, inb_nat, hk, gd_nat hk, h1, h2, hvl, gd_D, if_true, w64_succ (show k < 4611686018427387904 by omega)]
  rw [if_pos (by simp; omega)]
  unfold nzB
  by_cases hz : l[k].getD V 0 = 0
  ·rw [if_neg (by simpa using hz), if_pos (by simpa using hz)]
  ·rw [if_pos (by simpa using hz), if_neg (by simpa using hz)]
 ·simp only [impl_eliminated_fails_p_L2]
  rw [if_neg (by simp)]
theorem empty_ok {s : ES} (hs : ESok p W N V s) (hV : V < W) (hN : N ≤ 100000) : spec_l21Empty s (V : Int) = some (failB V s) := by
 obtain ⟨t, b, l⟩ := s
 have hn := hs.n
 dsimp only at hn
 unfold spec_l21Empty
 have key := allX l (fun m i => spec_l21Empty_L2 m ((V : Int), (t, (b, l)), i)) (fun r => !nzB V r) (.inr true) (.inl ()) (fun m k hk => ?_) (fun m => ?_) (n := fuel) (by unfold fuel; omega)
 ·dsimp only
  rw [key]
  unfold failB
  have e : (l.all fun r => !nzB V r) = !(l.any (nzB V)) := by rw [List.not_any_eq_all_not]
  rw [e]
  cases l.any (nzB V) <;> simp
 ·have hr := hs.l _ (List.getElem_mem hk)
  have hvl : V < l[k].length := by rw [hr.1]; exact hV
  simp only [spec_l21Empty_L2, inb_nat, hk, gd_nat hk, hvl, gd_D, if_true, w64_succ (show k < 4611686018427387904 by omega)]
  rw [if_pos (by simp; omega)]
  unfold nzB
  by_cases hz : l[k].getD V 0 = 0
  ·rw [if_neg (by simpa using hz), if_pos (by simpa using hz)]
  ·rw [if_pos (by simpa using hz), if_neg (by simpa using hz)]
 ·simp only [spec_l21Empty_L2]
  rw [if_neg (by simp)]
theorem freeVars_ok {s : ES} (hV : V ≤ 1000) : impl_eliminated_freeVars_p (keptE p V s) = some (freeL V s.2.1) := by
 unfold impl_eliminated_freeVars_p
 have h1 : (keptE p V s).1 = true := rfl
 have h2 : (keptE p V s).2.2.2.2.2 = barr V s.2.1 := rfl
 have := forS V (fun f o i => impl_eliminated_freeVars_p_L3 f (o, barr V s.2.1, (V : Int), i)) (fun k => freeL k s.2.1) (r := some (freeL V s.2.1)) (fun f k hk => ?_) (fun f => ?_) (n := fuel) (by unfold fuel; omega)
 ·have this : impl_eliminated_freeVars_p_L3 fuel ([], barr V s.2.1, (V : Int), 0) = _ := this
  rw [if_pos h1, h2, barr_len, this]; rfl
 ·have hl : k < (barr V s.2.1).length := by rw [barr_len]; exact hk
  have hle := freeL_le (N := k) (b := s.2.1)
  simp only [impl_eliminated_freeVars_p_L3, inb_nat, hl, gd_D, barr_get hk, if_true, w64_succ (show k < 4611686018427387904 by omega), freeL_succ]
  rw [if_pos (by simp; omega)]
  by_cases hm : (k : Int) ∈ s.2.1
  ·rw [if_neg (by rw [decide_eq_true_iff, posL_neg]; exact fun h => h hm), if_pos hm, List.append_nil]
  ·rw [if_pos (by rw [decide_eq_true_iff, posL_neg]; exact hm), if_neg hm, if_pos (by simp; unfold lim; omega)]
 ·simp only [impl_eliminated_freeVars_p_L3]
  rw [if_neg (by simp)]
theorem free_ok {s : ES} (hs : ESok p W N V s) (hN : N ≤ 100000) (hV : V ≤ 1000) : spec_l21Free s (V : Int) = some (freeL V s.2.1) := by
 unfold spec_l21Free
 have hb := hs.bl
 have hn := hs.n
 have := forS V (fun f o i => spec_l21Free_L3 f ((V : Int), (s.1, (s.2.1, s.2.2)), o, i)) (fun k => freeL k s.2.1) (r := some (freeL V s.2.1)) (fun f k hk => ?_) (fun f => ?_) (n := fuel) (by unfold fuel; omega)
 ·have this : spec_l21Free_L3 fuel ((V : Int), (s.1, (s.2.1, s.2.2)), [], 0) = _ := this
  rw [this]; rfl
 ·have hle := freeL_le (N := k) (b := s.2.1)
  simp only [spec_l21Free_L3, spec_l1Has_ok (show s.2.1.length ≤ 1048576 by omega), Option.bind_some, w64_succ (show k < 4611686018427387904 by omega), freeL_succ]
  rw [if_pos (by simp; omega)]
  by_cases hm : (k : Int) ∈ s.2.1
  ·rw [if_neg (by simpa using hm), if_pos hm, List.append_nil]
  ·rw [if_pos (by simpa using hm), if_neg hm, if_pos (by simp; unfold lim; omega)]
 ·simp only [spec_l21Free_L3]
  rw [if_neg (by simp)]
def solV (V : Nat) (s : ES) (u : Nat) : Int := if posL s.2.1 u < 0 then 0 else (s.1.getD (posL s.2.1 u).toNat []).getD V 0
def solL (V : Nat) (s : ES) : List Int := (List.range V).map (solV V s)
theorem getD_repl {V k : Nat} : (List.replicate V (0 : Int)).getD k 0 = 0 := by
 rw [List.getD_eq_getElem?_getD, List.getElem?_replicate]; split <;> rfl
theorem solution_ok (hp : pr4 p) {s : ES} (hs : ESok p W N V s) (hV : V < W) (hN : N ≤ 100000) (hW : W ≤ 1000) : impl_eliminated_solution_p (keptE p V s) (List.replicate V 0) = some (solL V s) := by
 have hp0 : p ≠ 0 := by unfold pr4 at hp; omega
 have hpb : 2 ≤ p ∧ p ≤ 7 := by unfold pr4 at hp; omega
 obtain ⟨t, b, l⟩ := s
 have hn := hs.n
 have hbl := hs.bl
 dsimp only at hn hbl
 generalize hE : keptE p V (t, b, l) = E
 have h1 : E.1 = true := by rw [← hE]; rfl
 have h2 : E.2.1 = p := by rw [← hE]; rfl
 have h3 : E.2.2.1 = (V : Int) := by rw [← hE]; rfl
 have h4 : E.2.2.2.1 = t ++ l := by rw [← hE]; rfl
 have h5 : E.2.2.2.2.2 = barr V b := by rw [← hE]; rfl
 have hfr : impl_eliminated_freeVars_p E = some (freeL V b) := by rw [← hE]; exact freeVars_ok (by omega)
 generalize hF : freeL V b = F at hfr
 have hFl : F.length ≤ V := by rw [← hF]; exact freeL_le
 have hFm : ∀ k (hk : k < F.length), ∃ u : Nat, u < V ∧ F[k] = (u : Int) := fun k hk => freeL_mem (b := b) (by rw [hF]; exact List.getElem_mem hk)
 have l4 := forS F.length (fun f (_ : Unit) i => impl_eliminated_solution_p_L4 f ((), E, List.replicate V (0 : Int), List.replicate V (0 : Int), F, (F.length : Int), i)) (fun _ => ()) (r := some (E, List.replicate V (0 : Int), List.replicate V (0 : Int), F)) (fun f k hk => by
  obtain ⟨u, hu, e⟩ := hFm k hk
  have hk2 : k < (List.replicate V (0 : Int)).length := by simp; omega
  have hu2 : u < (List.replicate V (0 : Int)).length := by simp; omega
  simp only [impl_eliminated_solution_p_L4, inb_nat, hk, gd_nat hk, e, hk2, hu2, gd_D, getD_repl, stt_nat, if_true, w64_succ (show k < 4611686018427387904 by omega)]
  rw [if_pos (by simp; omega), List.set_replicate_self]) (fun f => by
  simp only [impl_eliminated_solution_p_L4]
  rw [if_neg (by simp)]) (n := fuel) (by unfold fuel; omega)
 have l14 : ∀ (out : List Int) (v i : Nat) (x : Int), i < t.length → 0 ≤ x ∧ x < p → impl_eliminated_solution_p_L14 fuel ((), E, List.replicate V (0 : Int), out, F, (v : Int), (i : Int), x, barr V b, (V : Int), (v : Int), (F.length : Int), 0) = some (E, List.replicate V (0 : Int), out, F, (v : Int), x, barr V b, (V : Int), (v : Int)) := by
  intro out v i x hi hx
  refine forS F.length (fun f (_ : Unit) j => impl_eliminated_solution_p_L14 f ((), E, List.replicate V (0 : Int), out, F, (v : Int), (i : Int), x, barr V b, (V : Int), (v : Int), (F.length : Int), j)) (fun _ => ()) (r := some (E, List.replicate V (0 : Int), out, F, (v : Int), x, barr V b, (V : Int), (v : Int))) (fun f k hk => ?_) (fun f => ?_) (n := fuel) (by unfold fuel; omega)
  ·obtain ⟨u, hu, e⟩ := hFm k hk
   have hil : i < (t ++ l).length := by rw [List.length_append]; omega
   have hrow : okRow p W ((t ++ l).getD i []) := by rw [getD_of hil, List.getElem_append_left hi]; exact hs.t _ (List.getElem_mem hi)
   have hk2 : k < (List.replicate V (0 : Int)).length := by simp; omega
   have hul : u < ((t ++ l).getD i []).length := by rw [hrow.1]; omega
   simp only [impl_eliminated_solution_p_L14, inb_nat, hk, gd_nat hk, e, h1, h2, h4, hil, hul, hk2, gd_D, getD_repl, Int.mul_zero, if_true, w64_succ (show k < 4611686018427387904 by omega)]
   rw [if_pos (by simp; omega), w64_small (x := 0) (by omega) (by omega), Int.add_zero, w64_small (x := x) (by omega) (by omega)]
  ·simp only [impl_eliminated_solution_p_L14]
   rw [if_neg (by simp)]
 have l9 := forS V (fun f (o : List Int) i => impl_eliminated_solution_p_L9 f (E, List.replicate V (0 : Int), o, F, barr V b, (V : Int), i)) (fun v => mix (solV V (t, b, l)) (fun _ => 0) V v) (r := some (solL V (t, b, l))) (fun f v hv => ?_) (fun f => ?_) (n := fuel) (by unfold fuel; omega)
 ·have e0 : mix (solV V (t, b, l)) (fun _ => 0) V 0 = List.replicate V (0 : Int) := by
   apply List.ext_getElem
   ·rw [mix_len]; simp
   ·intro i _ _; simp [mix]
  rw [e0] at l9
  have l9 : impl_eliminated_solution_p_L9 fuel (E, List.replicate V (0 : Int), List.replicate V (0 : Int), F, barr V b, (V : Int), 0) = _ := l9
  have l4 : impl_eliminated_solution_p_L4 fuel ((), E, List.replicate V (0 : Int), List.replicate V (0 : Int), F, (F.length : Int), 0) = _ := l4
  unfold impl_eliminated_solution_p
  rw [if_pos h1, h3, if_pos (by unfold lim; omega), hfr]
  simp only [Option.bind_some, Int.toNat_natCast, l4]
  rw [if_pos h1, h5, barr_len, l9]; rfl
 ·have hvl : v < (barr V b).length := by rw [barr_len]; exact hv
  simp only [impl_eliminated_solution_p_L9, inb_nat, hvl, gd_D, barr_get hv, h1, h3, h4, if_true]
  rw [if_pos (by simp; omega)]
  by_cases hm : (v : Int) ∈ b
  ·obtain ⟨i, hi, g1, _⟩ := posL_at hm
   have hit : i < t.length := by omega
   have hil : i < (t ++ l).length := by rw [List.length_append]; omega
   have hg : (t ++ l).getD i [] = t.getD i [] := by rw [getD_of hil, List.getElem_append_left hit, getD_of hit]
   have hrow : okRow p W (t.getD i []) := by rw [getD_of hit]; exact hs.t _ (List.getElem_mem hit)
   have hx := ok_get hrow hV
   have hVl : V < (t.getD i []).length := by rw [hrow.1]; exact hV
   have hml : v < (mix (solV V (t, b, l)) (fun _ => 0) V v).length := by rw [mix_len]; exact hv
   have hsv : solV V (t, b, l) v = (t.getD i []).getD V 0 := by
    unfold solV; dsimp only; rw [g1, if_neg (by omega), Int.toNat_natCast]
   have hst := mix_set (nw := solV V (t, b, l)) (old := fun _ => (0 : Int)) hv
   rw [hsv] at hst
   rw [g1, if_neg (by simp)]
   simp only [inb_nat, hil, hg, gd_D, hVl, if_true, barr_len]
   rw [l14 _ v i _ hit hx]
   simp only [Option.bind_some, h1, h2, inb_nat, hml, if_true, stt_nat, w64_succ (show v < 4611686018427387904 by omega)]
   rw [if_pos hp0, Int.tmod_eq_of_lt hx.1 hx.2, hst]
  ·rw [if_pos (by rw [decide_eq_true_iff, posL_neg]; exact hm), mix_same hv (by unfold solV; rw [if_pos (posL_neg.2 hm)]), w64_succ (show v < 4611686018427387904 by omega)]
 ·simp only [impl_eliminated_solution_p_L9, mix_full]
  rw [if_neg (by simp)]; rfl
theorem least_ok (hp : pr4 p) {s : ES} (hs : ESok p W N V s) (hV : V < W) (hN : N ≤ 100000) (hW : W ≤ 1000) : impl_eliminated_leastSolution_p (keptE p V s) = some (if failB V s then ([], false) else (solL V s, true)) := by
 unfold impl_eliminated_leastSolution_p
 rw [fails_ok hs hV hN]
 simp only [Option.bind_some]
 cases failB V s with
 | true => rfl
 | false =>
  have h1 : (keptE p V s).1 = true := rfl
  have h3 : (keptE p V s).2.2.1 = (V : Int) := rfl
  simp only [Bool.false_eq_true, if_false]
  rw [if_pos h1, h3, if_pos (by unfold lim; omega), Int.toNat_natCast, solution_ok hp hs hV hN hW]; rfl
theorem solve_ok (hp : pr4 p) (hV : V < W) (hW : W ≤ 1000) {rows : List (List Int)} (hr : ∀ r ∈ rows, okRow p W r) (hN : rows.length ≤ 100000) : spec_l21Solve p (V : Int) rows = some (if failB V (elimF p rows V) then ([], false) else (solL V (elimF p rows V), true)) := by
 unfold spec_l21Solve
 have hs := elimF_ok hp hr V (by omega)
 rw [spec_Eliminate_ok hp (by omega) hW hr hN]
 simp only [Option.bind_some]
 generalize elimF p rows V = s at hs
 have he := empty_ok hs hV hN
 have he : spec_l21Empty (s.1, (s.2.1, s.2.2)) (V : Int) = _ := he
 rw [he]
 simp only [Option.bind_some]
 cases failB V s with
 | true => rfl
 | false =>
  simp only [Bool.false_eq_true, if_false]
  rw [if_pos (by unfold lim; omega), Int.toNat_natCast]
  have hbl := hs.bl
  have hn := hs.n
  have l6 := forS s.2.1.length (fun f (o : List Int) i => spec_l21Solve_L6 f ((V : Int), (s.1, (s.2.1, s.2.2)), o, i)) (fun j => (List.range V).map fun u => if 0 ≤ posL s.2.1 u ∧ posL s.2.1 u < (j : Int) then (s.1.getD (posL s.2.1 u).toNat []).getD V 0 else 0) (r := some (solL V s)) (fun f j hj => ?_) (fun f => ?_) (n := fuel) (by unfold fuel; omega)
  ·have e0 : ((List.range V).map fun u => if 0 ≤ posL s.2.1 u ∧ posL s.2.1 u < ((0 : Nat) : Int) then (s.1.getD (posL s.2.1 u).toNat []).getD V 0 else 0) = List.replicate V (0 : Int) := by
    apply List.ext_getElem
    ·simp
    ·intro i _ _
     simp only [List.getElem_map, List.getElem_range, List.getElem_replicate]
     rw [if_neg (by omega)]
   rw [e0] at l6
   have l6 : spec_l21Solve_L6 fuel ((V : Int), (s.1, (s.2.1, s.2.2)), List.replicate V (0 : Int), 0) = _ := l6
   rw [l6]; rfl
  ·have hbv := hs.bv _ (List.getElem_mem hj)
   obtain ⟨u, hu⟩ : ∃ u : Nat, s.2.1[j] = (u : Int) := ⟨s.2.1[j].toNat, by omega⟩
   have hpu := posL_uniq hs.bn hj hu
   have hj1 : j < s.1.length := by omega
   have hrow : okRow p W (s.1.getD j []) := by rw [getD_of hj1]; exact hs.t _ (List.getElem_mem hj1)
   have hVl : V < (s.1.getD j []).length := by rw [hrow.1]; exact hV
   have huV : u < V := by omega
   simp only [spec_l21Solve_L6, inb_nat, hj, hj1, gd_nat hj, hu, gd_D, hVl, if_true, stt_nat, w64_succ (show j < 4611686018427387904 by omega)]
   rw [if_pos (by simp; omega), if_pos (by simp; omega)]
   congr 1
   refine congrArg (fun o => ((V : Int), (s.1, (s.2.1, s.2.2)), o, ((j + 1 : Nat) : Int))) ?_
   apply List.ext_getElem
   ·simp
   ·intro w h1 h2
    rw [List.getElem_set]
    simp only [List.getElem_map, List.getElem_range]
    by_cases e : u = w
    ·subst e
     rw [if_pos rfl, hpu, if_pos (by omega), Int.toNat_natCast]
    ·rw [if_neg e]
     have hne : posL s.2.1 w ≠ (j : Int) := fun h => by
      have hm : (w : Int) ∈ s.2.1 := by
       by_cases hm : (w : Int) ∈ s.2.1
       ·exact hm
       ·rw [posL_none hm] at h; omega
      obtain ⟨i, hi, g1, g2⟩ := posL_at hm
      have : i = j := by omega
      subst this
      rw [hu] at g2; omega
     by_cases c : 0 ≤ posL s.2.1 w ∧ posL s.2.1 w < (j : Int)
     ·rw [if_pos c, if_pos (by omega)]
     ·rw [if_neg c, if_neg (by omega)]
  ·simp only [spec_l21Solve_L6]
   rw [if_neg (by simp)]
   unfold solL
   congr 1
   refine List.map_congr_left fun u _ => ?_
   unfold solV
   by_cases hm : (u : Int) ∈ s.2.1
   ·obtain ⟨i, hi, g1, _⟩ := posL_at hm
    rw [g1, if_pos (by omega), if_neg (by omega)]
   ·rw [posL_none hm, if_neg (by omega), if_pos (by omega)]
end
end T
open Go Go.Va
namespace T
section
variable {a : Lin}
theorem spec_l21Good_ok (h : linS a) : spec_l21Good a = some (goodB a) := by
 have := spec_IsLinear_ok h
 unfold spec_IsLinear at this
 have e : spec_l21Good (a.1, (a.2.1, a.2.2)) = spec_l21Good a := rfl
 rw [e] at this
 cases hg : spec_l21Good a with
 | none => rw [hg] at this; cases this
 | some b => rw [hg] at this; exact this
theorem lin_of (h : goodB a = true) : pr4 a.1 ∧ ∃ V : Nat, a.2.1 = (V : Int) ∧ V ≤ 8 ∧ a.2.2.length ≤ 8 ∧ ∀ r ∈ a.2.2, okRow a.1 (V + 1) r := by
 unfold goodB at h
 simp only [Bool.and_eq_true, decide_eq_true_eq, List.all_eq_true] at h
 obtain ⟨⟨⟨h1, h2⟩, h3⟩, h4⟩ := h
 refine ⟨by unfold primeB at h1; simp at h1; unfold pr4; omega, a.2.1.toNat, by omega, by omega, h3, fun r hr => ?_⟩
 obtain ⟨g1, g2⟩ := h4 r hr
 unfold belowB at g2
 exact ⟨by omega, fun x hx => by simpa using List.all_eq_true.1 g2 x hx⟩
theorem elim_kept {p : Int} {W V : Nat} (hp : pr4 p) (hV : V ≤ W) (hW : W ≤ 1000) {rows : List (List Int)} (hr : ∀ r ∈ rows, okRow p W r) (hN : rows.length ≤ 100000) : impl_eliminate p (V : Int) rows = some (keptE p V (elimF p rows V)) := impl_eliminate_ok hp hV hW hr hN
theorem CountLinear_ok (h : linS a) : ∃ R : Int × Bool, impl_CountLinear a = some R ∧ spec_CountLinear a = some R := by
 obtain ⟨p, v, rows⟩ := a
 unfold impl_CountLinear spec_CountLinear
 rw [impl_IsLinear_ok h, spec_l21Good_ok h]
 cases hg : goodB (p, v, rows) with
 | false => exact ⟨_, rfl, rfl⟩
 | true =>
  obtain ⟨hp, V, hv, hV, hN, hr⟩ := lin_of hg
  dsimp only at hp hv hN hr
  subst hv
  have hs := elimF_ok hp hr V (by omega)
  unfold impl_eliminateLinear spec_l21Of
  have e1 := elim_kept hp (show V ≤ V + 1 by omega) (by omega) hr (by omega)
  have e2 := spec_Eliminate_ok hp (show V ≤ V + 1 by omega) (by omega) hr (by omega)
  have e3 := free_len hp hr V (by omega)
  simp only [e1, e2, Option.bind_some, Bool.not_true, Bool.false_eq_true, if_false]
  generalize elimF p rows V = s at hs e3
  have e4 := fails_ok hs (by omega) (by omega)
  have e5 := empty_ok hs (by omega) (by omega)
  have e5 : spec_l21Empty (s.1, (s.2.1, s.2.2)) (V : Int) = _ := e5
  have e6 := freeVars_ok (p := p) (V := V) (s := s) (by omega)
  have hpb : 2 ≤ p ∧ p ≤ 7 := by unfold pr4 at hp; omega
  have e7 : w64 ((V : Int) - (s.2.1.length : Int)) = ((freeL V s.2.1).length : Int) := by
   rw [w64_small (by omega) (by omega)]; omega
  simp only [e4, e5, Option.bind_some]
  cases failB V s with
  | true => exact ⟨_, rfl, rfl⟩
  | false =>
   simp only [Bool.false_eq_true, if_false, e6, Option.bind_some, e7, impl_power_ok (show 0 ≤ p by omega) (show p ≤ 8 by omega) (show (freeL V s.2.1).length ≤ 20 by omega), spec_l2Pow_ok (show 0 ≤ p by omega) (show p ≤ 8 by omega) (show (freeL V s.2.1).length ≤ 20 by omega)]
   exact ⟨_, rfl, rfl⟩
end
end T
set_option linter.unusedVariables false
open Go Go.Va
namespace T
def spec_Eliminate_L6 : Nat → ((Int × Int × (List (List Int))) × (Int × (Int × (List (List Int)))) × (Unit × ((List Int) × (List (List Int)))) × (Int × (Int × (List (List Int)))) × Int) → Option ((Int × (Int × (List (List Int)))) × (Int × (Int × (List (List Int)))))
 | 0, _ => none
 | n + 1, (l, t2, w, out, i) =>
  if decide (i < (w.2.2.length : Int)) then
   if inb i w.2.2 then
    if inb l.2.1 (gd w.2.2 i []) then
     if (gd (gd w.2.2 i []) l.2.1 0) != 0 then
      if inb i w.2.2 then
       if out.2.2.length + [gd w.2.2 i []].length ≤ lim then
        spec_Eliminate_L6 n ((l.1, (l.2.1, l.2.2)), (t2.1, (t2.2.1, t2.2.2)), ((), (w.2.1, w.2.2)), (out.1, (out.2.1, out.2.2 ++ [gd w.2.2 i []])), w64 (i + 1))
       else none
      else none
     else
      spec_Eliminate_L6 n ((l.1, (l.2.1, l.2.2)), (t2.1, (t2.2.1, t2.2.2)), ((), (w.2.1, w.2.2)), (out.1, (out.2.1, out.2.2)), w64 (i + 1))
    else none
   else none
  else
   some ((t2.1, (t2.2.1, t2.2.2)), (out.1, (out.2.1, out.2.2)))
def spec_Eliminate (l : Int × Int × (List (List Int))) : Option ((Int × (Int × (List (List Int)))) × Bool) :=
 (spec_l21Good (l.1, (l.2.1, l.2.2))).bind fun r1 =>
  if !r1 then
   some ((0, (0, [])), false)
  else
   (spec_l21Of (l.1, (l.2.1, l.2.2))).bind fun r2 =>
    (spec_Eliminate_L6 fuel ((l.1, (l.2.1, l.2.2)), (0, (0, [])), ((), (r2.2.1, r2.2.2)), (l.1, (l.2.1, r2.1)), 0)).bind fun s3 =>
     some ((s3.2.1, (s3.2.2.1, s3.2.2.2)), true)
def impl_linearOf_p_L3 : Nat → ((Bool × Int × Int × (List (List Int)) × Int × (List Int)) × (Int × (Int × (List (List Int)))) × (Int × (Int × (List (List Int)))) × (List (List Int)) × Int × Int) → Option ((Int × (Int × (List (List Int)))) × (Int × (Int × (List (List Int)))))
 | 0, _ => none
 | n + 1, (e, t2, l, t33, t34, t35) =>
  if decide (t35 < t34) then
   if inb t35 t33 then
    if e.1 = true then
     if inb e.2.2.1 (gd t33 t35 []) then
      if (gd (gd t33 t35 []) e.2.2.1 0) != 0 then
       (impl_clone (gd t33 t35 [])).bind fun r2 =>
        if l.2.2.length + [r2].length ≤ lim then
         impl_linearOf_p_L3 n (e, (t2.1, (t2.2.1, t2.2.2)), (l.1, (l.2.1, l.2.2 ++ [r2])), t33, t34, w64 (t35 + 1))
        else none
      else
       impl_linearOf_p_L3 n (e, (t2.1, (t2.2.1, t2.2.2)), (l.1, (l.2.1, l.2.2)), t33, t34, w64 (t35 + 1))
     else none
    else none
   else none
  else
   some ((t2.1, (t2.2.1, t2.2.2)), (l.1, (l.2.1, l.2.2)))
def impl_linearOf_p (e : Bool × Int × Int × (List (List Int)) × Int × (List Int)) : Option ((Int × (Int × (List (List Int))))) :=
 if e.1 = true then
  if e.1 = true then
   if e.1 = true then
    if e.1 = true then
     if (0 : Int) ≤ 0 ∧ 0 ≤ e.2.2.2.2.1 ∧ e.2.2.2.2.1 ≤ (e.2.2.2.1.length : Int) then
      (impl_cloneRows ((e.2.2.2.1.take (Int.toNat e.2.2.2.2.1)).drop (Int.toNat 0))).bind fun r1 =>
       if e.1 = true then
        if e.1 = true then
         if (0 : Int) ≤ e.2.2.2.2.1 ∧ e.2.2.2.2.1 ≤ (e.2.2.2.1.length : Int) ∧ (e.2.2.2.1.length : Int) ≤ (e.2.2.2.1.length : Int) then
          (impl_linearOf_p_L3 fuel (e, (0, (0, [])), (e.2.1, (e.2.2.1, r1)), (e.2.2.2.1.take (Int.toNat (e.2.2.2.1.length : Int))).drop (Int.toNat e.2.2.2.2.1), (((e.2.2.2.1.take (Int.toNat (e.2.2.2.1.length : Int))).drop (Int.toNat e.2.2.2.2.1)).length : Int), 0)).bind fun s2 =>
           some (s2.2.1, (s2.2.2.1, s2.2.2.2))
         else none
        else none
       else none
     else none
    else none
   else none
  else none
 else none
def impl_Eliminate (l : Int × Int × (List (List Int))) : Option ((Int × (Int × (List (List Int)))) × Bool) :=
 (impl_IsLinear (l.1, (l.2.1, l.2.2))).bind fun r1 =>
  if !r1 then
   some ((0, (0, [])), false)
  else
   (impl_eliminateLinear (l.1, (l.2.1, l.2.2))).bind fun r2 =>
    (impl_linearOf_p r2).bind fun r3 =>
     some ((r3.1, (r3.2.1, r3.2.2)), true)
end T
open Go Go.Va
namespace T
section
variable {a : Lin} {p : Int} {W N V : Nat}
theorem filter_snoc {α : Type} {q : α → Bool} {l : List α} {x : α} : (l ++ [x]).filter q = l.filter q ++ (if q x then [x] else []) := by
 rw [List.filter_append]; congr 1; cases h : q x <;> simp [h]
theorem linearOf_ok {s : ES} (hs : ESok p W N V s) (hV : V < W) (hN : N ≤ 100000) (hW : W ≤ 1000) : impl_linearOf_p (keptE p V s) = some (p, ((V : Int), s.1 ++ s.2.2.filter (nzB V))) := by
 obtain ⟨t, b, l⟩ := s
 have hn := hs.n
 dsimp only at hn
 generalize hE : keptE p V (t, b, l) = E
 have h1 : E.1 = true := by rw [← hE]; rfl
 have h2 : E.2.1 = p := by rw [← hE]; rfl
 have h3 : E.2.2.1 = (V : Int) := by rw [← hE]; rfl
 have h4 : E.2.2.2.1 = t ++ l := by rw [← hE]; rfl
 have h5 : E.2.2.2.2.1 = (t.length : Int) := by rw [← hE]; rfl
 have e1 : (((t ++ l).take (Int.toNat ((t ++ l).length : Int))).drop (Int.toNat (t.length : Int))) = l := by rw [Int.toNat_natCast, Int.toNat_natCast, List.take_length]; simp
 have e2 : (((t ++ l).take (Int.toNat (t.length : Int))).drop (Int.toNat 0)) = t := by simp
 have l3 := forS l.length (fun f (o : List (List Int)) i => impl_linearOf_p_L3 f (E, (0, (0, [])), (p, ((V : Int), o)), l, (l.length : Int), i)) (fun k => t ++ (l.take k).filter (nzB V)) (r := some ((0, (0, [])), (p, ((V : Int), t ++ l.filter (nzB V))))) (fun f k hk => ?_) (fun f => ?_) (n := fuel) (by unfold fuel; omega)
 ·rw [List.take_zero, List.filter_nil, List.append_nil] at l3
  have l3 : impl_linearOf_p_L3 fuel (E, (0, (0, [])), (p, ((V : Int), t)), l, (l.length : Int), 0) = _ := l3
  unfold impl_linearOf_p
  simp only [h1, h2, h3, h4, h5, if_true, e1, e2]
  rw [if_pos ⟨by omega, by omega, by rw [List.length_append]; omega⟩, cloneRows_ok (by omega) fun r h => by have := (hs.t r h).1; omega]
  simp only [Option.bind_some]
  rw [if_pos ⟨by omega, by rw [List.length_append]; omega, by omega⟩, l3]
  rfl
 ·have hrk := hs.l _ (List.getElem_mem hk)
  have hvl : V < l[k].length := by rw [hrk.1]; exact hV
  have hcl : impl_clone l[k] = some l[k] := by
   unfold impl_clone
   rw [if_pos (by have := hrk.1; simp; unfold lim; omega)]; simp
  simp only [impl_linearOf_p_L3, inb_nat, hk, gd_nat hk, h1, h3, hvl, gd_D, hcl, Option.bind_some, if_true, List.take_succ_eq_append_getElem hk, filter_snoc, w64_succ (show k < 4611686018427387904 by omega)]
  rw [if_pos (by simp; omega)]
  have hfl := List.length_filter_le (nzB V) (l.take k)
  rw [List.length_take] at hfl
  have hnz : nzB V l[k] = (l[k].getD V 0 != 0) := rfl
  rw [hnz]
  by_cases hz : l[k].getD V 0 = 0
  ·rw [if_neg (by simpa using hz), if_neg (by simpa using hz), List.append_nil]
  ·rw [if_pos (by simpa using hz), if_pos (by simp only [List.length_append, List.length_singleton]; unfold lim; omega), if_pos (by simpa using hz), List.append_assoc]
 ·simp only [impl_linearOf_p_L3, List.take_length]
  rw [if_neg (by simp)]
theorem spec_elim_L6 {s : ES} (hs : ESok p W N V s) (hV : V < W) (hN : N ≤ 100000) (rows : List (List Int)) : spec_Eliminate_L6 fuel ((p, ((V : Int), rows)), (0, (0, [])), ((), (s.2.1, s.2.2)), (p, ((V : Int), s.1)), 0) = some ((0, (0, [])), (p, ((V : Int), s.1 ++ s.2.2.filter (nzB V)))) := by
 obtain ⟨t, b, l⟩ := s
 have hn := hs.n
 dsimp only at hn ⊢
 have l3 := forS l.length (fun f (o : List (List Int)) i => spec_Eliminate_L6 f ((p, ((V : Int), rows)), (0, (0, [])), ((), (b, l)), (p, ((V : Int), o)), i)) (fun k => t ++ (l.take k).filter (nzB V)) (r := some ((0, (0, [])), (p, ((V : Int), t ++ l.filter (nzB V))))) (fun f k hk => ?_) (fun f => ?_) (n := fuel) (by unfold fuel; omega)
 ·rw [List.take_zero, List.filter_nil, List.append_nil] at l3
  exact l3
 ·have hrk := hs.l _ (List.getElem_mem hk)
  have hvl : V < l[k].length := by rw [hrk.1]; exact hV
  simp only [spec_Eliminate_L6, inb_nat, hk, gd_nat hk, hvl, gd_D, if_true, List.take_succ_eq_append_getElem hk, filter_snoc, w64_succ (show k < 4611686018427387904 by omega)]
  rw [if_pos (by simp; omega)]
  have hfl := List.length_filter_le (nzB V) (l.take k)
  rw [List.length_take] at hfl
  have hnz : nzB V l[k] = (l[k].getD V 0 != 0) := rfl
  rw [hnz]
  by_cases hz : l[k].getD V 0 = 0
  ·rw [if_neg (by simpa using hz), if_neg (by simpa using hz), List.append_nil]
  ·rw [if_pos (by simpa using hz), if_pos (by simp only [List.length_append, List.length_singleton]; unfold lim; omega), if_pos (by simpa using hz), List.append_assoc]
 ·simp only [spec_Eliminate_L6, List.take_length]
  rw [if_neg (by simp)]
end
end T
set_option linter.unusedVariables false
open Go Go.Va
namespace T
def spec_l21Kernel_L8 : Nat → (Int × Int × ((List (List Int)) × (List Int) × (List (List Int))) × (List (List Int)) × (List Int) × Int × (List Int) × Int) → Option (Int × Int × ((List (List Int)) × (List Int) × (List (List Int))) × (List (List Int)) × (List Int) × Int × (List Int))
 | 0, _ => none
 | n + 1, (p, vars, w, out, free, i, values, k) =>
  if decide (k < (w.2.1.length : Int)) then
   if inb k w.2.1 then
    if inb k w.1 then
     if inb i free then
      if inb (gd free i 0) (gd w.1 k []) then
       if p ≠ 0 then
        if inb (gd w.2.1 k 0) values then
         spec_l21Kernel_L8 n (p, vars, (w.1, (w.2.1, w.2.2)), out, free, i, stt values (gd w.2.1 k 0) (Int.tmod (w64 (p - (gd (gd w.1 k []) (gd free i 0) 0))) p), w64 (k + 1))
        else none
       else none
      else none
     else none
    else none
   else none
  else
   some (p, vars, (w.1, (w.2.1, w.2.2)), out, free, i, values)
def spec_l21Kernel_L3 : Nat → (Int × Int × ((List (List Int)) × (List Int) × (List (List Int))) × (List (List Int)) × (List Int) × Int) → Option ((List (List Int)))
 | 0, _ => none
 | n + 1, (p, vars, w, out, free, i) =>
  if decide (i < (free.length : Int)) then
   if 0 ≤ vars ∧ vars ≤ vars ∧ vars ≤ lim then
    if inb i free then
     if inb (gd free i 0) (List.replicate (Int.toNat vars) (0 : Int)) then
      (spec_l21Kernel_L8 fuel (p, vars, (w.1, (w.2.1, w.2.2)), out, free, i, stt (List.replicate (Int.toNat vars) (0 : Int)) (gd free i 0) 1, 0)).bind fun s2 =>
       if s2.2.2.2.1.length + [s2.2.2.2.2.2.2].length ≤ lim then
        spec_l21Kernel_L3 n (s2.1, s2.2.1, (s2.2.2.1.1, (s2.2.2.1.2.1, s2.2.2.1.2.2)), s2.2.2.2.1 ++ [s2.2.2.2.2.2.2], s2.2.2.2.2.1, w64 (s2.2.2.2.2.2.1 + 1))
       else none
     else none
    else none
   else none
  else
   some out
def spec_l21Kernel (w : (List (List Int)) × (List Int) × (List (List Int))) (p : Int) (vars : Int) : Option ((List (List Int))) :=
 (spec_l21Free (w.1, (w.2.1, w.2.2)) vars).bind fun r1 =>
  (spec_l21Kernel_L3 fuel (p, vars, (w.1, (w.2.1, w.2.2)), [], r1, 0)).bind fun s2 =>
   some s2
def spec_LinearKernel (l : Int × Int × (List (List Int))) : Option ((List (List Int)) × Bool) :=
 (spec_l21Good (l.1, (l.2.1, l.2.2))).bind fun r1 =>
  if !r1 then
   some ([], false)
  else
   (spec_l21Of (l.1, (l.2.1, l.2.2))).bind fun r2 =>
    (spec_l21Kernel (r2.1, (r2.2.1, r2.2.2)) l.1 l.2.1).bind fun r3 =>
     some (r3, true)
def impl_eliminate_b_L6 : Nat → (Int × Int × (Int × (Int × ((List (List Int)) × (Int × (List Int))))) × Int × Int) → Option (Int × Int × (Int × (Int × ((List (List Int)) × (Int × (List Int))))) × Int × Int)
 | 0, _ => none
 | n + 1, (t0, t1, t7, t8, t9) =>
  if decide (t9 < (t7.2.2.1.length : Int)) then
   if inb t9 t7.2.2.1 then
    if inb t8 (gd t7.2.2.1 t9 []) then
     if (gd (gd t7.2.2.1 t9 []) t8 0) == 0 then
      impl_eliminate_b_L6 n (t0, t1, (t7.1, (t7.2.1, (t7.2.2.1, (t7.2.2.2.1, t7.2.2.2.2)))), t8, w64 (t9 + 1))
     else
      some (t0, t1, (t7.1, (t7.2.1, (t7.2.2.1, (t7.2.2.2.1, t7.2.2.2.2)))), t8, t9)
    else none
   else none
  else
   some (t0, t1, (t7.1, (t7.2.1, (t7.2.2.1, (t7.2.2.2.1, t7.2.2.2.2)))), t8, t9)
def impl_eliminate_b_L14 : Nat → (Int × Int × Int × (Int × (Int × ((List (List Int)) × (Int × (List Int))))) × Int × Int × Int × Int) → Option (Int × Int × Int × (Int × (Int × ((List (List Int)) × (Int × (List Int))))) × Int)
 | 0, _ => none
 | n + 1, (row10, t0, t1, t7, t8, t11, t110, t111) =>
  if decide (t111 < t110) then
   if inb t111 (gd t7.2.2.1 row10 []) then
    if t0 ≠ 0 then
     if inb t111 (gd t7.2.2.1 row10 []) then
      impl_eliminate_b_L14 n (row10, t0, t1, (t7.1, (t7.2.1, (stt t7.2.2.1 row10 (stt (gd t7.2.2.1 row10 []) t111 (Int.tmod (w64 ((gd (gd t7.2.2.1 row10 []) t111 0) * t11)) t0)), (t7.2.2.2.1, t7.2.2.2.2)))), t8, t11, t110, w64 (t111 + 1))
     else none
    else none
   else none
  else
   some (row10, t0, t1, (t7.1, (t7.2.1, (t7.2.2.1, (t7.2.2.2.1, t7.2.2.2.2)))), t8)
def impl_eliminate_b_L24 : Nat → (Int × Int × Unit × Int × Int × (Int × (Int × ((List (List Int)) × (Int × (List Int))))) × Int × Int × Int × Int × Int × Int) → Option (Int × Unit × Int × Int × (Int × (Int × ((List (List Int)) × (Int × (List Int))))) × Int × Int × Int)
 | 0, _ => none
 | n + 1, (row10, row14, al129, t0, t1, t7, t8, t15, t130, t131, t151, t152) =>
  if decide (t152 < t151) then
   if inb t152 (gd t7.2.2.1 row14 []) then
    if inb t152 (gd t7.2.2.1 row10 []) then
     if t0 ≠ 0 then
      if inb t152 (gd t7.2.2.1 row14 []) then
       impl_eliminate_b_L24 n (row10, row14, (), t0, t1, (t7.1, (t7.2.1, (stt t7.2.2.1 row14 (stt (gd t7.2.2.1 row14 []) t152 (Int.tmod (w64 ((gd (gd t7.2.2.1 row14 []) t152 0) + (w64 ((w64 (t0 - t15)) * (gd (gd t7.2.2.1 row10 []) t152 0))))) t0)), (t7.2.2.2.1, t7.2.2.2.2)))), t8, t15, t130, t131, t151, w64 (t152 + 1))
      else none
     else none
    else none
   else none
  else
   some (row10, (), t0, t1, (t7.1, (t7.2.1, (t7.2.2.1, (t7.2.2.2.1, t7.2.2.2.2)))), t8, t130, t131)
def impl_eliminate_b_L19 : Nat → (Int × Unit × Int × Int × (Int × (Int × ((List (List Int)) × (Int × (List Int))))) × Int × Int × Int) → Option (Int × Int × (Int × (Int × ((List (List Int)) × (Int × (List Int))))) × Int)
 | 0, _ => none
 | n + 1, (row10, al129, t0, t1, t7, t8, t130, t131) =>
  if decide (t131 < t130) then
   if inb t131 t7.2.2.1 then
    if inb t8 (gd t7.2.2.1 t131 []) then
     if t131 != t7.2.2.2.1 then
      if (gd (gd t7.2.2.1 t131 []) t8 0) != 0 then
       (impl_eliminate_b_L24 fuel (row10, t131, (), t0, t1, (t7.1, (t7.2.1, (t7.2.2.1, (t7.2.2.2.1, t7.2.2.2.2)))), t8, gd (gd t7.2.2.1 t131 []) t8 0, t130, t131, ((gd t7.2.2.1 t131 []).length : Int), 0)).bind fun s6 =>
        impl_eliminate_b_L19 n (s6.1, (), s6.2.2.1, s6.2.2.2.1, (s6.2.2.2.2.1.1, (s6.2.2.2.2.1.2.1, (s6.2.2.2.2.1.2.2.1, (s6.2.2.2.2.1.2.2.2.1, s6.2.2.2.2.1.2.2.2.2)))), s6.2.2.2.2.2.1, s6.2.2.2.2.2.2.1, w64 (s6.2.2.2.2.2.2.2 + 1))
      else
       impl_eliminate_b_L19 n (row10, (), t0, t1, (t7.1, (t7.2.1, (t7.2.2.1, (t7.2.2.2.1, t7.2.2.2.2)))), t8, t130, w64 (t131 + 1))
     else
      impl_eliminate_b_L19 n (row10, (), t0, t1, (t7.1, (t7.2.1, (t7.2.2.1, (t7.2.2.2.1, t7.2.2.2.2)))), t8, t130, w64 (t131 + 1))
    else none
   else none
  else
   some (t0, t1, (t7.1, (t7.2.1, (t7.2.2.1, (t7.2.2.2.1, t7.2.2.2.2)))), t8)
def impl_eliminate_b_L3 : Nat → (Int × Int × (Int × (Int × ((List (List Int)) × (Int × (List Int))))) × Int) → Option ((Int × (Int × ((List (List Int)) × (Int × (List Int))))))
 | 0, _ => none
 | n + 1, (t0, t1, t7, t8) =>
  if decide (t8 < t1) then
   (impl_eliminate_b_L6 fuel (t0, t1, (t7.1, (t7.2.1, (t7.2.2.1, (t7.2.2.2.1, t7.2.2.2.2)))), t8, t7.2.2.2.1)).bind fun s3 =>
    if s3.2.2.2.2 == (s3.2.2.1.2.2.1.length : Int) then
     impl_eliminate_b_L3 n (s3.1, s3.2.1, (s3.2.2.1.1, (s3.2.2.1.2.1, (s3.2.2.1.2.2.1, (s3.2.2.1.2.2.2.1, s3.2.2.1.2.2.2.2)))), w64 (s3.2.2.2.1 + 1))
    else
     if inb s3.2.2.2.2 s3.2.2.1.2.2.1 then
      if (0 : Int) ≤ (w64 (s3.2.2.1.2.2.2.1 + 1)) ∧ (w64 (s3.2.2.1.2.2.2.1 + 1)) ≤ (w64 (s3.2.2.2.2 + 1)) ∧ (w64 (s3.2.2.2.2 + 1)) ≤ (s3.2.2.1.2.2.1.length : Int) then
       if (0 : Int) ≤ s3.2.2.1.2.2.2.1 ∧ s3.2.2.1.2.2.2.1 ≤ s3.2.2.2.2 ∧ s3.2.2.2.2 ≤ (s3.2.2.1.2.2.1.length : Int) then
        if (w64 (s3.2.2.1.2.2.2.1 + 1)) = s3.2.2.1.2.2.2.1 + 1 ∧ (w64 (s3.2.2.2.2 + 1)) = s3.2.2.2.2 + 1 ∧ s3.2.2.2.2 = s3.2.2.2.2 then
         if inb s3.2.2.1.2.2.2.1 (upL s3.2.2.1.2.2.1 (Int.toNat s3.2.2.1.2.2.2.1) (Int.toNat s3.2.2.2.2) []) then
          if s3.2.2.1.2.2.2.1 = s3.2.2.1.2.2.2.1 then
           if inb s3.2.2.2.1 (gd (stt (upL s3.2.2.1.2.2.1 (Int.toNat s3.2.2.1.2.2.2.1) (Int.toNat s3.2.2.2.2) []) s3.2.2.1.2.2.2.1 (gd s3.2.2.1.2.2.1 s3.2.2.2.2 [])) s3.2.2.1.2.2.2.1 []) then
            (impl_inverseOf (gd (gd (stt (upL s3.2.2.1.2.2.1 (Int.toNat s3.2.2.1.2.2.2.1) (Int.toNat s3.2.2.2.2) []) s3.2.2.1.2.2.2.1 (gd s3.2.2.1.2.2.1 s3.2.2.2.2 [])) s3.2.2.1.2.2.2.1 []) s3.2.2.2.1 0) s3.1).bind fun r4 =>
             (impl_eliminate_b_L14 fuel (s3.2.2.1.2.2.2.1, s3.1, s3.2.1, (s3.2.2.1.1, (s3.2.2.1.2.1, (stt (upL s3.2.2.1.2.2.1 (Int.toNat s3.2.2.1.2.2.2.1) (Int.toNat s3.2.2.2.2) []) s3.2.2.1.2.2.2.1 (gd s3.2.2.1.2.2.1 s3.2.2.2.2 []), (s3.2.2.1.2.2.2.1, s3.2.2.1.2.2.2.2)))), s3.2.2.2.1, r4, ((gd (stt (upL s3.2.2.1.2.2.1 (Int.toNat s3.2.2.1.2.2.2.1) (Int.toNat s3.2.2.2.2) []) s3.2.2.1.2.2.2.1 (gd s3.2.2.1.2.2.1 s3.2.2.2.2 [])) s3.2.2.1.2.2.2.1 []).length : Int), 0)).bind fun s5 =>
              (impl_eliminate_b_L19 fuel (s5.1, (), s5.2.1, s5.2.2.1, (s5.2.2.2.1.1, (s5.2.2.2.1.2.1, (s5.2.2.2.1.2.2.1, (s5.2.2.2.1.2.2.2.1, s5.2.2.2.1.2.2.2.2)))), s5.2.2.2.2, (s5.2.2.2.1.2.2.1.length : Int), 0)).bind fun s6 =>
               if inb s6.2.2.2 s6.2.2.1.2.2.2.2 then
                impl_eliminate_b_L3 n (s6.1, s6.2.1, (s6.2.2.1.1, (s6.2.2.1.2.1, (s6.2.2.1.2.2.1, (w64 (s6.2.2.1.2.2.2.1 + 1), stt s6.2.2.1.2.2.2.2 s6.2.2.2 s6.2.2.1.2.2.2.1)))), w64 (s6.2.2.2 + 1))
               else none
           else none
          else none
         else none
        else none
       else none
      else none
     else none
  else
   some (t7.1, (t7.2.1, (t7.2.2.1, (t7.2.2.2.1, t7.2.2.2.2))))
def impl_eliminate_b (t0 : Int) (t1 : Int) (t2 : List (List Int)) : Option ((Int × (Int × ((List (List Int)) × (Int × (List Int)))))) :=
 (impl_cloneRows t2).bind fun r1 =>
  (impl_freeTable t1).bind fun r2 =>
   (impl_eliminate_b_L3 fuel (t0, t1, (t0, (t1, (r1, (0, r2)))), 0)).bind fun s3 =>
    some (s3.1, (s3.2.1, (s3.2.2.1, (s3.2.2.2.1, s3.2.2.2.2))))
def impl_eliminateLinear_b (l : Int × Int × (List (List Int))) : Option ((Int × (Int × ((List (List Int)) × (Int × (List Int)))))) :=
 (impl_eliminate_b l.1 l.2.1 l.2.2).bind fun r1 =>
  some (r1.1, (r1.2.1, (r1.2.2.1, (r1.2.2.2.1, r1.2.2.2.2))))
def impl_eliminated_kernel_L2 : Nat → (Unit × (Int × (Int × ((List (List Int)) × (Int × (List Int))))) × Int × Int) → Option ((Int × (Int × ((List (List Int)) × (Int × (List Int))))))
 | 0, _ => none
 | n + 1, (al12, e, t13, t14) =>
  if decide (t14 < t13) then
   if inb t14 e.2.2.1 then
    if inb e.2.1 (gd e.2.2.1 t14 []) then
     impl_eliminated_kernel_L2 n ((), (e.1, (e.2.1, (stt e.2.2.1 t14 (stt (gd e.2.2.1 t14 []) e.2.1 0), (e.2.2.2.1, e.2.2.2.2)))), t13, w64 (t14 + 1))
    else none
   else none
  else
   some (e.1, (e.2.1, (e.2.2.1, (e.2.2.2.1, e.2.2.2.2))))
def impl_eliminated_kernel_L9 : Nat → ((Int × (Int × ((List (List Int)) × (Int × (List Int))))) × (List (List Int)) × (List Int) × Int × Int) → Option ((Int × (Int × ((List (List Int)) × (Int × (List Int))))) × (List (List Int)))
 | 0, _ => none
 | n + 1, (e, list, free, t29, t30) =>
  if decide (t30 < t29) then
   if 0 ≤ (free.length : Int) ∧ (free.length : Int) ≤ (free.length : Int) ∧ (free.length : Int) ≤ lim then
    if inb t30 (List.replicate (Int.toNat (free.length : Int)) (0 : Int)) then
     (impl_eliminated_solution (e.1, (e.2.1, (e.2.2.1, (e.2.2.2.1, e.2.2.2.2)))) (stt (List.replicate (Int.toNat (free.length : Int)) (0 : Int)) t30 1)).bind fun r3 =>
      if list.length + [r3.2].length ≤ lim then
       impl_eliminated_kernel_L9 n ((r3.1.1, (r3.1.2.1, (r3.1.2.2.1, (r3.1.2.2.2.1, r3.1.2.2.2.2)))), list ++ [r3.2], free, t29, w64 (t30 + 1))
      else none
    else none
   else none
  else
   some ((e.1, (e.2.1, (e.2.2.1, (e.2.2.2.1, e.2.2.2.2)))), list)
def impl_eliminated_kernel (e : Int × (Int × ((List (List Int)) × (Int × (List Int))))) : Option ((Int × (Int × ((List (List Int)) × (Int × (List Int))))) × (List (List Int))) :=
 (impl_eliminated_kernel_L2 fuel ((), (e.1, (e.2.1, (e.2.2.1, (e.2.2.2.1, e.2.2.2.2)))), (e.2.2.1.length : Int), 0)).bind fun s1 =>
  (impl_eliminated_freeVars (s1.1, (s1.2.1, (s1.2.2.1, (s1.2.2.2.1, s1.2.2.2.2))))).bind fun r2 =>
   (impl_eliminated_kernel_L9 fuel ((r2.1.1, (r2.1.2.1, (r2.1.2.2.1, (r2.1.2.2.2.1, r2.1.2.2.2.2)))), [], r2.2, (r2.2.length : Int), 0)).bind fun s3 =>
    some ((s3.1.1, (s3.1.2.1, (s3.1.2.2.1, (s3.1.2.2.2.1, s3.1.2.2.2.2)))), s3.2)
def impl_LinearKernel (l : Int × Int × (List (List Int))) : Option ((List (List Int)) × Bool) :=
 (impl_IsLinear (l.1, (l.2.1, l.2.2))).bind fun r1 =>
  if !r1 then
   some ([], false)
  else
   (impl_eliminateLinear_b (l.1, (l.2.1, l.2.2))).bind fun r2 =>
    (impl_eliminated_kernel (r2.1, (r2.2.1, (r2.2.2.1, (r2.2.2.2.1, r2.2.2.2.2))))).bind fun r3 =>
     some (r3.2, true)
end T
open Go Go.Va
namespace T
theorem elb_L6 : ∀ n x, impl_eliminate_b_L6 n x = impl_eliminate_L6 n x
 | 0, _ => rfl
 | n + 1, x => by obtain ⟨t0, t1, t7, t8, t9⟩ := x; simp only [impl_eliminate_b_L6, impl_eliminate_L6, elb_L6 n]
theorem elb_L14 : ∀ n x, impl_eliminate_b_L14 n x = impl_eliminate_L14 n x
 | 0, _ => rfl
 | n + 1, x => by obtain ⟨a, t0, t1, t7, t8, t9, b, c⟩ := x; simp only [impl_eliminate_b_L14, impl_eliminate_L14, elb_L14 n]
theorem elb_L24 : ∀ n x, impl_eliminate_b_L24 n x = impl_eliminate_L24 n x
 | 0, _ => rfl
 | n + 1, x => by obtain ⟨a, b, c, t0, t1, t7, t8, t9, d, e, f, g⟩ := x; simp only [impl_eliminate_b_L24, impl_eliminate_L24, elb_L24 n]
theorem elb_L19 : ∀ n x, impl_eliminate_b_L19 n x = impl_eliminate_L19 n x
 | 0, _ => rfl
 | n + 1, x => by obtain ⟨a, c, t0, t1, t7, t8, d, e⟩ := x; simp only [impl_eliminate_b_L19, impl_eliminate_L19, elb_L19 n, elb_L24]
theorem elb_L3 : ∀ n x, impl_eliminate_b_L3 n x = impl_eliminate_L3 n x
 | 0, _ => rfl
 | n + 1, x => by obtain ⟨t0, t1, t7, t8⟩ := x; simp only [impl_eliminate_b_L3, impl_eliminate_L3, elb_L3 n, elb_L6, elb_L14, elb_L19]
abbrev Bx := Int × (Int × (List (List Int) × (Int × List Int)))
theorem elb_of {p v : Int} {rows : List (List Int)} {q : Bx} (h : impl_eliminate p v rows = some (true, q)) : impl_eliminate_b p v rows = some q := by
 unfold impl_eliminate at h
 unfold impl_eliminate_b
 simp only [elb_L3]
 cases h1 : impl_cloneRows rows with
 | none => rw [h1] at h; cases h
 | some r1 =>
  cases h2 : impl_freeTable v with
  | none => rw [h1, h2] at h; cases h
  | some r2 =>
   rw [h1, h2] at h
   simp only [Option.bind_some] at h ⊢
   cases h3 : impl_eliminate_L3 fuel (p, v, (p, (v, (r1, (0, r2)))), 0) with
   | none => rw [h3] at h; cases h
   | some s3 => rw [h3] at h; simp only [Option.bind_some, Option.some.injEq, Prod.mk.injEq, true_and] at h ⊢; exact h
theorem freeL_inj {N : Nat} {b : List Int} {i j : Nat} (hi : i < (freeL N b).length) (hj : j < (freeL N b).length) (h : i ≠ j) : (freeL N b)[i] ≠ (freeL N b)[j] := by
 have hp : (freeL N b).Pairwise (· ≠ ·) := by
  unfold freeL
  rw [List.pairwise_map]
  refine List.Pairwise.imp (R := fun a b => a < b) (fun h => by omega) (List.Pairwise.filter _ List.pairwise_lt_range)
 rcases Nat.lt_or_ge i j with h1 | h1
 ·exact List.pairwise_iff_getElem.1 hp i j hi hj h1
 ·exact fun e => List.pairwise_iff_getElem.1 hp j i hj hi (by omega) e.symm
theorem freeL_not {N : Nat} {b : List Int} {x : Int} (h : x ∈ freeL N b) : x ∉ b := by
 unfold freeL at h
 obtain ⟨u, hu, rfl⟩ := List.mem_map.1 h
 have := (List.mem_filter.1 hu).2
 simpa using this
section
variable {a : Lin} {p : Int} {W N V : Nat}
def kerU (p : Int) (s : ES) (f u : Nat) : Int := if posL s.2.1 u < 0 then (if u = f then 1 else 0) else Int.tmod (p - (s.1.getD (posL s.2.1 u).toNat []).getD f 0) p
def kerL (p : Int) (V : Nat) (s : ES) (f : Nat) : List Int := (List.range V).map (kerU p s f)
def unitL (m i : Nat) : List Int := (List.replicate m (0 : Int)).set i 1
theorem unit_len {m i : Nat} : (unitL m i).length = m := by simp [unitL]
theorem unit_get {m i k : Nat} (hk : k < m) : (unitL m i).getD k 0 = if k = i then 1 else 0 := by
 rw [getD_of (by rw [unit_len]; exact hk)]
 unfold unitL
 rw [List.getElem_set]
 by_cases e : i = k
 ·rw [if_pos e, if_pos e.symm]
 ·rw [if_neg e, if_neg (fun h => e h.symm)]; simp
def zeroR (V : Nat) (R : List (List Int)) : List (List Int) := R.map fun r => r.set V 0
def boxE (p : Int) (V : Nat) (s : ES) : Bx := (p, ((V : Int), (s.1 ++ s.2.2, ((s.1.length : Int), barr V s.2.1))))
def boxZ (p : Int) (V : Nat) (s : ES) : Bx := (p, ((V : Int), (zeroR V (s.1 ++ s.2.2), ((s.1.length : Int), barr V s.2.1))))
theorem ker_L2 {s : ES} (hs : ESok p W N V s) (hV : V < W) (hN : N ≤ 100000) : impl_eliminated_kernel_L2 fuel ((), boxE p V s, ((s.1 ++ s.2.2).length : Int), 0) = some (boxZ p V s) := by
 have hn := hs.n
 have hlen : (s.1 ++ s.2.2).length = N := by rw [List.length_append]; exact hn
 have hrow : ∀ k, k < (s.1 ++ s.2.2).length → okRow p W ((s.1 ++ s.2.2).getD k []) := fun k hk => by
  have hm : (s.1 ++ s.2.2).getD k [] ∈ s.1 ++ s.2.2 := by rw [getD_of hk]; exact List.getElem_mem hk
  rcases List.mem_append.1 hm with h | h
  ·exact hs.t _ h
  ·exact hs.l _ h
 unfold boxE boxZ zeroR
 generalize s.1 ++ s.2.2 = R at *
 have := forS R.length (fun f o i => impl_eliminated_kernel_L2 f ((), (p, ((V : Int), (o, ((s.1.length : Int), barr V s.2.1)))), (R.length : Int), i)) (fun k => mix (fun k => (R.getD k []).set V 0) (fun k => R.getD k []) R.length k) (r := some (p, ((V : Int), (R.map fun r => r.set V 0, ((s.1.length : Int), barr V s.2.1))))) (fun f k hk => ?_) (fun f => ?_) (n := fuel) (by unfold fuel; omega)
 ·rw [mix_zero rfl] at this; exact this
 ·have hml : (mix (fun k => (R.getD k []).set V 0) (fun k => R.getD k []) R.length k).length = R.length := mix_len
  have hin : k < (mix (fun k => (R.getD k []).set V 0) (fun k => R.getD k []) R.length k).length := by omega
  have hg : (mix (fun k => (R.getD k []).set V 0) (fun k => R.getD k []) R.length k).getD k [] = R.getD k [] := by rw [mix_get hk, if_neg (by omega)]
  have hvl : V < (R.getD k []).length := by rw [(hrow k hk).1]; exact hV
  have hst := mix_set (nw := fun k => (R.getD k []).set V 0) (old := fun k => R.getD k []) hk
  simp only [impl_eliminated_kernel_L2, inb_nat, hin, gd_D, hg, hvl, stt_nat, hst, if_true, w64_succ (show k < 4611686018427387904 by omega)]
  rw [if_pos (by simp; omega)]
 ·simp only [impl_eliminated_kernel_L2, mix_full]
  rw [if_neg (by simp), map_rangeD (fun r : List Int => r.set V 0)]
theorem freeB_ok {q : Int × List (List Int) × Int} {b : List Int} (hV : V ≤ 1000) : impl_eliminated_freeVars (p, (q.1, (q.2.1, (q.2.2, barr V b)))) = some ((p, (q.1, (q.2.1, (q.2.2, barr V b)))), freeL V b) := by
 unfold impl_eliminated_freeVars
 have := forS V (fun f o i => impl_eliminated_freeVars_L3 f ((), (p, (q.1, (q.2.1, (q.2.2, barr V b)))), o, (V : Int), i)) (fun k => freeL k b) (r := some ((p, (q.1, (q.2.1, (q.2.2, barr V b)))), freeL V b)) (fun f k hk => ?_) (fun f => ?_) (n := fuel) (by unfold fuel; omega)
 ·have this : impl_eliminated_freeVars_L3 fuel ((), (p, (q.1, (q.2.1, (q.2.2, barr V b)))), [], (V : Int), 0) = _ := this
  dsimp only
  rw [barr_len, this]; rfl
 ·have hl : k < (barr V b).length := by rw [barr_len]; exact hk
  have hle := freeL_le (N := k) (b := b)
  simp only [impl_eliminated_freeVars_L3, inb_nat, hl, gd_D, barr_get hk, if_true, w64_succ (show k < 4611686018427387904 by omega), freeL_succ]
  rw [if_pos (by simp; omega)]
  by_cases hm : (k : Int) ∈ b
  ·rw [if_neg (by rw [decide_eq_true_iff, posL_neg]; exact fun h => h hm), if_pos hm, List.append_nil]
  ·rw [if_pos (by rw [decide_eq_true_iff, posL_neg]; exact hm), if_neg hm, if_pos (by simp; unfold lim; omega)]
 ·simp only [impl_eliminated_freeVars_L3]
  rw [if_neg (by simp)]
theorem solU_ok (hp : pr4 p) {s : ES} (hs : ESok p W N V s) (hV : V < W) (hN : N ≤ 100000) (hW : W ≤ 1000) {i f : Nat} (hi : i < (freeL V s.2.1).length) (hf : (freeL V s.2.1)[i] = (f : Int)) : impl_eliminated_solution (boxZ p V s) (unitL (freeL V s.2.1).length i) = some (boxZ p V s, kerL p V s f) := by
 have hp0 : p ≠ 0 := by unfold pr4 at hp; omega
 have hpb : 2 ≤ p ∧ p ≤ 7 := by unfold pr4 at hp; omega
 obtain ⟨t, b, l⟩ := s
 have hn := hs.n
 have hbl := hs.bl
 dsimp only at hn hbl hi hf ⊢
 have hFl : (freeL V b).length ≤ V := freeL_le
 have hFm : ∀ k (hk : k < (freeL V b).length), ∃ u : Nat, u < V ∧ (freeL V b)[k] = (u : Int) := fun k hk => freeL_mem (b := b) (List.getElem_mem hk)
 have hFi : ∀ k (hk : k < (freeL V b).length), k ≠ i → (freeL V b)[k] ≠ (f : Int) := fun k hk e => by rw [← hf]; exact freeL_inj hk hi e
 have hfV : f < V := by obtain ⟨u, h1, h2⟩ := hFm i hi; omega
 have hfr : impl_eliminated_freeVars (boxZ p V (t, b, l)) = some (boxZ p V (t, b, l), freeL V b) := freeB_ok (q := ((V : Int), (zeroR V (t ++ l), (t.length : Int)))) (by omega)
 generalize freeL V b = F at *
 have hzl : (zeroR V (t ++ l)).length = t.length + l.length := by simp [zeroR]
 have hzg : ∀ k, k < t.length → (zeroR V (t ++ l)).getD k [] = (t.getD k []).set V 0 := fun k hk => by
  rw [getD_of (by omega), getD_of hk]
  unfold zeroR
  rw [List.getElem_map, List.getElem_append_left hk]
 unfold boxZ at *
 dsimp only at *
 generalize hZ : zeroR V (t ++ l) = Z at *
 have hul : (unitL F.length i).length = F.length := unit_len
 have hug : ∀ k, k < F.length → (unitL F.length i).getD k 0 = if k = i then 1 else 0 := fun k hk => unit_get hk
 generalize unitL F.length i = U at *
 have l4 := forS F.length (fun f' o j => impl_eliminated_solution_L4 f' ((), (p, ((V : Int), (Z, ((t.length : Int), barr V b)))), U, o, F, (F.length : Int), j)) (fun k => (List.range V).map fun u => if i < k ∧ u = f then (1 : Int) else 0) (r := some ((p, ((V : Int), (Z, ((t.length : Int), barr V b)))), U, (List.range V).map fun u => if u = f then (1 : Int) else 0, F)) (fun f' k hk => ?_) (fun f' => ?_) (n := fuel) (by unfold fuel; omega)
 ·have e0 : ((List.range V).map fun u => if i < 0 ∧ u = f then (1 : Int) else 0) = List.replicate V (0 : Int) := by
   apply List.ext_getElem
   ·simp
   ·intro j _ _; simp
  rw [e0] at l4
  have l4 : impl_eliminated_solution_L4 fuel ((), (p, ((V : Int), (Z, ((t.length : Int), barr V b)))), U, List.replicate V (0 : Int), F, (F.length : Int), 0) = _ := l4
  have l14 : ∀ (out : List Int) (v q : Nat), q < t.length → impl_eliminated_solution_L14 fuel ((), (), (p, ((V : Int), (Z, ((t.length : Int), barr V b)))), U, out, F, (v : Int), (q : Int), 0, (V : Int), (v : Int), (F.length : Int), 0) = some ((), (p, ((V : Int), (Z, ((t.length : Int), barr V b)))), U, out, F, (v : Int), p - (t.getD q []).getD f 0, (V : Int), (v : Int)) := by
   intro out v q hq
   have hrow : okRow p W (t.getD q []) := by rw [getD_of hq]; exact hs.t _ (List.getElem_mem hq)
   have hx := ok_get hrow (show f < W by omega)
   have key := forS F.length (fun f' x j => impl_eliminated_solution_L14 f' ((), (), (p, ((V : Int), (Z, ((t.length : Int), barr V b)))), U, out, F, (v : Int), (q : Int), x, (V : Int), (v : Int), (F.length : Int), j)) (fun k => if i < k then p - (t.getD q []).getD f 0 else 0) (r := some ((), (p, ((V : Int), (Z, ((t.length : Int), barr V b)))), U, out, F, (v : Int), p - (t.getD q []).getD f 0, (V : Int), (v : Int))) (fun f' k hk => ?_) (fun f' => ?_) (n := fuel) (by unfold fuel; omega)
   ·rw [if_neg (by omega)] at key; exact key
   ·obtain ⟨u, hu, e⟩ := hFm k hk
    have hqz : q < Z.length := by omega
    have hul2 : u < (Z.getD q []).length := by rw [hzg q hq, List.length_set, hrow.1]; omega
    have hgu : (Z.getD q []).getD u 0 = (t.getD q []).getD u 0 := by
     rw [hzg q hq, List.getD_eq_getElem?_getD, List.getElem?_set_ne (by omega), ← List.getD_eq_getElem?_getD]
    have hku : k < U.length := by omega
    have hxu := ok_get hrow (show u < W by omega)
    simp only [impl_eliminated_solution_L14, inb_nat, hk, gd_nat hk, e, hqz, hul2, hku, gd_D, hgu, hug k hk, if_true, w64_succ (show k < 4611686018427387904 by omega)]
    rw [if_pos (by simp; omega)]
    congr 1
    by_cases c : k = i
    ·have huf : u = f := by subst c; omega
     subst huf
     rw [if_neg (show ¬ i < k by omega), if_pos c, if_pos (show i < k + 1 by omega), Int.mul_one, w64_small (x := p - (t.getD q []).getD u 0) (by omega) (by omega), w64_small (x := p - (t.getD q []).getD u 0) (by omega) (by omega), Int.zero_add, w64_small (x := p - (t.getD q []).getD u 0) (by omega) (by omega)]
    ·rw [if_neg c, Int.mul_zero, w64_small (x := 0) (by omega) (by omega), Int.add_zero]
     by_cases c2 : i < k
     ·rw [if_pos c2, if_pos (show i < k + 1 by omega), w64_small (x := p - (t.getD q []).getD f 0) (by omega) (by omega)]
     ·rw [if_neg c2, if_neg (show ¬ i < k + 1 by omega), w64_small (x := 0) (by omega) (by omega)]
   ·simp only [impl_eliminated_solution_L14]
    rw [if_neg (by simp), if_pos hi]
  have l9 := forS V (fun f' (o : List Int) j => impl_eliminated_solution_L9 f' ((), (p, ((V : Int), (Z, ((t.length : Int), barr V b)))), U, o, F, (V : Int), j)) (fun v => mix (kerU p (t, b, l) f) (fun u => if u = f then 1 else 0) V v) (r := some ((p, ((V : Int), (Z, ((t.length : Int), barr V b)))), kerL p V (t, b, l) f)) (fun f' v hv => ?_) (fun f' => ?_) (n := fuel) (by unfold fuel; omega)
  ·have e1 : mix (kerU p (t, b, l) f) (fun u => if u = f then 1 else 0) V 0 = (List.range V).map fun u => if u = f then (1 : Int) else 0 := by
    unfold mix; refine List.map_congr_left fun q _ => ?_; rw [if_neg (by omega)]
   rw [e1] at l9
   have l9 : impl_eliminated_solution_L9 fuel ((), (p, ((V : Int), (Z, ((t.length : Int), barr V b)))), U, (List.range V).map fun u => if u = f then (1 : Int) else 0, F, (V : Int), 0) = _ := l9
   unfold impl_eliminated_solution
   rw [if_pos (by unfold lim; dsimp only; omega), hfr]
   simp only [Option.bind_some, Int.toNat_natCast, l4, barr_len, l9]
  ·have hvl : v < (barr V b).length := by rw [barr_len]; exact hv
   simp only [impl_eliminated_solution_L9, inb_nat, hvl, gd_D, barr_get hv, if_true]
   rw [if_pos (by simp; omega)]
   by_cases hm : (v : Int) ∈ b
   ·obtain ⟨q, hq, g1, _⟩ := posL_at hm
    have hqt : q < t.length := by omega
    have hqz : q < Z.length := by omega
    have hrow : okRow p W (t.getD q []) := by rw [getD_of hqt]; exact hs.t _ (List.getElem_mem hqt)
    have hVl : V < (Z.getD q []).length := by rw [hzg q hqt, List.length_set, hrow.1]; exact hV
    have hV0 : (Z.getD q []).getD V 0 = 0 := by
     rw [hzg q hqt, List.getD_eq_getElem?_getD, List.getElem?_set_self (by rw [hrow.1]; exact hV)]; rfl
    have hml : v < (mix (kerU p (t, b, l) f) (fun u => if u = f then 1 else 0) V v).length := by rw [mix_len]; exact hv
    have hsv : kerU p (t, b, l) f v = Int.tmod (p - (t.getD q []).getD f 0) p := by
     unfold kerU; dsimp only; rw [g1, if_neg (by omega), Int.toNat_natCast]
    have hst := mix_set (nw := kerU p (t, b, l) f) (old := fun u => if u = f then (1 : Int) else 0) hv
    rw [hsv] at hst
    rw [g1, if_neg (by simp)]
    simp only [inb_nat, hqz, gd_D, hVl, if_true, hV0]
    rw [l14 _ v q hqt]
    simp only [Option.bind_some, inb_nat, hml, if_true, stt_nat, w64_succ (show v < 4611686018427387904 by omega)]
    rw [if_pos hp0, hst]
   ·rw [if_pos (by rw [decide_eq_true_iff, posL_neg]; exact hm), mix_same hv (by unfold kerU; dsimp only; rw [if_pos (posL_neg.2 hm)]), w64_succ (show v < 4611686018427387904 by omega)]
  ·simp only [impl_eliminated_solution_L9, mix_full]
   rw [if_neg (by simp)]; rfl
 ·obtain ⟨u, hu, e⟩ := hFm k hk
  have hku : k < U.length := by omega
  have hu2 : u < ((List.range V).map fun u => if i < k ∧ u = f then (1 : Int) else 0).length := by simp; omega
  simp only [impl_eliminated_solution_L4, inb_nat, hk, gd_nat hk, e, hku, hu2, gd_D, hug k hk, stt_nat, if_true, w64_succ (show k < 4611686018427387904 by omega)]
  rw [if_pos (by simp; omega)]
  congr 1
  refine congrArg (fun o => ((), (p, ((V : Int), (Z, ((t.length : Int), barr V b)))), U, o, F, (F.length : Int), ((k + 1 : Nat) : Int))) ?_
  apply List.ext_getElem
  ·simp
  ·intro w h1 h2
   rw [List.getElem_set]
   simp only [List.getElem_map, List.getElem_range]
   by_cases c : k = i
   ·have huf : u = f := by subst c; omega
    subst huf
    rw [if_pos c]
    by_cases cw : u = w
    ·rw [if_pos cw, if_pos ⟨by omega, cw.symm⟩]
    ·rw [if_neg cw, if_neg (fun h => cw h.2.symm), if_neg (fun h => cw h.2.symm)]
   ·have hne := hFi k hk c
    rw [if_neg c]
    by_cases cw : u = w
    ·rw [if_pos cw, if_neg (fun h => by omega)]
    ·rw [if_neg cw]
     by_cases c2 : i < k ∧ w = f
     ·rw [if_pos c2, if_pos ⟨by omega, c2.2⟩]
     ·rw [if_neg c2, if_neg (fun h => c2 ⟨by omega, h.2⟩)]
 ·simp only [impl_eliminated_solution_L4]
  rw [if_neg (by simp)]
  congr 1
  refine congrArg (fun o => ((p, ((V : Int), (Z, ((t.length : Int), barr V b)))), U, o, F)) ?_
  refine List.map_congr_left fun u _ => ?_
  by_cases c : u = f
  ·rw [if_pos ⟨hi, c⟩, if_pos c]
  ·rw [if_neg (fun h => c h.2), if_neg c]
end
end T
