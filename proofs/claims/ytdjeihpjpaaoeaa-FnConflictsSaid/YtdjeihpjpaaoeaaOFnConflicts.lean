/- Plain lemmas on the typed functions of the program, the first part; no conditions. -/
import Derived.Test.YtdjeihpjpaaoeaaV1
import Derived.Test.YtdjeihpjpaaoeaaV5
import Derived.KernelRfl
set_option linter.all false
namespace Go.Va
theorem w64_def (x : Int) : w64 x = (x + 9223372036854775808) % 18446744073709551616 - 9223372036854775808 := by
 simp [w64, IntKind.wrap, IntKind.bits, IntKind.signed]
 split <;> omega
theorem w64_id {x : Int} (h1 : -9223372036854775808 ≤ x) (h2 : x ≤ 9223372036854775807) : w64 x = x := by
 rw [w64_def]; omega
theorem w64_succ {k : Nat} (h : k < 4611686018427387904) : w64 ((k : Int) + 1) = ((k + 1 : Nat) : Int) := by
 rw [w64_id (by omega) (by omega)]; rfl
theorem inb_nat {α : Type} {k : Nat} {xs : List α} : inb (k : Int) xs ↔ k < xs.length := by
 unfold inb; omega
theorem gd_nat {α : Type} {k : Nat} {xs : List α} {d : α} (h : k < xs.length) : gd xs (k : Int) d = xs[k] := by
 unfold gd; simp [h]
theorem stt_nat {α : Type} {k : Nat} {xs : List α} {x : α} : stt xs (k : Int) x = xs.set k x := by
 unfold stt; simp
def runX {α σ β : Type} (step : σ → α → Option (σ ⊕ β)) (fin : σ → Option β) : List α → σ → Option β
 | [], s => fin s
 | a :: l, s => match step s a with | some (.inl s') => runX step fin l s' | some (.inr r) => some r | none => none
theorem loopX {α σ β : Type} (xs : List α) (L : Nat → σ → Int → Option β) (step : σ → α → Option (σ ⊕ β)) (fin : σ → Option β)
    (hs : ∀ n s (k : Nat) (hk : k < xs.length), L (n + 1) s k = match step s xs[k] with | some (.inl s') => L n s' ((k + 1 : Nat) : Int) | some (.inr r) => some r | none => none)
    (he : ∀ n s, L (n + 1) s (xs.length : Nat) = fin s) : ∀ (n k : Nat) (s : σ), k ≤ xs.length → xs.length - k < n → L n s k = runX step fin (xs.drop k) s := by
  intro n
  induction n with
  | zero => intro k s _ h; omega
  | succ n ih =>
    intro k s hk hn
    rcases Nat.lt_or_ge k xs.length with hlt | hge
    · rw [hs n s k hlt, List.drop_eq_getElem_cons hlt]
      simp only [runX]
      cases step s xs[k] with
      | none => rfl
      | some q =>
        cases q with
        | inl s' => exact ih (k + 1) s' hlt (by omega)
        | inr r => rfl
    · have : k = xs.length := by omega
      subst this
      rw [he, List.drop_length]; rfl
theorem loopX0 {α σ β : Type} (xs : List α) (L : Nat → σ → Int → Option β) (step : σ → α → Option (σ ⊕ β)) (fin : σ → Option β)
    (hs : ∀ n s (k : Nat) (hk : k < xs.length), L (n + 1) s k = match step s xs[k] with | some (.inl s') => L n s' ((k + 1 : Nat) : Int) | some (.inr r) => some r | none => none)
    (he : ∀ n s, L (n + 1) s (xs.length : Nat) = fin s) {n : Nat} (hn : xs.length < n) (s : σ) : L n s 0 = runX step fin xs s := by
  have := loopX xs L step fin hs he n 0 s (Nat.zero_le _) (by omega)
  simpa using this
theorem runX_all {α β : Type} {p : α → Bool} {step : Unit → α → Option (Unit ⊕ β)} {fin : Unit → Option β} {r : β} : ∀ {l : List α}, (∀ a ∈ l, step () a = if p a then some (.inl ()) else some (.inr r)) → runX step fin l () = if l.all p then fin () else some r
 | [], _ => rfl
 | a :: l, h => by
  simp only [runX]
  rw [h a (by simp)]
  cases hp : p a with
  | true => simp only [if_true, List.all_cons, hp, Bool.true_and]; exact runX_all fun b hb => h b (List.mem_cons_of_mem _ hb)
  | false => simp [List.all_cons, hp]
theorem fillX {α β γ : Type} (xs : List α) (L : Nat → List β → Int → Option γ) (g : α → β) (fin : List β → Option γ)
    (hs : ∀ n (out : List β) (k : Nat) (hk : k < xs.length), out.length = xs.length → L (n + 1) out k = L n (out.set k (g xs[k])) ((k + 1 : Nat) : Int))
    (he : ∀ n out, out.length = xs.length → L (n + 1) out (xs.length : Nat) = fin out) : ∀ (n k : Nat) (out : List β), out.length = xs.length → k ≤ xs.length → xs.length - k < n → L n out k = fin (out.take k ++ (xs.drop k).map g) := by
  intro n
  induction n with
  | zero => intro k out _ _ h; omega
  | succ n ih =>
    intro k out hl hk hn
    rcases Nat.lt_or_ge k xs.length with hlt | hge
    · have : (out.set k (g xs[k])).take (k + 1) = out.take k ++ [g xs[k]] := by
        rw [List.take_succ_eq_append_getElem (by simp; omega), List.take_set_of_le (Nat.le_refl _), List.getElem_set_self]
      rw [hs n out k hlt hl, ih (k + 1) _ (by simpa using hl) hlt (by omega), List.drop_eq_getElem_cons hlt, this, List.map_cons, List.append_assoc, List.singleton_append]
    · have : k = xs.length := by omega
      subst this
      rw [he _ _ hl, List.drop_length, List.take_of_length_le (by omega)]; simp
theorem fillX0 {α β γ : Type} (xs : List α) (L : Nat → List β → Int → Option γ) (g : α → β) (fin : List β → Option γ)
    (hs : ∀ n (out : List β) (k : Nat) (hk : k < xs.length), out.length = xs.length → L (n + 1) out k = L n (out.set k (g xs[k])) ((k + 1 : Nat) : Int))
    (he : ∀ n out, out.length = xs.length → L (n + 1) out (xs.length : Nat) = fin out) {n : Nat} {out : List β} (hl : out.length = xs.length) (hn : xs.length < n) : L n out 0 = fin (xs.map g) := by
  have := fillX xs L g fin hs he n 0 out hl (Nat.zero_le _) (by omega)
  simpa using this
theorem eqX {α : Type} [DecidableEq α] (a b : List α) (hl : a.length = b.length) (L : Nat → Int → Option (Unit ⊕ Bool))
    (hs : ∀ n (k : Nat) (h1 : k < a.length) (h2 : k < b.length), L (n + 1) k = if a[k] = b[k] then L n ((k + 1 : Nat) : Int) else some (.inr false)) (he : ∀ n, L (n + 1) (a.length : Nat) = some (.inl ())) {n : Nat} (hn : a.length < n) :
    L n 0 = some (if a = b then .inl () else .inr false) := by
  have key : ∀ (n k : Nat), k ≤ a.length → a.length - k < n → L n k = some (if a.drop k = b.drop k then .inl () else .inr false) := by
    intro n
    induction n with
    | zero => intro k _ h; omega
    | succ n ih =>
      intro k hk hn
      rcases Nat.lt_or_ge k a.length with hlt | hge
      · have h2 : k < b.length := by omega
        have e : (a.drop k = b.drop k) ↔ (a[k] = b[k] ∧ a.drop (k + 1) = b.drop (k + 1)) := by
          rw [List.drop_eq_getElem_cons hlt, List.drop_eq_getElem_cons h2]; exact List.cons_eq_cons
        rw [hs n k hlt h2]
        by_cases h : a[k] = b[k]
        · rw [if_pos h, ih (k + 1) hlt (by omega)]
          by_cases h3 : a.drop (k + 1) = b.drop (k + 1)
          · rw [if_pos h3, if_pos (e.2 ⟨h, h3⟩)]
          · rw [if_neg h3, if_neg fun h' => h3 (e.1 h').2]
        · rw [if_neg h, if_neg fun h' => h (e.1 h').1]
      · have : k = a.length := by omega
        subst this
        rw [he, List.drop_length, hl, List.drop_length]; rfl
  have := key n 0 (Nat.zero_le _) (by omega)
  simpa using this
theorem allX {α β : Type} (xs : List α) (L : Nat → Int → Option β) (p : α → Bool) (r e : β)
    (hs : ∀ n (k : Nat) (hk : k < xs.length), L (n + 1) k = if p xs[k] then L n ((k + 1 : Nat) : Int) else some r) (he : ∀ n, L (n + 1) (xs.length : Nat) = some e) {n : Nat} (hn : xs.length < n) :
    L n 0 = some (if xs.all p then e else r) := by
  have := loopX0 xs (fun n (_ : Unit) i => L n i) (fun _ a => if p a then some (.inl ()) else some (.inr r)) (fun _ => some e) (fun n s k hk => by rw [hs n k hk]; cases p xs[k] <;> simp) (fun n s => he n) hn ()
  rw [this, runX_all (p := p) (r := r) fun a _ => by cases p a <;> simp]
  cases xs.all p <;> simp
theorem forS {σ β : Type} (N : Nat) (L : Nat → σ → Int → Option β) (S : Nat → σ) {r : Option β}
    (hs : ∀ n (k : Nat), k < N → L (n + 1) (S k) k = L n (S (k + 1)) ((k + 1 : Nat) : Int)) (he : ∀ n, L (n + 1) (S N) (N : Nat) = r) {n : Nat} (hn : N < n) : L n (S 0) 0 = r := by
  have key : ∀ (n k : Nat), k ≤ N → N - k < n → L n (S k) k = r := by
    intro n
    induction n with
    | zero => intro k _ h; omega
    | succ n ih =>
      intro k hk hn
      rcases Nat.lt_or_ge k N with hlt | hge
      · rw [hs n k hlt]; exact ih (k + 1) hlt (by omega)
      · have : k = N := by omega
        subst this; exact he n
  exact key n 0 (Nat.zero_le _) (by omega)
theorem forA {σ β : Type} (N : Nat) (L : Nat → σ → Int → Option β) (S : Nat → σ) (p : Nat → Bool) {r e : Option β}
    (hs : ∀ n (k : Nat), k < N → L (n + 1) (S k) k = if p k then L n (S (k + 1)) ((k + 1 : Nat) : Int) else r) (he : ∀ n, L (n + 1) (S N) (N : Nat) = e) {n : Nat} (hn : N < n) :
    L n (S 0) 0 = if (List.range N).all p then e else r := by
  have key : ∀ (n k : Nat), k ≤ N → N - k < n → L n (S k) k = if (List.range' k (N - k)).all p then e else r := by
    intro n
    induction n with
    | zero => intro k _ h; omega
    | succ n ih =>
      intro k hk hn
      rcases Nat.lt_or_ge k N with hlt | hge
      · rw [hs n k hlt, show N - k = (N - (k + 1)) + 1 by omega, List.range'_succ, List.all_cons]
        cases hp : p k with
        | false => simp
        | true => simp only [if_true, Bool.true_and]; exact ih (k + 1) hlt (by omega)
      · have : k = N := by omega
        subst this; rw [he]; simp
  have := key n 0 (Nat.zero_le _) (by omega)
  rw [List.range_eq_range']
  simpa using this
theorem forB {σ β : Type} (N : Nat) (L : Nat → σ → Int → Option β) (S : Nat → σ) (p : Nat → Bool) {r e : Option β}
    (hs : ∀ n (k : Nat), k < N → (∀ j, j < k → p j = true) → L (n + 1) (S k) k = if p k then L n (S (k + 1)) ((k + 1 : Nat) : Int) else r) (he : ∀ n, (∀ j, j < N → p j = true) → L (n + 1) (S N) (N : Nat) = e) {n : Nat} (hn : N < n) :
    L n (S 0) 0 = if (List.range N).all p then e else r := by
  have key : ∀ (n k : Nat), k ≤ N → N - k < n → (∀ j, j < k → p j = true) → L n (S k) k = if (List.range' k (N - k)).all p then e else r := by
    intro n
    induction n with
    | zero => intro k _ h; omega
    | succ n ih =>
      intro k hk hn hb
      rcases Nat.lt_or_ge k N with hlt | hge
      · rw [hs n k hlt hb, show N - k = (N - (k + 1)) + 1 by omega, List.range'_succ, List.all_cons]
        cases hp : p k with
        | false => simp
        | true =>
          simp only [if_true, Bool.true_and]
          refine ih (k + 1) hlt (by omega) fun j hj => ?_
          rcases Nat.lt_or_ge j k with h | h
          · exact hb j h
          · have : j = k := by omega
            rw [this]; exact hp
      · have : k = N := by omega
        subst this; rw [he n hb]; simp
  have := key n 0 (Nat.zero_le _) (by omega) (fun j h => by omega)
  rw [List.range_eq_range']
  simpa using this
end Go.Va
set_option linter.unusedVariables false
open Go Go.Va
namespace T
def fuel : Nat := 1099511627776
def spec_l1In (x : Int) (a : Int) (b : Int) : Option (Bool) :=
 if decide (x ≥ a) then
  some (decide (x ≤ b))
 else
  some false
def spec_l2Elements_L2 : Nat → (Int × (List Int) × Int) → Option ((Unit) ⊕ (Bool))
 | 0, _ => none
 | n + 1, (n_, list, i) =>
  if decide (i < (list.length : Int)) then
   if inb i list then
    (spec_l1In (gd list i 0) 0 (w64 (n_ - 1))).bind fun r1 =>
     if !r1 then
      some (.inr false)
     else
      spec_l2Elements_L2 n (n_, list, w64 (i + 1))
   else none
  else
   some (.inl ())
def spec_l2Elements (n_ : Int) (list : List Int) : Option (Bool) :=
 (spec_l2Elements_L2 fuel (n_, list, 0)).bind fun s1 =>
  match s1 with
  | .inl s2 =>
   some true
  | .inr s3 =>
   some s3
def spec_l8Tuple (n_ : Int) (k : Int) (t : List Int) : Option (Bool) :=
 if (t.length : Int) == k then
  (spec_l2Elements n_ t).bind fun r1 =>
   some r1
 else
  some false
def impl_inSize_L2 : Nat → (Int × (List Int) × Int × Int) → Option ((Unit) ⊕ (Bool))
 | 0, _ => none
 | n + 1, (n_, t7, t8, t9) =>
  if decide (t9 < t8) then
   if inb t9 t7 then
    if decide ((gd t7 t9 0) < 0) then
     some (.inr false)
    else
     if decide ((gd t7 t9 0) ≥ n_) then
      some (.inr false)
     else
      impl_inSize_L2 n (n_, t7, t8, w64 (t9 + 1))
   else none
  else
   some (.inl ())
def impl_inSize (list : List Int) (n_ : Int) : Option (Bool) :=
 (impl_inSize_L2 fuel (n_, list, (list.length : Int), 0)).bind fun s1 =>
  match s1 with
  | .inl s2 =>
   some true
  | .inr s3 =>
   some s3
def spec_l6Size (n_ : Int) : Option (Bool) :=
 (spec_l1In n_ 1 8).bind fun r1 =>
  some r1
def spec_l2Pow_L2 : Nat → (Int × Int × Int) → Option (Int)
 | 0, _ => none
 | n + 1, (n_, k, out) =>
  if decide (k > 0) then
   spec_l2Pow_L2 n (n_, w64 (k - 1), w64 (out * n_))
  else
   some out
def spec_l2Pow (n_ : Int) (k : Int) : Option (Int) :=
 (spec_l2Pow_L2 fuel (n_, k, 1)).bind fun s1 =>
  some s1
def spec_l3Less_L2 : Nat → ((List Int) × (List Int) × Int) → Option ((Unit) ⊕ (Bool))
 | 0, _ => none
 | n + 1, (a, b, i) =>
  if decide (i < (a.length : Int)) then
   if inb i a then
    if inb i b then
     if (gd a i 0) != (gd b i 0) then
      if inb i a then
       if inb i b then
        some (.inr (decide ((gd a i 0) < (gd b i 0))))
       else none
      else none
     else
      spec_l3Less_L2 n (a, b, w64 (i + 1))
    else none
   else none
  else
   some (.inl ())
def spec_l3Less (a : List Int) (b : List Int) : Option (Bool) :=
 (spec_l3Less_L2 fuel (a, b, 0)).bind fun s1 =>
  match s1 with
  | .inl s2 =>
   some false
  | .inr s3 =>
   some s3
def spec_l1Same_L4 : Nat → ((List Int) × (List Int) × Int) → Option ((Unit) ⊕ (Bool))
 | 0, _ => none
 | n + 1, (a, b, i) =>
  if decide (i < (a.length : Int)) then
   if inb i a then
    if inb i b then
     if (gd a i 0) != (gd b i 0) then
      some (.inr false)
     else
      spec_l1Same_L4 n (a, b, w64 (i + 1))
    else none
   else none
  else
   some (.inl ())
def spec_l1Same (a : List Int) (b : List Int) : Option (Bool) :=
 if (a.length : Int) != (b.length : Int) then
  some false
 else
  (spec_l1Same_L4 fuel (a, b, 0)).bind fun s1 =>
   match s1 with
   | .inl s2 =>
    some true
   | .inr s3 =>
    some s3
def spec_l8Find_L2 : Nat → ((List (List Int)) × (List Int) × Int × Int) → Option ((List (List Int)) × (List Int) × Int)
 | 0, _ => none
 | n + 1, (list, t, from_, to) =>
  if decide (from_ < to) then
   if (2 : Int) ≠ 0 then
    if inb (w64 (Int.tdiv (w64 (from_ + to)) 2)) list then
     (spec_l3Less (gd list (w64 (Int.tdiv (w64 (from_ + to)) 2)) []) t).bind fun r1 =>
      if r1 then
       spec_l8Find_L2 n (list, t, w64 ((w64 (Int.tdiv (w64 (from_ + to)) 2)) + 1), to)
      else
       spec_l8Find_L2 n (list, t, from_, w64 (Int.tdiv (w64 (from_ + to)) 2))
    else none
   else none
  else
   some (list, t, from_)
def spec_l8Find (list : List (List Int)) (t : List Int) : Option (Int × Bool) :=
 (spec_l8Find_L2 fuel (list, t, 0, (list.length : Int))).bind fun s1 =>
  if decide (s1.2.2 < (s1.1.length : Int)) then
   if inb s1.2.2 s1.1 then
    (spec_l1Same (gd s1.1 s1.2.2 []) s1.2.1).bind fun r2 =>
     some (s1.2.2, r2)
   else none
  else
   some (s1.2.2, false)
def impl_isSize (n_ : Int) : Option (Bool) :=
 if decide (n_ ≥ 1) then
  some (decide (n_ ≤ 8))
 else
  some false
def impl_compareLists_L2 : Nat → ((List Int) × (List Int) × Int) → Option (((List Int) × (List Int)) ⊕ (Int))
 | 0, _ => none
 | n + 1, (s, t, i) =>
  if decide (i < (s.length : Int)) then
   if decide (i < (t.length : Int)) then
    if inb i s then
     if inb i t then
      if (gd s i 0) != (gd t i 0) then
       if inb i s then
        if inb i t then
         if decide ((gd s i 0) < (gd t i 0)) then
          some (.inr (-1))
         else
          some (.inr 1)
        else none
       else none
      else
       impl_compareLists_L2 n (s, t, w64 (i + 1))
     else none
    else none
   else
    some (.inl (s, t))
  else
   some (.inl (s, t))
def impl_compareLists (s : List Int) (t : List Int) : Option (Int) :=
 (impl_compareLists_L2 fuel (s, t, 0)).bind fun s1 =>
  match s1 with
  | .inl s2 =>
   if decide ((s2.1.length : Int) < (s2.2.length : Int)) then
    some (-1)
   else
    if decide ((s2.1.length : Int) > (s2.2.length : Int)) then
     some 1
    else
     some 0
  | .inr s3 =>
   some s3
end T
open Go Go.Va
namespace T
theorem spec_l1In_ok (x a b : Int) : spec_l1In x a b = some (decide (a ≤ x ∧ x ≤ b)) := by
 unfold spec_l1In
 by_cases h : a ≤ x <;> simp [h]
def belowB (n : Int) (l : List Int) : Bool := l.all fun x => decide (0 ≤ x ∧ x < n)
theorem impl_inSize_ok {l : List Int} (n : Int) (hl : l.length ≤ 1099511627775) : impl_inSize l n = some (belowB n l) := by
 unfold impl_inSize
 rw [allX l (fun m i => impl_inSize_L2 m (n, l, (l.length : Int), i)) (fun x => decide (0 ≤ x ∧ x < n)) (.inr false) (.inl ()) ?_ ?_ (by unfold fuel; omega)]
 ·unfold belowB; cases l.all (fun x => decide (0 ≤ x ∧ x < n)) <;> simp
 ·intro m k hk
  simp only [impl_inSize_L2, inb_nat, gd_nat hk, w64_succ (show k < 4611686018427387904 by omega)]
  by_cases h1 : l[k] < 0
  ·simp [hk, h1, show ¬ 0 ≤ l[k] by omega]
  ·by_cases h2 : n ≤ l[k]
   ·simp [hk, h1, h2, show ¬ l[k] < n by omega]
   ·simp [hk, h1, h2, show 0 ≤ l[k] ∧ l[k] < n by omega]
 ·intro m
  simp [impl_inSize_L2]
theorem spec_l2Elements_ok {l : List Int} {n : Int} (hn : -9223372036854775808 < n) (hn' : n ≤ 9223372036854775807) (hl : l.length ≤ 1099511627775) : spec_l2Elements n l = some (belowB n l) := by
 unfold spec_l2Elements
 rw [allX l (fun m i => spec_l2Elements_L2 m (n, l, i)) (fun x => decide (0 ≤ x ∧ x < n)) (.inr false) (.inl ()) ?_ ?_ (by unfold fuel; omega)]
 ·unfold belowB; cases l.all (fun x => decide (0 ≤ x ∧ x < n)) <;> simp
 ·intro m k hk
  simp only [spec_l2Elements_L2, inb_nat, gd_nat hk, w64_succ (show k < 4611686018427387904 by omega), spec_l1In_ok, w64_id (show -9223372036854775808 ≤ n - 1 by omega) (show n - 1 ≤ 9223372036854775807 by omega)]
  by_cases h1 : 0 ≤ l[k] ∧ l[k] < n
  ·simp [hk, h1, show l[k] ≤ n - 1 by omega]
  ·have : ¬ (0 ≤ l[k] ∧ l[k] ≤ n - 1) := by omega
   simp [hk, h1, this]
 ·intro m
  simp [spec_l2Elements_L2]
theorem spec_l8Tuple_ok {l : List Int} {n : Int} (k : Int) (hn : -9223372036854775808 < n) (hn' : n ≤ 9223372036854775807) (hl : l.length ≤ 1099511627775) : spec_l8Tuple n k l = some (decide ((l.length : Int) = k) && belowB n l) := by
 unfold spec_l8Tuple
 rw [spec_l2Elements_ok hn hn' hl]
 by_cases h : (l.length : Int) = k <;> simp [h]
end T
open Go Go.Va
namespace T
theorem belowB_get {n : Int} {l : List Int} (h : belowB n l = true) (k : Nat) (hk : k < l.length) : 0 ≤ l[k] ∧ l[k] < n := by
 have := (List.all_eq_true.1 h) l[k] (List.getElem_mem hk)
 simpa using this
section
variable {p v : Int} {rows : List (List Int)} {y : List Int}
end
end T
open Go Go.Va
namespace T
def cmpL : List Int → List Int → Int
 | [], [] => 0
 | [], _ :: _ => -1
 | _ :: _, [] => 1
 | a :: s, b :: t => if a = b then cmpL s t else if a < b then -1 else 1
theorem compare_L2 {s t : List Int} (hs : s.length ≤ 1099511627775) : ∀ (n k : Nat), k ≤ s.length → k ≤ t.length → s.length - k < n →
    (impl_compareLists_L2 n (s, t, (k : Int))).bind (fun s1 => match s1 with
      | .inl s2 => if decide ((s2.1.length : Int) < (s2.2.length : Int)) then some (-1) else if decide ((s2.1.length : Int) > (s2.2.length : Int)) then some 1 else some 0
      | .inr s3 => some s3) = some (cmpL (s.drop k) (t.drop k)) := by
  intro n
  induction n with
  | zero => intro k _ _ h; omega
  | succ n ih =>
    intro k h1 h2 hn
    by_cases k1 : k < s.length
    · by_cases k2 : k < t.length
      · rw [List.drop_eq_getElem_cons k1, List.drop_eq_getElem_cons k2]
        simp only [impl_compareLists_L2, inb_nat, gd_nat k1, gd_nat k2, w64_succ (show k < 4611686018427387904 by omega), cmpL]
        by_cases he : s[k] = t[k]
        · have := ih (k + 1) k1 k2 (by omega)
          simp [k1, k2, he]
          simpa using this
        · by_cases hl : s[k] < t[k] <;> simp [k1, k2, he, hl]
      · rw [List.drop_eq_getElem_cons k1, List.drop_of_length_le (show t.length ≤ k by omega)]
        have e : k = t.length := by omega
        simp only [impl_compareLists_L2, cmpL]
        simp [k1, k2, show ¬ s.length < t.length by omega, show t.length < s.length by omega]
    · rw [List.drop_of_length_le (show s.length ≤ k by omega)]
      simp only [impl_compareLists_L2]
      by_cases k2 : k < t.length
      · rw [List.drop_eq_getElem_cons k2]
        simp [k1, cmpL, show s.length < t.length by omega]
      · rw [List.drop_of_length_le (show t.length ≤ k by omega)]
        simp [k1, cmpL, show ¬ s.length < t.length by omega, show ¬ t.length < s.length by omega]
theorem impl_compareLists_ok {s t : List Int} (hs : s.length ≤ 1099511627775) : impl_compareLists s t = some (cmpL s t) := by
 have := compare_L2 (t := t) hs fuel 0 (Nat.zero_le _) (Nat.zero_le _) (by unfold fuel; omega)
 rw [List.drop_zero, List.drop_zero] at this
 exact this
theorem spec_l3Less_ok {s t : List Int} (hs : s.length ≤ 1099511627775) (hl : s.length = t.length) : spec_l3Less s t = some (decide (cmpL s t < 0)) := by
 have key : ∀ (n k : Nat), k ≤ s.length → s.length - k < n → (spec_l3Less_L2 n (s, t, (k : Int))).bind (fun s1 => match s1 with | .inl _ => some false | .inr s3 => some s3) = some (decide (cmpL (s.drop k) (t.drop k) < 0)) := by
  intro n
  induction n with
  | zero => intro k _ h; omega
  | succ n ih =>
   intro k h1 hn
   by_cases k1 : k < s.length
   ·have k2 : k < t.length := by omega
    rw [List.drop_eq_getElem_cons k1, List.drop_eq_getElem_cons k2]
    simp only [spec_l3Less_L2, inb_nat, gd_nat k1, gd_nat k2, w64_succ (show k < 4611686018427387904 by omega), cmpL]
    by_cases he : s[k] = t[k]
    ·have := ih (k + 1) k1 (by omega)
     simp [k1, k2, he]
     simpa using this
    ·by_cases hl : s[k] < t[k] <;> simp [k1, k2, he, hl]
   ·rw [List.drop_of_length_le (show s.length ≤ k by omega), List.drop_of_length_le (show t.length ≤ k by omega)]
    simp [spec_l3Less_L2, k1, cmpL]
 have := key fuel 0 (Nat.zero_le _) (by unfold fuel; omega)
 rw [List.drop_zero, List.drop_zero] at this
 exact this
theorem spec_l1Same_ok {a b : List Int} (ha : a.length ≤ 1099511627775) : spec_l1Same a b = some (decide (a = b)) := by
 unfold spec_l1Same
 by_cases hl : a.length = b.length
 ·rw [if_neg (by simp [hl]), eqX a b hl (fun n i => spec_l1Same_L4 n (a, b, i)) ?_ ?_ (by unfold fuel; omega)]
  ·by_cases h : a = b <;> simp [h]
  ·intro n k h1 h2
   simp only [spec_l1Same_L4, inb_nat, gd_nat h1, gd_nat h2, w64_succ (show k < 4611686018427387904 by omega)]
   by_cases h : a[k] = b[k] <;> simp [h1, h2, h]
  ·intro n
   simp [spec_l1Same_L4]
 ·rw [if_pos (by simp; omega), decide_eq_false (fun e => hl (by rw [e]))]
theorem cmpL_refl : ∀ s, cmpL s s = 0
 | [] => rfl
 | a :: s => by simp [cmpL, cmpL_refl s]
theorem cmpL_eq : ∀ {s t}, cmpL s t = 0 ↔ s = t
 | [], [] => by simp [cmpL]
 | [], _ :: _ => by simp [cmpL]
 | _ :: _, [] => by simp [cmpL]
 | a :: s, b :: t => by
  simp only [cmpL]
  by_cases h : a = b
  ·rw [if_pos h, cmpL_eq]; simp [h]
  ·rw [if_neg h]; split <;> simp [h]
theorem cmpL_symm : ∀ s t, cmpL t s = - cmpL s t
 | [], [] => by simp [cmpL]
 | [], _ :: _ => by simp [cmpL]
 | _ :: _, [] => by simp [cmpL]
 | a :: s, b :: t => by
  simp only [cmpL]
  by_cases h : a = b
  ·rw [if_pos h, if_pos h.symm, cmpL_symm s t]
  ·rw [if_neg h, if_neg (Ne.symm h)]
   by_cases h2 : a < b
   ·rw [if_pos h2, if_neg (by omega)]; rfl
   ·rw [if_neg h2, if_pos (by omega)]
theorem cmpL_trans : ∀ {s t u}, cmpL s t < 0 → cmpL t u < 0 → cmpL s u < 0
 | [], [], _, h, _ => by simp [cmpL] at h
 | [], _ :: _, [], _, h => by simp [cmpL] at h
 | [], _ :: _, _ :: _, _, _ => by simp [cmpL]
 | _ :: _, [], _, h, _ => by simp [cmpL] at h
 | _ :: _, _ :: _, [], _, h => by simp [cmpL] at h
 | a :: s, b :: t, c :: u, h1, h2 => by
  simp only [cmpL] at *
  by_cases e1 : a = b
  ·rw [if_pos e1] at h1
   by_cases e2 : b = c
   ·rw [if_pos e2] at h2; rw [if_pos (e1.trans e2)]; exact cmpL_trans h1 h2
   ·rw [if_neg e2] at h2; rw [e1, if_neg e2]; exact h2
  ·rw [if_neg e1] at h1
   have l1 : a < b := by
    by_cases h : a < b
    ·exact h
    ·rw [if_neg h] at h1; omega
   by_cases e2 : b = c
   ·rw [← e2, if_neg e1, if_pos l1]; omega
   ·rw [if_neg e2] at h2
    have l2 : b < c := by
     by_cases h : b < c
     ·exact h
     ·rw [if_neg h] at h2; omega
    rw [if_neg (by omega), if_pos (by omega)]; omega
def incB : List (List Int) → Bool
 | a :: b :: l => decide (cmpL a b < 0) && incB (b :: l)
 | _ => true
theorem incB_tail {a : List Int} {l : List (List Int)} (h : incB (a :: l) = true) : incB l = true := by
 cases l with
 | nil => rfl
 | cons b l => simp only [incB, Bool.and_eq_true] at h; exact h.2
theorem incB_head : ∀ {a : List Int} {l : List (List Int)}, incB (a :: l) = true → ∀ b ∈ l, cmpL a b < 0
 | a, [], _, b, hb => by cases hb
 | a, c :: l, h, b, hb => by
  simp only [incB, Bool.and_eq_true, decide_eq_true_eq] at h
  rcases List.mem_cons.1 hb with rfl | hb
  ·exact h.1
  ·exact cmpL_trans h.1 (incB_head h.2 b hb)
theorem incB_lt : ∀ {l : List (List Int)}, incB l = true → ∀ (i j : Nat) (hi : i < j) (hj : j < l.length), cmpL (l[i]'(by omega)) l[j] < 0
 | [], _, i, j, _, hj => by simp at hj
 | a :: l, h, 0, j + 1, _, hj => by
  simp only [List.getElem_cons_zero, List.getElem_cons_succ]
  exact incB_head h _ (List.getElem_mem _)
 | a :: l, h, i + 1, j + 1, hi, hj => by
  simp only [List.getElem_cons_succ]
  exact incB_lt (incB_tail h) i j (by omega) (by simpa using hj)
theorem incB_iff {l : List (List Int)} : incB l = true ↔ ∀ (i : Nat) (hi : i + 1 < l.length), cmpL (l[i]'(by omega)) l[i + 1] < 0 := by
 constructor
 ·exact fun h i hi => incB_lt h i (i + 1) (by omega) hi
 ·induction l with
  | nil => intro _; rfl
  | cons a l ih =>
   intro h
   cases l with
   | nil => rfl
   | cons b l =>
    simp only [incB, Bool.and_eq_true, decide_eq_true_eq]
    exact ⟨h 0 (by simp), ih fun i hi => by have := h (i + 1) (by simpa using hi); simpa using this⟩
end T
open Go Go.Va
namespace T
theorem pow_le_of {n : Int} (h0 : 0 ≤ n) (h8 : n ≤ 8) : ∀ k : Nat, 0 ≤ n ^ k ∧ n ^ k ≤ 8 ^ k
 | 0 => by simp
 | k + 1 => by
  obtain ⟨h1, h2⟩ := pow_le_of h0 h8 k
  rw [Int.pow_succ, Int.pow_succ]
  exact ⟨Int.mul_nonneg h1 h0, Int.mul_le_mul h2 h8 h0 (by have : (0 : Int) ≤ 8 ^ k := Int.le_trans h1 h2; exact this)⟩
theorem pow8_le : ∀ k : Nat, k ≤ 20 → (8 : Int) ^ k ≤ 8 ^ 20 := by
 intro k hk
 have : ((8 ^ k : Nat) : Int) ≤ ((8 ^ 20 : Nat) : Int) := Int.ofNat_le.2 (Nat.pow_le_pow_right (by omega) hk)
 simpa using this
theorem pow_bd {n : Int} (h0 : 0 ≤ n) (h8 : n ≤ 8) {k : Nat} (hk : k ≤ 20) : 0 ≤ n ^ k ∧ n ^ k ≤ 1152921504606846976 := by
  obtain ⟨h1, h2⟩ := pow_le_of h0 h8 k
  have := pow8_le k hk
  exact ⟨h1, by have e : (8 : Int) ^ 20 = 1152921504606846976 := by decide
                omega⟩
theorem l2Pow_L2 {n : Int} (h0 : 0 ≤ n) (h8 : n ≤ 8) : ∀ (m k j : Nat), j + k ≤ 20 → k < m → spec_l2Pow_L2 m (n, (k : Int), n ^ j) = some (n ^ (j + k)) := by
 intro m
 induction m with
 | zero => intro k j _ h; omega
 | succ m ih =>
  intro k j hj hk
  simp only [spec_l2Pow_L2]
  cases k with
  | zero => simp
  | succ k =>
   have e : w64 (((k + 1 : Nat) : Int) - 1) = (k : Int) := by rw [w64_id (by omega) (by omega)]; omega
   have hb := pow_bd h0 h8 (k := j + 1) (by omega)
   rw [Int.pow_succ] at hb
   rw [e, w64_id (by omega) (by omega), ← Int.pow_succ, if_pos (by simp), ih k (j + 1) (by omega) (by omega)]
   congr 2 <;> omega
theorem spec_l2Pow_ok {n : Int} (h0 : 0 ≤ n) (h8 : n ≤ 8) {k : Nat} (hk : k ≤ 20) : spec_l2Pow n (k : Int) = some (n ^ k) := by
 unfold spec_l2Pow
 have := l2Pow_L2 h0 h8 fuel k 0 (by omega) (by unfold fuel; omega)
 rw [Int.pow_zero] at this
 rw [this]; simp
def idxA (n : Int) : Int → List Int → Int
 | i, [] => i
 | i, a :: l => idxA n (i * n + a) l
def idx (n : Int) (l : List Int) : Int := idxA n 0 l
theorem idxA_eq (n : Int) : ∀ (l : List Int) (i : Int), idxA n i l = i * n ^ l.length + idxA n 0 l
 | [], i => by simp [idxA]
 | a :: l, i => by
  simp only [idxA, List.length_cons]
  rw [idxA_eq n l (i * n + a), idxA_eq n l (0 * n + a), Int.pow_succ]
  simp only [Int.zero_mul, Int.zero_add]
  rw [Int.add_mul, Int.mul_assoc, Int.mul_comm n (n ^ l.length)]
  omega
theorem idx_cons (n a : Int) (l : List Int) : idx n (a :: l) = a * n ^ l.length + idx n l := by
 unfold idx
 simp only [idxA]
 rw [idxA_eq]; simp
theorem belowB_cons {n a : Int} {l : List Int} : belowB n (a :: l) = true ↔ (0 ≤ a ∧ a < n) ∧ belowB n l = true := by
 unfold belowB; simp [List.all_cons]
theorem idx_bd {n : Int} : ∀ {l : List Int}, belowB n l = true → 0 ≤ idx n l ∧ idx n l < n ^ l.length
 | [], _ => by simp [idx, idxA]
 | a :: l, h => by
  obtain ⟨h1, h2⟩ := belowB_cons.1 h
  obtain ⟨h3, h4⟩ := idx_bd h2
  rw [idx_cons, List.length_cons, Int.pow_succ]
  have hp : 0 ≤ n ^ l.length := by omega
  have k1 := Int.mul_nonneg h1.1 hp
  have k2 := Int.mul_le_mul_of_nonneg_right (show a + 1 ≤ n by omega) hp
  rw [Int.add_mul, Int.one_mul, Int.mul_comm n] at k2
  exact ⟨by omega, by omega⟩
theorem idx_cmp {n : Int} : ∀ {s t : List Int}, belowB n s = true → belowB n t = true → s.length = t.length → (cmpL s t < 0 ↔ idx n s < idx n t) ∧ (cmpL s t = 0 ↔ idx n s = idx n t)
 | [], [], _, _, _ => by simp [cmpL, idx, idxA]
 | [], _ :: _, _, _, h => by simp at h
 | _ :: _, [], _, _, h => by simp at h
 | a :: s, b :: t, hs, ht, hl => by
  obtain ⟨s1, s2⟩ := belowB_cons.1 hs
  obtain ⟨t1, t2⟩ := belowB_cons.1 ht
  have hl' : s.length = t.length := by simpa using hl
  have ih := idx_cmp s2 t2 hl'
  obtain ⟨b1, b2⟩ := idx_bd s2
  obtain ⟨c1, c2⟩ := idx_bd t2
  rw [idx_cons, idx_cons, hl']
  rw [hl'] at b2
  simp only [cmpL]
  have hp : 0 ≤ n ^ t.length := by omega
  rcases Int.lt_trichotomy a b with h | h | h
  ·have := Int.mul_le_mul_of_nonneg_right (show a + 1 ≤ b by omega) hp
   rw [Int.add_mul, Int.one_mul] at this
   rw [if_neg (by omega), if_pos h]
   exact ⟨by constructor <;> intro <;> omega, by constructor <;> intro <;> omega⟩
  ·subst h
   rw [if_pos rfl]
   exact ⟨by rw [ih.1]; constructor <;> intro <;> omega, by rw [ih.2]; constructor <;> intro <;> omega⟩
  ·have := Int.mul_le_mul_of_nonneg_right (show b + 1 ≤ a by omega) hp
   rw [Int.add_mul, Int.one_mul] at this
   rw [if_neg (by omega), if_neg (by omega)]
   exact ⟨by constructor <;> intro <;> omega, by constructor <;> intro <;> omega⟩
theorem inc_count {n : Int} {k : Nat} {l : List (List Int)} (hi : incB l = true) (hv : ∀ t ∈ l, t.length = k ∧ belowB n t = true) : (l.length : Int) ≤ n ^ k ∨ l = [] := by
 have key : ∀ (i : Nat) (h : i < l.length), (i : Int) ≤ idx n l[i] := by
  intro i
  induction i with
  | zero => intro h; exact (idx_bd (hv _ (List.getElem_mem h)).2).1
  | succ i ih =>
   intro h
   have h1 := ih (by omega)
   obtain ⟨l1, b1⟩ := hv _ (List.getElem_mem (show i < l.length by omega))
   obtain ⟨l2, b2⟩ := hv _ (List.getElem_mem h)
   have := (idx_cmp b1 b2 (l1.trans l2.symm)).1.1 (incB_lt hi i (i + 1) (by omega) h)
   omega
 cases hn : l.length with
 | zero => exact .inr (List.length_eq_zero_iff.1 hn)
 | succ m =>
  left
  have h := key m (by omega)
  obtain ⟨l1, b1⟩ := hv _ (List.getElem_mem (show m < l.length by omega))
  have := (idx_bd b1).2
  rw [l1] at this
  omega
theorem find_L2 {list : List (List Int)} {t : List Int} {k : Nat} (hl : list.length ≤ 1099511627775) (hk : k ≤ 1099511627775) (hv : ∀ u ∈ list, u.length = k) (ht : t.length = k) (hi : incB list = true) : ∀ (m a b : Nat), a ≤ b → b ≤ list.length → b - a < m →
    (∀ i (h : i < list.length), i < a → cmpL list[i] t < 0) → (∀ i (h : i < list.length), b ≤ i → ¬ cmpL list[i] t < 0) →
    ∃ c : Nat, spec_l8Find_L2 m (list, t, (a : Int), (b : Int)) = some (list, t, (c : Int)) ∧ c ≤ list.length ∧ (∀ i (h : i < list.length), i < c → cmpL list[i] t < 0) ∧ (∀ i (h : i < list.length), c ≤ i → ¬ cmpL list[i] t < 0) := by
  intro m
  induction m with
  | zero => intro a b _ _ h; omega
  | succ m ih =>
    intro a b hab hb hm h1 h2
    simp only [spec_l8Find_L2]
    by_cases hlt : a < b
    · have emid : w64 (Int.tdiv (w64 ((a : Int) + b)) 2) = (((a + b) / 2 : Nat) : Int) := by
        rw [w64_id (x := (a : Int) + b) (by omega) (by omega), Int.tdiv_eq_ediv_of_nonneg (by omega), w64_id (by omega) (by omega)]; omega
      have hmid : (a + b) / 2 < list.length := by omega
      rw [emid]
      have hless := spec_l3Less_ok (s := list[(a + b) / 2]) (t := t) (by rw [hv _ (List.getElem_mem hmid)]; omega) (by rw [hv _ (List.getElem_mem hmid), ht])
      simp only [inb_nat, gd_nat hmid, hless, Option.bind_some, w64_succ (show (a + b) / 2 < 4611686018427387904 by omega)]
      by_cases hc : cmpL list[(a + b) / 2] t < 0
      · obtain ⟨c, e, k1, k2, k3⟩ := ih ((a + b) / 2 + 1) b (by omega) hb (by omega) (fun i h hi' => by
          rcases Nat.lt_or_ge i ((a + b) / 2) with h' | h'
          · exact cmpL_trans (incB_lt hi i ((a + b) / 2) h' hmid) hc
          · have : i = (a + b) / 2 := by omega
            subst this; exact hc) h2
        exact ⟨c, by simpa [hlt, hmid, hc] using e, k1, k2, k3⟩
      · obtain ⟨c, e, k1, k2, k3⟩ := ih a ((a + b) / 2) (by omega) (by omega) (by omega) h1 (fun i h hi' hneg => by
          rcases Nat.lt_or_ge ((a + b) / 2) i with h' | h'
          · exact hc (cmpL_trans (incB_lt hi ((a + b) / 2) i h' h) hneg)
          · have : i = (a + b) / 2 := by omega
            subst this; exact hc hneg)
        exact ⟨c, by simpa [hlt, hmid, hc] using e, k1, k2, k3⟩
    · have : a = b := by omega
      subst this
      exact ⟨a, by simp, hb, h1, h2⟩
theorem spec_l8Find_ok {list : List (List Int)} {t : List Int} {k : Nat} (hl : list.length ≤ 1099511627774) (hk : k ≤ 1099511627775) (hv : ∀ u ∈ list, u.length = k) (ht : t.length = k) (hi : incB list = true) :
    ∃ c : Nat, spec_l8Find list t = some ((c : Int), decide (t ∈ list)) ∧ c ≤ list.length ∧ (∀ i (h : i < list.length), i < c → cmpL list[i] t < 0) ∧ (∀ i (h : i < list.length), c ≤ i → ¬ cmpL list[i] t < 0) := by
  obtain ⟨c, e, k1, k2, k3⟩ := find_L2 (by omega) hk hv ht hi fuel 0 list.length (Nat.zero_le _) (Nat.le_refl _) (by unfold fuel; omega) (fun i _ h => by omega) (fun i h h' => by omega)
  refine ⟨c, ?_, k1, k2, k3⟩
  unfold spec_l8Find
  have e' : spec_l8Find_L2 fuel (list, t, 0, (list.length : Int)) = some (list, t, (c : Int)) := e
  rw [e']
  simp only [Option.bind_some]
  by_cases hc : c < list.length
  · have hs := spec_l1Same_ok (a := list[c]) (b := t) (by rw [hv _ (List.getElem_mem hc)]; omega)
    simp only [inb_nat, gd_nat hc, hs, Option.bind_some]
    have : decide (list[c] = t) = decide (t ∈ list) := by
      by_cases h : list[c] = t
      · rw [decide_eq_true h, decide_eq_true (h ▸ List.getElem_mem hc)]
      · rw [decide_eq_false h]
        symm; rw [decide_eq_false_iff_not]
        intro hm
        obtain ⟨j, hj, rfl⟩ := List.mem_iff_getElem.1 hm
        have hne : j ≠ c := fun e => h (by subst e; rfl)
        rcases Nat.lt_or_ge j c with hlt | hge
        · have := k2 j hj hlt; rw [cmpL_refl] at this; omega
        · exact k3 c hc (Nat.le_refl _) (incB_lt hi c j (by omega) hj)
    simp [hc, this]
  · have : decide (t ∈ list) = false := by
      rw [decide_eq_false_iff_not]
      intro hm
      obtain ⟨j, hj, rfl⟩ := List.mem_iff_getElem.1 hm
      have := k2 j hj (by omega); rw [cmpL_refl] at this; omega
    rw [if_neg (by simp; omega), this]
end T
open Go Go.Va
namespace T
def sizeB (n : Int) : Bool := decide (1 ≤ n ∧ n ≤ 8)
theorem impl_isSize_ok (n : Int) : impl_isSize n = some (sizeB n) := by
 unfold impl_isSize sizeB
 by_cases h : 1 ≤ n <;> simp [h]
theorem spec_l6Size_ok (n : Int) : spec_l6Size n = some (sizeB n) := by
 unfold spec_l6Size sizeB
 rw [spec_l1In_ok]; simp
end T
set_option linter.unusedVariables false
open Go Go.Va
namespace T
def spec_l13Good_L4 : Nat → (Int × (Int × (List (List Int))) × Int) → Option ((Unit) ⊕ (Bool))
 | 0, _ => none
 | n + 1, (n_, r, i) =>
  if decide (i < (r.2.length : Int)) then
   if inb i r.2 then
    (spec_l8Tuple n_ r.1 (gd r.2 i [])).bind fun r3 =>
     if !r3 then
      some (.inr false)
     else
      if decide (i > 0) then
       if inb (w64 (i - 1)) r.2 then
        if inb i r.2 then
         (spec_l3Less (gd r.2 (w64 (i - 1)) []) (gd r.2 i [])).bind fun r4 =>
          if !r4 then
           some (.inr false)
          else
           spec_l13Good_L4 n (n_, (r.1, r.2), w64 (i + 1))
        else none
       else none
      else
       spec_l13Good_L4 n (n_, (r.1, r.2), w64 (i + 1))
   else none
  else
   some (.inl ())
def spec_l13Good (n_ : Int) (r : Int × (List (List Int))) : Option (Bool) :=
 (spec_l1In r.1 1 3).bind fun r1 =>
  if !r1 then
   some false
  else
   (spec_l2Pow n_ r.1).bind fun r2 =>
    if decide ((r.2.length : Int) > r2) then
     some false
    else
     (spec_l13Good_L4 fuel (n_, (r.1, r.2), 0)).bind fun s3 =>
      match s3 with
      | .inl s4 =>
       some true
      | .inr s5 =>
       some s5
def spec_l19Is (vars : Int) (size : Int) (c : (List Int) × Int × (List (List Int))) : Option (Bool) :=
 (spec_l13Good size (c.2.1, c.2.2)).bind fun r1 =>
  if r1 then
   if (c.1.length : Int) == c.2.1 then
    (spec_l2Elements vars c.1).bind fun r2 =>
     some r2
   else
    some false
  else
   some false
def spec_l19Good_L4 : Nat → ((Int × Int × (List ((List Int) × Int × (List (List Int))))) × Int) → Option ((Unit) ⊕ (Bool))
 | 0, _ => none
 | n + 1, (net, i) =>
  if decide (i < (net.2.2.length : Int)) then
   if inb i net.2.2 then
    (spec_l19Is net.1 net.2.1 (gd net.2.2 i ([], (0, [])))).bind fun r3 =>
     if !r3 then
      some (.inr false)
     else
      spec_l19Good_L4 n ((net.1, (net.2.1, net.2.2)), w64 (i + 1))
   else none
  else
   some (.inl ())
def spec_l19Good (net : Int × Int × (List ((List Int) × Int × (List (List Int))))) : Option (Bool) :=
 (spec_l1In net.1 0 9).bind fun r1 =>
  if !r1 then
   some false
  else
   (spec_l1In net.2.1 1 4).bind fun r2 =>
    if !r2 then
     some false
    else
     if decide ((net.2.2.length : Int) > 40) then
      some false
     else
      (spec_l19Good_L4 fuel ((net.1, (net.2.1, net.2.2)), 0)).bind fun s3 =>
       match s3 with
       | .inl s4 =>
        some true
       | .inr s5 =>
        some s5
def spec_l1Own (l : List Int) : Option ((List Int)) :=
 if ([] : List Int).length + l.length ≤ lim then
  some ([] ++ l)
 else none
def impl_isTemplateSize (n_ : Int) : Option (Bool) :=
 if decide (n_ ≥ 1) then
  some (decide (n_ ≤ 4))
 else
  some false
def impl_isRelation_L4 : Nat → (Int × (Int × (List (List Int))) × (List (List Int)) × Int × Int) → Option ((Unit) ⊕ (Bool))
 | 0, _ => none
 | n + 1, (n_, r, t16, t17, t18) =>
  if decide (t18 < t17) then
   if inb t18 t16 then
    if ((gd t16 t18 []).length : Int) != r.1 then
     some (.inr false)
    else
     (impl_inSize (gd t16 t18 []) n_).bind fun r1 =>
      if !r1 then
       some (.inr false)
      else
       if decide (t18 > 0) then
        if inb (w64 (t18 - 1)) r.2 then
         (impl_compareLists (gd r.2 (w64 (t18 - 1)) []) (gd t16 t18 [])).bind fun r2 =>
          if decide (r2 ≥ 0) then
           some (.inr false)
          else
           impl_isRelation_L4 n (n_, (r.1, r.2), t16, t17, w64 (t18 + 1))
        else none
       else
        impl_isRelation_L4 n (n_, (r.1, r.2), t16, t17, w64 (t18 + 1))
   else none
  else
   some (.inl ())
def impl_isRelation (n_ : Int) (r : Int × (List (List Int))) : Option (Bool) :=
 if decide (r.1 < 1) then
  some false
 else
  if decide (r.1 > 3) then
   some false
  else
   (impl_isRelation_L4 fuel (n_, (r.1, r.2), r.2, (r.2.length : Int), 0)).bind fun s1 =>
    match s1 with
    | .inl s2 =>
     some true
    | .inr s3 =>
     some s3
def impl_isConstraint (vars : Int) (size : Int) (c : (List Int) × Int × (List (List Int))) : Option (Bool) :=
 (impl_isRelation size (c.2.1, c.2.2)).bind fun r1 =>
  if r1 then
   if (c.1.length : Int) == c.2.1 then
    (impl_inSize c.1 vars).bind fun r2 =>
     some r2
   else
    some false
  else
   some false
def impl_IsNetwork_L4 : Nat → ((Int × Int × (List ((List Int) × Int × (List (List Int))))) × (List ((List Int) × Int × (List (List Int)))) × Int × Int) → Option ((Unit) ⊕ (Bool))
 | 0, _ => none
 | n + 1, (net, t26, t27, t28) =>
  if decide (t28 < t27) then
   if inb t28 t26 then
    (impl_isConstraint net.1 net.2.1 ((gd t26 t28 ([], (0, []))).1, (((gd t26 t28 ([], (0, []))).2).1, ((gd t26 t28 ([], (0, []))).2).2))).bind fun r2 =>
     if !r2 then
      some (.inr false)
     else
      impl_IsNetwork_L4 n ((net.1, (net.2.1, net.2.2)), t26, t27, w64 (t28 + 1))
   else none
  else
   some (.inl ())
def impl_IsNetwork (net : Int × Int × (List ((List Int) × Int × (List (List Int))))) : Option (Bool) :=
 if decide (net.1 < 0) then
  some false
 else
  if decide (net.1 > 9) then
   some false
  else
   (impl_isTemplateSize net.2.1).bind fun r1 =>
    if !r1 then
     some false
    else
     if decide ((net.2.2.length : Int) > 40) then
      some false
     else
      (impl_IsNetwork_L4 fuel ((net.1, (net.2.1, net.2.2)), net.2.2, (net.2.2.length : Int), 0)).bind fun s2 =>
       match s2 with
       | .inl s3 =>
        some true
       | .inr s4 =>
        some s4
def spec_l6Identity_L3 : Nat → (Int × (List Int) × Int) → Option ((List Int))
 | 0, _ => none
 | n + 1, (n_, out, x) =>
  if decide (x < n_) then
   if out.length + [x].length ≤ lim then
    spec_l6Identity_L3 n (n_, out ++ [x], w64 (x + 1))
   else none
  else
   some out
def spec_l6Identity (n_ : Int) : Option ((List Int)) :=
 (spec_l6Identity_L3 fuel (n_, [], 0)).bind fun s1 =>
  some s1
end T
open Go Go.Va
namespace T
abbrev Con := List Int × Int × List (List Int)
abbrev Net := Int × Int × List Con
def rowsS (a : List (List Int)) : Prop := a.length ≤ 1048576 ∧ ∀ r ∈ a, r.length ≤ 1048576
def conS (c : Con) : Prop := c.1.length ≤ 1048576 ∧ rowsS c.2.2
def netS (a : Net) : Prop := a.2.2.length ≤ 1048576 ∧ ∀ c ∈ a.2.2, conS c
def relB (n : Int) (r : Int × List (List Int)) : Bool := decide (1 ≤ r.1 ∧ r.1 ≤ 3) && (r.2.all fun t => decide ((t.length : Int) = r.1) && belowB n t) && incB r.2
def tupAt (n : Int) (r : Int × List (List Int)) (k : Nat) : Bool := decide (((r.2.getD k []).length : Int) = r.1) && belowB n (r.2.getD k []) && (decide (k = 0) || decide (cmpL (r.2.getD (k - 1) []) (r.2.getD k []) < 0))
theorem getD_of {α : Type} {l : List α} {k : Nat} {d : α} (h : k < l.length) : l.getD k d = l[k] := by simp [List.getD_eq_getElem?_getD, h]
theorem tupAt_all {n ar : Int} {ts : List (List Int)} : (List.range ts.length).all (tupAt n (ar, ts)) = ((ts.all fun t => decide ((t.length : Int) = ar) && belowB n t) && incB ts) := by
 rw [Bool.eq_iff_iff, Bool.and_eq_true, List.all_eq_true, List.all_eq_true, incB_iff]
 unfold tupAt
 constructor
 ·intro h
  refine ⟨fun t ht => ?_, fun i hi => ?_⟩
  ·obtain ⟨k, hk, rfl⟩ := List.getElem_of_mem ht
   have := h k (List.mem_range.2 hk)
   rw [getD_of hk] at this
   simp only [Bool.and_eq_true] at this
   rw [Bool.and_eq_true]; exact this.1
  ·have := h (i + 1) (List.mem_range.2 hi)
   rw [getD_of hi, Nat.add_sub_cancel, getD_of (show i < ts.length by omega)] at this
   simp at this
   exact this.2
 ·rintro ⟨h1, h2⟩ k hk
  have hk := List.mem_range.1 hk
  have e := h1 _ (List.getElem_mem hk)
  rw [getD_of hk]
  rw [Bool.and_eq_true] at e
  rw [Bool.and_eq_true, Bool.and_eq_true]
  refine ⟨e, ?_⟩
  cases k with
  | zero => simp
  | succ i =>
   have := h2 i hk
   rw [Nat.add_sub_cancel, getD_of (show i < ts.length by omega)]
   simp [this]
theorem impl_isRelation_ok {n : Int} {r : Int × List (List Int)} (h : rowsS r.2) : impl_isRelation n r = some (relB n r) := by
 obtain ⟨ar, ts⟩ := r
 unfold impl_isRelation relB
 by_cases h1 : ar < 1
 ·simp [h1, show ¬ 1 ≤ ar by omega]
 ·by_cases h2 : ar > 3
  ·simp [h1, h2, show ¬ ar ≤ 3 by omega]
  ·rw [if_neg (by simpa using h1), if_neg (by simpa using h2)]
   have key := forA ts.length (fun m (_ : Unit) i => impl_isRelation_L4 m (n, (ar, ts), ts, (ts.length : Int), i)) (fun _ => ()) (tupAt n (ar, ts)) (r := some (.inr false)) (e := some (.inl ())) (fun m k hk => ?_) (fun m => ?_) (n := fuel) (by unfold fuel; have := h.1; simp at this; omega)
   ·rw [key, tupAt_all]
    simp only [show (1 ≤ ar ∧ ar ≤ 3) = True by simp; omega, decide_true, Bool.true_and]
    cases (ts.all fun t => decide ((t.length : Int) = ar) && belowB n t) && incB ts <;> simp
   ·have hx := h.2 ts[k] (List.getElem_mem hk)
    have hk' := h.1
    simp only at hk'
    simp only [impl_isRelation_L4, inb_nat, gd_nat hk, w64_succ (show k < 4611686018427387904 by omega), impl_inSize_ok n (show ts[k].length ≤ 1099511627775 by omega), tupAt, getD_of hk]
    by_cases hl : (ts[k].length : Int) = ar
    ·cases hb : belowB n ts[k] with
     | false => simp [hk, hl]
     | true =>
      cases k with
      | zero => simp [hk, hl]
      | succ i =>
       have hi : i < ts.length := by omega
       have hx2 := h.2 ts[i] (List.getElem_mem hi)
       have e : w64 (((i + 1 : Nat) : Int) - 1) = (i : Int) := by rw [w64_id (by omega) (by omega)]; omega
       simp only [e, inb_nat, gd_nat hi, Nat.add_sub_cancel, getD_of hi, impl_compareLists_ok (show ts[i].length ≤ 1099511627775 by omega)]
       by_cases hc : cmpL ts[i] ts[i + 1] < 0
       ·simp [hk, hl, hi, hc, show ¬ cmpL ts[i] ts[i + 1] ≥ 0 by omega]; omega
       ·simp [hk, hl, hi, hc, show cmpL ts[i] ts[i + 1] ≥ 0 by omega]; omega
    ·simp [hk, hl]
   ·simp [impl_isRelation_L4]
theorem spec_l13Good_ok {n : Int} {r : Int × List (List Int)} (h : rowsS r.2) (hn : 1 ≤ n ∧ n ≤ 8) : spec_l13Good n r = some (relB n r) := by
 obtain ⟨ar, ts⟩ := r
 unfold spec_l13Good relB
 rw [spec_l1In_ok]
 by_cases h1 : 1 ≤ ar ∧ ar ≤ 3
 ·simp only [h1, and_self, decide_true, Option.bind_some, Bool.not_true, Bool.false_eq_true, if_false, Bool.true_and]
  obtain ⟨m, rfl⟩ : ∃ m : Nat, ar = m := ⟨ar.toNat, by omega⟩
  rw [spec_l2Pow_ok (by omega) (by omega) (by omega)]
  simp only [Option.bind_some]
  have key := forB ts.length (fun m' (_ : Unit) i => spec_l13Good_L4 m' (n, ((m : Int), ts), i)) (fun _ => ()) (tupAt n ((m : Int), ts)) (r := some (.inr false)) (e := some (.inl ())) (fun m' k hk hb0 => ?_) (fun m' _ => ?_) (n := fuel) (by unfold fuel; have := h.1; simp at this; omega)
  ·by_cases hc : (ts.length : Int) > n ^ m
   ·rw [if_pos (by simpa using hc)]
    by_cases hv : ((ts.all fun t => decide ((t.length : Int) = m) && belowB n t) && incB ts) = true
    ·rw [Bool.and_eq_true, List.all_eq_true] at hv
     rcases inc_count (k := m) hv.2 fun t ht => by have := hv.1 t ht; simp at this; exact ⟨by omega, this.2⟩ with h2 | h2
     ·omega
     ·subst h2
      have := pow_bd (n := n) (by omega) (by omega) (k := m) (by omega)
      simp at hc; omega
    ·simp only [Bool.not_eq_true] at hv; rw [hv]
   ·rw [if_neg (by simpa using hc), key, tupAt_all]
    cases (ts.all fun t => decide ((t.length : Int) = m) && belowB n t) && incB ts <;> simp
  ·have hx := h.2 ts[k] (List.getElem_mem hk)
   have hk' := h.1
   simp only at hk'
   simp only [spec_l13Good_L4, inb_nat, gd_nat hk, w64_succ (show k < 4611686018427387904 by omega), spec_l8Tuple_ok (n := n) _ (by omega) (by omega) (show ts[k].length ≤ 1099511627775 by omega), tupAt, getD_of hk]
   by_cases hl : (ts[k].length : Int) = m
   ·cases hb : belowB n ts[k] with
    | false => simp [hk, hl]
    | true =>
     cases k with
     | zero => simp [hk, hl]
     | succ i =>
      have hi : i < ts.length := by omega
      have hx2 := h.2 ts[i] (List.getElem_mem hi)
      have e : w64 (((i + 1 : Nat) : Int) - 1) = (i : Int) := by rw [w64_id (by omega) (by omega)]; omega
      simp only [e, inb_nat, gd_nat hi, Nat.add_sub_cancel, getD_of hi]
      have hb1 := hb0 i (by omega)
      simp only [tupAt, getD_of hi, Bool.and_eq_true, decide_eq_true_eq] at hb1
      rw [spec_l3Less_ok (s := ts[i]) (t := ts[i + 1]) (by omega) (by have := hb1.1.1; omega)]
      by_cases hc : cmpL ts[i] ts[i + 1] < 0
      ·simp [hk, hl, hi, hc]; omega
      ·simp [hk, hl, hi, hc]; omega
   ·simp [hk, hl]
  ·simp [spec_l13Good_L4]
 ·have : ¬ (1 ≤ ar ∧ ar ≤ 3) := h1
  simp [this]
end T
open Go Go.Va
namespace T
def conB (v n : Int) (c : Con) : Bool := relB n (c.2.1, c.2.2) && decide ((c.1.length : Int) = c.2.1) && belowB v c.1
def netB (a : Net) : Bool := decide (0 ≤ a.1 ∧ a.1 ≤ 9) && decide (1 ≤ a.2.1 ∧ a.2.1 ≤ 4) && decide (a.2.2.length ≤ 40) && a.2.2.all (conB a.1 a.2.1)
theorem impl_isConstraint_ok {v n : Int} {c : Con} (h : conS c) : impl_isConstraint v n c = some (conB v n c) := by
 unfold impl_isConstraint conB
 rw [impl_isRelation_ok (r := (c.2.1, c.2.2)) h.2]
 cases relB n (c.2.1, c.2.2) with
 | false => simp
 | true =>
  by_cases hl : (c.1.length : Int) = c.2.1
  ·simp [hl, impl_inSize_ok v (show c.1.length ≤ 1099511627775 by have := h.1; omega)]
  ·simp [hl]
theorem spec_l19Is_ok {v n : Int} {c : Con} (h : conS c) (hv : 0 ≤ v ∧ v ≤ 9) (hn : 1 ≤ n ∧ n ≤ 8) : spec_l19Is v n c = some (conB v n c) := by
 unfold spec_l19Is conB
 rw [spec_l13Good_ok (r := (c.2.1, c.2.2)) h.2 hn]
 cases relB n (c.2.1, c.2.2) with
 | false => simp
 | true =>
  by_cases hl : (c.1.length : Int) = c.2.1
  ·simp [hl, spec_l2Elements_ok (l := c.1) (n := v) (by omega) (by omega) (show c.1.length ≤ 1099511627775 by have := h.1; omega)]
  ·simp [hl]
theorem impl_IsNetwork_ok {a : Net} (h : netS a) : impl_IsNetwork a = some (netB a) := by
 obtain ⟨v, n, cs⟩ := a
 unfold impl_IsNetwork netB
 by_cases h1 : v < 0
 ·simp [h1, show ¬ 0 ≤ v by omega]
 ·by_cases h2 : v > 9
  ·simp [h1, h2, show ¬ v ≤ 9 by omega]
  ·rw [if_neg (by simpa using h1), if_neg (by simpa using h2)]
   unfold impl_isTemplateSize
   by_cases h3 : 1 ≤ n ∧ n ≤ 4
   ·by_cases h4 : cs.length > 40
    ·simp [h3, show ¬ cs.length ≤ 40 by omega]; omega
    ·have key := allX cs (fun m i => impl_IsNetwork_L4 m ((v, (n, cs)), cs, (cs.length : Int), i)) (conB v n) (.inr false) (.inl ()) ?_ ?_ (n := fuel) (by unfold fuel; omega)
     ·simp only [h3, ge_iff_le, decide_true, if_true, Option.bind_some, Bool.not_true, Bool.false_eq_true, if_false]
      rw [if_neg (by simp; omega), key]
      cases cs.all (conB v n) <;> simp <;> omega
     ·intro m k hk
      simp only [impl_IsNetwork_L4, inb_nat, gd_nat hk, w64_succ (show k < 4611686018427387904 by omega), impl_isConstraint_ok (c := cs[k]) (h.2 _ (List.getElem_mem hk))]
      cases hb : conB v n cs[k] <;> simp [hk, hb]
     ·intro m
      simp [impl_IsNetwork_L4]
   ·by_cases h5 : n ≥ 1
    ·simp [h5, show ¬ n ≤ 4 by omega]
    ·simp [h5, show ¬ 1 ≤ n by omega]
theorem spec_l19Good_ok {a : Net} (h : netS a) : spec_l19Good a = some (netB a) := by
 obtain ⟨v, n, cs⟩ := a
 unfold spec_l19Good netB
 rw [spec_l1In_ok, spec_l1In_ok]
 by_cases h1 : 0 ≤ v ∧ v ≤ 9
 ·by_cases h3 : 1 ≤ n ∧ n ≤ 4
  ·by_cases h4 : cs.length > 40
   ·simp [h1, h3, show ¬ cs.length ≤ 40 by omega]; omega
   ·have key := allX cs (fun m i => spec_l19Good_L4 m ((v, (n, cs)), i)) (conB v n) (.inr false) (.inl ()) ?_ ?_ (n := fuel) (by unfold fuel; omega)
    ·simp only [h1, h3, and_self, decide_true, Option.bind_some, Bool.not_true, Bool.false_eq_true, if_false]
     rw [if_neg (by simp; omega), key]
     cases cs.all (conB v n) <;> simp <;> omega
    ·intro m k hk
     simp only [spec_l19Good_L4, inb_nat, gd_nat hk, w64_succ (show k < 4611686018427387904 by omega), spec_l19Is_ok (c := cs[k]) (h.2 _ (List.getElem_mem hk)) h1 (show 1 ≤ n ∧ n ≤ 8 by omega)]
     cases hb : conB v n cs[k] <;> simp [hk, hb]
    ·intro m
     simp [spec_l19Good_L4]
  ·simp [h1, h3]
 ·simp [h1]
structure ConOk (v n : Int) (c : Con) : Prop where
 ar : 1 ≤ c.2.1 ∧ c.2.1 ≤ 3
 sl : (c.1.length : Int) = c.2.1
 sv : ∀ (i : Nat) (hi : i < c.1.length), 0 ≤ c.1[i] ∧ c.1[i] < v
 tl : ∀ t ∈ c.2.2, t.length = c.1.length
 tv : ∀ t ∈ c.2.2, ∀ (i : Nat) (hi : i < t.length), 0 ≤ t[i] ∧ t[i] < n
 inc : incB c.2.2 = true
 many : c.2.2.length ≤ 64
structure NetOk (a : Net) : Prop where
 hv : 0 ≤ a.1 ∧ a.1 ≤ 9
 hn : 1 ≤ a.2.1 ∧ a.2.1 ≤ 4
 hc : a.2.2.length ≤ 40
 con : ∀ c ∈ a.2.2, ConOk a.1 a.2.1 c
theorem con_of {v n : Int} {c : Con} (hn : 1 ≤ n ∧ n ≤ 4) (h : conB v n c = true) : ConOk v n c := by
 unfold conB relB at h
 simp only [Bool.and_eq_true, decide_eq_true_eq, List.all_eq_true] at h
 obtain ⟨⟨⟨⟨h1, h2⟩, h3⟩, h4⟩, h5⟩ := h
 refine ⟨h1, h4, fun i hi => belowB_get h5 i hi, fun t ht => by have := (h2 t ht).1; omega, fun t ht i hi => belowB_get (h2 t ht).2 i hi, h3, ?_⟩
 rcases inc_count (n := n) (k := c.2.1.toNat) h3 fun t ht => ⟨by have := (h2 t ht).1; omega, (h2 t ht).2⟩ with h6 | h6
 ·have : n ^ c.2.1.toNat ≤ 64 := by
   have h7 : c.2.1.toNat = 1 ∨ c.2.1.toNat = 2 ∨ c.2.1.toNat = 3 := by omega
   have h8 : n = 1 ∨ n = 2 ∨ n = 3 ∨ n = 4 := by omega
   rcases h7 with h7 | h7 | h7 <;> rcases h8 with h8 | h8 | h8 | h8 <;> rw [h7, h8] <;> decide
  omega
 ·rw [h6]; simp
theorem net_of {a : Net} (h : netB a = true) : NetOk a := by
 unfold netB at h
 simp only [Bool.and_eq_true, decide_eq_true_eq, List.all_eq_true] at h
 obtain ⟨⟨⟨h1, h2⟩, h3⟩, h4⟩ := h
 exact ⟨h1, h2, h3, fun c hc => con_of h2 (h4 c hc)⟩
end T
open Go Go.Va
namespace T
section
variable {v n up : Int} {c : Con} {vals : List Int}
theorem spec_l1Own_ok {l : List Int} (h : l.length ≤ 1099511627775) : spec_l1Own l = some l := by
 unfold spec_l1Own
 rw [if_pos (by unfold lim; simp; omega)]; simp
end
end T
open Go Go.Va
namespace T
def con0 : Con := ([], 0, [])
section
variable {a : Net} {steps : List Int}
end
end T
open Go Go.Va
namespace T
abbrev Dom := List (List Bool)
def d2 (d : Dom) (v x : Nat) : Bool := (d.getD v []).getD x false
theorem getD_set_of {α : Type} {l : List α} {i j : Nat} {y d : α} : (l.set i y).getD j d = if i = j ∧ j < l.length then y else l.getD j d := by
 simp only [List.getD_eq_getElem?_getD, List.getElem?_set]
 by_cases h : i = j
 ·subst h
  by_cases h2 : i < l.length
  ·simp [h2]
  ·simp [h2]
 ·simp [h]
theorem spec_l6Identity_ok {n : Nat} (h : n ≤ 1048576) : spec_l6Identity n = some ((List.range n).map fun i : Nat => (i : Int)) := by
 unfold spec_l6Identity
 have := forS n (fun m o i => spec_l6Identity_L3 m ((n : Int), o, i)) (fun k => (List.range k).map fun i : Nat => (i : Int)) (r := some ((List.range n).map fun i : Nat => (i : Int))) (fun m k hk => ?_) (fun m => ?_) (n := fuel) (by unfold fuel; omega)
 ·have e : ((List.range 0).map fun i : Nat => (i : Int)) = [] := rfl
  rw [e] at this; rw [this]; rfl
 ·have e : ((List.range k).map fun i : Nat => (i : Int)) ++ [(k : Int)] = (List.range (k + 1)).map fun i : Nat => (i : Int) := by rw [List.range_succ]; simp
  simp only [spec_l6Identity_L3, w64_succ (show k < 4611686018427387904 by omega), e]
  rw [if_pos (by simp; omega), if_pos (by unfold lim; simp; omega)]
 ·simp [spec_l6Identity_L3]
end T
open Go Go.Va
namespace T
theorem w1 : w64 1 = 1 := by rw [w64_def]; rfl
theorem w2 : w64 2 = 2 := by rw [w64_def]; rfl
section
variable {a : Net}
end
end T
set_option linter.unusedVariables false
open Go Go.Va
namespace T
def spec_l13Has (r : Int × (List (List Int))) (t : List Int) : Option (Bool) :=
 if (t.length : Int) != r.1 then
  some false
 else
  (spec_l8Find r.2 t).bind fun r1 =>
   some r1.2
def spec_l19Satisfies_L3 : Nat → ((List Int) × ((List Int) × Int × (List (List Int))) × (List Int) × Int) → Option (((List Int) × Int × (List (List Int))) × (List Int))
 | 0, _ => none
 | n + 1, (values, c, t, i) =>
  if decide (i < (c.1.length : Int)) then
   if inb i c.1 then
    if inb (gd c.1 i 0) values then
     if t.length + [gd values (gd c.1 i 0) 0].length ≤ lim then
      spec_l19Satisfies_L3 n (values, (c.1, (c.2.1, c.2.2)), t ++ [gd values (gd c.1 i 0) 0], w64 (i + 1))
     else none
    else none
   else none
  else
   some ((c.1, (c.2.1, c.2.2)), t)
def spec_l19Satisfies (c : (List Int) × Int × (List (List Int))) (values : List Int) : Option (Bool) :=
 (spec_l19Satisfies_L3 fuel (values, (c.1, (c.2.1, c.2.2)), [], 0)).bind fun s1 =>
  (spec_l13Has (s1.1.2.1, s1.1.2.2) s1.2).bind fun r2 =>
   some r2
def impl_compose_L3 : Nat → ((List Int) × (List Int) × (List Int) × Int × Int) → Option ((List Int))
 | 0, _ => none
 | n + 1, (g, h, t11, t12, t13) =>
  if decide (t13 < t12) then
   if inb t13 t11 then
    if inb (gd t11 t13 0) g then
     if inb t13 h then
      impl_compose_L3 n (g, stt h t13 (gd g (gd t11 t13 0) 0), t11, t12, w64 (t13 + 1))
     else none
    else none
   else none
  else
   some h
def impl_compose (f : List Int) (g : List Int) : Option ((List Int)) :=
 if 0 ≤ (f.length : Int) ∧ (f.length : Int) ≤ (f.length : Int) ∧ (f.length : Int) ≤ lim then
  (impl_compose_L3 fuel (g, List.replicate (Int.toNat (f.length : Int)) (0 : Int), f, (f.length : Int), 0)).bind fun s1 =>
   some s1
 else none
def impl_sameList_L4 : Nat → ((List Int) × (List Int) × Int × Int) → Option ((Unit) ⊕ (Bool))
 | 0, _ => none
 | n + 1, (b, t12, t13, t14) =>
  if decide (t14 < t13) then
   if inb t14 t12 then
    if inb t14 b then
     if (gd b t14 0) != (gd t12 t14 0) then
      some (.inr false)
     else
      impl_sameList_L4 n (b, t12, t13, w64 (t14 + 1))
    else none
   else none
  else
   some (.inl ())
def impl_sameList (a : List Int) (b : List Int) : Option (Bool) :=
 if (a.length : Int) != (b.length : Int) then
  some false
 else
  (impl_sameList_L4 fuel (b, a, (a.length : Int), 0)).bind fun s1 =>
   match s1 with
   | .inl s2 =>
    some true
   | .inr s3 =>
    some s3
def impl_hasRow_L2 : Nat → ((List Int) × (List (List Int)) × Int × Int) → Option ((Unit) ⊕ (Bool))
 | 0, _ => none
 | n + 1, (t, t8, t9, t10) =>
  if decide (t10 < t9) then
   if inb t10 t8 then
    (impl_sameList t (gd t8 t10 [])).bind fun r1 =>
     if r1 then
      some (.inr true)
     else
      impl_hasRow_L2 n (t, t8, t9, w64 (t10 + 1))
   else none
  else
   some (.inl ())
def impl_hasRow (r : Int × (List (List Int))) (t : List Int) : Option (Bool) :=
 (impl_hasRow_L2 fuel (t, r.2, (r.2.length : Int), 0)).bind fun s1 =>
  match s1 with
  | .inl s2 =>
   some false
  | .inr s3 =>
   some s3
end T
open Go Go.Va
namespace T
def valI (vs : List Int) (v : Int) : Int := vs.getD v.toNat 0
def conH (vs : List Int) (c : Con) : Bool := decide (c.1.map (valI vs) ∈ c.2.2)
section
variable {a : Net}
theorem impl_compose_ok {f g : List Int} (hf : f.length ≤ 1048576) (hg : ∀ v ∈ f, 0 ≤ v ∧ v < g.length) : impl_compose f g = some (f.map (valI g)) := by
 unfold impl_compose
 rw [if_pos (by unfold lim; omega)]
 have := fillX0 f (fun n o i => impl_compose_L3 n (g, o, f, (f.length : Int), i)) (valI g) some (fun n o k hk hlo => ?_) (fun n o hlo => ?_) (n := fuel) (out := List.replicate (Int.toNat (f.length : Int)) (0 : Int)) (by simp) (by unfold fuel; omega)
 ·simp only [this, Option.bind_some]
 ·have hko : k < o.length := by omega
  have hv := hg _ (List.getElem_mem hk)
  have e : gd g f[k] 0 = valI g f[k] := rfl
  simp only [impl_compose_L3, inb_nat, gd_nat hk, stt_nat, w64_succ (show k < 4611686018427387904 by omega), e]
  rw [if_pos (by simp; omega), if_pos hk, if_pos (show inb f[k] g from hv), if_pos hko]
 ·simp [impl_compose_L3]
theorem impl_sameList_ok {x y : List Int} (h : x.length ≤ 1048576) : impl_sameList x y = some (decide (x = y)) := by
 unfold impl_sameList
 by_cases hl : x.length = y.length
 ·rw [if_neg (by simp [hl])]
  rw [eqX x y hl (fun n i => impl_sameList_L4 n (y, x, (x.length : Int), i)) (fun n k h1 h2 => ?_) (fun n => ?_) (n := fuel) (by unfold fuel; omega)]
  ·by_cases e : x = y <;> simp [e]
  ·simp only [impl_sameList_L4, inb_nat, gd_nat h1, gd_nat h2, w64_succ (show k < 4611686018427387904 by omega)]
   by_cases e : x[k] = y[k]
   ·simp [h1, h2, e]
   ·have e' : y[k] ≠ x[k] := fun h => e h.symm
    simp [h1, h2, e, e']
  ·simp [impl_sameList_L4]
 ·have : x ≠ y := fun e => hl (by rw [e])
  rw [if_pos (by simp; omega)]; simp [this]
theorem impl_hasRow_ok {r : Int × List (List Int)} {t : List Int} (ht : t.length ≤ 1048576) (hr : r.2.length ≤ 1048576) : impl_hasRow r t = some (decide (t ∈ r.2)) := by
 unfold impl_hasRow
 rw [allX r.2 (fun n i => impl_hasRow_L2 n (t, r.2, (r.2.length : Int), i)) (fun y => !decide (t = y)) (.inr true) (.inl ()) ?_ ?_ (by unfold fuel; omega)]
 ·by_cases hx : t ∈ r.2
  ·rw [if_neg]
   ·simp [hx]
   ·rw [List.all_eq_true]; intro h; have := h t hx; simp at this
  ·rw [if_pos]
   ·simp [hx]
   ·rw [List.all_eq_true]; intro y hy; have : t ≠ y := fun e => hx (e ▸ hy)
    simp [this]
 ·intro n k hk
  simp only [impl_hasRow_L2, inb_nat, gd_nat hk, w64_succ (show k < 4611686018427387904 by omega), impl_sameList_ok ht, Option.bind_some]
  by_cases e : t = (r.2)[k] <;> simp [hk, e]
 ·intro n; simp [impl_hasRow_L2]
theorem spec_l19Satisfies_ok {v n : Int} {c : Con} (h : ConOk v n c) {vs : List Int} (hv : (vs.length : Int) = v) : spec_l19Satisfies c vs = some (conH vs c) := by
 unfold spec_l19Satisfies
 have hsl := h.sl
 have har := h.ar
 have hm := h.many
 have := forS c.1.length (fun n (o : List Int) i => spec_l19Satisfies_L3 n (vs, (c.1, (c.2.1, c.2.2)), o, i)) (fun k => (c.1.take k).map (valI vs)) (r := some ((c.1, (c.2.1, c.2.2)), c.1.map (valI vs))) (fun n k hk => ?_) (fun n => ?_) (n := fuel) (by unfold fuel; omega)
 ·simp only [List.take_zero, List.map_nil] at this
  simp only [this, Option.bind_some]
  unfold spec_l13Has
  have hl : ((c.1.map (valI vs)).length : Int) = c.2.1 := by rw [List.length_map]; exact hsl
  rw [if_neg (by simpa using hsl)]
  obtain ⟨q, e, _⟩ := spec_l8Find_ok (list := c.2.2) (t := c.1.map (valI vs)) (k := c.1.length) (by omega) (by omega) h.tl (by simp) h.inc
  simp only [e, Option.bind_some]; rfl
 ·have hvk := h.sv k hk
  have e : gd vs c.1[k] 0 = valI vs c.1[k] := rfl
  have hi : inb c.1[k] vs := by unfold inb; omega
  simp only [spec_l19Satisfies_L3, inb_nat, gd_nat hk, e, w64_succ (show k < 4611686018427387904 by omega)]
  rw [List.take_succ_eq_append_getElem hk, List.map_append]
  rw [if_pos (by simp; omega), if_pos hk, if_pos hi, if_pos (by unfold lim; simp; omega)]; rfl
 ·simp only [spec_l19Satisfies_L3, List.take_length]
  rw [if_neg (by simp)]
end
end T
open Go Go.Va
namespace T
abbrev T3 := List (List (List Bool))
abbrev T4 := List (List (List (List Bool)))
def Cell4 (s : Nat) (c : List (List Bool)) : Prop := c.length = s ∧ ∀ x, x < s → (c.getD x []).length = s
def Row4 (n s : Nat) (r : T3) : Prop := r.length = n ∧ ∀ j, j < n → Cell4 s (r.getD j [])
def Ok4 (n s : Nat) (t : T4) : Prop := t.length = n ∧ ∀ i, i < n → Row4 n s (t.getD i [])
def r4 (t : T4) (i j x y : Nat) : Bool := (((t.getD i []).getD j []).getD x []).getD y false
def s4 (t : T4) (i j x y : Nat) (b : Bool) : T4 := t.set i ((t.getD i []).set j (((t.getD i []).getD j []).set x ((((t.getD i []).getD j []).getD x []).set y b)))
def Ok3 (n m : Nat) (u : T3) : Prop := u.length = n ∧ ∀ i, i < n → (u.getD i []).length = n ∧ ∀ j, j < n → ((u.getD i []).getD j []).length = m
def r3 (u : T3) (i j p : Nat) : Bool := ((u.getD i []).getD j []).getD p false
def s3 (u : T3) (i j p : Nat) (b : Bool) : T3 := u.set i ((u.getD i []).set j (((u.getD i []).getD j []).set p b))
section
variable {n s m : Nat} {t : T4} {u : T3}
theorem Ok4.at (h : Ok4 n s t) {i j x : Nat} (hi : i < n) (hj : j < n) (hx : x < s) : i < t.length ∧ j < (t.getD i []).length ∧ x < ((t.getD i []).getD j []).length ∧ (((t.getD i []).getD j []).getD x []).length = s :=
 ⟨by rw [h.1]; exact hi, by rw [(h.2 i hi).1]; exact hj, by rw [((h.2 i hi).2 j hj).1]; exact hx, ((h.2 i hi).2 j hj).2 x hx⟩
theorem Ok3.at (h : Ok3 n m u) {i j : Nat} (hi : i < n) (hj : j < n) : i < u.length ∧ j < (u.getD i []).length ∧ ((u.getD i []).getD j []).length = m :=
 ⟨by rw [h.1]; exact hi, by rw [(h.2 i hi).1]; exact hj, (h.2 i hi).2 j hj⟩
theorem s4_ok (h : Ok4 n s t) {i j x y : Nat} {b : Bool} : Ok4 n s (s4 t i j x y b) := by
 unfold s4
 refine ⟨by rw [List.length_set]; exact h.1, fun i' hi' => ?_⟩
 rw [getD_set_of]
 split
 ·rename_i hc
  obtain ⟨rfl, _⟩ := hc
  have hr := h.2 i hi'
  refine ⟨by rw [List.length_set]; exact hr.1, fun j' hj' => ?_⟩
  rw [getD_set_of]
  split
  ·rename_i hc
   obtain ⟨rfl, _⟩ := hc
   have hcl := hr.2 j hj'
   refine ⟨by rw [List.length_set]; exact hcl.1, fun x' hx' => ?_⟩
   rw [getD_set_of]
   split
   ·rename_i hc
    obtain ⟨rfl, _⟩ := hc
    rw [List.length_set]; exact hcl.2 x hx'
   ·exact hcl.2 x' hx'
  ·exact hr.2 j' hj'
 ·exact h.2 i' hi'
theorem s3_ok (h : Ok3 n m u) {i j p : Nat} {b : Bool} : Ok3 n m (s3 u i j p b) := by
 unfold s3
 refine ⟨by rw [List.length_set]; exact h.1, fun i' hi' => ?_⟩
 rw [getD_set_of]
 split
 ·rename_i hc
  obtain ⟨rfl, _⟩ := hc
  have hr := h.2 i hi'
  refine ⟨by rw [List.length_set]; exact hr.1, fun j' hj' => ?_⟩
  rw [getD_set_of]
  split
  ·rename_i hc
   obtain ⟨rfl, _⟩ := hc
   rw [List.length_set]; exact hr.2 j hj'
  ·exact hr.2 j' hj'
 ·exact h.2 i' hi'
theorem r4_s4 (h : Ok4 n s t) {i j x y : Nat} {b : Bool} (hi : i < n) (hj : j < n) (hx : x < s) (hy : y < s) (i' j' x' y' : Nat) :
    r4 (s4 t i j x y b) i' j' x' y' = if i = i' ∧ j = j' ∧ x = x' ∧ y = y' then b else r4 t i' j' x' y' := by
  obtain ⟨h1, h2, h3, h4⟩ := h.at hi hj hx
  unfold r4 s4
  rw [getD_set_of]
  by_cases e1 : i = i'
  · subst e1
    rw [if_pos ⟨rfl, h1⟩, getD_set_of]
    by_cases e2 : j = j'
    · subst e2
      rw [if_pos ⟨rfl, h2⟩, getD_set_of]
      by_cases e3 : x = x'
      · subst e3
        rw [if_pos ⟨rfl, h3⟩, getD_set_of]
        by_cases e4 : y = y'
        · subst e4; rw [if_pos ⟨rfl, by omega⟩, if_pos ⟨rfl, rfl, rfl, rfl⟩]
        · rw [if_neg (by omega), if_neg (by omega)]
      · rw [if_neg (by omega), if_neg (by omega)]
    · rw [if_neg (by omega), if_neg (by omega)]
  · rw [if_neg (by omega), if_neg (by omega)]
theorem r3_s3 (h : Ok3 n m u) {i j p : Nat} {b : Bool} (hi : i < n) (hj : j < n) (hp : p < m) (i' j' p' : Nat) :
    r3 (s3 u i j p b) i' j' p' = if i = i' ∧ j = j' ∧ p = p' then b else r3 u i' j' p' := by
  obtain ⟨h1, h2, h3⟩ := h.at hi hj
  unfold r3 s3
  rw [getD_set_of]
  by_cases e1 : i = i'
  · subst e1
    rw [if_pos ⟨rfl, h1⟩, getD_set_of]
    by_cases e2 : j = j'
    · subst e2
      rw [if_pos ⟨rfl, h2⟩, getD_set_of]
      by_cases e3 : p = p'
      · subst e3; rw [if_pos ⟨rfl, by omega⟩, if_pos ⟨rfl, rfl, rfl⟩]
      · rw [if_neg (by omega), if_neg (by omega)]
    · rw [if_neg (by omega), if_neg (by omega)]
  · rw [if_neg (by omega), if_neg (by omega)]
end
structure Rel34 (n s : Nat) (t : T4) (u : T3) : Prop where
 o4 : Ok4 n s t
 o3 : Ok3 n (s * s) u
 eq : ∀ i j x y, i < j → j < n → x < s → y < s → r4 t i j x y = r3 u i j (x * s + y) ∧ r4 t j i y x = r3 u i j (x * s + y)
theorem cell_lt {s x y : Nat} (hx : x < s) (hy : y < s) : x * s + y < s * s := by
 have : (x + 1) * s ≤ s * s := Nat.mul_le_mul_right _ hx
 rw [Nat.succ_mul] at this; omega
theorem cell_inj {s x y x' y' : Nat} (hy : y < s) (hy' : y' < s) (h : x * s + y = x' * s + y') : x = x' ∧ y = y' := by
 have h1 : (x * s + y) / s = x := by rw [Nat.mul_comm, Nat.mul_add_div (by omega), Nat.div_eq_of_lt hy]; omega
 have h2 : (x' * s + y') / s = x' := by rw [Nat.mul_comm, Nat.mul_add_div (by omega), Nat.div_eq_of_lt hy']; omega
 have : x = x' := by rw [← h1, ← h2, h]
 subst this
 exact ⟨rfl, by omega⟩
theorem Rel34.drop {n s : Nat} {t : T4} {u : T3} (h : Rel34 n s t u) {i j x y : Nat} (hij : i < j) (hj : j < n) (hx : x < s) (hy : y < s) :
    Rel34 n s (s4 (s4 t i j x y false) j i y x false) (s3 u i j (x * s + y) false) := by
  refine ⟨s4_ok (s4_ok h.o4), s3_ok h.o3, fun i' j' x' y' h1 h2 h3 h4 => ?_⟩
  have hi : i < n := by omega
  rw [r4_s4 (s4_ok h.o4) hj hi hy hx, r4_s4 h.o4 hi hj hx hy, r4_s4 (s4_ok h.o4) hj hi hy hx, r4_s4 h.o4 hi hj hx hy, r3_s3 h.o3 hi hj (cell_lt hx hy)]
  obtain ⟨e1, e2⟩ := h.eq i' j' x' y' h1 h2 h3 h4
  by_cases e : i = i' ∧ j = j' ∧ x = x' ∧ y = y'
  · obtain ⟨rfl, rfl, rfl, rfl⟩ := e
    simp
  · have e3 : ¬ (i = i' ∧ j = j' ∧ x * s + y = x' * s + y') := fun ⟨q1, q2, q3⟩ => by
      have := cell_inj hy h4 q3
      exact e ⟨q1, q2, this.1, this.2⟩
    have e4 : ¬ (j = i' ∧ i = j' ∧ y = x' ∧ x = y') := by omega
    have e5 : ¬ (i = j' ∧ j = i' ∧ x = y' ∧ y = x') := by omega
    have e6 : ¬ (j = j' ∧ i = i' ∧ y = y' ∧ x = x') := by omega
    simp only [if_neg e, if_neg e3, if_neg e4, if_neg e5, if_neg e6]
    exact ⟨e1, e2⟩
end T
open Go Go.Va
namespace T
section
variable {a : Net} {n s : Nat} {t : T4} {u : T3}
def PA (n s i : Nat) (t : T4) : Prop := t.length = n ∧ ∀ i', i' < i → Row4 n s (t.getD i' [])
def PB (n s i j : Nat) (t : T4) : Prop := PA n s i t ∧ (t.getD i []).length = n ∧ ∀ j', j' < j → Cell4 s ((t.getD i []).getD j' [])
theorem PA.set {i : Nat} (h : PA n s i t) (r : T3) : PA n s i (t.set i r) := by
 refine ⟨by rw [List.length_set]; exact h.1, fun i' hi' => ?_⟩
 rw [getD_set_of, if_neg (by omega)]; exact h.2 i' hi'
theorem PB.set {i j : Nat} (h : PB n s i j t) (hi : i < n) (c : List (List Bool)) : PB n s i j (t.set i ((t.getD i []).set j c)) := by
 have hl := h.1.1
 refine ⟨h.1.set _, ?_, fun j' hj' => ?_⟩
 ·rw [getD_set_of, if_pos ⟨rfl, by omega⟩, List.length_set]; exact h.2.1
 ·rw [getD_set_of, if_pos ⟨rfl, by omega⟩, getD_set_of, if_neg (by omega)]; exact h.2.2 j' hj'
end
end T
open Go Go.Va
namespace T
section
variable {a : Net} {n s : Nat} {t : T4} {u : T3}
def cI (o : List Nat) : List Int := o.map fun x : Nat => (x : Int)
end
end T
set_option linter.unusedVariables false
open Go Go.Va
namespace T
def impl_keyOf_L3 : Nat → ((List Int) × (List Int) × Int × Int) → Option ((List Int))
 | 0, _ => none
 | n + 1, (b, t10, t11, t12) =>
  if decide (t12 < t11) then
   if inb t12 t10 then
    if (0 : Int) ≤ 8 then
     if b.length + [IntKind.wrap .u8 (shrI .i64 (gd t10 t12 0) 8), IntKind.wrap .u8 (gd t10 t12 0)].length ≤ lim then
      impl_keyOf_L3 n (b ++ [IntKind.wrap .u8 (shrI .i64 (gd t10 t12 0) 8), IntKind.wrap .u8 (gd t10 t12 0)], t10, t11, w64 (t12 + 1))
     else none
    else none
   else none
  else
   some b
def impl_keyOf (list : List Int) : Option (ByteArray) :=
 if (0 : Int) ≤ 0 ∧ (0 : Int) ≤ (w64 (2 * (list.length : Int))) ∧ (w64 (2 * (list.length : Int))) ≤ lim then
  (impl_keyOf_L3 fuel (List.replicate (Int.toNat 0) (0 : Int), list, (list.length : Int), 0)).bind fun s1 =>
   some (bytesOf s1)
 else none
def impl_tupleSet_L3 : Nat → ((List ByteArray) × (List (List Int)) × Int × Int) → Option ((List ByteArray))
 | 0, _ => none
 | n + 1, (set, t8, t9, t10) =>
  if decide (t10 < t9) then
   if inb t10 t8 then
    (impl_keyOf (gd t8 t10 [])).bind fun r1 =>
     impl_tupleSet_L3 n (mput set r1, t8, t9, w64 (t10 + 1))
   else none
  else
   some set
def impl_tupleSet (r : Int × (List (List Int))) : Option ((List ByteArray)) :=
 (impl_tupleSet_L3 fuel ([], r.2, (r.2.length : Int), 0)).bind fun s1 =>
  some s1
def spec_l19Fault_L2 : Nat → ((List Int) × (Int × Int × (List ((List Int) × Int × (List (List Int))))) × Int) → Option ((Unit) ⊕ (Int))
 | 0, _ => none
 | n + 1, (values, net, i) =>
  if decide (i < (net.2.2.length : Int)) then
   if inb i net.2.2 then
    (spec_l19Satisfies (gd net.2.2 i ([], (0, []))) values).bind fun r1 =>
     if !r1 then
      some (.inr i)
     else
      spec_l19Fault_L2 n (values, (net.1, (net.2.1, net.2.2)), w64 (i + 1))
   else none
  else
   some (.inl ())
def spec_l19Fault (net : Int × Int × (List ((List Int) × Int × (List (List Int))))) (values : List Int) : Option (Int) :=
 (spec_l19Fault_L2 fuel (values, (net.1, (net.2.1, net.2.2)), 0)).bind fun s1 =>
  match s1 with
  | .inl s2 =>
   some (-1)
  | .inr s3 =>
   some s3
def impl_unsatisfied_L2 : Nat → ((List Int) × (List ((List Int) × Int × (List (List Int)))) × Int × Int) → Option ((Unit) ⊕ (Int))
 | 0, _ => none
 | n + 1, (values, t8, t9, t10) =>
  if decide (t10 < t9) then
   if inb t10 t8 then
    (impl_compose ((gd t8 t10 ([], (0, []))).1) values).bind fun r1 =>
     (impl_hasRow (((gd t8 t10 ([], (0, []))).2).1, ((gd t8 t10 ([], (0, []))).2).2) r1).bind fun r2 =>
      if !r2 then
       some (.inr t10)
      else
       impl_unsatisfied_L2 n (values, t8, t9, w64 (t10 + 1))
   else none
  else
   some (.inl ())
def impl_unsatisfied (net : Int × Int × (List ((List Int) × Int × (List (List Int))))) (values : List Int) : Option (Int) :=
 (impl_unsatisfied_L2 fuel (values, net.2.2, (net.2.2.length : Int), 0)).bind fun s1 =>
  match s1 with
  | .inl s2 =>
   some (-1)
  | .inr s3 =>
   some s3
end T
open Go Go.Va
namespace T
def kb (l : List Int) : List Int := l.flatMap fun x => [0, x]
def keyB (l : List Int) : ByteArray := bytesOf (kb l)
theorem u8_small {x : Int} (h0 : 0 ≤ x) (h1 : x < 256) : IntKind.wrap .u8 x = x := by
 simp [IntKind.wrap, IntKind.bits, IntKind.signed]
 omega
theorem shr_small {x : Int} (h0 : 0 ≤ x) (h1 : x < 256) : shrI .i64 x 8 = 0 := by
 unfold shrI
 have : (min (8 : Int).toNat IntKind.i64.bits) = 8 := by decide
 rw [this, Int.fdiv_eq_ediv_of_nonneg _ (by decide)]
 have : (2 : Int) ^ 8 = 256 := by decide
 rw [this]; omega
theorem impl_keyOf_ok {l : List Int} (hl : l.length ≤ 1048576) (hv : ∀ x ∈ l, 0 ≤ x ∧ x < 256) : impl_keyOf l = some (keyB l) := by
 unfold impl_keyOf
 have e2 : w64 (2 * (l.length : Int)) = 2 * (l.length : Int) := w64_id (by omega) (by omega)
 rw [e2, if_pos (by unfold lim; omega)]
 have kbl : ∀ k, k ≤ l.length → (kb (l.take k)).length = 2 * k := by
  intro k hk
  have : ∀ l : List Int, (kb l).length = 2 * l.length := by
   intro l
   induction l with
   | nil => rfl
   | cons x l ih => unfold kb at ih ⊢; simp only [List.flatMap_cons, List.length_append, ih, List.length_cons, List.length_nil]; omega
  rw [this]; simp; omega
 have := forS l.length (fun m o i => impl_keyOf_L3 m (o, l, (l.length : Int), i)) (fun k => kb (l.take k)) (r := some (kb l)) (fun m k hk => ?_) (fun m => ?_) (n := fuel) (by unfold fuel; omega)
 ·have e0 : kb (l.take 0) = [] := rfl
  rw [e0] at this
  have : impl_keyOf_L3 fuel (List.replicate (Int.toNat 0) (0 : Int), l, (l.length : Int), 0) = some (kb l) := this
  rw [this]; rfl
 ·have hx := hv _ (List.getElem_mem hk)
  have hlen := kbl k (by omega)
  have e : kb (l.take (k + 1)) = kb (l.take k) ++ [0, l[k]] := by
   unfold kb; rw [List.take_succ_eq_append_getElem hk, List.flatMap_append]; simp
  simp only [impl_keyOf_L3, inb_nat, gd_nat hk, w64_succ (show k < 4611686018427387904 by omega), u8_small hx.1 hx.2, shr_small hx.1 hx.2, u8_small (show (0 : Int) ≤ 0 by omega) (show (0 : Int) < 256 by omega), e]
  rw [if_pos (by simp; omega), if_pos hk, if_pos (by omega), if_pos (by unfold lim; simp; omega)]
 ·simp only [impl_keyOf_L3, List.take_length]
  rw [if_neg (by simp)]
theorem bytes_data : ∀ (xs : List Int) (s : ByteArray), (xs.foldl (fun s n => s.push (UInt8.ofNat n.toNat)) s).data = s.data ++ (xs.map fun n => UInt8.ofNat n.toNat).toArray
 | [], s => by simp
 | x :: xs, s => by
  rw [List.foldl_cons, bytes_data xs]
  apply Array.ext'
  simp [ByteArray.push]
theorem kb_inj : ∀ (l l' : List Int), (∀ x ∈ l, 0 ≤ x ∧ x < 256) → (∀ x ∈ l', 0 ≤ x ∧ x < 256) → (kb l).map (fun n => UInt8.ofNat n.toNat) = (kb l').map (fun n => UInt8.ofNat n.toNat) → l = l'
 | [], [], _, _, _ => rfl
 | [], y :: l', _, _, h => by simp [kb] at h
 | x :: l, [], _, _, h => by simp [kb] at h
 | x :: l, y :: l', hv, hv', h => by
  simp only [kb, List.flatMap_cons, List.map_append, List.map_cons, List.map_nil, List.cons_append, List.nil_append, List.cons.injEq, true_and] at h
  obtain ⟨h1, h2⟩ := h
  have hx := hv x (by simp)
  have hy := hv' y (by simp)
  have h1 := congrArg UInt8.toNat h1
  simp only [UInt8.toNat_ofNat'] at h1
  have : x = y := by omega
  rw [this, kb_inj l l' (fun z hz => hv z (List.mem_cons_of_mem _ hz)) (fun z hz => hv' z (List.mem_cons_of_mem _ hz)) h2]
theorem keyB_inj {l l' : List Int} (hv : ∀ x ∈ l, 0 ≤ x ∧ x < 256) (hv' : ∀ x ∈ l', 0 ≤ x ∧ x < 256) (h : keyB l = keyB l') : l = l' := by
 have h := congrArg ByteArray.data h
 unfold keyB bytesOf at h
 rw [bytes_data, bytes_data] at h
 have h := congrArg Array.toList h
 simp only [Array.toList_append] at h
 exact kb_inj l l' hv hv' (List.append_cancel_left h)
theorem ba_eq' {a b : ByteArray} : (a == b) = decide (a = b) := by
 show (a.data == b.data) = _
 rw [Bool.eq_iff_iff, beq_iff_eq, decide_eq_true_eq]
 exact ⟨fun h => ByteArray.ext h, fun h => congrArg ByteArray.data h⟩
theorem mhas_mem {ks : List ByteArray} {s : ByteArray} : mhas ks s = true ↔ s ∈ ks := by
 unfold mhas
 rw [List.any_eq_true]
 constructor
 ·rintro ⟨k, h1, h2⟩; rw [ba_eq', decide_eq_true_eq] at h2; subst h2; exact h1
 ·intro h; exact ⟨s, h, by rw [ba_eq']; simp⟩
theorem mput_mem {ks : List ByteArray} {s t : ByteArray} : t ∈ mput ks s ↔ t ∈ ks ∨ t = s := by
 unfold mput
 by_cases h : mhas ks s = true
 ·rw [if_pos h]
  exact ⟨.inl, fun h' => h'.elim id fun e => e ▸ mhas_mem.1 h⟩
 ·rw [if_neg h]; simp
def keys (l : List (List Int)) : List ByteArray := l.foldl (fun ks t => mput ks (keyB t)) []
theorem keys_mem {l : List (List Int)} {s : ByteArray} : s ∈ keys l ↔ ∃ t ∈ l, s = keyB t := by
 have key : ∀ (l : List (List Int)) (ks : List ByteArray), s ∈ l.foldl (fun ks t => mput ks (keyB t)) ks ↔ s ∈ ks ∨ ∃ t ∈ l, s = keyB t := by
  intro l
  induction l with
  | nil => intro ks; simp
  | cons t l ih =>
   intro ks
   rw [List.foldl_cons, ih, mput_mem]
   simp only [List.mem_cons, exists_eq_or_imp, or_assoc]
 unfold keys; rw [key]; simp
theorem impl_tupleSet_ok {r : Int × List (List Int)} (hl : r.2.length ≤ 1048576) (hv : ∀ t ∈ r.2, t.length ≤ 1048576 ∧ ∀ x ∈ t, 0 ≤ x ∧ x < 256) : impl_tupleSet r = some (keys r.2) := by
 unfold impl_tupleSet
 have := forS r.2.length (fun m o i => impl_tupleSet_L3 m (o, r.2, (r.2.length : Int), i)) (fun k => keys (r.2.take k)) (r := some (keys r.2)) (fun m k hk => ?_) (fun m => ?_) (n := fuel) (by unfold fuel; omega)
 ·have e0 : keys (r.2.take 0) = [] := rfl
  rw [e0] at this
  simp only [this, Option.bind_some]
 ·obtain ⟨h1, h2⟩ := hv _ (List.getElem_mem hk)
  have e : keys (r.2.take (k + 1)) = mput (keys (r.2.take k)) (keyB r.2[k]) := by
   unfold keys; rw [List.take_succ_eq_append_getElem hk, List.foldl_append]; rfl
  simp only [impl_tupleSet_L3, inb_nat, gd_nat hk, w64_succ (show k < 4611686018427387904 by omega), impl_keyOf_ok h1 h2, Option.bind_some, e]
  rw [if_pos (by simp; omega), if_pos hk]
 ·simp only [impl_tupleSet_L3, List.take_length]
  rw [if_neg (by simp)]
theorem mhas_keys {l : List (List Int)} {t : List Int} (hl : ∀ t ∈ l, ∀ x ∈ t, 0 ≤ x ∧ x < 256) (ht : ∀ x ∈ t, 0 ≤ x ∧ x < 256) : mhas (keys l) (keyB t) = decide (t ∈ l) := by
 rw [Bool.eq_iff_iff, mhas_mem, decide_eq_true_eq, keys_mem]
 constructor
 ·rintro ⟨u, h1, h2⟩; rw [keyB_inj ht (hl u h1) h2]; exact h1
 ·intro h; exact ⟨t, h, rfl⟩
def dg (b : Nat) : Nat → Nat → List Nat
 | 0, _ => []
 | k + 1, i => dg b k (i / b) ++ [i % b]
theorem dg_len {b : Nat} : ∀ {k i : Nat}, (dg b k i).length = k
 | 0, _ => rfl
 | k + 1, i => by simp [dg, dg_len (k := k)]
theorem cI_len {o : List Nat} : (cI o).length = o.length := by unfold cI; simp
end T
open Go Go.Va
namespace T
section
variable {v : Int} {c : Con}
end
section
variable {a : Net}
theorem findX {β : Type} (N : Nat) (L : Nat → Int → Option β) (p : Nat → Bool) (g : Nat → β) (e : β)
    (hs : ∀ n (k : Nat), k < N → L (n + 1) k = if p k then some (g k) else L n ((k + 1 : Nat) : Int)) (he : ∀ n, L (n + 1) (N : Nat) = some e) :
    ∀ (d k n : Nat), k + d = N → d < n → L n k = some (match (List.range' k d).find? p with | some x => g x | none => e) := by
  intro d
  induction d with
  | zero =>
    intro k n hk hn
    obtain ⟨n, rfl⟩ : ∃ m, n = m + 1 := ⟨n - 1, by omega⟩
    have : k = N := by omega
    subst this; rw [he]; rfl
  | succ d ih =>
    intro k n hk hn
    obtain ⟨n, rfl⟩ : ∃ m, n = m + 1 := ⟨n - 1, by omega⟩
    rw [hs n k (by omega), List.range'_succ, List.find?_cons]
    cases p k with
    | true => simp
    | false => simp only [Bool.false_eq_true, if_false]; exact ih (k + 1) n (by omega) (by omega)
end
end T
open Go Go.Va
namespace T
section
variable {v : Int} {c : Con} {up : Int}
end
section
variable {a : Net} {up : Int} {vals : List Int}
def fltI (a : Net) (vals : List Int) : Int := match (List.range' 0 a.2.2.length).find? (fun k => !conH vals (a.2.2.getD k con0)) with | some k => (k : Int) | none => -1
theorem spec_l19Fault_ok (hN : NetOk a) (hv : (vals.length : Int) = a.1) : spec_l19Fault (a.1, (a.2.1, a.2.2)) vals = some (fltI a vals) := by
 have hc := hN.hc
 unfold spec_l19Fault
 have e := findX a.2.2.length (fun f i => spec_l19Fault_L2 f (vals, (a.1, (a.2.1, a.2.2)), i)) (fun k => !conH vals (a.2.2.getD k con0)) (fun k => .inr (k : Int)) (.inl ()) (fun f k hk => by
  have hcon := hN.con _ (List.getElem_mem hk)
  simp only [spec_l19Fault_L2, decide_eq_true (show (k : Int) < ((a.2.2.length : Nat) : Int) by omega), if_true, inb_nat, hk, gd_nat hk, spec_l19Satisfies_ok hcon hv, Option.bind_some, w64_succ (show k < 4611686018427387904 by omega), getD_of hk])
  (fun f => by simp [spec_l19Fault_L2]) a.2.2.length 0 fuel (by omega) (by unfold fuel; omega)
 have e : spec_l19Fault_L2 fuel (vals, (a.1, (a.2.1, a.2.2)), 0) = _ := e
 rw [e]
 unfold fltI
 cases (List.range' 0 a.2.2.length).find? (fun k => !conH vals (a.2.2.getD k con0)) <;> rfl
theorem impl_unsatisfied_ok (hN : NetOk a) (hv : (vals.length : Int) = a.1) : impl_unsatisfied (a.1, (a.2.1, a.2.2)) vals = some (fltI a vals) := by
 have hc := hN.hc
 unfold impl_unsatisfied
 have e := findX a.2.2.length (fun f i => impl_unsatisfied_L2 f (vals, a.2.2, (a.2.2.length : Int), i)) (fun k => !conH vals (a.2.2.getD k con0)) (fun k => .inr (k : Int)) (.inl ()) (fun f k hk => by
  have hcon := hN.con _ (List.getElem_mem hk)
  have hsl := hcon.sl
  have har := hcon.ar
  have hmany := hcon.many
  have h1 := impl_compose_ok (f := a.2.2[k].1) (g := vals) (by omega) (fun x hx => by
   obtain ⟨j, hj, rfl⟩ := List.mem_iff_getElem.1 hx
   have := hcon.sv j hj
   omega)
  have h2 := impl_hasRow_ok (r := a.2.2[k].2) (t := a.2.2[k].1.map (valI vals)) (by simp; omega) (show a.2.2[k].2.2.length ≤ 1048576 by omega)
  have h2 : impl_hasRow (a.2.2[k].2.1, a.2.2[k].2.2) (a.2.2[k].1.map (valI vals)) = _ := h2
  simp only [impl_unsatisfied_L2, decide_eq_true (show (k : Int) < ((a.2.2.length : Nat) : Int) by omega), if_true, inb_nat, hk, gd_nat hk, h1, h2, Option.bind_some, w64_succ (show k < 4611686018427387904 by omega), getD_of hk, conH])
  (fun f => by simp [impl_unsatisfied_L2]) a.2.2.length 0 fuel (by omega) (by unfold fuel; omega)
 have e : impl_unsatisfied_L2 fuel (vals, a.2.2, ((a.2.2.length : Nat) : Int), 0) = _ := e
 rw [e]
 unfold fltI
 cases (List.range' 0 a.2.2.length).find? (fun k => !conH vals (a.2.2.getD k con0)) <;> rfl
end
end T
set_option linter.unusedVariables false
open Go Go.Va
namespace T
def spec_l14Free_L3 : Nat → (Int × (List Int) × Int) → Option ((List Int))
 | 0, _ => none
 | n + 1, (size, out, i) =>
  if decide (i < size) then
   if out.length + [(-1)].length ≤ lim then
    spec_l14Free_L3 n (size, out ++ [(-1)], w64 (i + 1))
   else none
  else
   some out
def spec_l14Free (size : Int) : Option ((List Int)) :=
 (spec_l14Free_L3 fuel (size, [], 0)).bind fun s1 =>
  some s1
def spec_l2Args_L3 : Nat → (Int × Int × (List Int) × Int) → Option ((List Int))
 | 0, _ => none
 | n + 1, (n_, at_, out, i) =>
  if decide (i ≥ 0) then
   if n_ ≠ 0 then
    if inb i out then
     if n_ ≠ 0 then
      spec_l2Args_L3 n (n_, w64 (Int.tdiv at_ n_), stt out i (Int.tmod at_ n_), w64 (i - 1))
     else none
    else none
   else none
  else
   some out
def spec_l2Args (n_ : Int) (arity : Int) (at_ : Int) : Option ((List Int)) :=
 if 0 ≤ arity ∧ arity ≤ arity ∧ arity ≤ lim then
  (spec_l2Args_L3 fuel (n_, at_, List.replicate (Int.toNat arity) (0 : Int), w64 (arity - 1))).bind fun s1 =>
   some s1
 else none
def spec_l1Most (a : Int) (b : Int) : Option (Int) :=
 if decide (a > b) then
  some a
 else
  some b
def impl_freeTable_L3 : Nat → ((List Int) × Int × Int) → Option ((List Int))
 | 0, _ => none
 | n + 1, (list, t8, t9) =>
  if decide (t9 < t8) then
   if inb t9 list then
    impl_freeTable_L3 n (stt list t9 (-1), t8, w64 (t9 + 1))
   else none
  else
   some list
def impl_freeTable (many : Int) : Option ((List Int)) :=
 if 0 ≤ many ∧ many ≤ many ∧ many ≤ lim then
  (impl_freeTable_L3 fuel (List.replicate (Int.toNat many) (0 : Int), ((List.replicate (Int.toNat many) (0 : Int)).length : Int), 0)).bind fun s1 =>
   some s1
 else none
end T
open Go Go.Va
namespace T
theorem tdivN {a b : Nat} (ha : a < 4611686018427387904) : w64 (Int.tdiv (a : Int) (b : Int)) = ((a / b : Nat) : Int) := by
 rw [Int.tdiv_eq_ediv_of_nonneg (by omega), ← Int.natCast_ediv]
 have := Nat.div_le_self a b
 generalize a / b = q at this
 exact w64_id (by omega) (by omega)
theorem tmodN {a b : Nat} : Int.tmod (a : Int) (b : Int) = ((a % b : Nat) : Int) := by
 rw [Int.tmod_eq_emod_of_nonneg (by omega), ← Int.natCast_emod]
section
variable {n : Nat}
end
end T
open Go Go.Va
namespace T
abbrev RelT := Int × List (List Int)
theorem cI_set {l : List Nat} {s : List Nat} {x y : Nat} : (cI (l ++ x :: s)).set l.length (y : Int) = cI (l ++ y :: s) := by
 unfold cI
 rw [List.map_append, List.map_append, List.map_cons, List.map_cons, List.set_append_right _ _ (by simp)]
 simp
theorem l2Args_L3 {b : Nat} (hb : 0 < b) : ∀ (j i f : Nat) (s : List Nat), j < f → i < 4611686018427387904 → j ≤ 1000 →
    spec_l2Args_L3 f ((b : Int), (i : Int), cI (List.replicate j 0 ++ s), (j : Int) - 1) = some (cI (dg b j i ++ s)) := by
  intro j
  induction j with
  | zero =>
    intro i f s hf hi hj
    obtain ⟨f, rfl⟩ : ∃ z, f = z + 1 := ⟨f - 1, by omega⟩
    simp only [spec_l2Args_L3]
    rw [if_neg (by simp)]; rfl
  | succ j ih =>
    intro i f s hf hi hj
    obtain ⟨f, rfl⟩ : ∃ z, f = z + 1 := ⟨f - 1, by omega⟩
    have e1 : ((j + 1 : Nat) : Int) - 1 = (j : Int) := by omega
    have hz : List.replicate (j + 1) 0 ++ s = List.replicate j 0 ++ 0 :: s := by rw [List.replicate_succ']; simp
    have hlen : j < (cI (List.replicate j 0 ++ 0 :: s)).length := by rw [cI_len]; simp
    have hset := cI_set (l := List.replicate j 0) (s := s) (x := 0) (y := i % b)
    rw [List.length_replicate] at hset
    have w2 : w64 ((j : Int) - 1) = (j : Int) - 1 := w64_id (by omega) (by omega)
    have hle := Nat.div_le_self i b
    rw [e1, hz]
    simp only [spec_l2Args_L3, tdivN hi, tmodN, inb_nat, hlen, stt_nat, hset, w2]
    rw [if_pos (by simp), if_pos (by omega), if_pos trivial, if_pos (by omega), ih (i / b) f _ (by omega) (by omega) (by omega)]
    simp [dg]
theorem spec_l2Args_ok {b k i : Nat} (hb : 0 < b) (hk : k ≤ 1000) (hi : i < 4611686018427387904) : spec_l2Args (b : Int) (k : Int) (i : Int) = some (cI (dg b k i)) := by
 have h := l2Args_L3 hb k i fuel [] (by unfold fuel; omega) hi hk
 have e : cI (List.replicate k 0 ++ []) = List.replicate (Int.toNat (k : Int)) (0 : Int) := by unfold cI; simp
 rw [e, List.append_nil] at h
 unfold spec_l2Args
 rw [w64_id (x := (k : Int) - 1) (by omega) (by omega), h, if_pos (by unfold lim; omega)]; rfl
section
variable {n k m : Nat} {r : RelT}
end
end T
open Go Go.Va
namespace T
section
variable {n k m : Nat} {r : RelT} {rels : List RelT}
theorem spec_l1Most_nat (a b : Nat) : spec_l1Most (a : Int) (b : Int) = some ((max a b : Nat) : Int) := by
 unfold spec_l1Most
 by_cases h : (a : Int) > (b : Int)
 ·rw [if_pos (by simpa using h)]; congr 2; omega
 ·rw [if_neg (by simpa using h)]; congr 2; omega
end
end T
open Go Go.Va
namespace T
def foldU {σ : Type} (cb : List Int → σ → Option (σ × Bool)) : List (List Int) → σ → Option (σ × Bool)
 | [], s => some (s, true)
 | t :: l, s => match cb t s with | some (s', true) => foldU cb l s' | some (s', false) => some (s', false) | none => none
theorem foldU_append {σ : Type} {cb : List Int → σ → Option (σ × Bool)} : ∀ (l l' : List (List Int)) (s : σ), foldU cb (l ++ l') s = match foldU cb l s with | some (s', true) => foldU cb l' s' | some (s', false) => some (s', false) | none => none
 | [], l', s => rfl
 | t :: l, l', s => by
  simp only [List.cons_append, foldU]
  cases hc : cb t s with
  | none => rfl
  | some q =>
   obtain ⟨s', b⟩ := q
   cases b with
   | false => rfl
   | true => exact foldU_append l l' s'
def mstB (given : List Int) (at' x : Nat) : Bool := !(decide (given.getD at' 0 ≥ 0) && given.getD at' 0 != (x : Int))
def extL (n : Nat) (given : List Int) (ok : List Int → Bool) : Nat → List Int → List (List Int)
 | 0, pre => [pre]
 | m + 1, pre => (List.range n).flatMap fun x => if mstB given pre.length x && ok (pre ++ [(x : Int)]) then extL n given ok m (pre ++ [(x : Int)]) else []
section
variable {n k : Nat} {rels : List RelT} {given : List Int}
end
end T
open Go Go.Va
namespace T
section
variable {n k : Nat} {rels : List RelT} {given : List Int}
theorem ext_len {ok : List Int → Bool} : ∀ (m : Nat) (pre : List Int), (extL n given ok m pre).length ≤ n ^ m
 | 0, pre => by simp [extL]
 | m + 1, pre => by
  simp only [extL]
  have key : ∀ (l : List Nat), (l.flatMap fun x => if mstB given pre.length x && ok (pre ++ [(x : Int)]) then extL n given ok m (pre ++ [(x : Int)]) else []).length ≤ l.length * n ^ m := by
   intro l
   induction l with
   | nil => simp
   | cons x l ih =>
    rw [List.flatMap_cons, List.length_append, List.length_cons, Nat.succ_mul]
    have : (if mstB given pre.length x && ok (pre ++ [(x : Int)]) then extL n given ok m (pre ++ [(x : Int)]) else []).length ≤ n ^ m := by
     split
     ·exact ext_len m _
     ·simp
    omega
  have := key (List.range n)
  rw [List.length_range] at this
  rw [Nat.pow_succ, Nat.mul_comm]
  exact this
theorem ext_mem {ok : List Int → Bool} : ∀ (m : Nat) (pre t : List Int), t ∈ extL n given ok m pre → t.length = pre.length + m ∧ ((∀ x ∈ pre, 0 ≤ x ∧ x < (n : Int)) → ∀ x ∈ t, 0 ≤ x ∧ x < (n : Int))
 | 0, pre, t, h => by simp only [extL, List.mem_singleton] at h; subst h; exact ⟨rfl, fun h => h⟩
 | m + 1, pre, t, h => by
  simp only [extL, List.mem_flatMap] at h
  obtain ⟨x, hx, h⟩ := h
  have hx := List.mem_range.1 hx
  split at h
  ·obtain ⟨h1, h2⟩ := ext_mem m _ t h
   refine ⟨by rw [h1]; simp; omega, fun hp => h2 fun y hy => ?_⟩
   rcases List.mem_append.1 hy with h3 | h3
   ·exact hp y h3
   ·rw [List.mem_singleton.1 h3]; omega
  ·simp at h
end
end T
open Go Go.Va
namespace T
theorem freeI_ok {N : Nat} (h : N ≤ 1000) : impl_freeTable (N : Int) = some (List.replicate N (-1)) := by
 unfold impl_freeTable
 rw [Int.toNat_natCast, if_pos (by unfold lim; omega)]
 have := forS N (fun f o i => impl_freeTable_L3 f (o, ((List.replicate N (0 : Int)).length : Int), i)) (fun j => List.replicate j (-1) ++ List.replicate (N - j) (0 : Int)) (r := some (List.replicate N (-1))) (fun f j hj => ?_) (fun f => ?_) (n := fuel) (by unfold fuel; omega)
 ·have this : impl_freeTable_L3 fuel (List.replicate N (0 : Int), ((List.replicate N (0 : Int)).length : Int), 0) = _ := this
  rw [this]; rfl
 ·have hin : j < (List.replicate j (-1) ++ List.replicate (N - j) (0 : Int)).length := by simp; omega
  have e : (List.replicate j (-1) ++ List.replicate (N - j) (0 : Int)).set j (-1) = List.replicate (j + 1) (-1) ++ List.replicate (N - (j + 1)) (0 : Int) := by
   rw [show N - j = (N - (j + 1)) + 1 by omega, List.replicate_succ, List.set_append_right _ _ (by simp), List.replicate_succ']
   simp
  simp only [impl_freeTable_L3, inb_nat, hin, stt_nat, e, if_true, w64_succ (show j < 4611686018427387904 by omega)]
  rw [if_pos (by simp; omega)]
 ·simp only [impl_freeTable_L3]
  rw [if_neg (by simp)]; simp
theorem freeS_ok {N : Nat} (h : N ≤ 1000) : spec_l14Free (N : Int) = some (List.replicate N (-1)) := by
 unfold spec_l14Free
 have := forS N (fun f o i => spec_l14Free_L3 f ((N : Int), o, i)) (fun j => List.replicate j (-1)) (r := some (List.replicate N (-1))) (fun f j hj => ?_) (fun f => ?_) (n := fuel) (by unfold fuel; omega)
 ·have this : spec_l14Free_L3 fuel ((N : Int), [], 0) = _ := this
  rw [this]; rfl
 ·simp only [spec_l14Free_L3, List.replicate_succ', w64_succ (show j < 4611686018427387904 by omega)]
  rw [if_pos (by simp; omega), if_pos (by simp; unfold lim; omega)]
 ·simp only [spec_l14Free_L3]
  rw [if_neg (by simp)]
end T
open Go Go.Va
namespace T
section
variable {n : Int} {rels : List RelT}
end
def posL (V : List Int) (x : Nat) : Int := match V.findIdx? (fun y => y == (x : Int)) with | some i => (i : Int) | none => -1
section
variable {n : Nat} {t : List Int}
end
section
variable {n m : Nat} {t : List Int} {r : RelT} {rels : List RelT}
end
end T
open Go Go.Va
namespace T
def mix {α : Type} (nw old : Nat → α) (N i : Nat) : List α := (List.range N).map fun q => if q < i then nw q else old q
section
variable {α : Type} {nw old : Nat → α} {N i : Nat}
theorem mix_len : (mix nw old N i).length = N := by simp [mix]
theorem mix_set (h : i < N) : (mix nw old N i).set i (nw i) = mix nw old N (i + 1) := by
 unfold mix
 apply List.ext_getElem
 ·simp
 ·intro q h1 h2
  rw [List.getElem_set]
  simp only [List.getElem_map, List.getElem_range]
  by_cases e : i = q
  ·subst e; rw [if_pos rfl, if_pos (by omega)]
  ·rw [if_neg e]
   by_cases e2 : q < i
   ·rw [if_pos e2, if_pos (by omega)]
   ·rw [if_neg e2, if_neg (by omega)]
theorem mix_full : mix nw old N N = (List.range N).map nw := by
 unfold mix
 refine List.map_congr_left fun q hq => ?_
 rw [if_pos (List.mem_range.1 hq)]
end
def pr4 (p : Int) : Prop := p = 2 ∨ p = 3 ∨ p = 5 ∨ p = 7
def okRow (p : Int) (W : Nat) (r : List Int) : Prop := r.length = W ∧ ∀ x ∈ r, 0 ≤ x ∧ x < p
section
variable {p : Int} {W : Nat} {r row : List Int}
theorem ok_get (h : okRow p W r) {i : Nat} (hi : i < W) : 0 ≤ r.getD i 0 ∧ r.getD i 0 < p := by
 have : i < r.length := by rw [h.1]; exact hi
 rw [getD_of this]; exact h.2 _ (List.getElem_mem this)
end
abbrev ES := List (List Int) × List Int × List (List Int)
structure ESok (p : Int) (W N v : Nat) (s : ES) : Prop where
 t : ∀ r ∈ s.1, okRow p W r
 l : ∀ r ∈ s.2.2, okRow p W r
 bl : s.2.1.length = s.1.length
 n : s.1.length + s.2.2.length = N
 bv : ∀ x ∈ s.2.1, 0 ≤ x ∧ x < (v : Int)
 bn : s.2.1.Nodup
section
variable {p : Int} {W N : Nat}
end
end T
open Go Go.Va
namespace T
section
variable {p : Int} {W N V : Nat}
theorem posL_none {b : List Int} {u : Nat} (h : (u : Int) ∉ b) : posL b u = -1 := by
 unfold posL
 have h1 : (b.findIdx? fun y => y == (u : Int)) = none := by
  rw [List.findIdx?_eq_none_iff]
  intro y hy
  simp only [beq_eq_false_iff_ne]
  intro e; exact h (e ▸ hy)
 rw [h1]
theorem posL_at {b : List Int} {u : Nat} (h : (u : Int) ∈ b) : ∃ i, ∃ hi : i < b.length, posL b u = (i : Int) ∧ b[i] = (u : Int) := by
 unfold posL
 have h1 : (b.findIdx? fun y => y == (u : Int)).isSome = true := by
  rw [List.findIdx?_isSome, List.any_eq_true]
  exact ⟨_, h, by simp⟩
 obtain ⟨i, hi⟩ := Option.isSome_iff_exists.1 h1
 rw [hi]
 obtain ⟨g1, g2, _⟩ := List.findIdx?_eq_some_iff_getElem.1 hi
 exact ⟨i, g1, rfl, by simpa using g2⟩
end
end T
open Go Go.Va
namespace T
def freeL (N : Nat) (b : List Int) : List Int := ((List.range N).filter fun v : Nat => !decide ((v : Int) ∈ b)).map fun v : Nat => (v : Int)
section
variable {p : Int} {W N V : Nat}
theorem posL_neg {b : List Int} {u : Nat} : posL b u < 0 ↔ (u : Int) ∉ b := by
 by_cases h : (u : Int) ∈ b
 ·obtain ⟨i, hi, h1, _⟩ := posL_at h
  rw [h1]; simp [h]
 ·rw [posL_none h]; simp [h]
def solV (V : Nat) (s : ES) (u : Nat) : Int := if posL s.2.1 u < 0 then 0 else (s.1.getD (posL s.2.1 u).toNat []).getD V 0
def solL (V : Nat) (s : ES) : List Int := (List.range V).map (solV V s)
end
end T
open Go Go.Va
namespace T
def cg (p a b : Int) : Prop := ∃ k, a = b + p * k
section
variable {p a b c d : Int}
theorem cg_of (h : a = b) : cg p a b := ⟨0, by rw [h]; simp⟩
theorem cg_add (h : cg p a b) (g : cg p c d) : cg p (a + c) (b + d) := by obtain ⟨k, h⟩ := h; obtain ⟨m, g⟩ := g; exact ⟨k + m, by grind⟩
theorem cg_mul (x : Int) (h : cg p a b) : cg p (x * a) (x * b) := by obtain ⟨k, h⟩ := h; exact ⟨x * k, by grind⟩
end
inductive Sp (p : Int) (V : Nat) (A : List (List Int)) : (Nat → Int) → Prop
 | zero : Sp p V A fun _ => 0
 | add {f : Nat → Int} (r : List Int) (c : Int) : r ∈ A → Sp p V A f → Sp p V A fun i => f i + c * r.getD i 0
 | cgr {f g : Nat → Int} : Sp p V A f → (∀ i, i < V → cg p (g i) (f i)) → Sp p V A g
section
variable {p : Int} {V W N : Nat} {A B : List (List Int)} {f g : Nat → Int}
theorem Sp.lin (hf : Sp p V A f) (hg : Sp p V A g) (c : Int) : Sp p V A fun i => f i + c * g i := by
 induction hg with
 | zero => exact hf.cgr fun i _ => cg_of (by simp)
 | add r d hr _ ih => exact (ih.add r (c * d) hr).cgr fun i _ => cg_of (by grind)
 | cgr _ h ih => exact ih.cgr fun i hi => cg_add (cg_of rfl) (cg_mul c (h i hi))
theorem Sp.mem {r : List Int} (h : r ∈ A) : Sp p V A fun i => r.getD i 0 := (Sp.add r 1 h .zero).cgr fun i _ => cg_of (by simp)
theorem Sp.sub (h : ∀ r ∈ A, Sp p V B fun i => r.getD i 0) (hf : Sp p V A f) : Sp p V B f := by
 induction hf with
 | zero => exact .zero
 | add r c hr _ ih => exact ih.lin (h r hr) c
 | cgr _ h ih => exact ih.cgr h
def eqSp (p : Int) (V : Nat) (A B : List (List Int)) : Prop := ∀ f, Sp p V A f ↔ Sp p V B f
theorem eqSp_of (h : ∀ r ∈ A, Sp p V B fun i => r.getD i 0) (g : ∀ r ∈ B, Sp p V A fun i => r.getD i 0) : eqSp p V A B := fun _ => ⟨Sp.sub h, Sp.sub g⟩
end
end T
open Go Go.Va
namespace T
section
variable {p : Int} {V W N : Nat} {A B : List (List Int)} {f g : Nat → Int}
theorem getD_mem {α : Type} {l : List α} {i : Nat} {d : α} (hi : i < l.length) : l.getD i d ∈ l := by rw [getD_of hi]; exact List.getElem_mem hi
end
end T
open Go Go.Va
namespace T
section
variable {p : Int} {V W N : Nat} {A B C D : List (List Int)} {f g : Nat → Int}
theorem eqSp.symm (h : eqSp p V A B) : eqSp p V B A := fun f => (h f).symm
theorem eqSp.trans (h : eqSp p V A B) (g : eqSp p V B C) : eqSp p V A C := fun f => (h f).trans (g f)
theorem eqSp.app (h : eqSp p V A B) : eqSp p V (A ++ C) (B ++ C) := by
 have key : ∀ {A B : List (List Int)}, eqSp p V A B → ∀ r ∈ A ++ C, Sp p V (B ++ C) fun i => r.getD i 0 := fun {A B} h r hr => by
  rcases List.mem_append.1 hr with hr | hr
  ·exact Sp.sub (fun q hq => Sp.mem (List.mem_append_left _ hq)) ((h _).1 (Sp.mem hr))
  ·exact Sp.mem (List.mem_append_right _ hr)
 exact eqSp_of (key h) (key h.symm)
end
end T
open Go Go.Va
namespace T
def i64 (x : Int) : Prop := -9223372036854775808 ≤ x ∧ x ≤ 9223372036854775807
section
variable {c : List Int} {ar : Int}
end
end T
set_option linter.unusedVariables false
open Go Go.Va
namespace T
def spec_l19Most_L7 : Nat → ((List ((List Int) × Int × (List (List Int)))) × (List (List ((List Int) × Int × (List (List Int))))) × Int × Int × Int) → Option ((List ((List Int) × Int × (List (List Int)))) × (List (List ((List Int) × Int × (List (List Int))))) × Int × Int)
 | 0, _ => none
 | n + 1, (list, out, i, most, k) =>
  if inb i list then
   if decide (k < (((gd list i ([], (0, []))).1).length : Int)) then
    if inb i list then
     if inb k ((gd list i ([], (0, []))).1) then
      (spec_l1Most most (gd ((gd list i ([], (0, []))).1) k 0)).bind fun r1 =>
       spec_l19Most_L7 n (list, out, i, r1, w64 (k + 1))
     else none
    else none
   else
    some (list, out, i, most)
  else none
def spec_l19Most_L3 : Nat → ((List ((List Int) × Int × (List (List Int)))) × (List (List ((List Int) × Int × (List (List Int))))) × Int) → Option ((List (List ((List Int) × Int × (List (List Int))))))
 | 0, _ => none
 | n + 1, (list, out, i) =>
  if decide (i < (list.length : Int)) then
   (spec_l19Most_L7 fuel (list, out, i, 0, 0)).bind fun s1 =>
    if inb s1.2.2.2 s1.2.1 then
     if inb s1.2.2.1 s1.1 then
      if (gd s1.2.1 s1.2.2.2 []).length + [gd s1.1 s1.2.2.1 ([], (0, []))].length ≤ lim then
       if inb s1.2.2.2 s1.2.1 then
        if s1.2.2.2 = s1.2.2.2 then
         spec_l19Most_L3 n (s1.1, stt s1.2.1 s1.2.2.2 ((gd s1.2.1 s1.2.2.2 []) ++ [gd s1.1 s1.2.2.1 ([], (0, []))]), w64 (s1.2.2.1 + 1))
        else none
       else none
      else none
     else none
    else none
  else
   some out
def spec_l19Most (vars : Int) (list : List ((List Int) × Int × (List (List Int)))) : Option ((List (List ((List Int) × Int × (List (List Int)))))) :=
 if 0 ≤ vars ∧ vars ≤ vars ∧ vars ≤ lim then
  (spec_l19Most_L3 fuel (list, List.replicate (Int.toNat vars) ([] : List ((List Int) × Int × (List (List Int)))), 0)).bind fun s1 =>
   some s1
 else none
def spec_l19Go_L14 (rec : (Int × (List (List ((List Int) × Int × (List (List Int))))) × (List Int) × (List Int) × ((List (List Int)) × (Int × Int × Bool))) → Option (((List (List Int)) × (Int × Int × Bool)))) : Nat → (Int × (List (List ((List Int) × Int × (List (List Int))))) × (List Int) × (List Int) × ((List (List Int)) × (Int × Int × Bool)) × ((List (List Int)) × (Int × Int × Bool)) × Int × Int × (List Int) × Bool × Int) → Option (Int × (List (List ((List Int) × Int × (List (List Int))))) × (List Int) × (List Int) × ((List (List Int)) × (Int × Int × Bool)) × ((List (List Int)) × (Int × Int × Bool)) × Int × Int × (List Int) × Bool)
 | 0, _ => none
 | n + 1, (t0, t1, t2, t3, t9, t10, t11, t12, t13, t14, t15) =>
  if inb t11 t1 then
   if decide (t15 < ((gd t1 t11 []).length : Int)) then
    if t14 then
     if inb t11 t1 then
      if inb t15 (gd t1 t11 []) then
       (spec_l19Satisfies (gd (gd t1 t11 []) t15 ([], (0, []))) t13).bind fun r3 =>
        spec_l19Go_L14 rec n (t0, t1, t2, t3, (t9.1, (t9.2.1, (t9.2.2.1, t9.2.2.2))), (t10.1, (t10.2.1, (t10.2.2.1, t10.2.2.2))), t11, t12, t13, r3, w64 (t15 + 1))
      else none
     else none
    else
     some (t0, t1, t2, t3, (t9.1, (t9.2.1, (t9.2.2.1, t9.2.2.2))), (t10.1, (t10.2.1, (t10.2.2.1, t10.2.2.2))), t11, t12, t13, t14)
   else
    some (t0, t1, t2, t3, (t9.1, (t9.2.1, (t9.2.2.1, t9.2.2.2))), (t10.1, (t10.2.1, (t10.2.2.1, t10.2.2.2))), t11, t12, t13, t14)
  else none
def spec_l19Go_L8 (rec : (Int × (List (List ((List Int) × Int × (List (List Int))))) × (List Int) × (List Int) × ((List (List Int)) × (Int × Int × Bool))) → Option (((List (List Int)) × (Int × Int × Bool)))) : Nat → (Int × (List (List ((List Int) × Int × (List (List Int))))) × (List Int) × (List Int) × ((List (List Int)) × (Int × Int × Bool)) × ((List (List Int)) × (Int × Int × Bool)) × Int × Int) → Option (((List (List Int)) × (Int × Int × Bool)) × ((List (List Int)) × (Int × Int × Bool)))
 | 0, _ => none
 | n + 1, (t0, t1, t2, t3, t9, t10, t11, t12) =>
  if decide (t12 < t0) then
   if t9.2.2.2 then
    if !(decide (t9.2.1 > 0)) then
     if inb t11 t2 then
      if decide ((gd t2 t11 0) ≥ 0) then
       if inb t11 t2 then
        if (gd t2 t11 0) != t12 then
         spec_l19Go_L8 rec n (t0, t1, t2, t3, (t9.1, (t9.2.1, (t9.2.2.1, t9.2.2.2))), (t10.1, (t10.2.1, (t10.2.2.1, t10.2.2.2))), t11, w64 (t12 + 1))
        else
         (spec_l1Own t3).bind fun r2 =>
          if r2.length + [t12].length ≤ lim then
           (spec_l19Go_L14 rec fuel (t0, t1, t2, t3, (t9.1, (t9.2.1, (t9.2.2.1, t9.2.2.2))), (t10.1, (t10.2.1, (t10.2.2.1, t10.2.2.2))), t11, t12, r2 ++ [t12], true, 0)).bind fun s3 =>
            if s3.2.2.2.2.2.2.2.2.2 then
             (rec (s3.1, s3.2.1, s3.2.2.1, s3.2.2.2.2.2.2.2.2.1, (s3.2.2.2.2.1.1, (s3.2.2.2.2.1.2.1, (s3.2.2.2.2.1.2.2.1, s3.2.2.2.2.1.2.2.2))))).bind fun r4 =>
              spec_l19Go_L8 rec n (s3.1, s3.2.1, s3.2.2.1, s3.2.2.2.1, (r4.1, (r4.2.1, (r4.2.2.1, r4.2.2.2))), (s3.2.2.2.2.2.1.1, (s3.2.2.2.2.2.1.2.1, (s3.2.2.2.2.2.1.2.2.1, s3.2.2.2.2.2.1.2.2.2))), s3.2.2.2.2.2.2.1, w64 (s3.2.2.2.2.2.2.2.1 + 1))
            else
             spec_l19Go_L8 rec n (s3.1, s3.2.1, s3.2.2.1, s3.2.2.2.1, (s3.2.2.2.2.1.1, (s3.2.2.2.2.1.2.1, (s3.2.2.2.2.1.2.2.1, s3.2.2.2.2.1.2.2.2))), (s3.2.2.2.2.2.1.1, (s3.2.2.2.2.2.1.2.1, (s3.2.2.2.2.2.1.2.2.1, s3.2.2.2.2.2.1.2.2.2))), s3.2.2.2.2.2.2.1, w64 (s3.2.2.2.2.2.2.2.1 + 1))
          else none
       else none
      else
       (spec_l1Own t3).bind fun r5 =>
        if r5.length + [t12].length ≤ lim then
         (spec_l19Go_L14 rec fuel (t0, t1, t2, t3, (t9.1, (t9.2.1, (t9.2.2.1, t9.2.2.2))), (t10.1, (t10.2.1, (t10.2.2.1, t10.2.2.2))), t11, t12, r5 ++ [t12], true, 0)).bind fun s6 =>
          if s6.2.2.2.2.2.2.2.2.2 then
           (rec (s6.1, s6.2.1, s6.2.2.1, s6.2.2.2.2.2.2.2.2.1, (s6.2.2.2.2.1.1, (s6.2.2.2.2.1.2.1, (s6.2.2.2.2.1.2.2.1, s6.2.2.2.2.1.2.2.2))))).bind fun r7 =>
            spec_l19Go_L8 rec n (s6.1, s6.2.1, s6.2.2.1, s6.2.2.2.1, (r7.1, (r7.2.1, (r7.2.2.1, r7.2.2.2))), (s6.2.2.2.2.2.1.1, (s6.2.2.2.2.2.1.2.1, (s6.2.2.2.2.2.1.2.2.1, s6.2.2.2.2.2.1.2.2.2))), s6.2.2.2.2.2.2.1, w64 (s6.2.2.2.2.2.2.2.1 + 1))
          else
           spec_l19Go_L8 rec n (s6.1, s6.2.1, s6.2.2.1, s6.2.2.2.1, (s6.2.2.2.2.1.1, (s6.2.2.2.2.1.2.1, (s6.2.2.2.2.1.2.2.1, s6.2.2.2.2.1.2.2.2))), (s6.2.2.2.2.2.1.1, (s6.2.2.2.2.2.1.2.1, (s6.2.2.2.2.2.1.2.2.1, s6.2.2.2.2.2.1.2.2.2))), s6.2.2.2.2.2.2.1, w64 (s6.2.2.2.2.2.2.2.1 + 1))
        else none
     else none
    else
     some ((t9.1, (t9.2.1, (t9.2.2.1, t9.2.2.2))), (t10.1, (t10.2.1, (t10.2.2.1, t10.2.2.2))))
   else
    if !false then
     if inb t11 t2 then
      if decide ((gd t2 t11 0) ≥ 0) then
       if inb t11 t2 then
        if (gd t2 t11 0) != t12 then
         spec_l19Go_L8 rec n (t0, t1, t2, t3, (t9.1, (t9.2.1, (t9.2.2.1, t9.2.2.2))), (t10.1, (t10.2.1, (t10.2.2.1, t10.2.2.2))), t11, w64 (t12 + 1))
        else
         (spec_l1Own t3).bind fun r8 =>
          if r8.length + [t12].length ≤ lim then
           (spec_l19Go_L14 rec fuel (t0, t1, t2, t3, (t9.1, (t9.2.1, (t9.2.2.1, t9.2.2.2))), (t10.1, (t10.2.1, (t10.2.2.1, t10.2.2.2))), t11, t12, r8 ++ [t12], true, 0)).bind fun s9 =>
            if s9.2.2.2.2.2.2.2.2.2 then
             (rec (s9.1, s9.2.1, s9.2.2.1, s9.2.2.2.2.2.2.2.2.1, (s9.2.2.2.2.1.1, (s9.2.2.2.2.1.2.1, (s9.2.2.2.2.1.2.2.1, s9.2.2.2.2.1.2.2.2))))).bind fun r10 =>
              spec_l19Go_L8 rec n (s9.1, s9.2.1, s9.2.2.1, s9.2.2.2.1, (r10.1, (r10.2.1, (r10.2.2.1, r10.2.2.2))), (s9.2.2.2.2.2.1.1, (s9.2.2.2.2.2.1.2.1, (s9.2.2.2.2.2.1.2.2.1, s9.2.2.2.2.2.1.2.2.2))), s9.2.2.2.2.2.2.1, w64 (s9.2.2.2.2.2.2.2.1 + 1))
            else
             spec_l19Go_L8 rec n (s9.1, s9.2.1, s9.2.2.1, s9.2.2.2.1, (s9.2.2.2.2.1.1, (s9.2.2.2.2.1.2.1, (s9.2.2.2.2.1.2.2.1, s9.2.2.2.2.1.2.2.2))), (s9.2.2.2.2.2.1.1, (s9.2.2.2.2.2.1.2.1, (s9.2.2.2.2.2.1.2.2.1, s9.2.2.2.2.2.1.2.2.2))), s9.2.2.2.2.2.2.1, w64 (s9.2.2.2.2.2.2.2.1 + 1))
          else none
       else none
      else
       (spec_l1Own t3).bind fun r11 =>
        if r11.length + [t12].length ≤ lim then
         (spec_l19Go_L14 rec fuel (t0, t1, t2, t3, (t9.1, (t9.2.1, (t9.2.2.1, t9.2.2.2))), (t10.1, (t10.2.1, (t10.2.2.1, t10.2.2.2))), t11, t12, r11 ++ [t12], true, 0)).bind fun s12 =>
          if s12.2.2.2.2.2.2.2.2.2 then
           (rec (s12.1, s12.2.1, s12.2.2.1, s12.2.2.2.2.2.2.2.2.1, (s12.2.2.2.2.1.1, (s12.2.2.2.2.1.2.1, (s12.2.2.2.2.1.2.2.1, s12.2.2.2.2.1.2.2.2))))).bind fun r13 =>
            spec_l19Go_L8 rec n (s12.1, s12.2.1, s12.2.2.1, s12.2.2.2.1, (r13.1, (r13.2.1, (r13.2.2.1, r13.2.2.2))), (s12.2.2.2.2.2.1.1, (s12.2.2.2.2.2.1.2.1, (s12.2.2.2.2.2.1.2.2.1, s12.2.2.2.2.2.1.2.2.2))), s12.2.2.2.2.2.2.1, w64 (s12.2.2.2.2.2.2.2.1 + 1))
          else
           spec_l19Go_L8 rec n (s12.1, s12.2.1, s12.2.2.1, s12.2.2.2.1, (s12.2.2.2.2.1.1, (s12.2.2.2.2.1.2.1, (s12.2.2.2.2.1.2.2.1, s12.2.2.2.2.1.2.2.2))), (s12.2.2.2.2.2.1.1, (s12.2.2.2.2.2.1.2.1, (s12.2.2.2.2.2.1.2.2.1, s12.2.2.2.2.2.1.2.2.2))), s12.2.2.2.2.2.2.1, w64 (s12.2.2.2.2.2.2.2.1 + 1))
        else none
     else none
    else
     some ((t9.1, (t9.2.1, (t9.2.2.1, t9.2.2.2))), (t10.1, (t10.2.1, (t10.2.2.1, t10.2.2.2))))
  else
   some ((t9.1, (t9.2.1, (t9.2.2.1, t9.2.2.2))), (t10.1, (t10.2.1, (t10.2.2.1, t10.2.2.2))))
def spec_l19Go_body (rec : (Int × (List (List ((List Int) × Int × (List (List Int))))) × (List Int) × (List Int) × ((List (List Int)) × (Int × Int × Bool))) → Option (((List (List Int)) × (Int × Int × Bool)))) (t0 : Int) (t1 : List (List ((List Int) × Int × (List (List Int))))) (t2 : List Int) (t3 : List Int) (t4 : (List (List Int)) × (Int × Int × Bool)) : Option (((List (List Int)) × (Int × Int × Bool))) :=
 if (t3.length : Int) == (t1.length : Int) then
  if decide ((t4.1.length : Int) < t4.2.2.1) then
   (spec_l1Own t3).bind fun r1 =>
    if t4.1.length + [r1].length ≤ lim then
     some (t4.1 ++ [r1], (w64 (t4.2.1 + 1), (t4.2.2.1, t4.2.2.2)))
    else none
  else
   some (t4.1, (w64 (t4.2.1 + 1), (t4.2.2.1, t4.2.2.2)))
 else
  (spec_l19Go_L8 rec fuel (t0, t1, t2, t3, (t4.1, (t4.2.1, (t4.2.2.1, t4.2.2.2))), ([], (0, (0, false))), (t3.length : Int), 0)).bind fun s2 =>
   some (s2.1.1, (s2.1.2.1, (s2.1.2.2.1, s2.1.2.2.2)))
def spec_l19Go : Nat → (Int × (List (List ((List Int) × Int × (List (List Int))))) × (List Int) × (List Int) × ((List (List Int)) × (Int × Int × Bool))) → Option (((List (List Int)) × (Int × Int × Bool)))
 | 0, _ => none
 | d + 1, x => spec_l19Go_body (spec_l19Go d) x.1 x.2.1 x.2.2.1 x.2.2.2.1 x.2.2.2.2
def spec_l19Find (net : Int × Int × (List ((List Int) × Int × (List (List Int))))) (list : List ((List Int) × Int × (List (List Int)))) (partial_ : List Int) (most : Int) (one : Bool) : Option (((List (List Int)) × (Int × Int × Bool))) :=
 (spec_l19Most net.1 list).bind fun r1 =>
  (spec_l19Go fuel (net.2.1, r1, partial_, [], ([], (0, (most, one))))).bind fun r2 =>
   some (r2.1, (r2.2.1, (r2.2.2.1, r2.2.2.2)))
def spec_l19Can (net : Int × Int × (List ((List Int) × Int × (List (List Int))))) (list : List ((List Int) × Int × (List (List Int)))) : Option (Bool) :=
 (spec_l14Free net.1).bind fun r1 =>
  (spec_l19Find (net.1, (net.2.1, net.2.2)) list r1 1 true).bind fun r2 =>
   some (decide (r2.2.1 > 0))
def spec_ConflictCore_L9 : Nat → ((Int × Int × (List ((List Int) × Int × (List (List Int))))) × (List Int) × Int × (List Int) × (List ((List Int) × Int × (List (List Int)))) × Int) → Option ((Int × Int × (List ((List Int) × Int × (List (List Int))))) × (List Int) × Int × (List Int) × (List ((List Int) × Int × (List (List Int)))))
 | 0, _ => none
 | n + 1, (t1, t4, t5, t6, t7, t8) =>
  if decide (t8 < (t4.length : Int)) then
   if inb t8 t4 then
    if (gd t4 t8 0) != t5 then
     if inb t8 t4 then
      if t6.length + [gd t4 t8 0].length ≤ lim then
       if inb t8 t4 then
        if inb (gd t4 t8 0) t1.2.2 then
         if t7.length + [gd t1.2.2 (gd t4 t8 0) ([], (0, []))].length ≤ lim then
          spec_ConflictCore_L9 n ((t1.1, (t1.2.1, t1.2.2)), t4, t5, t6 ++ [gd t4 t8 0], t7 ++ [gd t1.2.2 (gd t4 t8 0) ([], (0, []))], w64 (t8 + 1))
         else none
        else none
       else none
      else none
     else none
    else
     spec_ConflictCore_L9 n ((t1.1, (t1.2.1, t1.2.2)), t4, t5, t6, t7, w64 (t8 + 1))
   else none
  else
   some ((t1.1, (t1.2.1, t1.2.2)), t4, t5, t6, t7)
def spec_ConflictCore_L5 : Nat → ((Int × Int × (List ((List Int) × Int × (List (List Int))))) × (List Int) × Int) → Option ((List Int))
 | 0, _ => none
 | n + 1, (t1, t4, t5) =>
  if decide (t5 < (t1.2.2.length : Int)) then
   (spec_ConflictCore_L9 fuel ((t1.1, (t1.2.1, t1.2.2)), t4, t5, [], [], 0)).bind fun s4 =>
    (spec_l19Can (s4.1.1, (s4.1.2.1, s4.1.2.2)) s4.2.2.2.2).bind fun r5 =>
     if !r5 then
      spec_ConflictCore_L5 n ((s4.1.1, (s4.1.2.1, s4.1.2.2)), s4.2.2.2.1, w64 (s4.2.2.1 + 1))
     else
      spec_ConflictCore_L5 n ((s4.1.1, (s4.1.2.1, s4.1.2.2)), s4.2.1, w64 (s4.2.2.1 + 1))
  else
   some t4
def spec_ConflictCore (t0 : Int × Int × (List ((List Int) × Int × (List (List Int))))) : Option ((List Int) × Bool) :=
 (spec_l19Good (t0.1, (t0.2.1, t0.2.2))).bind fun r1 =>
  if !r1 then
   some ([], false)
  else
   (spec_l19Can (t0.1, (t0.2.1, t0.2.2)) t0.2.2).bind fun r2 =>
    if r2 then
     some ([], false)
    else
     (spec_l6Identity (t0.2.2.length : Int)).bind fun r3 =>
      (spec_ConflictCore_L5 fuel ((t0.1, (t0.2.1, t0.2.2)), r3, 0)).bind fun s4 =>
       some (s4, true)
def impl_newNetSearch_L7 : Nat → ((Int × ((List (List (List Int))) × (List (List (List ByteArray))))) × ((List Int) × Int × (List (List Int))) × Int × (List ((List Int) × Int × (List (List Int)))) × Int × Int × (List Int) × Int × Int) → Option ((Int × ((List (List (List Int))) × (List (List (List ByteArray))))) × ((List Int) × Int × (List (List Int))) × Int × (List ((List Int) × Int × (List (List Int)))) × Int × Int)
 | 0, _ => none
 | n + 1, (t3, t5, t6, t20, t21, t22, t27, t28, t29) =>
  if decide (t29 < t28) then
   if inb t29 t27 then
    impl_newNetSearch_L7 n ((t3.1, (t3.2.1, t3.2.2)), (t5.1, (t5.2.1, t5.2.2)), maxI t6 (gd t27 t29 0), t20, t21, t22, t27, t28, w64 (t29 + 1))
   else none
  else
   some ((t3.1, (t3.2.1, t3.2.2)), (t5.1, (t5.2.1, t5.2.2)), t6, t20, t21, t22)
def impl_newNetSearch_L3 : Nat → ((Int × ((List (List (List Int))) × (List (List (List ByteArray))))) × (List ((List Int) × Int × (List (List Int)))) × Int × Int) → Option ((Int × ((List (List (List Int))) × (List (List (List ByteArray))))))
 | 0, _ => none
 | n + 1, (t3, t20, t21, t22) =>
  if decide (t22 < t21) then
   if inb t22 t20 then
    (impl_newNetSearch_L7 fuel ((t3.1, (t3.2.1, t3.2.2)), ((gd t20 t22 ([], (0, []))).1, (((gd t20 t22 ([], (0, []))).2).1, ((gd t20 t22 ([], (0, []))).2).2)), 0, t20, t21, t22, (gd t20 t22 ([], (0, []))).1, (((gd t20 t22 ([], (0, []))).1).length : Int), 0)).bind fun s1 =>
     if inb s1.2.2.1 s1.1.2.1 then
      if (gd s1.1.2.1 s1.2.2.1 []).length + [s1.2.1.1].length ≤ lim then
       if inb s1.2.2.1 s1.1.2.1 then
        if s1.2.2.1 = s1.2.2.1 then
         if inb s1.2.2.1 s1.1.2.2 then
          (impl_tupleSet (s1.2.1.2.1, s1.2.1.2.2)).bind fun r2 =>
           if (gd s1.1.2.2 s1.2.2.1 []).length + [r2].length ≤ lim then
            if inb s1.2.2.1 s1.1.2.2 then
             if s1.2.2.1 = s1.2.2.1 then
              impl_newNetSearch_L3 n ((s1.1.1, (stt s1.1.2.1 s1.2.2.1 ((gd s1.1.2.1 s1.2.2.1 []) ++ [s1.2.1.1]), stt s1.1.2.2 s1.2.2.1 ((gd s1.1.2.2 s1.2.2.1 []) ++ [r2]))), s1.2.2.2.1, s1.2.2.2.2.1, w64 (s1.2.2.2.2.2 + 1))
             else none
            else none
           else none
         else none
        else none
       else none
      else none
     else none
   else none
  else
   some (t3.1, (t3.2.1, t3.2.2))
def impl_newNetSearch (t0 : Int × Int × (List ((List Int) × Int × (List (List Int))))) : Option ((Bool × Int × (List (List (List Int))) × (List (List (List ByteArray))))) :=
 if 0 ≤ t0.1 ∧ t0.1 ≤ t0.1 ∧ t0.1 ≤ lim then
  if 0 ≤ t0.1 ∧ t0.1 ≤ t0.1 ∧ t0.1 ≤ lim then
   (impl_newNetSearch_L3 fuel ((t0.2.1, (List.replicate (Int.toNat t0.1) ([] : List (List Int)), List.replicate (Int.toNat t0.1) ([] : List (List ByteArray)))), t0.2.2, (t0.2.2.length : Int), 0)).bind fun s1 =>
    some (true, (s1.1, (s1.2.1, s1.2.2)))
  else none
 else none
def impl_clone_b (list : List Int) : Option ((Bool × (List Int))) :=
 if ([] : List Int).length + list.length ≤ lim then
  some (true, [] ++ list)
 else none
def impl_firstSolution_c1 (values : List Int) (t1 : Bool × (List Int)) : Option ((Bool × (List Int)) × Bool) :=
 (impl_clone_b values).bind fun r1 =>
  some ((r1.1, r1.2), false)
def impl_netSearch_each_c1_impl_firstSolution_c1_L10 (rec : (Int × (List Int) × (Bool × (List Int)) × (Bool × Int × (List (List (List Int))) × (List (List (List ByteArray)))) × (List Int) × Unit) → Option ((List Int) × (Bool × (List Int)) × (Bool × Int × (List (List (List Int))) × (List (List (List ByteArray)))) × (List Int) × Bool)) : Nat → (Int × (List Int) × (Bool × (List Int)) × (Bool × Int × (List (List (List Int))) × (List (List (List ByteArray)))) × (List Int) × Unit × Int × Bool × (List (List Int)) × Int × Int) → Option (Int × (List Int) × (Bool × (List Int)) × (Bool × Int × (List (List (List Int))) × (List (List (List ByteArray)))) × (List Int) × Unit × Int × Bool)
 | 0, _ => none
 | n + 1, (t0, t1, t2, t3, t4, t5, t8, t9, t50, t51, t52) =>
  if decide (t52 < t51) then
   if inb t52 t50 then
    if t9 then
     if t3.1 = true then
      if inb t0 t3.2.2.2 then
       if inb t52 (gd t3.2.2.2 t0 []) then
        (impl_compose (gd t50 t52 []) t1).bind fun r2 =>
         (impl_keyOf r2).bind fun r3 =>
          impl_netSearch_each_c1_impl_firstSolution_c1_L10 rec n (t0, t1, (t2.1, t2.2), t3, t4, (), t8, mhas (gd (gd t3.2.2.2 t0 []) t52 []) r3, t50, t51, w64 (t52 + 1))
       else none
      else none
     else none
    else
     impl_netSearch_each_c1_impl_firstSolution_c1_L10 rec n (t0, t1, (t2.1, t2.2), t3, t4, (), t8, false, t50, t51, w64 (t52 + 1))
   else none
  else
   some (t0, t1, (t2.1, t2.2), t3, t4, (), t8, t9)
def impl_netSearch_each_c1_impl_firstSolution_c1_L4 (rec : (Int × (List Int) × (Bool × (List Int)) × (Bool × Int × (List (List (List Int))) × (List (List (List ByteArray)))) × (List Int) × Unit) → Option ((List Int) × (Bool × (List Int)) × (Bool × Int × (List (List (List Int))) × (List (List (List ByteArray)))) × (List Int) × Bool)) : Nat → (Int × (List Int) × (Bool × (List Int)) × (Bool × Int × (List (List (List Int))) × (List (List (List ByteArray)))) × (List Int) × Unit × Int) → Option (((List Int) × (Bool × (List Int)) × (Bool × Int × (List (List (List Int))) × (List (List (List ByteArray)))) × (List Int) × Unit) ⊕ ((List Int) × (Bool × (List Int)) × (Bool × Int × (List (List (List Int))) × (List (List (List ByteArray)))) × (List Int) × Unit × Bool))
 | 0, _ => none
 | n + 1, (t0, t1, t2, t3, t4, t5, t8) =>
  if t3.1 = true then
   if decide (t8 < t3.2.1) then
    if inb t0 t4 then
     if decide ((gd t4 t0 0) ≥ 0) then
      if inb t0 t4 then
       if (gd t4 t0 0) != t8 then
        impl_netSearch_each_c1_impl_firstSolution_c1_L4 rec n (t0, t1, (t2.1, t2.2), t3, t4, (), w64 (t8 + 1))
       else
        if inb t0 t1 then
         if t3.1 = true then
          if inb t0 t3.2.2.1 then
           (impl_netSearch_each_c1_impl_firstSolution_c1_L10 rec fuel (t0, stt t1 t0 t8, (t2.1, t2.2), t3, t4, (), t8, true, gd t3.2.2.1 t0 [], ((gd t3.2.2.1 t0 []).length : Int), 0)).bind fun s2 =>
            if s2.2.2.2.2.2.2.2 then
             (rec (w64 (s2.1 + 1), s2.2.1, (s2.2.2.1.1, s2.2.2.1.2), s2.2.2.2.1, s2.2.2.2.2.1, ())).bind fun r3 =>
              if !r3.2.2.2.2 then
               some (.inr (r3.1, (r3.2.1.1, r3.2.1.2), r3.2.2.1, r3.2.2.2.1, (), false))
              else
               impl_netSearch_each_c1_impl_firstSolution_c1_L4 rec n (s2.1, r3.1, (r3.2.1.1, r3.2.1.2), r3.2.2.1, r3.2.2.2.1, (), w64 (s2.2.2.2.2.2.2.1 + 1))
            else
             impl_netSearch_each_c1_impl_firstSolution_c1_L4 rec n (s2.1, s2.2.1, (s2.2.2.1.1, s2.2.2.1.2), s2.2.2.2.1, s2.2.2.2.2.1, (), w64 (s2.2.2.2.2.2.2.1 + 1))
          else none
         else none
        else none
      else none
     else
      if inb t0 t1 then
       if t3.1 = true then
        if inb t0 t3.2.2.1 then
         (impl_netSearch_each_c1_impl_firstSolution_c1_L10 rec fuel (t0, stt t1 t0 t8, (t2.1, t2.2), t3, t4, (), t8, true, gd t3.2.2.1 t0 [], ((gd t3.2.2.1 t0 []).length : Int), 0)).bind fun s4 =>
          if s4.2.2.2.2.2.2.2 then
           (rec (w64 (s4.1 + 1), s4.2.1, (s4.2.2.1.1, s4.2.2.1.2), s4.2.2.2.1, s4.2.2.2.2.1, ())).bind fun r5 =>
            if !r5.2.2.2.2 then
             some (.inr (r5.1, (r5.2.1.1, r5.2.1.2), r5.2.2.1, r5.2.2.2.1, (), false))
            else
             impl_netSearch_each_c1_impl_firstSolution_c1_L4 rec n (s4.1, r5.1, (r5.2.1.1, r5.2.1.2), r5.2.2.1, r5.2.2.2.1, (), w64 (s4.2.2.2.2.2.2.1 + 1))
          else
           impl_netSearch_each_c1_impl_firstSolution_c1_L4 rec n (s4.1, s4.2.1, (s4.2.2.1.1, s4.2.2.1.2), s4.2.2.2.1, s4.2.2.2.2.1, (), w64 (s4.2.2.2.2.2.2.1 + 1))
        else none
       else none
      else none
    else none
   else
    some (.inl (t1, (t2.1, t2.2), t3, t4, ()))
  else none
def impl_netSearch_each_c1_impl_firstSolution_c1_body (rec : (Int × (List Int) × (Bool × (List Int)) × (Bool × Int × (List (List (List Int))) × (List (List (List ByteArray)))) × (List Int) × Unit) → Option ((List Int) × (Bool × (List Int)) × (Bool × Int × (List (List (List Int))) × (List (List (List ByteArray)))) × (List Int) × Bool)) (t0 : Int) (t1 : List Int) (t2 : Bool × (List Int)) (t3 : Bool × Int × (List (List (List Int))) × (List (List (List ByteArray)))) (t4 : List Int) (t5 : Unit) : Option ((List Int) × (Bool × (List Int)) × (Bool × Int × (List (List (List Int))) × (List (List (List ByteArray)))) × (List Int) × Bool) :=
 if t0 == (t1.length : Int) then
  (impl_firstSolution_c1 t1 (t2.1, t2.2)).bind fun r1 =>
   some (t1, (r1.1.1, r1.1.2), t3, t4, r1.2)
 else
  (impl_netSearch_each_c1_impl_firstSolution_c1_L4 rec fuel (t0, t1, (t2.1, t2.2), t3, t4, (), 0)).bind fun s2 =>
   match s2 with
   | .inl s3 =>
    some (s3.1, (s3.2.1.1, s3.2.1.2), s3.2.2.1, s3.2.2.2.1, true)
   | .inr s4 =>
    some (s4.1, (s4.2.1.1, s4.2.1.2), s4.2.2.1, s4.2.2.2.1, s4.2.2.2.2.2)
def impl_netSearch_each_c1_impl_firstSolution_c1 : Nat → (Int × (List Int) × (Bool × (List Int)) × (Bool × Int × (List (List (List Int))) × (List (List (List ByteArray)))) × (List Int) × Unit) → Option ((List Int) × (Bool × (List Int)) × (Bool × Int × (List (List (List Int))) × (List (List (List ByteArray)))) × (List Int) × Bool)
 | 0, _ => none
 | d + 1, x => impl_netSearch_each_c1_impl_firstSolution_c1_body (impl_netSearch_each_c1_impl_firstSolution_c1 d) x.1 x.2.1 x.2.2.1 x.2.2.2.1 x.2.2.2.2.1 x.2.2.2.2.2
def impl_netSearch_each_impl_firstSolution_c1 (s : Bool × Int × (List (List (List Int))) × (List (List (List ByteArray)))) (partial_ : List Int) (found : Bool × (List Int)) : Option ((Bool × (List Int))) :=
 if 0 ≤ (partial_.length : Int) ∧ (partial_.length : Int) ≤ (partial_.length : Int) ∧ (partial_.length : Int) ≤ lim then
  (impl_netSearch_each_c1_impl_firstSolution_c1 fuel (0, List.replicate (Int.toNat (partial_.length : Int)) (0 : Int), (found.1, found.2), s, partial_, ())).bind fun r1 =>
   some (r1.2.1.1, r1.2.1.2)
 else none
def impl_firstSolution (net : Int × Int × (List ((List Int) × Int × (List (List Int))))) (partial_ : List Int) : Option ((Bool × (List Int))) :=
 (impl_newNetSearch (net.1, (net.2.1, net.2.2))).bind fun r1 =>
  (impl_netSearch_each_impl_firstSolution_c1 r1 partial_ (false, [])).bind fun r2 =>
   some (r2.1, r2.2)
def impl_solvable (net : Int × Int × (List ((List Int) × Int × (List (List Int))))) : Option (Bool) :=
 (impl_freeTable net.1).bind fun r1 =>
  (impl_firstSolution (net.1, (net.2.1, net.2.2)) r1).bind fun r2 =>
   some r2.1
def impl_identityOf_L3 : Nat → ((List Int) × Int × Int) → Option ((List Int))
 | 0, _ => none
 | n + 1, (p, t8, t9) =>
  if decide (t9 < t8) then
   if inb t9 p then
    impl_identityOf_L3 n (stt p t9 t9, t8, w64 (t9 + 1))
   else none
  else
   some p
def impl_identityOf (n_ : Int) : Option ((List Int)) :=
 if 0 ≤ n_ ∧ n_ ≤ n_ ∧ n_ ≤ lim then
  (impl_identityOf_L3 fuel (List.replicate (Int.toNat n_) (0 : Int), ((List.replicate (Int.toNat n_) (0 : Int)).length : Int), 0)).bind fun s1 =>
   some s1
 else none
def impl_partOf_L3 : Nat → (Unit × (List Int) × (Int × Int × (List ((List Int) × Int × (List (List Int))))) × (Int × (Int × (List ((List Int) × Int × (List (List Int)))))) × (Int × (Int × (List ((List Int) × Int × (List (List Int)))))) × Int × Int) → Option ((List Int) × (Int × (Int × (List ((List Int) × Int × (List (List Int)))))) × (Int × (Int × (List ((List Int) × Int × (List (List Int)))))))
 | 0, _ => none
 | n + 1, (al13, indices, net, t4, part, t14, t15) =>
  if decide (t15 < t14) then
   if inb t15 indices then
    if inb (gd indices t15 0) net.2.2 then
     if part.2.2.length + [gd net.2.2 (gd indices t15 0) ([], (0, []))].length ≤ lim then
      impl_partOf_L3 n ((), indices, (net.1, (net.2.1, net.2.2)), (t4.1, (t4.2.1, t4.2.2)), (part.1, (part.2.1, part.2.2 ++ [gd net.2.2 (gd indices t15 0) ([], (0, []))])), t14, w64 (t15 + 1))
     else none
    else none
   else none
  else
   some (indices, (t4.1, (t4.2.1, t4.2.2)), (part.1, (part.2.1, part.2.2)))
def impl_partOf (net : Int × Int × (List ((List Int) × Int × (List (List Int))))) (indices : List Int) : Option ((List Int) × (Int × (Int × (List ((List Int) × Int × (List (List Int))))))) :=
 (impl_partOf_L3 fuel ((), indices, (net.1, (net.2.1, net.2.2)), (0, (0, [])), (net.1, (net.2.1, [])), (indices.length : Int), 0)).bind fun s1 =>
  some (s1.1, (s1.2.2.1, (s1.2.2.2.1, s1.2.2.2.2)))
def impl_ConflictCore_L9 : Nat → (Unit × (Int × Int × (List ((List Int) × Int × (List (List Int))))) × (List Int) × Int × (List Int) × Int × Int × Int × Int) → Option ((Int × Int × (List ((List Int) × Int × (List (List Int))))) × (List Int) × (List Int) × Int × Int)
 | 0, _ => none
 | n + 1, (al28, net, core, i, less, t23, t24, t29, t30) =>
  if decide (t30 < t29) then
   if inb t30 core then
    if (gd core t30 0) != i then
     if less.length + [gd core t30 0].length ≤ lim then
      impl_ConflictCore_L9 n ((), (net.1, (net.2.1, net.2.2)), core, i, less ++ [gd core t30 0], t23, t24, t29, w64 (t30 + 1))
     else none
    else
     impl_ConflictCore_L9 n ((), (net.1, (net.2.1, net.2.2)), core, i, less, t23, t24, t29, w64 (t30 + 1))
   else none
  else
   some ((net.1, (net.2.1, net.2.2)), core, less, t23, t24)
def impl_ConflictCore_L5 : Nat → ((Int × Int × (List ((List Int) × Int × (List (List Int))))) × (List Int) × Int × Int) → Option ((List Int))
 | 0, _ => none
 | n + 1, (net, core, t23, t24) =>
  if decide (t24 < t23) then
   (impl_ConflictCore_L9 fuel ((), (net.1, (net.2.1, net.2.2)), core, t24, [], t23, t24, (core.length : Int), 0)).bind fun s4 =>
    (impl_partOf (s4.1.1, (s4.1.2.1, s4.1.2.2)) s4.2.2.1).bind fun r5 =>
     (impl_solvable (r5.2.1, (r5.2.2.1, r5.2.2.2))).bind fun r6 =>
      if !r6 then
       impl_ConflictCore_L5 n ((s4.1.1, (s4.1.2.1, s4.1.2.2)), r5.1, s4.2.2.2.1, w64 (s4.2.2.2.2 + 1))
      else
       impl_ConflictCore_L5 n ((s4.1.1, (s4.1.2.1, s4.1.2.2)), s4.2.1, s4.2.2.2.1, w64 (s4.2.2.2.2 + 1))
  else
   some core
def impl_ConflictCore (net : Int × Int × (List ((List Int) × Int × (List (List Int))))) : Option ((List Int) × Bool) :=
 (impl_IsNetwork (net.1, (net.2.1, net.2.2))).bind fun r1 =>
  if !r1 then
   some ([], false)
  else
   (impl_solvable (net.1, (net.2.1, net.2.2))).bind fun r2 =>
    if r2 then
     some ([], false)
    else
     (impl_identityOf (net.2.2.length : Int)).bind fun r3 =>
      (impl_ConflictCore_L5 fuel ((net.1, (net.2.1, net.2.2)), r3, (net.2.2.length : Int), 0)).bind fun s4 =>
       some (s4, true)
end T
open Go Go.Va
namespace T
abbrev NS := Bool × Int × List (List (List Int)) × List (List (List ByteArray))
abbrev NIn (σ : Type) := Int × List Int × σ × NS × List Int × Unit
abbrev NOut (σ : Type) := List Int × σ × NS × List Int × Bool
def hM {σ : Type} : Nat → (Int × List Int × σ × NS × List Int × Unit × Int × Bool × List (List Int) × Int × Int) → Option (Int × List Int × σ × NS × List Int × Unit × Int × Bool)
 | 0, _ => none
 | n + 1, (t0, t1, t2, t3, t4, t5, t8, t9, t50, t51, t52) =>
  if decide (t52 < t51) then
   if inb t52 t50 then
    if t9 then
     if t3.1 = true then
      if inb t0 t3.2.2.2 then
       if inb t52 (gd t3.2.2.2 t0 []) then
        (impl_compose (gd t50 t52 []) t1).bind fun r2 =>
         (impl_keyOf r2).bind fun r3 =>
          hM n (t0, t1, t2, t3, t4, (), t8, mhas (gd (gd t3.2.2.2 t0 []) t52 []) r3, t50, t51, w64 (t52 + 1))
       else none
      else none
     else none
    else
     hM n (t0, t1, t2, t3, t4, (), t8, false, t50, t51, w64 (t52 + 1))
   else none
  else
   some (t0, t1, t2, t3, t4, (), t8, t9)
def hL {σ : Type} (rec : NIn σ → Option (NOut σ)) : Nat → (Int × List Int × σ × NS × List Int × Unit × Int) → Option ((List Int × σ × NS × List Int × Unit) ⊕ (List Int × σ × NS × List Int × Unit × Bool))
 | 0, _ => none
 | n + 1, (t0, t1, t2, t3, t4, t5, t8) =>
  if t3.1 = true then
   if decide (t8 < t3.2.1) then
    if inb t0 t4 then
     if decide ((gd t4 t0 0) ≥ 0) then
      if inb t0 t4 then
       if (gd t4 t0 0) != t8 then
        hL rec n (t0, t1, t2, t3, t4, (), w64 (t8 + 1))
       else
        if inb t0 t1 then
         if t3.1 = true then
          if inb t0 t3.2.2.1 then
           (hM fuel (t0, stt t1 t0 t8, t2, t3, t4, (), t8, true, gd t3.2.2.1 t0 [], ((gd t3.2.2.1 t0 []).length : Int), 0)).bind fun s2 =>
            if s2.2.2.2.2.2.2.2 then
             (rec (w64 (s2.1 + 1), s2.2.1, s2.2.2.1, s2.2.2.2.1, s2.2.2.2.2.1, ())).bind fun r3 =>
              if !r3.2.2.2.2 then
               some (.inr (r3.1, r3.2.1, r3.2.2.1, r3.2.2.2.1, (), false))
              else
               hL rec n (s2.1, r3.1, r3.2.1, r3.2.2.1, r3.2.2.2.1, (), w64 (s2.2.2.2.2.2.2.1 + 1))
            else
             hL rec n (s2.1, s2.2.1, s2.2.2.1, s2.2.2.2.1, s2.2.2.2.2.1, (), w64 (s2.2.2.2.2.2.2.1 + 1))
          else none
         else none
        else none
      else none
     else
      if inb t0 t1 then
       if t3.1 = true then
        if inb t0 t3.2.2.1 then
         (hM fuel (t0, stt t1 t0 t8, t2, t3, t4, (), t8, true, gd t3.2.2.1 t0 [], ((gd t3.2.2.1 t0 []).length : Int), 0)).bind fun s4 =>
          if s4.2.2.2.2.2.2.2 then
           (rec (w64 (s4.1 + 1), s4.2.1, s4.2.2.1, s4.2.2.2.1, s4.2.2.2.2.1, ())).bind fun r5 =>
            if !r5.2.2.2.2 then
             some (.inr (r5.1, r5.2.1, r5.2.2.1, r5.2.2.2.1, (), false))
            else
             hL rec n (s4.1, r5.1, r5.2.1, r5.2.2.1, r5.2.2.2.1, (), w64 (s4.2.2.2.2.2.2.1 + 1))
          else
           hL rec n (s4.1, s4.2.1, s4.2.2.1, s4.2.2.2.1, s4.2.2.2.2.1, (), w64 (s4.2.2.2.2.2.2.1 + 1))
        else none
       else none
      else none
    else none
   else
    some (.inl (t1, t2, t3, t4, ()))
  else none
def hBody {σ : Type} (cb : List Int → σ → Option (σ × Bool)) (rec : NIn σ → Option (NOut σ)) (x : NIn σ) : Option (NOut σ) :=
 if x.1 == (x.2.1.length : Int) then
  (cb x.2.1 x.2.2.1).bind fun r1 => some (x.2.1, r1.1, x.2.2.2.1, x.2.2.2.2.1, r1.2)
 else
  (hL rec fuel (x.1, x.2.1, x.2.2.1, x.2.2.2.1, x.2.2.2.2.1, (), 0)).bind fun s2 =>
   match s2 with
   | .inl s3 => some (s3.1, s3.2.1, s3.2.2.1, s3.2.2.2.1, true)
   | .inr s4 => some (s4.1, s4.2.1, s4.2.2.1, s4.2.2.2.1, s4.2.2.2.2.2)
def hF {σ : Type} (cb : List Int → σ → Option (σ × Bool)) : Nat → NIn σ → Option (NOut σ)
 | 0, _ => none
 | d + 1, x => hBody cb (hF cb d) x
def mostC (c : Con) : Nat := c.1.foldl (fun m v => max m v.toNat) 0
def conAt (cs : List Con) (v : Nat) : List Con := cs.filter fun c => mostC c == v
def scopesN (cs : List Con) (V : Nat) : List (List (List Int)) := (List.range V).map fun v => (conAt cs v).map (·.1)
def setsN (cs : List Con) (V : Nat) : List (List (List ByteArray)) := (List.range V).map fun v => (conAt cs v).map fun c => keys c.2.2
def okN (cs : List Con) (pre : List Int) : Bool := (conAt cs (pre.length - 1)).all (conH pre)
theorem max_fold : ∀ (l : List Int) (m : Nat), m ≤ l.foldl (fun m v => max m v.toNat) m ∧ (∀ v ∈ l, v.toNat ≤ l.foldl (fun m v => max m v.toNat) m) ∧ ∀ B, m ≤ B → (∀ v ∈ l, v.toNat ≤ B) → l.foldl (fun m v => max m v.toNat) m ≤ B
 | [], m => ⟨Nat.le_refl _, by simp, fun B h _ => h⟩
 | v :: l, m => by
  obtain ⟨h1, h2, h3⟩ := max_fold l (max m v.toNat)
  simp only [List.foldl_cons]
  refine ⟨by omega, fun w hw => ?_, fun B h h' => h3 B (by have := h' v (List.mem_cons_self ..); omega) fun w hw => h' w (List.mem_cons_of_mem _ hw)⟩
  rcases List.mem_cons.1 hw with rfl | hw
  ·omega
  ·exact h2 w hw
section
variable {V n : Nat} {cs : List Con} {given : List Int}
structure SrchOk (V n : Nat) (cs : List Con) : Prop where
 hv : V ≤ 9
 hn : 1 ≤ n ∧ n ≤ 4
 hc : cs.length ≤ 40
 con : ∀ c ∈ cs, ConOk (V : Int) (n : Int) c
theorem mem_conAt {c : Con} {v : Nat} : c ∈ conAt cs v ↔ c ∈ cs ∧ mostC c = v := by simp [conAt]
theorem conAt_ok (h : SrchOk V n cs) {v : Nat} {c : Con} (hc : c ∈ conAt cs v) : ConOk ((v + 1 : Nat) : Int) (n : Int) c ∧ v < V := by
 obtain ⟨h1, h2⟩ := mem_conAt.1 hc
 have hk := h.con c h1
 obtain ⟨_, g2, g3⟩ := max_fold c.1 0
 have hv : v < V := by
  have hm := hk.ar
  have hsl := hk.sl
  have h0 := hk.sv 0 (by omega)
  have := g3 (V - 1) (by omega) fun w hw => by
   obtain ⟨i, hi, rfl⟩ := List.mem_iff_getElem.1 hw
   have := hk.sv i hi
   omega
  have : mostC c ≤ V - 1 := this
  omega
 refine ⟨⟨hk.ar, hk.sl, fun i hi => ?_, hk.tl, hk.tv, hk.inc, hk.many⟩, hv⟩
 have h3 := hk.sv i hi
 have h4 := g2 _ (List.getElem_mem hi)
 have h4 : (c.1[i]).toNat ≤ mostC c := h4
 omega
theorem conH_take (h : SrchOk V n cs) {v : Nat} {c : Con} (hc : c ∈ conAt cs v) (tab : List Int) : conH (tab.take (v + 1)) c = conH tab c := by
 have hk := (conAt_ok h hc).1
 unfold conH
 have : c.1.map (valI (tab.take (v + 1))) = c.1.map (valI tab) := List.map_congr_left fun x hx => by
  obtain ⟨i, hi, rfl⟩ := List.mem_iff_getElem.1 hx
  have := hk.sv i hi
  unfold valI
  rw [List.getD_eq_getElem?_getD, List.getD_eq_getElem?_getD, List.getElem?_take, if_pos (by omega)]
 rw [this]
theorem okN_take (h : SrchOk V n cs) {v : Nat} {tab : List Int} (hv : v < tab.length) : okN cs (tab.take (v + 1)) = (conAt cs v).all (conH tab) := by
 unfold okN
 rw [List.length_take, show min (v + 1) tab.length - 1 = v by omega, Bool.eq_iff_iff, List.all_eq_true, List.all_eq_true]
 exact ⟨fun g c hc => by rw [← conH_take h hc]; exact g c hc, fun g c hc => by rw [conH_take h hc]; exact g c hc⟩
theorem scopesN_get {v : Nat} (hv : v < V) : (scopesN cs V).length = V ∧ (scopesN cs V).getD v [] = (conAt cs v).map (·.1) := by
 refine ⟨by simp [scopesN], ?_⟩
 rw [getD_of (by simp [scopesN]; exact hv)]; simp [scopesN]
theorem setsN_get {v : Nat} (hv : v < V) : (setsN cs V).length = V ∧ (setsN cs V).getD v [] = (conAt cs v).map fun c => keys c.2.2 := by
 refine ⟨by simp [setsN], ?_⟩
 rw [getD_of (by simp [setsN]; exact hv)]; simp [setsN]
theorem hM_ok (h : SrchOk V n cs) {v : Nat} (hv : v < V) {tab : List Int} (ht : tab.length = V) (htv : ∀ x ∈ tab, 0 ≤ x ∧ x < 256) {σ : Type} (s : σ) (x : Int) :
    hM fuel ((v : Int), tab, s, (true, ((n : Int), (scopesN cs V, setsN cs V))), given, (), x, true, gd (scopesN cs V) (v : Int) [], ((gd (scopesN cs V) (v : Int) []).length : Int), 0) =
      some ((v : Int), tab, s, (true, ((n : Int), (scopesN cs V, setsN cs V))), given, (), x, okN cs (tab.take (v + 1))) := by
  obtain ⟨l1, e1⟩ := scopesN_get (cs := cs) hv
  obtain ⟨l2, e2⟩ := setsN_get (cs := cs) hv
  have hn := h.hn
  have hg1 : gd (scopesN cs V) (v : Int) [] = (conAt cs v).map (·.1) := e1
  have hg2 : gd (setsN cs V) (v : Int) [] = (conAt cs v).map fun c => keys c.2.2 := e2
  rw [okN_take h (by omega), hg1]
  have hlen : (conAt cs v).length ≤ 40 := Nat.le_trans (List.length_filter_le _ _) h.hc
  have := forS (conAt cs v).length (fun f (o : Bool) i => hM f ((v : Int), tab, s, (true, ((n : Int), (scopesN cs V, setsN cs V))), given, (), x, o, (conAt cs v).map (·.1), (((conAt cs v).map (·.1)).length : Int), i)) (fun k => ((conAt cs v).take k).all (conH tab)) (r := some ((v : Int), tab, s, (true, ((n : Int), (scopesN cs V, setsN cs V))), given, (), x, (conAt cs v).all (conH tab))) (fun f k hk => ?_) (fun f => ?_) (n := fuel) (by unfold fuel; omega)
  · exact this
  · have hmem := List.getElem_mem hk
    have hcon := (conAt_ok h hmem).1
    have hsl := hcon.sl
    have har := hcon.ar
    have hmany := hcon.many
    have hin : inb (k : Int) ((conAt cs v).map (·.1)) := by unfold inb; rw [List.length_map]; omega
    have hgk : gd ((conAt cs v).map (·.1)) (k : Int) [] = (conAt cs v)[k].1 := by
      have := gd_nat (xs := (conAt cs v).map (·.1)) (d := []) (k := k) (by simpa using hk)
      rw [this]; simp
    have hin2 : inb (k : Int) ((conAt cs v).map fun c => keys c.2.2) := by unfold inb; rw [List.length_map]; omega
    have hgk2 : gd ((conAt cs v).map fun c => keys c.2.2) (k : Int) [] = keys (conAt cs v)[k].2.2 := by
      have := gd_nat (xs := (conAt cs v).map fun c => keys c.2.2) (d := []) (k := k) (by simpa using hk)
      rw [this]; simp
    have hsc : ∀ y ∈ (conAt cs v)[k].1, 0 ≤ y ∧ y < tab.length := fun y hy => by
      obtain ⟨i, hi, rfl⟩ := List.mem_iff_getElem.1 hy
      have := hcon.sv i hi
      omega
    have hc := impl_compose_ok (f := (conAt cs v)[k].1) (g := tab) (by omega) hsc
    have hval : ∀ y ∈ (conAt cs v)[k].1.map (valI tab), 0 ≤ y ∧ y < 256 := fun y hy => by
      obtain ⟨z, hz, rfl⟩ := List.mem_map.1 hy
      have := hsc z hz
      exact htv _ (getD_mem (by omega))
    have hk2 := impl_keyOf_ok (l := (conAt cs v)[k].1.map (valI tab)) (by rw [List.length_map]; omega) hval
    have hmk := mhas_keys (l := (conAt cs v)[k].2.2) (t := (conAt cs v)[k].1.map (valI tab)) (fun t ht y hy => by
      obtain ⟨i, hi, rfl⟩ := List.mem_iff_getElem.1 hy
      have := hcon.tv t ht i hi
      omega) hval
    have hiv : inb (v : Int) (setsN cs V) := by unfold inb; omega
    have htk : ((conAt cs v).take (k + 1)).all (conH tab) = (((conAt cs v).take k).all (conH tab) && conH tab (conAt cs v)[k]) := by
      rw [List.take_succ_eq_append_getElem hk, List.all_append]; simp
    simp only [hM, hin, hgk, hc, hk2, hiv, hg2, hin2, hgk2, hmk, Option.bind_some, w64_succ (show k < 4611686018427387904 by omega), htk, if_true]
    rw [if_pos (by simp; omega)]
    cases ((conAt cs v).take k).all (conH tab) with
    | false => simp
    | true => simp [conH]
  · simp only [hM, List.take_length]
    rw [if_neg (by simp)]
end
end T
open Go Go.Va
namespace T
section
variable {V n : Nat} {cs : List Con} {given : List Int}
abbrev nsOf (V n : Nat) (cs : List Con) : NS := (true, ((n : Int), (scopesN cs V, setsN cs V)))
theorem hF_ok (h : SrchOk V n cs) (hg : given.length = V) {σ : Type} (cb : List Int → σ → Option (σ × Bool)) : ∀ (m d at' : Nat) (tab : List Int) (s : σ), at' + m = V → m < d → tab.length = V → (∀ x ∈ tab, 0 ≤ x ∧ x < 256) →
    ∀ s' b, foldU cb (extL n given (okN cs) m (tab.take at')) s = some (s', b) →
    ∃ tab' : List Int, tab'.length = V ∧ (∀ x ∈ tab', 0 ≤ x ∧ x < 256) ∧ tab'.take at' = tab.take at' ∧ hF cb d ((at' : Int), tab, s, nsOf V n cs, given, ()) = some (tab', s', nsOf V n cs, given, b) := by
  have hn := h.hn
  have hV := h.hv
  intro m
  induction m with
  | zero =>
    intro d a tab s ha hd ht hv s' b hf
    obtain ⟨d, rfl⟩ : ∃ z, d = z + 1 := ⟨d - 1, by omega⟩
    have e : tab.take a = tab := List.take_of_length_le (by omega)
    rw [e] at hf
    simp only [extL, foldU] at hf
    refine ⟨tab, ht, hv, rfl, ?_⟩
    simp only [hF, hBody]
    rw [if_pos (by simp; omega)]
    cases hc : cb tab s with
    | none => rw [hc] at hf; exact absurd hf (by simp)
    | some q =>
      obtain ⟨s1, b1⟩ := q
      rw [hc] at hf
      have : s1 = s' ∧ b1 = b := by cases b1 <;> simpa using hf
      obtain ⟨rfl, rfl⟩ := this
      rfl
  | succ m ih =>
    intro d a tab s ha hd ht hv s' b hf
    obtain ⟨d, rfl⟩ : ∃ z, d = z + 1 := ⟨d - 1, by omega⟩
    have hat : a < V := by omega
    have key : ∀ (c x f : Nat) (tab1 : List Int) (s1 : σ), x + c = n → c < f → tab1.length = V → (∀ x ∈ tab1, 0 ≤ x ∧ x < 256) → tab1.take a = tab.take a → ∀ s' b,
        foldU cb ((List.range' x c).flatMap fun x => if mstB given (tab.take a).length x && okN cs (tab.take a ++ [(x : Int)]) then extL n given (okN cs) m (tab.take a ++ [(x : Int)]) else []) s1 = some (s', b) →
        ∃ tab' : List Int, tab'.length = V ∧ (∀ x ∈ tab', 0 ≤ x ∧ x < 256) ∧ tab'.take a = tab.take a ∧ hL (hF cb d) f ((a : Int), tab1, s1, nsOf V n cs, given, (), (x : Int)) = some (if b then .inl (tab', s', nsOf V n cs, given, ()) else .inr (tab', s', nsOf V n cs, given, (), false)) := by
      intro c
      induction c with
      | zero =>
        intro x f tab1 s1 hx hf1 ht1 hv1 htk s' b hf2
        obtain ⟨f, rfl⟩ : ∃ z, f = z + 1 := ⟨f - 1, by omega⟩
        have : s1 = s' ∧ true = b := by simpa [foldU] using hf2
        obtain ⟨rfl, rfl⟩ := this
        refine ⟨tab1, ht1, hv1, htk, ?_⟩
        simp only [hL]
        rw [if_pos trivial, if_neg (by simp; omega)]; rfl
      | succ c ihc =>
        intro x f tab1 s1 hx hf1 ht1 hv1 htk s' b hf2
        obtain ⟨f, rfl⟩ : ∃ z, f = z + 1 := ⟨f - 1, by omega⟩
        have hlen : (tab.take a).length = a := by rw [List.length_take]; omega
        have hag : a < given.length := by omega
        have hat1 : a < tab1.length := by omega
        have hsc : a < (scopesN cs V).length := by rw [(scopesN_get (cs := cs) hat).1]; exact hat
        rw [List.range'_succ, List.flatMap_cons, foldU_append, hlen] at hf2
        rw [hlen] at ihc
        have hset : (tab1.set a (x : Int)).take (a + 1) = tab.take a ++ [(x : Int)] := by
          rw [List.take_succ_eq_append_getElem (by simp; omega), List.take_set_of_le (Nat.le_refl _), List.getElem_set_self, htk]
        have hsl : (tab1.set a (x : Int)).length = V := by simp [ht1]
        have hsv : ∀ y ∈ tab1.set a (x : Int), 0 ≤ y ∧ y < 256 := fun y hy => by
          rcases List.mem_or_eq_of_mem_set hy with h1 | h1
          · exact hv1 y h1
          · subst h1; omega
        have hst : (tab1.set a (x : Int)).take a = tab.take a := by rw [List.take_set_of_le (Nat.le_refl _), htk]
        have hfit := hM_ok (given := given) h hat hsl hsv s1 (x : Int)
        rw [hset] at hfit
        have hw : w64 ((x : Int) + 1) = ((x + 1 : Nat) : Int) := w64_succ (by omega)
        have hwa : w64 ((a : Int) + 1) = ((a + 1 : Nat) : Int) := w64_succ (by omega)
        have step : mstB given a x = true → ∀ R, R = (hM fuel ((a : Int), tab1.set a (x : Int), s1, nsOf V n cs, given, (), (x : Int), true, gd (scopesN cs V) (a : Int) [], ((gd (scopesN cs V) (a : Int) []).length : Int), 0)).bind (fun s4 =>
                if s4.2.2.2.2.2.2.2 then
                  (hF cb d (w64 (s4.1 + 1), s4.2.1, s4.2.2.1, s4.2.2.2.1, s4.2.2.2.2.1, ())).bind fun r5 =>
                    if !r5.2.2.2.2 then
                      some (.inr (r5.1, r5.2.1, r5.2.2.1, r5.2.2.2.1, (), false))
                    else
                      hL (hF cb d) f (s4.1, r5.1, r5.2.1, r5.2.2.1, r5.2.2.2.1, (), w64 (s4.2.2.2.2.2.2.1 + 1))
                else
                  hL (hF cb d) f (s4.1, s4.2.1, s4.2.2.1, s4.2.2.2.1, s4.2.2.2.2.1, (), w64 (s4.2.2.2.2.2.2.1 + 1))) →
            ∃ tab' : List Int, tab'.length = V ∧ (∀ x ∈ tab', 0 ≤ x ∧ x < 256) ∧ tab'.take a = tab.take a ∧ R = some (if b then .inl (tab', s', nsOf V n cs, given, ()) else .inr (tab', s', nsOf V n cs, given, (), false)) := by
          intro hm R hR
          rw [hfit] at hR
          simp only [Option.bind_some] at hR
          rw [hm] at hf2
          cases hfi : okN cs (tab.take a ++ [(x : Int)]) with
          | false =>
            rw [hfi] at hf2 hR
            simp only [Bool.and_false, Bool.false_eq_true, if_false, foldU] at hf2 hR
            rw [hw] at hR
            rw [hR]
            exact ihc (x + 1) f _ s1 (by omega) (by omega) hsl hsv hst s' b hf2
          | true =>
            rw [hfi] at hf2 hR
            simp only [Bool.and_true, if_true] at hf2 hR
            rw [hwa] at hR
            cases hq : foldU cb (extL n given (okN cs) m (tab.take a ++ [(x : Int)])) s1 with
            | none => rw [hq] at hf2; exact absurd hf2 (by simp)
            | some q =>
              obtain ⟨s2, b2⟩ := q
              rw [hq] at hf2
              rw [← hset] at hq
              obtain ⟨tab2, h1, h2, h3, h4⟩ := ih d (a + 1) _ s1 (by omega) (by omega) hsl hsv s2 b2 hq
              have h3' : tab2.take a = tab.take a := by
                have := congrArg (List.take a) h3
                rw [List.take_take, List.take_take, Nat.min_eq_left (by omega)] at this
                rw [this, hst]
              rw [h4] at hR
              simp only [Option.bind_some] at hR
              cases b2 with
              | false =>
                have : s2 = s' ∧ false = b := by simpa using hf2
                obtain ⟨rfl, rfl⟩ := this
                refine ⟨tab2, h1, h2, h3', ?_⟩
                rw [hR]; rfl
              | true =>
                simp only [Bool.not_true, Bool.false_eq_true, if_false, hw] at hR
                rw [hR]
                exact ihc (x + 1) f tab2 s2 (by omega) (by omega) h1 h2 h3' s' b hf2
        simp only [hL, stt_nat, inb_nat, hag, hat1, hsc, if_true]
        rw [if_pos (by simp; omega)]
        by_cases hc1 : gd given (a : Int) 0 ≥ 0
        · rw [if_pos (decide_eq_true hc1)]
          by_cases hc2 : gd given (a : Int) 0 = (x : Int)
          · rw [if_neg (by simpa using hc2)]
            exact step (by unfold mstB; rw [show given.getD a 0 = (x : Int) from hc2]; simp) _ rfl
          · rw [if_pos (by simpa using hc2), hw]
            have hm : mstB given a x = false := by
              unfold mstB
              rw [decide_eq_true (show given.getD a 0 ≥ 0 from hc1)]
              simp only [Bool.true_and, Bool.not_eq_false', bne_iff_ne]; exact hc2
            rw [hm] at hf2
            simp only [Bool.false_and, Bool.false_eq_true, if_false, foldU] at hf2
            exact ihc (x + 1) f tab1 s1 (by omega) (by omega) ht1 hv1 htk s' b hf2
        · rw [if_neg (by simpa using hc1)]
          exact step (by unfold mstB; rw [decide_eq_false (show ¬ given.getD a 0 ≥ 0 from hc1)]; rfl) _ rfl
    simp only [extL] at hf
    rw [List.range_eq_range'] at hf
    obtain ⟨tab', h1, h2, h3, h4⟩ := key n 0 fuel tab s (by omega) (by unfold fuel; omega) ht hv rfl s' b hf
    refine ⟨tab', h1, h2, h3, ?_⟩
    simp only [hF, hBody]
    rw [if_neg (by simp; omega)]
    have h4 : hL (hF cb d) fuel ((a : Int), tab, s, nsOf V n cs, given, (), 0) = _ := h4
    rw [h4]
    cases b <;> rfl
def solsN (V n : Nat) (cs : List Con) (given : List Int) : List (List Int) := extL n given (okN cs) V []
theorem maxI_of {a b : Nat} {x : Int} (hx : x = (b : Int)) : maxI (a : Int) x = ((max a b : Nat) : Int) := by
 subst hx; unfold maxI; split <;> omega
theorem newNet_ok (h : SrchOk V n cs) : impl_newNetSearch ((V : Int), ((n : Int), cs)) = some (nsOf V n cs) := by
 have hV := h.hv
 have hc := h.hc
 unfold impl_newNetSearch
 have h3 := forS cs.length (fun f (o : Int × (List (List (List Int)) × List (List (List ByteArray)))) i => impl_newNetSearch_L3 f (o, cs, (cs.length : Int), i)) (fun k => ((n : Int), (scopesN (cs.take k) V, setsN (cs.take k) V))) (r := some ((n : Int), (scopesN cs V, setsN cs V))) (fun f k hk => ?_) (fun f => ?_) (n := fuel) (by unfold fuel; omega)
 ·have e1 : scopesN (cs.take 0) V = List.replicate V [] := by
   unfold scopesN conAt; simp [List.map_const']
  have e2 : setsN (cs.take 0) V = List.replicate V [] := by
   unfold setsN conAt; simp [List.map_const']
  rw [e1, e2] at h3
  have h3 : impl_newNetSearch_L3 fuel (((n : Int), (List.replicate (Int.toNat (V : Int)) ([] : List (List Int)), List.replicate (Int.toNat (V : Int)) ([] : List (List ByteArray)))), cs, (cs.length : Int), 0) = _ := h3
  rw [if_pos (by unfold lim; omega), if_pos (by unfold lim; omega), h3]; rfl
 ·have hcon := h.con _ (List.getElem_mem hk)
  have hsl := hcon.sl
  have har := hcon.ar
  have hmany := hcon.many
  have h7 := forS cs[k].1.length (fun f (o : Int) i => impl_newNetSearch_L7 f (((n : Int), (scopesN (cs.take k) V, setsN (cs.take k) V)), cs[k], o, cs, (cs.length : Int), (k : Int), cs[k].1, (cs[k].1.length : Int), i)) (fun j => (((cs[k].1.take j).foldl (fun m v => max m v.toNat) 0 : Nat) : Int)) (r := some (((n : Int), (scopesN (cs.take k) V, setsN (cs.take k) V)), cs[k], (mostC cs[k] : Int), cs, (cs.length : Int), (k : Int))) (fun f j hj => ?_) (fun f => ?_) (n := fuel) (by unfold fuel; omega)
  ·have hm : mostC cs[k] < V := (conAt_ok h (mem_conAt.2 ⟨List.getElem_mem hk, rfl⟩)).2
   have h7 : impl_newNetSearch_L7 fuel (((n : Int), (scopesN (cs.take k) V, setsN (cs.take k) V)), (cs[k].1, (cs[k].2.1, cs[k].2.2)), 0, cs, (cs.length : Int), (k : Int), cs[k].1, (cs[k].1.length : Int), 0) = _ := h7
   obtain ⟨l1, e1⟩ := scopesN_get (cs := cs.take k) hm
   obtain ⟨l2, e2⟩ := setsN_get (cs := cs.take k) hm
   have hi1 : inb (mostC cs[k] : Int) (scopesN (cs.take k) V) := by unfold inb; omega
   have hi2 : inb (mostC cs[k] : Int) (setsN (cs.take k) V) := by unfold inb; omega
   have g1 : gd (scopesN (cs.take k) V) (mostC cs[k] : Int) [] = (conAt (cs.take k) (mostC cs[k])).map (·.1) := e1
   have g2 : gd (setsN (cs.take k) V) (mostC cs[k] : Int) [] = (conAt (cs.take k) (mostC cs[k])).map fun c => keys c.2.2 := e2
   have hts := impl_tupleSet_ok (r := (cs[k].2.1, cs[k].2.2)) (show cs[k].2.2.length ≤ 1048576 by omega) (fun t ht => ⟨by have := hcon.tl t ht; omega, fun y hy => by
    obtain ⟨i, hi, rfl⟩ := List.mem_iff_getElem.1 hy
    have := hcon.tv t ht i hi
    have := h.hn
    omega⟩)
   have hcl : (conAt (cs.take k) (mostC cs[k])).length ≤ 40 := Nat.le_trans (List.length_filter_le _ _) (by rw [List.length_take]; omega)
   have hca : ∀ v, conAt (cs.take (k + 1)) v = conAt (cs.take k) v ++ (if mostC cs[k] = v then [cs[k]] else []) := fun v => by
    unfold conAt
    rw [List.take_succ_eq_append_getElem hk, List.filter_append]
    congr 1
    by_cases e : mostC cs[k] = v <;> simp [e]
   have s1 : (scopesN (cs.take k) V).set (mostC cs[k]) ((conAt (cs.take k) (mostC cs[k])).map (·.1) ++ [cs[k].1]) = scopesN (cs.take (k + 1)) V := by
    apply List.ext_getElem
    ·simp [scopesN]
    ·intro v h1 h2
     rw [List.getElem_set]
     simp only [scopesN, List.getElem_map, List.getElem_range, hca, List.map_append]
     by_cases e : mostC cs[k] = v
     ·rw [if_pos e, if_pos e, ← e]; rfl
     ·rw [if_neg e, if_neg e]; simp
   have s2 : (setsN (cs.take k) V).set (mostC cs[k]) ((conAt (cs.take k) (mostC cs[k])).map (fun c => keys c.2.2) ++ [keys cs[k].2.2]) = setsN (cs.take (k + 1)) V := by
    apply List.ext_getElem
    ·simp [setsN]
    ·intro v h1 h2
     rw [List.getElem_set]
     simp only [setsN, List.getElem_map, List.getElem_range, hca, List.map_append]
     by_cases e : mostC cs[k] = v
     ·rw [if_pos e, if_pos e, ← e]; rfl
     ·rw [if_neg e, if_neg e]; simp
   simp only [impl_newNetSearch_L3, inb_nat, hk, gd_nat hk, h7, Option.bind_some, if_true, inb_nat.1 hi1, inb_nat.1 hi2, g1, g2, hts, stt_nat, s1, s2, w64_succ (show k < 4611686018427387904 by omega)]
   rw [if_pos (by simp; omega), if_pos (by simp; unfold lim; omega), if_pos (by simp; unfold lim; omega)]
  ·have hj' := hcon.sv j hj
   have e := maxI_of (a := (cs[k].1.take j).foldl (fun m v => max m v.toNat) 0) (b := (cs[k].1[j]).toNat) (x := cs[k].1[j]) (by omega)
   have e2 : (cs[k].1.take (j + 1)).foldl (fun m v => max m v.toNat) 0 = max ((cs[k].1.take j).foldl (fun m v => max m v.toNat) 0) (cs[k].1[j]).toNat := by
    rw [List.take_succ_eq_append_getElem hj, List.foldl_append]; rfl
   simp only [impl_newNetSearch_L7, inb_nat, hj, gd_nat hj, e, e2, if_true, w64_succ (show j < 4611686018427387904 by omega)]
   rw [if_pos (by simp; omega)]
  ·simp only [impl_newNetSearch_L7, List.take_length]
   rw [if_neg (by simp)]; rfl
 ·simp only [impl_newNetSearch_L3, List.take_length]
  rw [if_neg (by simp)]
def fsCb (t : List Int) (s : Bool × List Int) : Option ((Bool × List Int) × Bool) := (impl_firstSolution_c1 t (s.1, s.2)).bind fun r => some ((r.1.1, r.1.2), r.2)
theorem eachFS_M (rec) : ∀ f x, impl_netSearch_each_c1_impl_firstSolution_c1_L10 rec f x = hM f x
 | 0, _ => rfl
 | f + 1, (a, b, c, d, e, g, x, y, z, u, v) => by simp only [impl_netSearch_each_c1_impl_firstSolution_c1_L10, hM, eachFS_M rec f]
theorem eachFS_L (rec) : ∀ f x, impl_netSearch_each_c1_impl_firstSolution_c1_L4 rec f x = hL rec f x
 | 0, _ => rfl
 | f + 1, (a, b, c, d, e, g, x) => by simp only [impl_netSearch_each_c1_impl_firstSolution_c1_L4, hL, eachFS_L rec f, eachFS_M]
theorem eachFS : ∀ d x, impl_netSearch_each_c1_impl_firstSolution_c1 d x = hF fsCb d x
 | 0, _ => rfl
 | d + 1, (a, t, (s1, s2), ps, g, u) => by
  have e : impl_netSearch_each_c1_impl_firstSolution_c1 d = hF fsCb d := funext fun x => eachFS d x
  simp only [impl_netSearch_each_c1_impl_firstSolution_c1, hF, hBody, impl_netSearch_each_c1_impl_firstSolution_c1_body, eachFS_L, e]
  split
  ·unfold fsCb; cases impl_firstSolution_c1 t (s1, s2) <;> rfl
  ·congr 1; funext z; cases z <;> rfl
def firstN (l : List (List Int)) : Bool × List Int := match l with | [] => (false, []) | t :: _ => (true, t)
theorem firstSol_ok (h : SrchOk V n cs) (hg : given.length = V) : impl_firstSolution ((V : Int), ((n : Int), cs)) given = some (firstN (solsN V n cs given)) := by
 have hV := h.hv
 unfold impl_firstSolution
 have e1 := newNet_ok h
 have hcb : ∀ t s, t.length ≤ 1048576 → fsCb t s = some ((true, t), false) := fun t s ht => by
  unfold fsCb impl_firstSolution_c1 impl_clone_b
  rw [if_pos (by simp; unfold lim; omega)]; rfl
 have hfold : foldU fsCb (solsN V n cs given) (false, []) = some (firstN (solsN V n cs given), match solsN V n cs given with | [] => true | _ => false) := by
  cases hs : solsN V n cs given with
  | nil => rfl
  | cons t l =>
   have ht := (ext_mem (n := n) (given := given) (ok := okN cs) V [] t (by unfold solsN at hs; rw [hs]; exact List.mem_cons_self ..)).1
   simp only [foldU]
   rw [hcb t _ (by simp at ht; omega)]; rfl
 obtain ⟨tab', _, _, _, h4⟩ := hF_ok h hg fsCb V fuel 0 (List.replicate V 0) (false, []) (by omega) (by unfold fuel; omega) (by simp) (fun x hx => by rw [List.eq_of_mem_replicate hx]; omega) _ _ (by simpa [solsN] using hfold)
 have h4 : impl_netSearch_each_c1_impl_firstSolution_c1 fuel (0, List.replicate V 0, (false, []), nsOf V n cs, given, ()) = _ := (eachFS fuel _).trans h4
 simp only [e1, Option.bind_some]
 unfold impl_netSearch_each_impl_firstSolution_c1
 rw [if_pos (by unfold lim; omega)]
 have hr : List.replicate (Int.toNat (given.length : Int)) (0 : Int) = List.replicate V 0 := by rw [hg]; rfl
 rw [hr, h4]; rfl
theorem solvable_ok (h : SrchOk V n cs) : impl_solvable ((V : Int), ((n : Int), cs)) = some (!(solsN V n cs (List.replicate V (-1))).isEmpty) := by
 have hV := h.hv
 unfold impl_solvable
 have e1 := firstSol_ok (given := List.replicate V (-1)) h (by simp)
 have e1 : impl_firstSolution ((V : Int), ((n : Int), cs)) (List.replicate V (-1)) = _ := e1
 simp only [freeI_ok (show V ≤ 1000 by omega), Option.bind_some, e1]
 cases solsN V n cs (List.replicate V (-1)) <;> rfl
end
end T
open Go Go.Va
namespace T
abbrev S19 := List (List Int) × Int × Int × Bool
def stopN (s : S19) : Bool := s.2.2.2 && decide (s.2.1 > 0)
def sCbN (t : List Int) (s : S19) : Option (S19 × Bool) :=
 let s' : S19 := (if decide ((s.1.length : Int) < s.2.2.1) then s.1 ++ [t] else s.1, s.2.1 + 1, s.2.2.1, s.2.2.2)
 some (s', !stopN s')
theorem foldN_cnt : ∀ (l : List (List Int)) (s s' : S19) (b : Bool), foldU sCbN l s = some (s', b) → s.2.1 ≤ s'.2.1 ∧ s'.2.1 ≤ s.2.1 + l.length ∧ s'.1.length ≤ s.1.length + l.length ∧ s'.2.2 = s.2.2 ∧ (stopN s = false → b = !stopN s')
 | [], s, s', b, h => by
  have : s = s' ∧ true = b := by simpa [foldU] using h
  obtain ⟨rfl, rfl⟩ := this
  exact ⟨by omega, by simp, by simp, rfl, fun h => by simp [h]⟩
 | t :: l, s, s', b, h => by
  simp only [foldU, sCbN] at h
  generalize hs1 : ((if decide ((s.1.length : Int) < s.2.2.1) then s.1 ++ [t] else s.1, s.2.1 + 1, s.2.2.1, s.2.2.2) : S19) = s1 at h
  have h1 : s1.2.1 = s.2.1 + 1 := by rw [← hs1]
  have h2 : s1.1.length ≤ s.1.length + 1 := by
   rw [← hs1]
   show (if decide ((s.1.length : Int) < s.2.2.1) then s.1 ++ [t] else s.1).length ≤ _
   split <;> simp
  have h3 : s1.2.2 = s.2.2 := by rw [← hs1]
  cases hb : stopN s1 with
  | true =>
   rw [hb] at h
   have : s1 = s' ∧ false = b := by simpa using h
   obtain ⟨rfl, rfl⟩ := this
   rw [List.length_cons]
   exact ⟨by omega, by omega, by omega, h3, fun _ => by rw [hb]; rfl⟩
  | false =>
   rw [hb] at h
   obtain ⟨g1, g2, g3, g4, g5⟩ := foldN_cnt l s1 s' b h
   rw [List.length_cons]
   exact ⟨by omega, by push_cast; omega, by omega, g4.trans h3, fun _ => g5 hb⟩
theorem foldN_tot : ∀ (l : List (List Int)) (s : S19), ∃ q, foldU sCbN l s = some q
 | [], s => ⟨_, rfl⟩
 | t :: l, s => by
  simp only [foldU, sCbN]
  generalize ((if decide ((s.1.length : Int) < s.2.2.1) then s.1 ++ [t] else s.1, s.2.1 + 1, s.2.2.1, s.2.2.2) : S19) = s1
  cases hb : stopN s1 with
  | true => exact ⟨_, rfl⟩
  | false => exact foldN_tot l s1
section
variable {V n : Nat} {cs : List Con} {given : List Int}
def atN (cs : List Con) (V : Nat) : List (List Con) := (List.range V).map (conAt cs)
theorem atN_get {v : Nat} (hv : v < V) : (atN cs V).length = V ∧ (atN cs V).getD v [] = conAt cs v := by
 refine ⟨by simp [atN], ?_⟩
 rw [getD_of (by simp [atN]; exact hv)]; simp [atN]
theorem most_ok (h : SrchOk V n cs) : spec_l19Most (V : Int) cs = some (atN cs V) := by
 have hV := h.hv
 have hc := h.hc
 unfold spec_l19Most
 rw [if_pos (by unfold lim; omega)]
 have h3 := forS cs.length (fun f (o : List (List Con)) i => spec_l19Most_L3 f (cs, o, i)) (fun k => atN (cs.take k) V) (r := some (atN cs V)) (fun f k hk => ?_) (fun f => ?_) (n := fuel) (by unfold fuel; omega)
 ·have e1 : atN (cs.take 0) V = List.replicate V [] := by
   unfold atN
   have : conAt (cs.take 0) = fun _ => [] := by funext v; simp [conAt]
   rw [this]; simp [List.map_const']
  rw [e1] at h3
  have h3 : spec_l19Most_L3 fuel (cs, List.replicate (Int.toNat (V : Int)) ([] : List Con), 0) = _ := h3
  rw [h3]; rfl
 ·have hcon := h.con _ (List.getElem_mem hk)
  have hsl := hcon.sl
  have har := hcon.ar
  have h7 := forS cs[k].1.length (fun f (o : Int) i => spec_l19Most_L7 f (cs, atN (cs.take k) V, (k : Int), o, i)) (fun j => (((cs[k].1.take j).foldl (fun m v => max m v.toNat) 0 : Nat) : Int)) (r := some (cs, atN (cs.take k) V, (k : Int), (mostC cs[k] : Int))) (fun f j hj => ?_) (fun f => ?_) (n := fuel) (by unfold fuel; omega)
  ·have hm : mostC cs[k] < V := (conAt_ok h (mem_conAt.2 ⟨List.getElem_mem hk, rfl⟩)).2
   have h7 : spec_l19Most_L7 fuel (cs, atN (cs.take k) V, (k : Int), 0, 0) = _ := h7
   obtain ⟨l1, e1⟩ := atN_get (cs := cs.take k) hm
   have hi1 : inb (mostC cs[k] : Int) (atN (cs.take k) V) := by unfold inb; omega
   have g1 : gd (atN (cs.take k) V) (mostC cs[k] : Int) [] = conAt (cs.take k) (mostC cs[k]) := e1
   have hcl : (conAt (cs.take k) (mostC cs[k])).length ≤ 40 := Nat.le_trans (List.length_filter_le _ _) (by rw [List.length_take]; omega)
   have hca : ∀ v, conAt (cs.take (k + 1)) v = conAt (cs.take k) v ++ (if mostC cs[k] = v then [cs[k]] else []) := fun v => by
    unfold conAt
    rw [List.take_succ_eq_append_getElem hk, List.filter_append]
    congr 1
    by_cases e : mostC cs[k] = v <;> simp [e]
   have s1 : (atN (cs.take k) V).set (mostC cs[k]) (conAt (cs.take k) (mostC cs[k]) ++ [cs[k]]) = atN (cs.take (k + 1)) V := by
    apply List.ext_getElem
    ·simp [atN]
    ·intro v h1 h2
     rw [List.getElem_set]
     simp only [atN, List.getElem_map, List.getElem_range, hca]
     by_cases e : mostC cs[k] = v
     ·rw [if_pos e, if_pos e, ← e]
     ·rw [if_neg e, if_neg e]; simp
   simp only [spec_l19Most_L3, inb_nat, hk, gd_nat hk, h7, Option.bind_some, if_true, inb_nat.1 hi1, g1, stt_nat, s1, w64_succ (show k < 4611686018427387904 by omega)]
   rw [if_pos (by simp; omega), if_pos (by simp; unfold lim; omega)]
  ·have hj' := hcon.sv j hj
   have hjx : cs[k].1[j] = (((cs[k].1[j]).toNat : Nat) : Int) := by omega
   have e2 : (cs[k].1.take (j + 1)).foldl (fun m v => max m v.toNat) 0 = max ((cs[k].1.take j).foldl (fun m v => max m v.toNat) 0) (cs[k].1[j]).toNat := by
    rw [List.take_succ_eq_append_getElem hj, List.foldl_append]; rfl
   have e : spec_l1Most (((cs[k].1.take j).foldl (fun m v => max m v.toNat) 0 : Nat) : Int) cs[k].1[j] = some ((max ((cs[k].1.take j).foldl (fun m v => max m v.toNat) 0) (cs[k].1[j]).toNat : Nat) : Int) := by
    rw [hjx]; exact spec_l1Most_nat _ _
   simp only [spec_l19Most_L7, inb_nat, hk, gd_nat hk, hj, gd_nat hj, e, e2, if_true, Option.bind_some, w64_succ (show j < 4611686018427387904 by omega)]
   rw [if_pos (by simp; omega)]
  ·simp only [spec_l19Most_L7, inb_nat, hk, gd_nat hk, List.take_length, if_true]
   rw [if_neg (by simp)]; rfl
 ·simp only [spec_l19Most_L3, List.take_length]
  rw [if_neg (by simp)]
theorem good_ok (h : SrchOk V n cs) (rec : Int × List (List Con) × List Int × List Int × S19 → Option S19) {v : Nat} (hv : v < V) {next : List Int} (hl : next.length = v + 1) {pre : List Int} {s s0 : S19} {x : Int} :
    spec_l19Go_L14 rec fuel ((n : Int), atN cs V, given, pre, s, s0, (v : Int), x, next, true, 0) = some ((n : Int), atN cs V, given, pre, s, s0, (v : Int), x, next, okN cs next) := by
  obtain ⟨l1, e1⟩ := atN_get (cs := cs) hv
  have hiv : inb (v : Int) (atN cs V) := by unfold inb; omega
  have hg : gd (atN cs V) (v : Int) [] = conAt cs v := e1
  have hcl : (conAt cs v).length ≤ 40 := Nat.le_trans (List.length_filter_le _ _) h.hc
  have key : ∀ (d k f : Nat) (g : Bool), k + d = (conAt cs v).length → d < f → spec_l19Go_L14 rec f ((n : Int), atN cs V, given, pre, s, s0, (v : Int), x, next, g, (k : Int)) = some ((n : Int), atN cs V, given, pre, s, s0, (v : Int), x, next, g && ((conAt cs v).drop k).all (conH next)) := by
    intro d
    induction d with
    | zero =>
      intro k f g hk hf
      obtain ⟨f, rfl⟩ : ∃ z, f = z + 1 := ⟨f - 1, by omega⟩
      have : k = (conAt cs v).length := by omega
      subst this
      simp only [spec_l19Go_L14, hiv, hg, if_true, List.drop_length]
      rw [if_neg (by simp)]; simp
    | succ d ih =>
      intro k f g hk hf
      obtain ⟨f, rfl⟩ : ∃ z, f = z + 1 := ⟨f - 1, by omega⟩
      have hkl : k < (conAt cs v).length := by omega
      simp only [spec_l19Go_L14, hiv, hg, if_true]
      rw [if_pos (by simp; omega)]
      cases g with
      | false => simp
      | true =>
        have hcon := (conAt_ok h (List.getElem_mem hkl)).1
        have hs := spec_l19Satisfies_ok hcon (vs := next) (by omega)
        rw [List.drop_eq_getElem_cons hkl, List.all_cons]
        simp only [if_true, inb_nat, hkl, gd_nat hkl, hs, Option.bind_some, w64_succ (show k < 4611686018427387904 by omega)]
        rw [ih (k + 1) f _ (by omega) (by omega), Bool.true_and]
  have := key (conAt cs v).length 0 fuel true (by omega) (by unfold fuel; omega)
  have e2 : okN cs next = (conAt cs v).all (conH next) := by unfold okN; rw [hl]; rfl
  rw [e2]
  simpa using this
theorem go19_ok (h : SrchOk V n cs) (hg : given.length = V) : ∀ (m d : Nat) (pre : List Int) (s : S19), pre.length + m = V → m < d → stopN s = false → 0 ≤ s.2.1 → s.2.2.1 ≤ 1000000 → s.2.1 + (extL n given (okN cs) m pre).length ≤ 4611686018427387904 →
    ∀ s' b, foldU sCbN (extL n given (okN cs) m pre) s = some (s', b) → spec_l19Go d ((n : Int), atN cs V, given, pre, s) = some s' := by
  have hn := h.hn
  have hV := h.hv
  intro m
  induction m with
  | zero =>
    intro d pre s hpre hd hst h0 hr1 hr2 s' b hf
    obtain ⟨d, rfl⟩ : ∃ z, d = z + 1 := ⟨d - 1, by omega⟩
    have hlN : (atN cs V).length = V := by simp [atN]
    simp only [extL, foldU, sCbN] at hf
    simp only [spec_l19Go, spec_l19Go_body]
    simp only [extL, List.length_singleton] at hr2
    have hs' : s' = (if decide ((s.1.length : Int) < s.2.2.1) then s.1 ++ [pre] else s.1, s.2.1 + 1, s.2.2.1, s.2.2.2) := by
      cases hb : stopN ((if decide ((s.1.length : Int) < s.2.2.1) then s.1 ++ [pre] else s.1, s.2.1 + 1, s.2.2.1, s.2.2.2) : S19) <;> rw [hb] at hf <;> simp at hf <;> rw [← hf.1] <;> simp
    have hw : w64 (s.2.1 + 1) = s.2.1 + 1 := w64_id (by omega) (by omega)
    rw [if_pos (by simp; omega), hs', hw, spec_l1Own_ok (by omega)]
    by_cases hc : (s.1.length : Int) < s.2.2.1
    · rw [if_pos (decide_eq_true hc), if_pos (decide_eq_true hc)]
      simp only [Option.bind_some]
      rw [if_pos (by rw [List.length_singleton]; unfold lim; omega)]
    · rw [if_neg (by simpa using hc), if_neg (by simpa using hc)]
  | succ m ih =>
    intro d pre s hpre hd hst h0 hr1 hr2 s' b hf
    obtain ⟨d, rfl⟩ : ∃ z, d = z + 1 := ⟨d - 1, by omega⟩
    have hat : pre.length < V := by omega
    have key : ∀ (c x f : Nat) (s1 : S19), x + c = n → c < f → stopN s1 = false → 0 ≤ s1.2.1 →
        s1.2.2.1 ≤ 1000000 →
        s1.2.1 + ((List.range' x c).flatMap fun x => if mstB given pre.length x && okN cs (pre ++ [(x : Int)]) then extL n given (okN cs) m (pre ++ [(x : Int)]) else []).length ≤ 4611686018427387904 → ∀ s' b,
        foldU sCbN ((List.range' x c).flatMap fun x => if mstB given pre.length x && okN cs (pre ++ [(x : Int)]) then extL n given (okN cs) m (pre ++ [(x : Int)]) else []) s1 = some (s', b) →
        spec_l19Go_L8 (spec_l19Go d) f ((n : Int), atN cs V, given, pre, s1, ([], (0, (0, false))), (pre.length : Int), (x : Int)) = some (s', ([], (0, (0, false)))) := by
      intro c
      induction c with
      | zero =>
        intro x f s1 hx hf1 hst1 h01 hr1 hr2 s' b hf2
        obtain ⟨f, rfl⟩ : ∃ z, f = z + 1 := ⟨f - 1, by omega⟩
        have : s1 = s' ∧ true = b := by simpa [foldU] using hf2
        obtain ⟨rfl, rfl⟩ := this
        simp only [spec_l19Go_L8]
        rw [if_neg (by simp; omega)]
      | succ c ihc =>
        intro x f s1 hx hf1 hst1 h01 hr1 hr2 s' b hf2
        obtain ⟨f, rfl⟩ : ∃ z, f = z + 1 := ⟨f - 1, by omega⟩
        have hag : pre.length < given.length := by omega
        rw [List.range'_succ, List.flatMap_cons, foldU_append] at hf2
        rw [List.range'_succ, List.flatMap_cons, List.length_append] at hr2
        have hol := good_ok (given := given) (pre := pre) (s := s1) (s0 := ([], (0, (0, false)))) (x := (x : Int)) h (spec_l19Go d) hat (next := pre ++ [(x : Int)]) (by simp)
        have hw : w64 ((x : Int) + 1) = ((x + 1 : Nat) : Int) := w64_succ (by omega)
        have hover : ∀ (z : S19) (f' y : Nat), 0 < f' → stopN z = true → spec_l19Go_L8 (spec_l19Go d) f' ((n : Int), atN cs V, given, pre, z, ([], (0, (0, false))), (pre.length : Int), (y : Int)) = some (z, ([], (0, (0, false)))) := fun z f' y hf' hz => by
          obtain ⟨f', rfl⟩ : ∃ q, f' = q + 1 := ⟨f' - 1, by omega⟩
          unfold stopN at hz
          rw [Bool.and_eq_true] at hz
          simp only [spec_l19Go_L8, hz.1, hz.2, if_true, Bool.not_true, Bool.false_eq_true, if_false]
          split <;> (obtain ⟨z1, z2, z3, z4⟩ := z; dsimp only at hz ⊢; rw [hz.1])
        have step : mstB given pre.length x = true → ∀ R, R = (spec_l19Go_L14 (spec_l19Go d) fuel ((n : Int), atN cs V, given, pre, (s1.1, (s1.2.1, (s1.2.2.1, s1.2.2.2))), ([], (0, (0, false))), (pre.length : Int), (x : Int), pre ++ [(x : Int)], true, 0)).bind (fun s6 =>
                  if s6.2.2.2.2.2.2.2.2.2 then
                    (spec_l19Go d (s6.1, s6.2.1, s6.2.2.1, s6.2.2.2.2.2.2.2.2.1, (s6.2.2.2.2.1.1, (s6.2.2.2.2.1.2.1, (s6.2.2.2.2.1.2.2.1, s6.2.2.2.2.1.2.2.2))))).bind fun r7 =>
                      spec_l19Go_L8 (spec_l19Go d) f (s6.1, s6.2.1, s6.2.2.1, s6.2.2.2.1, (r7.1, (r7.2.1, (r7.2.2.1, r7.2.2.2))), (s6.2.2.2.2.2.1.1, (s6.2.2.2.2.2.1.2.1, (s6.2.2.2.2.2.1.2.2.1, s6.2.2.2.2.2.1.2.2.2))), s6.2.2.2.2.2.2.1, w64 (s6.2.2.2.2.2.2.2.1 + 1))
                  else
                    spec_l19Go_L8 (spec_l19Go d) f (s6.1, s6.2.1, s6.2.2.1, s6.2.2.2.1, (s6.2.2.2.2.1.1, (s6.2.2.2.2.1.2.1, (s6.2.2.2.2.1.2.2.1, s6.2.2.2.2.1.2.2.2))), (s6.2.2.2.2.2.1.1, (s6.2.2.2.2.2.1.2.1, (s6.2.2.2.2.2.1.2.2.1, s6.2.2.2.2.2.1.2.2.2))), s6.2.2.2.2.2.2.1, w64 (s6.2.2.2.2.2.2.2.1 + 1))) →
            R = some (s', ([], (0, (0, false)))) := by
          intro hm R hR
          have hol : spec_l19Go_L14 (spec_l19Go d) fuel ((n : Int), atN cs V, given, pre, (s1.1, (s1.2.1, (s1.2.2.1, s1.2.2.2))), ([], (0, (0, false))), (pre.length : Int), (x : Int), pre ++ [(x : Int)], true, 0) = _ := hol
          rw [hol] at hR
          simp only [Option.bind_some, hw] at hR
          rw [hm] at hf2 hr2
          cases hfi : okN cs (pre ++ [(x : Int)]) with
          | false =>
            rw [hfi] at hf2 hr2 hR
            simp only [Bool.and_false, Bool.false_eq_true, if_false, foldU, List.length_nil, Nat.zero_add] at hf2 hr2 hR
            rw [hR]
            exact ihc (x + 1) f s1 (by omega) (by omega) hst1 h01 hr1 hr2 s' b hf2
          | true =>
            rw [hfi] at hf2 hr2 hR
            simp only [Bool.and_true, if_true] at hf2 hr2 hR
            obtain ⟨⟨s2, b2⟩, hq⟩ := foldN_tot (extL n given (okN cs) m (pre ++ [(x : Int)])) s1
            obtain ⟨g1, g2, g3, g4, g5⟩ := foldN_cnt _ _ _ _ hq
            have g5 := g5 hst1
            rw [hq] at hf2
            have hrec := ih d (pre ++ [(x : Int)]) s1 (by simp; omega) (by omega) hst1 h01 (by omega) (by push_cast at hr2; omega) s2 b2 hq
            have hrec : spec_l19Go d ((n : Int), atN cs V, given, pre ++ [(x : Int)], (s1.1, (s1.2.1, (s1.2.2.1, s1.2.2.2)))) = some s2 := hrec
            rw [hrec] at hR
            simp only [Option.bind_some] at hR
            cases hb2 : stopN s2 with
            | true =>
              rw [hb2] at g5
              subst g5
              have : s2 = s' ∧ false = b := by simpa using hf2
              obtain ⟨rfl, rfl⟩ := this
              rw [hR]
              exact hover s2 f (x + 1) (by omega) hb2
            | false =>
              rw [hb2] at g5
              subst g5
              rw [hR]
              exact ihc (x + 1) f s2 (by omega) (by omega) hb2 (by omega) (by rw [g4]; exact hr1) (by push_cast at hr2; omega) s' b hf2
        have hlim : pre.length + [(x : Int)].length ≤ lim := by rw [List.length_singleton]; unfold lim; omega
        have body : ∀ R, R = (if inb (pre.length : Int) given then
            if decide ((gd given (pre.length : Int) 0) ≥ 0) then
              if inb (pre.length : Int) given then
                if (gd given (pre.length : Int) 0) != (x : Int) then
                  spec_l19Go_L8 (spec_l19Go d) f ((n : Int), atN cs V, given, pre, (s1.1, (s1.2.1, (s1.2.2.1, s1.2.2.2))), ([], (0, (0, false))), (pre.length : Int), w64 ((x : Int) + 1))
                else
                  (spec_l1Own pre).bind fun r2 =>
                    if r2.length + [(x : Int)].length ≤ lim then
                      (spec_l19Go_L14 (spec_l19Go d) fuel ((n : Int), atN cs V, given, pre, (s1.1, (s1.2.1, (s1.2.2.1, s1.2.2.2))), ([], (0, (0, false))), (pre.length : Int), (x : Int), r2 ++ [(x : Int)], true, 0)).bind (fun s6 =>
                        if s6.2.2.2.2.2.2.2.2.2 then
                          (spec_l19Go d (s6.1, s6.2.1, s6.2.2.1, s6.2.2.2.2.2.2.2.2.1, (s6.2.2.2.2.1.1, (s6.2.2.2.2.1.2.1, (s6.2.2.2.2.1.2.2.1, s6.2.2.2.2.1.2.2.2))))).bind fun r7 =>
                            spec_l19Go_L8 (spec_l19Go d) f (s6.1, s6.2.1, s6.2.2.1, s6.2.2.2.1, (r7.1, (r7.2.1, (r7.2.2.1, r7.2.2.2))), (s6.2.2.2.2.2.1.1, (s6.2.2.2.2.2.1.2.1, (s6.2.2.2.2.2.1.2.2.1, s6.2.2.2.2.2.1.2.2.2))), s6.2.2.2.2.2.2.1, w64 (s6.2.2.2.2.2.2.2.1 + 1))
                        else
                          spec_l19Go_L8 (spec_l19Go d) f (s6.1, s6.2.1, s6.2.2.1, s6.2.2.2.1, (s6.2.2.2.2.1.1, (s6.2.2.2.2.1.2.1, (s6.2.2.2.2.1.2.2.1, s6.2.2.2.2.1.2.2.2))), (s6.2.2.2.2.2.1.1, (s6.2.2.2.2.2.1.2.1, (s6.2.2.2.2.2.1.2.2.1, s6.2.2.2.2.2.1.2.2.2))), s6.2.2.2.2.2.2.1, w64 (s6.2.2.2.2.2.2.2.1 + 1)))
                    else none
              else none
            else
              (spec_l1Own pre).bind fun r2 =>
                if r2.length + [(x : Int)].length ≤ lim then
                  (spec_l19Go_L14 (spec_l19Go d) fuel ((n : Int), atN cs V, given, pre, (s1.1, (s1.2.1, (s1.2.2.1, s1.2.2.2))), ([], (0, (0, false))), (pre.length : Int), (x : Int), r2 ++ [(x : Int)], true, 0)).bind (fun s6 =>
                    if s6.2.2.2.2.2.2.2.2.2 then
                      (spec_l19Go d (s6.1, s6.2.1, s6.2.2.1, s6.2.2.2.2.2.2.2.2.1, (s6.2.2.2.2.1.1, (s6.2.2.2.2.1.2.1, (s6.2.2.2.2.1.2.2.1, s6.2.2.2.2.1.2.2.2))))).bind fun r7 =>
                        spec_l19Go_L8 (spec_l19Go d) f (s6.1, s6.2.1, s6.2.2.1, s6.2.2.2.1, (r7.1, (r7.2.1, (r7.2.2.1, r7.2.2.2))), (s6.2.2.2.2.2.1.1, (s6.2.2.2.2.2.1.2.1, (s6.2.2.2.2.2.1.2.2.1, s6.2.2.2.2.2.1.2.2.2))), s6.2.2.2.2.2.2.1, w64 (s6.2.2.2.2.2.2.2.1 + 1))
                    else
                      spec_l19Go_L8 (spec_l19Go d) f (s6.1, s6.2.1, s6.2.2.1, s6.2.2.2.1, (s6.2.2.2.2.1.1, (s6.2.2.2.2.1.2.1, (s6.2.2.2.2.1.2.2.1, s6.2.2.2.2.1.2.2.2))), (s6.2.2.2.2.2.1.1, (s6.2.2.2.2.2.1.2.1, (s6.2.2.2.2.2.1.2.2.1, s6.2.2.2.2.2.1.2.2.2))), s6.2.2.2.2.2.2.1, w64 (s6.2.2.2.2.2.2.2.1 + 1)))
                else none
          else none) → R = some (s', ([], (0, (0, false)))) := by
          intro R hR
          rw [spec_l1Own_ok (show pre.length ≤ 1099511627775 by omega)] at hR
          simp only [inb_nat, hag, if_true, Option.bind_some] at hR
          rw [if_pos hlim] at hR
          by_cases hc1 : gd given (pre.length : Int) 0 ≥ 0
          · rw [if_pos (decide_eq_true hc1)] at hR
            by_cases hc2 : gd given (pre.length : Int) 0 = (x : Int)
            · rw [if_neg (by simpa using hc2)] at hR
              exact step (by unfold mstB; rw [show given.getD pre.length 0 = (x : Int) from hc2]; simp) R hR
            · rw [if_pos (by simpa using hc2), hw] at hR
              have hm : mstB given pre.length x = false := by
                unfold mstB
                rw [decide_eq_true (show given.getD pre.length 0 ≥ 0 from hc1)]
                simp only [Bool.true_and, Bool.not_eq_false', bne_iff_ne]; exact hc2
              rw [hm] at hf2 hr2
              simp only [Bool.false_and, Bool.false_eq_true, if_false, foldU, List.length_nil, Nat.zero_add] at hf2 hr2
              rw [hR]
              exact ihc (x + 1) f s1 (by omega) (by omega) hst1 h01 hr1 hr2 s' b hf2
          · rw [if_neg (by simpa using hc1)] at hR
            exact step (by unfold mstB; rw [decide_eq_false (show ¬ given.getD pre.length 0 ≥ 0 from hc1)]; rfl) R hR
        simp only [spec_l19Go_L8]
        rw [if_pos (by simp; omega)]
        cases hone : s1.2.2.2 with
        | true =>
          have hcnt : decide (s1.2.1 > 0) = false := by unfold stopN at hst1; rw [hone] at hst1; simpa using hst1
          rw [hcnt]
          simp only [if_true, Bool.not_false]
          refine body _ ?_
          rw [hone]
        | false =>
          simp only [Bool.false_eq_true, if_false, Bool.not_false, if_true]
          refine body _ ?_
          rw [hone]
    simp only [extL] at hf hr2
    rw [List.range_eq_range'] at hf hr2
    have h4 := key n 0 fuel s (by omega) (by unfold fuel; omega) hst h0 hr1 hr2 s' b hf
    have hlN : (atN cs V).length = V := by simp [atN]
    simp only [spec_l19Go, spec_l19Go_body]
    rw [if_neg (by simp; omega)]
    have h4 : spec_l19Go_L8 (spec_l19Go d) fuel ((n : Int), atN cs V, given, pre, (s.1, (s.2.1, (s.2.2.1, s.2.2.2))), ([], (0, (0, false))), (pre.length : Int), 0) = _ := h4
    rw [h4]; rfl
theorem find19_ok (h : SrchOk V n cs) (hg : given.length = V) {cs0 : List Con} {most : Int} {one : Bool} (hm : most ≤ 1000000) {s' : S19} {b : Bool} (hf : foldU sCbN (solsN V n cs given) ([], 0, most, one) = some (s', b)) :
    spec_l19Find ((V : Int), ((n : Int), cs0)) cs given most one = some s' := by
  have hV := h.hv
  have hn := h.hn
  unfold spec_l19Find
  have hl : (solsN V n cs given).length ≤ 4 ^ 9 := by
    refine Nat.le_trans (ext_len (n := n) (given := given) V []) ?_
    exact Nat.le_trans (Nat.pow_le_pow_left hn.2 V) (Nat.pow_le_pow_right (by omega) hV)
  have := go19_ok h hg V fuel [] ([], 0, most, one) (by simp) (by unfold fuel; omega) (by simp [stopN]) (by simp) hm (by
    have : (4 : Nat) ^ 9 = 262144 := by decide
    rw [this] at hl
    have : (extL n given (okN cs) V []).length = (solsN V n cs given).length := rfl
    dsimp only; omega) s' b hf
  simp only [most_ok h, Option.bind_some, this]
theorem can_ok (h : SrchOk V n cs) {cs0 : List Con} : spec_l19Can ((V : Int), ((n : Int), cs0)) cs = some (!(solsN V n cs (List.replicate V (-1))).isEmpty) := by
 have hV := h.hv
 unfold spec_l19Can
 simp only [freeS_ok (show V ≤ 1000 by omega), Option.bind_some]
 cases hs : solsN V n cs (List.replicate V (-1)) with
 | nil =>
  have := find19_ok (cs0 := cs0) (given := List.replicate V (-1)) (most := 1) (one := true) h (by simp) (by omega) (s' := ([], 0, 1, true)) (b := true) (by rw [hs]; rfl)
  rw [this]; rfl
 | cons t l =>
  have := find19_ok (cs0 := cs0) (given := List.replicate V (-1)) (most := 1) (one := true) h (by simp) (by omega) (s' := ([t], 1, 1, true)) (b := false) (by rw [hs]; rfl)
  rw [this]; rfl
end
end T
