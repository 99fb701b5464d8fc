/- Plain lemmas on the typed functions of the program, the first part; no conditions. -/
import Derived.Test.YtcnlpelkabjfaaaV1
import Derived.Test.YtcnlpelkabjfaaaV5
import Derived.KernelRfl
set_option linter.all false
namespace Go.Va
theorem w64_def (x : Int) : w64 x = (x + 9223372036854775808) % 18446744073709551616 - 9223372036854775808 := by
 simp [w64, IntKind.wrap, IntKind.bits, IntKind.signed]
 split <;> omega
theorem w64_id {x : Int} (h1 : -9223372036854775808 ≤ x) (h2 : x ≤ 9223372036854775807) : w64 x = x := by
 rw [w64_def]; omega
theorem w64_succ {k : Nat} (h : k < 4611686018427387904) : w64 ((k : Int) + 1) = ((k + 1 : Nat) : Int) := by
 rw [w64_id (by omega) (by omega)]; rfl
theorem inb_nat {α : Type} {k : Nat} {xs : List α} : inb (k : Int) xs ↔ k < xs.length := by
 unfold inb; omega
theorem gd_nat {α : Type} {k : Nat} {xs : List α} {d : α} (h : k < xs.length) : gd xs (k : Int) d = xs[k] := by
 unfold gd; simp [h]
theorem stt_nat {α : Type} {k : Nat} {xs : List α} {x : α} : stt xs (k : Int) x = xs.set k x := by
 unfold stt; simp
def runX {α σ β : Type} (step : σ → α → Option (σ ⊕ β)) (fin : σ → Option β) : List α → σ → Option β
 | [], s => fin s
 | a :: l, s => match step s a with | some (.inl s') => runX step fin l s' | some (.inr r) => some r | none => none
theorem loopX {α σ β : Type} (xs : List α) (L : Nat → σ → Int → Option β) (step : σ → α → Option (σ ⊕ β)) (fin : σ → Option β)
    (hs : ∀ n s (k : Nat) (hk : k < xs.length), L (n + 1) s k = match step s xs[k] with | some (.inl s') => L n s' ((k + 1 : Nat) : Int) | some (.inr r) => some r | none => none)
    (he : ∀ n s, L (n + 1) s (xs.length : Nat) = fin s) : ∀ (n k : Nat) (s : σ), k ≤ xs.length → xs.length - k < n → L n s k = runX step fin (xs.drop k) s := by
  intro n
  induction n with
  | zero => intro k s _ h; omega
  | succ n ih =>
    intro k s hk hn
    rcases Nat.lt_or_ge k xs.length with hlt | hge
    · rw [hs n s k hlt, List.drop_eq_getElem_cons hlt]
      simp only [runX]
      cases step s xs[k] with
      | none => rfl
      | some q =>
        cases q with
        | inl s' => exact ih (k + 1) s' hlt (by omega)
        | inr r => rfl
    · have : k = xs.length := by omega
      subst this
      rw [he, List.drop_length]; rfl
theorem loopX0 {α σ β : Type} (xs : List α) (L : Nat → σ → Int → Option β) (step : σ → α → Option (σ ⊕ β)) (fin : σ → Option β)
    (hs : ∀ n s (k : Nat) (hk : k < xs.length), L (n + 1) s k = match step s xs[k] with | some (.inl s') => L n s' ((k + 1 : Nat) : Int) | some (.inr r) => some r | none => none)
    (he : ∀ n s, L (n + 1) s (xs.length : Nat) = fin s) {n : Nat} (hn : xs.length < n) (s : σ) : L n s 0 = runX step fin xs s := by
  have := loopX xs L step fin hs he n 0 s (Nat.zero_le _) (by omega)
  simpa using this
theorem runX_all {α β : Type} {p : α → Bool} {step : Unit → α → Option (Unit ⊕ β)} {fin : Unit → Option β} {r : β} : ∀ {l : List α}, (∀ a ∈ l, step () a = if p a then some (.inl ()) else some (.inr r)) → runX step fin l () = if l.all p then fin () else some r
 | [], _ => rfl
 | a :: l, h => by
  simp only [runX]
  rw [h a (by simp)]
  cases hp : p a with
  | true => simp only [if_true, List.all_cons, hp, Bool.true_and]; exact runX_all fun b hb => h b (List.mem_cons_of_mem _ hb)
  | false => simp [List.all_cons, hp]
theorem fillX {α β γ : Type} (xs : List α) (L : Nat → List β → Int → Option γ) (g : α → β) (fin : List β → Option γ)
    (hs : ∀ n (out : List β) (k : Nat) (hk : k < xs.length), out.length = xs.length → L (n + 1) out k = L n (out.set k (g xs[k])) ((k + 1 : Nat) : Int))
    (he : ∀ n out, out.length = xs.length → L (n + 1) out (xs.length : Nat) = fin out) : ∀ (n k : Nat) (out : List β), out.length = xs.length → k ≤ xs.length → xs.length - k < n → L n out k = fin (out.take k ++ (xs.drop k).map g) := by
  intro n
  induction n with
  | zero => intro k out _ _ h; omega
  | succ n ih =>
    intro k out hl hk hn
    rcases Nat.lt_or_ge k xs.length with hlt | hge
    · have : (out.set k (g xs[k])).take (k + 1) = out.take k ++ [g xs[k]] := by
        rw [List.take_succ_eq_append_getElem (by simp; omega), List.take_set_of_le (Nat.le_refl _), List.getElem_set_self]
      rw [hs n out k hlt hl, ih (k + 1) _ (by simpa using hl) hlt (by omega), List.drop_eq_getElem_cons hlt, this, List.map_cons, List.append_assoc, List.singleton_append]
    · have : k = xs.length := by omega
      subst this
      rw [he _ _ hl, List.drop_length, List.take_of_length_le (by omega)]; simp
theorem fillX0 {α β γ : Type} (xs : List α) (L : Nat → List β → Int → Option γ) (g : α → β) (fin : List β → Option γ)
    (hs : ∀ n (out : List β) (k : Nat) (hk : k < xs.length), out.length = xs.length → L (n + 1) out k = L n (out.set k (g xs[k])) ((k + 1 : Nat) : Int))
    (he : ∀ n out, out.length = xs.length → L (n + 1) out (xs.length : Nat) = fin out) {n : Nat} {out : List β} (hl : out.length = xs.length) (hn : xs.length < n) : L n out 0 = fin (xs.map g) := by
  have := fillX xs L g fin hs he n 0 out hl (Nat.zero_le _) (by omega)
  simpa using this
theorem eqX {α : Type} [DecidableEq α] (a b : List α) (hl : a.length = b.length) (L : Nat → Int → Option (Unit ⊕ Bool))
    (hs : ∀ n (k : Nat) (h1 : k < a.length) (h2 : k < b.length), L (n + 1) k = if a[k] = b[k] then L n ((k + 1 : Nat) : Int) else some (.inr false)) (he : ∀ n, L (n + 1) (a.length : Nat) = some (.inl ())) {n : Nat} (hn : a.length < n) :
    L n 0 = some (if a = b then .inl () else .inr false) := by
  have key : ∀ (n k : Nat), k ≤ a.length → a.length - k < n → L n k = some (if a.drop k = b.drop k then .inl () else .inr false) := by
    intro n
    induction n with
    | zero => intro k _ h; omega
    | succ n ih =>
      intro k hk hn
      rcases Nat.lt_or_ge k a.length with hlt | hge
      · have h2 : k < b.length := by omega
        have e : (a.drop k = b.drop k) ↔ (a[k] = b[k] ∧ a.drop (k + 1) = b.drop (k + 1)) := by
          rw [List.drop_eq_getElem_cons hlt, List.drop_eq_getElem_cons h2]; exact List.cons_eq_cons
        rw [hs n k hlt h2]
        by_cases h : a[k] = b[k]
        · rw [if_pos h, ih (k + 1) hlt (by omega)]
          by_cases h3 : a.drop (k + 1) = b.drop (k + 1)
          · rw [if_pos h3, if_pos (e.2 ⟨h, h3⟩)]
          · rw [if_neg h3, if_neg fun h' => h3 (e.1 h').2]
        · rw [if_neg h, if_neg fun h' => h (e.1 h').1]
      · have : k = a.length := by omega
        subst this
        rw [he, List.drop_length, hl, List.drop_length]; rfl
  have := key n 0 (Nat.zero_le _) (by omega)
  simpa using this
theorem allX {α β : Type} (xs : List α) (L : Nat → Int → Option β) (p : α → Bool) (r e : β)
    (hs : ∀ n (k : Nat) (hk : k < xs.length), L (n + 1) k = if p xs[k] then L n ((k + 1 : Nat) : Int) else some r) (he : ∀ n, L (n + 1) (xs.length : Nat) = some e) {n : Nat} (hn : xs.length < n) :
    L n 0 = some (if xs.all p then e else r) := by
  have := loopX0 xs (fun n (_ : Unit) i => L n i) (fun _ a => if p a then some (.inl ()) else some (.inr r)) (fun _ => some e) (fun n s k hk => by rw [hs n k hk]; cases p xs[k] <;> simp) (fun n s => he n) hn ()
  rw [this, runX_all (p := p) (r := r) fun a _ => by cases p a <;> simp]
  cases xs.all p <;> simp
theorem forS {σ β : Type} (N : Nat) (L : Nat → σ → Int → Option β) (S : Nat → σ) {r : Option β}
    (hs : ∀ n (k : Nat), k < N → L (n + 1) (S k) k = L n (S (k + 1)) ((k + 1 : Nat) : Int)) (he : ∀ n, L (n + 1) (S N) (N : Nat) = r) {n : Nat} (hn : N < n) : L n (S 0) 0 = r := by
  have key : ∀ (n k : Nat), k ≤ N → N - k < n → L n (S k) k = r := by
    intro n
    induction n with
    | zero => intro k _ h; omega
    | succ n ih =>
      intro k hk hn
      rcases Nat.lt_or_ge k N with hlt | hge
      · rw [hs n k hlt]; exact ih (k + 1) hlt (by omega)
      · have : k = N := by omega
        subst this; exact he n
  exact key n 0 (Nat.zero_le _) (by omega)
theorem forA {σ β : Type} (N : Nat) (L : Nat → σ → Int → Option β) (S : Nat → σ) (p : Nat → Bool) {r e : Option β}
    (hs : ∀ n (k : Nat), k < N → L (n + 1) (S k) k = if p k then L n (S (k + 1)) ((k + 1 : Nat) : Int) else r) (he : ∀ n, L (n + 1) (S N) (N : Nat) = e) {n : Nat} (hn : N < n) :
    L n (S 0) 0 = if (List.range N).all p then e else r := by
  have key : ∀ (n k : Nat), k ≤ N → N - k < n → L n (S k) k = if (List.range' k (N - k)).all p then e else r := by
    intro n
    induction n with
    | zero => intro k _ h; omega
    | succ n ih =>
      intro k hk hn
      rcases Nat.lt_or_ge k N with hlt | hge
      · rw [hs n k hlt, show N - k = (N - (k + 1)) + 1 by omega, List.range'_succ, List.all_cons]
        cases hp : p k with
        | false => simp
        | true => simp only [if_true, Bool.true_and]; exact ih (k + 1) hlt (by omega)
      · have : k = N := by omega
        subst this; rw [he]; simp
  have := key n 0 (Nat.zero_le _) (by omega)
  rw [List.range_eq_range']
  simpa using this
theorem forB {σ β : Type} (N : Nat) (L : Nat → σ → Int → Option β) (S : Nat → σ) (p : Nat → Bool) {r e : Option β}
    (hs : ∀ n (k : Nat), k < N → (∀ j, j < k → p j = true) → L (n + 1) (S k) k = if p k then L n (S (k + 1)) ((k + 1 : Nat) : Int) else r) (he : ∀ n, (∀ j, j < N → p j = true) → L (n + 1) (S N) (N : Nat) = e) {n : Nat} (hn : N < n) :
    L n (S 0) 0 = if (List.range N).all p then e else r := by
  have key : ∀ (n k : Nat), k ≤ N → N - k < n → (∀ j, j < k → p j = true) → L n (S k) k = if (List.range' k (N - k)).all p then e else r := by
    intro n
    induction n with
    | zero => intro k _ h; omega
    | succ n ih =>
      intro k hk hn hb
      rcases Nat.lt_or_ge k N with hlt | hge
      · rw [hs n k hlt hb, show N - k = (N - (k + 1)) + 1 by omega, List.range'_succ, List.all_cons]
        cases hp : p k with
        | false => simp
        | true =>
          simp only [if_true, Bool.true_and]
          refine ih (k + 1) hlt (by omega) fun j hj => ?_
          rcases Nat.lt_or_ge j k with h | h
          · exact hb j h
          · have : j = k := by omega
            rw [this]; exact hp
      · have : k = N := by omega
        subst this; rw [he n hb]; simp
  have := key n 0 (Nat.zero_le _) (by omega) (fun j h => by omega)
  rw [List.range_eq_range']
  simpa using this
end Go.Va
set_option linter.unusedVariables false
open Go Go.Va
namespace T
def fuel : Nat := 1099511627776
def spec_l1In (x : Int) (a : Int) (b : Int) : Option (Bool) :=
 if decide (x ≥ a) then
  some (decide (x ≤ b))
 else
  some false
def spec_l2Elements_L2 : Nat → (Int × (List Int) × Int) → Option ((Unit) ⊕ (Bool))
 | 0, _ => none
 | n + 1, (n_, list, i) =>
  if decide (i < (list.length : Int)) then
   if inb i list then
    (spec_l1In (gd list i 0) 0 (w64 (n_ - 1))).bind fun r1 =>
     if !r1 then
      some (.inr false)
     else
      spec_l2Elements_L2 n (n_, list, w64 (i + 1))
   else none
  else
   some (.inl ())
def spec_l2Elements (n_ : Int) (list : List Int) : Option (Bool) :=
 (spec_l2Elements_L2 fuel (n_, list, 0)).bind fun s1 =>
  match s1 with
  | .inl s2 =>
   some true
  | .inr s3 =>
   some s3
def spec_l8Tuple (n_ : Int) (k : Int) (t : List Int) : Option (Bool) :=
 if (t.length : Int) == k then
  (spec_l2Elements n_ t).bind fun r1 =>
   some r1
 else
  some false
def impl_inSize_L2 : Nat → (Int × (List Int) × Int × Int) → Option ((Unit) ⊕ (Bool))
 | 0, _ => none
 | n + 1, (n_, t7, t8, t9) =>
  if decide (t9 < t8) then
   if inb t9 t7 then
    if decide ((gd t7 t9 0) < 0) then
     some (.inr false)
    else
     if decide ((gd t7 t9 0) ≥ n_) then
      some (.inr false)
     else
      impl_inSize_L2 n (n_, t7, t8, w64 (t9 + 1))
   else none
  else
   some (.inl ())
def impl_inSize (list : List Int) (n_ : Int) : Option (Bool) :=
 (impl_inSize_L2 fuel (n_, list, (list.length : Int), 0)).bind fun s1 =>
  match s1 with
  | .inl s2 =>
   some true
  | .inr s3 =>
   some s3
def spec_l6Size (n_ : Int) : Option (Bool) :=
 (spec_l1In n_ 1 8).bind fun r1 =>
  some r1
def spec_l2Pow_L2 : Nat → (Int × Int × Int) → Option (Int)
 | 0, _ => none
 | n + 1, (n_, k, out) =>
  if decide (k > 0) then
   spec_l2Pow_L2 n (n_, w64 (k - 1), w64 (out * n_))
  else
   some out
def spec_l2Pow (n_ : Int) (k : Int) : Option (Int) :=
 (spec_l2Pow_L2 fuel (n_, k, 1)).bind fun s1 =>
  some s1
def spec_l3Less_L2 : Nat → ((List Int) × (List Int) × Int) → Option ((Unit) ⊕ (Bool))
 | 0, _ => none
 | n + 1, (a, b, i) =>
  if decide (i < (a.length : Int)) then
   if inb i a then
    if inb i b then
     if (gd a i 0) != (gd b i 0) then
      if inb i a then
       if inb i b then
        some (.inr (decide ((gd a i 0) < (gd b i 0))))
       else none
      else none
     else
      spec_l3Less_L2 n (a, b, w64 (i + 1))
    else none
   else none
  else
   some (.inl ())
def spec_l3Less (a : List Int) (b : List Int) : Option (Bool) :=
 (spec_l3Less_L2 fuel (a, b, 0)).bind fun s1 =>
  match s1 with
  | .inl s2 =>
   some false
  | .inr s3 =>
   some s3
def spec_l1Same_L4 : Nat → ((List Int) × (List Int) × Int) → Option ((Unit) ⊕ (Bool))
 | 0, _ => none
 | n + 1, (a, b, i) =>
  if decide (i < (a.length : Int)) then
   if inb i a then
    if inb i b then
     if (gd a i 0) != (gd b i 0) then
      some (.inr false)
     else
      spec_l1Same_L4 n (a, b, w64 (i + 1))
    else none
   else none
  else
   some (.inl ())
def spec_l1Same (a : List Int) (b : List Int) : Option (Bool) :=
 if (a.length : Int) != (b.length : Int) then
  some false
 else
  (spec_l1Same_L4 fuel (a, b, 0)).bind fun s1 =>
   match s1 with
   | .inl s2 =>
    some true
   | .inr s3 =>
    some s3
def spec_l8Find_L2 : Nat → ((List (List Int)) × (List Int) × Int × Int) → Option ((List (List Int)) × (List Int) × Int)
 | 0, _ => none
 | n + 1, (list, t, from_, to) =>
  if decide (from_ < to) then
   if (2 : Int) ≠ 0 then
    if inb (w64 (Int.tdiv (w64 (from_ + to)) 2)) list then
     (spec_l3Less (gd list (w64 (Int.tdiv (w64 (from_ + to)) 2)) []) t).bind fun r1 =>
      if r1 then
       spec_l8Find_L2 n (list, t, w64 ((w64 (Int.tdiv (w64 (from_ + to)) 2)) + 1), to)
      else
       spec_l8Find_L2 n (list, t, from_, w64 (Int.tdiv (w64 (from_ + to)) 2))
    else none
   else none
  else
   some (list, t, from_)
def spec_l8Find (list : List (List Int)) (t : List Int) : Option (Int × Bool) :=
 (spec_l8Find_L2 fuel (list, t, 0, (list.length : Int))).bind fun s1 =>
  if decide (s1.2.2 < (s1.1.length : Int)) then
   if inb s1.2.2 s1.1 then
    (spec_l1Same (gd s1.1 s1.2.2 []) s1.2.1).bind fun r2 =>
     some (s1.2.2, r2)
   else none
  else
   some (s1.2.2, false)
def impl_compareLists_L2 : Nat → ((List Int) × (List Int) × Int) → Option (((List Int) × (List Int)) ⊕ (Int))
 | 0, _ => none
 | n + 1, (s, t, i) =>
  if decide (i < (s.length : Int)) then
   if decide (i < (t.length : Int)) then
    if inb i s then
     if inb i t then
      if (gd s i 0) != (gd t i 0) then
       if inb i s then
        if inb i t then
         if decide ((gd s i 0) < (gd t i 0)) then
          some (.inr (-1))
         else
          some (.inr 1)
        else none
       else none
      else
       impl_compareLists_L2 n (s, t, w64 (i + 1))
     else none
    else none
   else
    some (.inl (s, t))
  else
   some (.inl (s, t))
def impl_compareLists (s : List Int) (t : List Int) : Option (Int) :=
 (impl_compareLists_L2 fuel (s, t, 0)).bind fun s1 =>
  match s1 with
  | .inl s2 =>
   if decide ((s2.1.length : Int) < (s2.2.length : Int)) then
    some (-1)
   else
    if decide ((s2.1.length : Int) > (s2.2.length : Int)) then
     some 1
    else
     some 0
  | .inr s3 =>
   some s3
def impl_power_L2 : Nat → (Int × Int × Int) → Option (Int)
 | 0, _ => none
 | n + 1, (n_, k, p) =>
  if decide (k > 0) then
   impl_power_L2 n (n_, w64 (k - 1), w64 (p * n_))
  else
   some p
def impl_power (n_ : Int) (k : Int) : Option (Int) :=
 (impl_power_L2 fuel (n_, k, 1)).bind fun s1 =>
  some s1
end T
open Go Go.Va
namespace T
theorem spec_l1In_ok (x a b : Int) : spec_l1In x a b = some (decide (a ≤ x ∧ x ≤ b)) := by
 unfold spec_l1In
 by_cases h : a ≤ x <;> simp [h]
def belowB (n : Int) (l : List Int) : Bool := l.all fun x => decide (0 ≤ x ∧ x < n)
theorem impl_inSize_ok {l : List Int} (n : Int) (hl : l.length ≤ 1099511627775) : impl_inSize l n = some (belowB n l) := by
 unfold impl_inSize
 rw [allX l (fun m i => impl_inSize_L2 m (n, l, (l.length : Int), i)) (fun x => decide (0 ≤ x ∧ x < n)) (.inr false) (.inl ()) ?_ ?_ (by unfold fuel; omega)]
 ·unfold belowB; cases l.all (fun x => decide (0 ≤ x ∧ x < n)) <;> simp
 ·intro m k hk
  simp only [impl_inSize_L2, inb_nat, gd_nat hk, w64_succ (show k < 4611686018427387904 by omega)]
  by_cases h1 : l[k] < 0
  ·simp [hk, h1, show ¬ 0 ≤ l[k] by omega]
  ·by_cases h2 : n ≤ l[k]
   ·simp [hk, h1, h2, show ¬ l[k] < n by omega]
   ·simp [hk, h1, h2, show 0 ≤ l[k] ∧ l[k] < n by omega]
 ·intro m
  simp [impl_inSize_L2]
theorem spec_l2Elements_ok {l : List Int} {n : Int} (hn : -9223372036854775808 < n) (hn' : n ≤ 9223372036854775807) (hl : l.length ≤ 1099511627775) : spec_l2Elements n l = some (belowB n l) := by
 unfold spec_l2Elements
 rw [allX l (fun m i => spec_l2Elements_L2 m (n, l, i)) (fun x => decide (0 ≤ x ∧ x < n)) (.inr false) (.inl ()) ?_ ?_ (by unfold fuel; omega)]
 ·unfold belowB; cases l.all (fun x => decide (0 ≤ x ∧ x < n)) <;> simp
 ·intro m k hk
  simp only [spec_l2Elements_L2, inb_nat, gd_nat hk, w64_succ (show k < 4611686018427387904 by omega), spec_l1In_ok, w64_id (show -9223372036854775808 ≤ n - 1 by omega) (show n - 1 ≤ 9223372036854775807 by omega)]
  by_cases h1 : 0 ≤ l[k] ∧ l[k] < n
  ·simp [hk, h1, show l[k] ≤ n - 1 by omega]
  ·have : ¬ (0 ≤ l[k] ∧ l[k] ≤ n - 1) := by omega
   simp [hk, h1, this]
 ·intro m
  simp [spec_l2Elements_L2]
theorem spec_l8Tuple_ok {l : List Int} {n : Int} (k : Int) (hn : -9223372036854775808 < n) (hn' : n ≤ 9223372036854775807) (hl : l.length ≤ 1099511627775) : spec_l8Tuple n k l = some (decide ((l.length : Int) = k) && belowB n l) := by
 unfold spec_l8Tuple
 rw [spec_l2Elements_ok hn hn' hl]
 by_cases h : (l.length : Int) = k <;> simp [h]
end T
open Go Go.Va
namespace T
theorem belowB_get {n : Int} {l : List Int} (h : belowB n l = true) (k : Nat) (hk : k < l.length) : 0 ≤ l[k] ∧ l[k] < n := by
 have := (List.all_eq_true.1 h) l[k] (List.getElem_mem hk)
 simpa using this
section
variable {p v : Int} {rows : List (List Int)} {y : List Int}
end
end T
open Go Go.Va
namespace T
def cmpL : List Int → List Int → Int
 | [], [] => 0
 | [], _ :: _ => -1
 | _ :: _, [] => 1
 | a :: s, b :: t => if a = b then cmpL s t else if a < b then -1 else 1
theorem compare_L2 {s t : List Int} (hs : s.length ≤ 1099511627775) : ∀ (n k : Nat), k ≤ s.length → k ≤ t.length → s.length - k < n →
    (impl_compareLists_L2 n (s, t, (k : Int))).bind (fun s1 => match s1 with
      | .inl s2 => if decide ((s2.1.length : Int) < (s2.2.length : Int)) then some (-1) else if decide ((s2.1.length : Int) > (s2.2.length : Int)) then some 1 else some 0
      | .inr s3 => some s3) = some (cmpL (s.drop k) (t.drop k)) := by
  intro n
  induction n with
  | zero => intro k _ _ h; omega
  | succ n ih =>
    intro k h1 h2 hn
    by_cases k1 : k < s.length
    · by_cases k2 : k < t.length
      · rw [List.drop_eq_getElem_cons k1, List.drop_eq_getElem_cons k2]
        simp only [impl_compareLists_L2, inb_nat, gd_nat k1, gd_nat k2, w64_succ (show k < 4611686018427387904 by omega), cmpL]
        by_cases he : s[k] = t[k]
        · have := ih (k + 1) k1 k2 (by omega)
          simp [k1, k2, he]
          simpa using this
        · by_cases hl : s[k] < t[k] <;> simp [k1, k2, he, hl]
      · rw [List.drop_eq_getElem_cons k1, List.drop_of_length_le (show t.length ≤ k by omega)]
        have e : k = t.length := by omega
        simp only [impl_compareLists_L2, cmpL]
        simp [k1, k2, show ¬ s.length < t.length by omega, show t.length < s.length by omega]
    · rw [List.drop_of_length_le (show s.length ≤ k by omega)]
      simp only [impl_compareLists_L2]
      by_cases k2 : k < t.length
      · rw [List.drop_eq_getElem_cons k2]
        simp [k1, cmpL, show s.length < t.length by omega]
      · rw [List.drop_of_length_le (show t.length ≤ k by omega)]
        simp [k1, cmpL, show ¬ s.length < t.length by omega, show ¬ t.length < s.length by omega]
theorem impl_compareLists_ok {s t : List Int} (hs : s.length ≤ 1099511627775) : impl_compareLists s t = some (cmpL s t) := by
 have := compare_L2 (t := t) hs fuel 0 (Nat.zero_le _) (Nat.zero_le _) (by unfold fuel; omega)
 rw [List.drop_zero, List.drop_zero] at this
 exact this
theorem spec_l3Less_ok {s t : List Int} (hs : s.length ≤ 1099511627775) (hl : s.length = t.length) : spec_l3Less s t = some (decide (cmpL s t < 0)) := by
 have key : ∀ (n k : Nat), k ≤ s.length → s.length - k < n → (spec_l3Less_L2 n (s, t, (k : Int))).bind (fun s1 => match s1 with | .inl _ => some false | .inr s3 => some s3) = some (decide (cmpL (s.drop k) (t.drop k) < 0)) := by
  intro n
  induction n with
  | zero => intro k _ h; omega
  | succ n ih =>
   intro k h1 hn
   by_cases k1 : k < s.length
   ·have k2 : k < t.length := by omega
    rw [List.drop_eq_getElem_cons k1, List.drop_eq_getElem_cons k2]
    simp only [spec_l3Less_L2, inb_nat, gd_nat k1, gd_nat k2, w64_succ (show k < 4611686018427387904 by omega), cmpL]
    by_cases he : s[k] = t[k]
    ·have := ih (k + 1) k1 (by omega)
     simp [k1, k2, he]
     simpa using this
    ·by_cases hl : s[k] < t[k] <;> simp [k1, k2, he, hl]
   ·rw [List.drop_of_length_le (show s.length ≤ k by omega), List.drop_of_length_le (show t.length ≤ k by omega)]
    simp [spec_l3Less_L2, k1, cmpL]
 have := key fuel 0 (Nat.zero_le _) (by unfold fuel; omega)
 rw [List.drop_zero, List.drop_zero] at this
 exact this
theorem spec_l1Same_ok {a b : List Int} (ha : a.length ≤ 1099511627775) : spec_l1Same a b = some (decide (a = b)) := by
 unfold spec_l1Same
 by_cases hl : a.length = b.length
 ·rw [if_neg (by simp [hl]), eqX a b hl (fun n i => spec_l1Same_L4 n (a, b, i)) ?_ ?_ (by unfold fuel; omega)]
  ·by_cases h : a = b <;> simp [h]
  ·intro n k h1 h2
   simp only [spec_l1Same_L4, inb_nat, gd_nat h1, gd_nat h2, w64_succ (show k < 4611686018427387904 by omega)]
   by_cases h : a[k] = b[k] <;> simp [h1, h2, h]
  ·intro n
   simp [spec_l1Same_L4]
 ·rw [if_pos (by simp; omega), decide_eq_false (fun e => hl (by rw [e]))]
theorem cmpL_refl : ∀ s, cmpL s s = 0
 | [] => rfl
 | a :: s => by simp [cmpL, cmpL_refl s]
theorem cmpL_eq : ∀ {s t}, cmpL s t = 0 ↔ s = t
 | [], [] => by simp [cmpL]
 | [], _ :: _ => by simp [cmpL]
 | _ :: _, [] => by simp [cmpL]
 | a :: s, b :: t => by
  simp only [cmpL]
  by_cases h : a = b
  ·rw [if_pos h, cmpL_eq]; simp [h]
  ·rw [if_neg h]; split <;> simp [h]
theorem cmpL_symm : ∀ s t, cmpL t s = - cmpL s t
 | [], [] => by simp [cmpL]
 | [], _ :: _ => by simp [cmpL]
 | _ :: _, [] => by simp [cmpL]
 | a :: s, b :: t => by
  simp only [cmpL]
  by_cases h : a = b
  ·rw [if_pos h, if_pos h.symm, cmpL_symm s t]
  ·rw [if_neg h, if_neg (Ne.symm h)]
   by_cases h2 : a < b
   ·rw [if_pos h2, if_neg (by omega)]; rfl
   ·rw [if_neg h2, if_pos (by omega)]
theorem cmpL_trans : ∀ {s t u}, cmpL s t < 0 → cmpL t u < 0 → cmpL s u < 0
 | [], [], _, h, _ => by simp [cmpL] at h
 | [], _ :: _, [], _, h => by simp [cmpL] at h
 | [], _ :: _, _ :: _, _, _ => by simp [cmpL]
 | _ :: _, [], _, h, _ => by simp [cmpL] at h
 | _ :: _, _ :: _, [], _, h => by simp [cmpL] at h
 | a :: s, b :: t, c :: u, h1, h2 => by
  simp only [cmpL] at *
  by_cases e1 : a = b
  ·rw [if_pos e1] at h1
   by_cases e2 : b = c
   ·rw [if_pos e2] at h2; rw [if_pos (e1.trans e2)]; exact cmpL_trans h1 h2
   ·rw [if_neg e2] at h2; rw [e1, if_neg e2]; exact h2
  ·rw [if_neg e1] at h1
   have l1 : a < b := by
    by_cases h : a < b
    ·exact h
    ·rw [if_neg h] at h1; omega
   by_cases e2 : b = c
   ·rw [← e2, if_neg e1, if_pos l1]; omega
   ·rw [if_neg e2] at h2
    have l2 : b < c := by
     by_cases h : b < c
     ·exact h
     ·rw [if_neg h] at h2; omega
    rw [if_neg (by omega), if_pos (by omega)]; omega
def incB : List (List Int) → Bool
 | a :: b :: l => decide (cmpL a b < 0) && incB (b :: l)
 | _ => true
theorem incB_tail {a : List Int} {l : List (List Int)} (h : incB (a :: l) = true) : incB l = true := by
 cases l with
 | nil => rfl
 | cons b l => simp only [incB, Bool.and_eq_true] at h; exact h.2
theorem incB_head : ∀ {a : List Int} {l : List (List Int)}, incB (a :: l) = true → ∀ b ∈ l, cmpL a b < 0
 | a, [], _, b, hb => by cases hb
 | a, c :: l, h, b, hb => by
  simp only [incB, Bool.and_eq_true, decide_eq_true_eq] at h
  rcases List.mem_cons.1 hb with rfl | hb
  ·exact h.1
  ·exact cmpL_trans h.1 (incB_head h.2 b hb)
theorem incB_lt : ∀ {l : List (List Int)}, incB l = true → ∀ (i j : Nat) (hi : i < j) (hj : j < l.length), cmpL (l[i]'(by omega)) l[j] < 0
 | [], _, i, j, _, hj => by simp at hj
 | a :: l, h, 0, j + 1, _, hj => by
  simp only [List.getElem_cons_zero, List.getElem_cons_succ]
  exact incB_head h _ (List.getElem_mem _)
 | a :: l, h, i + 1, j + 1, hi, hj => by
  simp only [List.getElem_cons_succ]
  exact incB_lt (incB_tail h) i j (by omega) (by simpa using hj)
theorem incB_iff {l : List (List Int)} : incB l = true ↔ ∀ (i : Nat) (hi : i + 1 < l.length), cmpL (l[i]'(by omega)) l[i + 1] < 0 := by
 constructor
 ·exact fun h i hi => incB_lt h i (i + 1) (by omega) hi
 ·induction l with
  | nil => intro _; rfl
  | cons a l ih =>
   intro h
   cases l with
   | nil => rfl
   | cons b l =>
    simp only [incB, Bool.and_eq_true, decide_eq_true_eq]
    exact ⟨h 0 (by simp), ih fun i hi => by have := h (i + 1) (by simpa using hi); simpa using this⟩
end T
open Go Go.Va
namespace T
theorem pow_le_of {n : Int} (h0 : 0 ≤ n) (h8 : n ≤ 8) : ∀ k : Nat, 0 ≤ n ^ k ∧ n ^ k ≤ 8 ^ k
 | 0 => by simp
 | k + 1 => by
  obtain ⟨h1, h2⟩ := pow_le_of h0 h8 k
  rw [Int.pow_succ, Int.pow_succ]
  exact ⟨Int.mul_nonneg h1 h0, Int.mul_le_mul h2 h8 h0 (by have : (0 : Int) ≤ 8 ^ k := Int.le_trans h1 h2; exact this)⟩
theorem pow8_le : ∀ k : Nat, k ≤ 20 → (8 : Int) ^ k ≤ 8 ^ 20 := by
 intro k hk
 have : ((8 ^ k : Nat) : Int) ≤ ((8 ^ 20 : Nat) : Int) := Int.ofNat_le.2 (Nat.pow_le_pow_right (by omega) hk)
 simpa using this
theorem pow_bd {n : Int} (h0 : 0 ≤ n) (h8 : n ≤ 8) {k : Nat} (hk : k ≤ 20) : 0 ≤ n ^ k ∧ n ^ k ≤ 1152921504606846976 := by
  obtain ⟨h1, h2⟩ := pow_le_of h0 h8 k
  have := pow8_le k hk
  exact ⟨h1, by have e : (8 : Int) ^ 20 = 1152921504606846976 := by decide
                omega⟩
theorem power_L2 {n : Int} (h0 : 0 ≤ n) (h8 : n ≤ 8) : ∀ (m k j : Nat), j + k ≤ 20 → k < m → impl_power_L2 m (n, (k : Int), n ^ j) = some (n ^ (j + k)) := by
 intro m
 induction m with
 | zero => intro k j _ h; omega
 | succ m ih =>
  intro k j hj hk
  simp only [impl_power_L2]
  cases k with
  | zero => simp
  | succ k =>
   have e : w64 (((k + 1 : Nat) : Int) - 1) = (k : Int) := by rw [w64_id (by omega) (by omega)]; omega
   have hb := pow_bd h0 h8 (k := j + 1) (by omega)
   rw [Int.pow_succ] at hb
   rw [e, w64_id (by omega) (by omega), ← Int.pow_succ, if_pos (by simp), ih k (j + 1) (by omega) (by omega)]
   congr 2 <;> omega
theorem impl_power_ok {n : Int} (h0 : 0 ≤ n) (h8 : n ≤ 8) {k : Nat} (hk : k ≤ 20) : impl_power n (k : Int) = some (n ^ k) := by
 unfold impl_power
 have := power_L2 h0 h8 fuel k 0 (by omega) (by unfold fuel; omega)
 rw [Int.pow_zero] at this
 rw [this]; simp
theorem l2Pow_L2 {n : Int} (h0 : 0 ≤ n) (h8 : n ≤ 8) : ∀ (m k j : Nat), j + k ≤ 20 → k < m → spec_l2Pow_L2 m (n, (k : Int), n ^ j) = some (n ^ (j + k)) := by
 intro m
 induction m with
 | zero => intro k j _ h; omega
 | succ m ih =>
  intro k j hj hk
  simp only [spec_l2Pow_L2]
  cases k with
  | zero => simp
  | succ k =>
   have e : w64 (((k + 1 : Nat) : Int) - 1) = (k : Int) := by rw [w64_id (by omega) (by omega)]; omega
   have hb := pow_bd h0 h8 (k := j + 1) (by omega)
   rw [Int.pow_succ] at hb
   rw [e, w64_id (by omega) (by omega), ← Int.pow_succ, if_pos (by simp), ih k (j + 1) (by omega) (by omega)]
   congr 2 <;> omega
theorem spec_l2Pow_ok {n : Int} (h0 : 0 ≤ n) (h8 : n ≤ 8) {k : Nat} (hk : k ≤ 20) : spec_l2Pow n (k : Int) = some (n ^ k) := by
 unfold spec_l2Pow
 have := l2Pow_L2 h0 h8 fuel k 0 (by omega) (by unfold fuel; omega)
 rw [Int.pow_zero] at this
 rw [this]; simp
def idxA (n : Int) : Int → List Int → Int
 | i, [] => i
 | i, a :: l => idxA n (i * n + a) l
def idx (n : Int) (l : List Int) : Int := idxA n 0 l
theorem idxA_eq (n : Int) : ∀ (l : List Int) (i : Int), idxA n i l = i * n ^ l.length + idxA n 0 l
 | [], i => by simp [idxA]
 | a :: l, i => by
  simp only [idxA, List.length_cons]
  rw [idxA_eq n l (i * n + a), idxA_eq n l (0 * n + a), Int.pow_succ]
  simp only [Int.zero_mul, Int.zero_add]
  rw [Int.add_mul, Int.mul_assoc, Int.mul_comm n (n ^ l.length)]
  omega
theorem idx_cons (n a : Int) (l : List Int) : idx n (a :: l) = a * n ^ l.length + idx n l := by
 unfold idx
 simp only [idxA]
 rw [idxA_eq]; simp
theorem belowB_cons {n a : Int} {l : List Int} : belowB n (a :: l) = true ↔ (0 ≤ a ∧ a < n) ∧ belowB n l = true := by
 unfold belowB; simp [List.all_cons]
theorem idx_bd {n : Int} : ∀ {l : List Int}, belowB n l = true → 0 ≤ idx n l ∧ idx n l < n ^ l.length
 | [], _ => by simp [idx, idxA]
 | a :: l, h => by
  obtain ⟨h1, h2⟩ := belowB_cons.1 h
  obtain ⟨h3, h4⟩ := idx_bd h2
  rw [idx_cons, List.length_cons, Int.pow_succ]
  have hp : 0 ≤ n ^ l.length := by omega
  have k1 := Int.mul_nonneg h1.1 hp
  have k2 := Int.mul_le_mul_of_nonneg_right (show a + 1 ≤ n by omega) hp
  rw [Int.add_mul, Int.one_mul, Int.mul_comm n] at k2
  exact ⟨by omega, by omega⟩
theorem idx_cmp {n : Int} : ∀ {s t : List Int}, belowB n s = true → belowB n t = true → s.length = t.length → (cmpL s t < 0 ↔ idx n s < idx n t) ∧ (cmpL s t = 0 ↔ idx n s = idx n t)
 | [], [], _, _, _ => by simp [cmpL, idx, idxA]
 | [], _ :: _, _, _, h => by simp at h
 | _ :: _, [], _, _, h => by simp at h
 | a :: s, b :: t, hs, ht, hl => by
  obtain ⟨s1, s2⟩ := belowB_cons.1 hs
  obtain ⟨t1, t2⟩ := belowB_cons.1 ht
  have hl' : s.length = t.length := by simpa using hl
  have ih := idx_cmp s2 t2 hl'
  obtain ⟨b1, b2⟩ := idx_bd s2
  obtain ⟨c1, c2⟩ := idx_bd t2
  rw [idx_cons, idx_cons, hl']
  rw [hl'] at b2
  simp only [cmpL]
  have hp : 0 ≤ n ^ t.length := by omega
  rcases Int.lt_trichotomy a b with h | h | h
  ·have := Int.mul_le_mul_of_nonneg_right (show a + 1 ≤ b by omega) hp
   rw [Int.add_mul, Int.one_mul] at this
   rw [if_neg (by omega), if_pos h]
   exact ⟨by constructor <;> intro <;> omega, by constructor <;> intro <;> omega⟩
  ·subst h
   rw [if_pos rfl]
   exact ⟨by rw [ih.1]; constructor <;> intro <;> omega, by rw [ih.2]; constructor <;> intro <;> omega⟩
  ·have := Int.mul_le_mul_of_nonneg_right (show b + 1 ≤ a by omega) hp
   rw [Int.add_mul, Int.one_mul] at this
   rw [if_neg (by omega), if_neg (by omega)]
   exact ⟨by constructor <;> intro <;> omega, by constructor <;> intro <;> omega⟩
theorem inc_count {n : Int} {k : Nat} {l : List (List Int)} (hi : incB l = true) (hv : ∀ t ∈ l, t.length = k ∧ belowB n t = true) : (l.length : Int) ≤ n ^ k ∨ l = [] := by
 have key : ∀ (i : Nat) (h : i < l.length), (i : Int) ≤ idx n l[i] := by
  intro i
  induction i with
  | zero => intro h; exact (idx_bd (hv _ (List.getElem_mem h)).2).1
  | succ i ih =>
   intro h
   have h1 := ih (by omega)
   obtain ⟨l1, b1⟩ := hv _ (List.getElem_mem (show i < l.length by omega))
   obtain ⟨l2, b2⟩ := hv _ (List.getElem_mem h)
   have := (idx_cmp b1 b2 (l1.trans l2.symm)).1.1 (incB_lt hi i (i + 1) (by omega) h)
   omega
 cases hn : l.length with
 | zero => exact .inr (List.length_eq_zero_iff.1 hn)
 | succ m =>
  left
  have h := key m (by omega)
  obtain ⟨l1, b1⟩ := hv _ (List.getElem_mem (show m < l.length by omega))
  have := (idx_bd b1).2
  rw [l1] at this
  omega
theorem find_L2 {list : List (List Int)} {t : List Int} {k : Nat} (hl : list.length ≤ 1099511627775) (hk : k ≤ 1099511627775) (hv : ∀ u ∈ list, u.length = k) (ht : t.length = k) (hi : incB list = true) : ∀ (m a b : Nat), a ≤ b → b ≤ list.length → b - a < m →
    (∀ i (h : i < list.length), i < a → cmpL list[i] t < 0) → (∀ i (h : i < list.length), b ≤ i → ¬ cmpL list[i] t < 0) →
    ∃ c : Nat, spec_l8Find_L2 m (list, t, (a : Int), (b : Int)) = some (list, t, (c : Int)) ∧ c ≤ list.length ∧ (∀ i (h : i < list.length), i < c → cmpL list[i] t < 0) ∧ (∀ i (h : i < list.length), c ≤ i → ¬ cmpL list[i] t < 0) := by
  intro m
  induction m with
  | zero => intro a b _ _ h; omega
  | succ m ih =>
    intro a b hab hb hm h1 h2
    simp only [spec_l8Find_L2]
    by_cases hlt : a < b
    · have emid : w64 (Int.tdiv (w64 ((a : Int) + b)) 2) = (((a + b) / 2 : Nat) : Int) := by
        rw [w64_id (x := (a : Int) + b) (by omega) (by omega), Int.tdiv_eq_ediv_of_nonneg (by omega), w64_id (by omega) (by omega)]; omega
      have hmid : (a + b) / 2 < list.length := by omega
      rw [emid]
      have hless := spec_l3Less_ok (s := list[(a + b) / 2]) (t := t) (by rw [hv _ (List.getElem_mem hmid)]; omega) (by rw [hv _ (List.getElem_mem hmid), ht])
      simp only [inb_nat, gd_nat hmid, hless, Option.bind_some, w64_succ (show (a + b) / 2 < 4611686018427387904 by omega)]
      by_cases hc : cmpL list[(a + b) / 2] t < 0
      · obtain ⟨c, e, k1, k2, k3⟩ := ih ((a + b) / 2 + 1) b (by omega) hb (by omega) (fun i h hi' => by
          rcases Nat.lt_or_ge i ((a + b) / 2) with h' | h'
          · exact cmpL_trans (incB_lt hi i ((a + b) / 2) h' hmid) hc
          · have : i = (a + b) / 2 := by omega
            subst this; exact hc) h2
        exact ⟨c, by simpa [hlt, hmid, hc] using e, k1, k2, k3⟩
      · obtain ⟨c, e, k1, k2, k3⟩ := ih a ((a + b) / 2) (by omega) (by omega) (by omega) h1 (fun i h hi' hneg => by
          rcases Nat.lt_or_ge ((a + b) / 2) i with h' | h'
          · exact hc (cmpL_trans (incB_lt hi ((a + b) / 2) i h' h) hneg)
          · have : i = (a + b) / 2 := by omega
            subst this; exact hc hneg)
        exact ⟨c, by simpa [hlt, hmid, hc] using e, k1, k2, k3⟩
    · have : a = b := by omega
      subst this
      exact ⟨a, by simp, hb, h1, h2⟩
theorem spec_l8Find_ok {list : List (List Int)} {t : List Int} {k : Nat} (hl : list.length ≤ 1099511627774) (hk : k ≤ 1099511627775) (hv : ∀ u ∈ list, u.length = k) (ht : t.length = k) (hi : incB list = true) :
    ∃ c : Nat, spec_l8Find list t = some ((c : Int), decide (t ∈ list)) ∧ c ≤ list.length ∧ (∀ i (h : i < list.length), i < c → cmpL list[i] t < 0) ∧ (∀ i (h : i < list.length), c ≤ i → ¬ cmpL list[i] t < 0) := by
  obtain ⟨c, e, k1, k2, k3⟩ := find_L2 (by omega) hk hv ht hi fuel 0 list.length (Nat.zero_le _) (Nat.le_refl _) (by unfold fuel; omega) (fun i _ h => by omega) (fun i h h' => by omega)
  refine ⟨c, ?_, k1, k2, k3⟩
  unfold spec_l8Find
  have e' : spec_l8Find_L2 fuel (list, t, 0, (list.length : Int)) = some (list, t, (c : Int)) := e
  rw [e']
  simp only [Option.bind_some]
  by_cases hc : c < list.length
  · have hs := spec_l1Same_ok (a := list[c]) (b := t) (by rw [hv _ (List.getElem_mem hc)]; omega)
    simp only [inb_nat, gd_nat hc, hs, Option.bind_some]
    have : decide (list[c] = t) = decide (t ∈ list) := by
      by_cases h : list[c] = t
      · rw [decide_eq_true h, decide_eq_true (h ▸ List.getElem_mem hc)]
      · rw [decide_eq_false h]
        symm; rw [decide_eq_false_iff_not]
        intro hm
        obtain ⟨j, hj, rfl⟩ := List.mem_iff_getElem.1 hm
        have hne : j ≠ c := fun e => h (by subst e; rfl)
        rcases Nat.lt_or_ge j c with hlt | hge
        · have := k2 j hj hlt; rw [cmpL_refl] at this; omega
        · exact k3 c hc (Nat.le_refl _) (incB_lt hi c j (by omega) hj)
    simp [hc, this]
  · have : decide (t ∈ list) = false := by
      rw [decide_eq_false_iff_not]
      intro hm
      obtain ⟨j, hj, rfl⟩ := List.mem_iff_getElem.1 hm
      have := k2 j hj (by omega); rw [cmpL_refl] at this; omega
    rw [if_neg (by simp; omega), this]
end T
open Go Go.Va
namespace T
def sizeB (n : Int) : Bool := decide (1 ≤ n ∧ n ≤ 8)
theorem spec_l6Size_ok (n : Int) : spec_l6Size n = some (sizeB n) := by
 unfold spec_l6Size sizeB
 rw [spec_l1In_ok]; simp
end T
set_option linter.unusedVariables false
open Go Go.Va
namespace T
def spec_l13Good_L4 : Nat → (Int × (Int × (List (List Int))) × Int) → Option ((Unit) ⊕ (Bool))
 | 0, _ => none
 | n + 1, (n_, r, i) =>
  if decide (i < (r.2.length : Int)) then
   if inb i r.2 then
    (spec_l8Tuple n_ r.1 (gd r.2 i [])).bind fun r3 =>
     if !r3 then
      some (.inr false)
     else
      if decide (i > 0) then
       if inb (w64 (i - 1)) r.2 then
        if inb i r.2 then
         (spec_l3Less (gd r.2 (w64 (i - 1)) []) (gd r.2 i [])).bind fun r4 =>
          if !r4 then
           some (.inr false)
          else
           spec_l13Good_L4 n (n_, (r.1, r.2), w64 (i + 1))
        else none
       else none
      else
       spec_l13Good_L4 n (n_, (r.1, r.2), w64 (i + 1))
   else none
  else
   some (.inl ())
def spec_l13Good (n_ : Int) (r : Int × (List (List Int))) : Option (Bool) :=
 (spec_l1In r.1 1 3).bind fun r1 =>
  if !r1 then
   some false
  else
   (spec_l2Pow n_ r.1).bind fun r2 =>
    if decide ((r.2.length : Int) > r2) then
     some false
    else
     (spec_l13Good_L4 fuel (n_, (r.1, r.2), 0)).bind fun s3 =>
      match s3 with
      | .inl s4 =>
       some true
      | .inr s5 =>
       some s5
def spec_l1Own (l : List Int) : Option ((List Int)) :=
 if ([] : List Int).length + l.length ≤ lim then
  some ([] ++ l)
 else none
def impl_isTemplateSize (n_ : Int) : Option (Bool) :=
 if decide (n_ ≥ 1) then
  some (decide (n_ ≤ 4))
 else
  some false
def impl_isRelation_L4 : Nat → (Int × (Int × (List (List Int))) × (List (List Int)) × Int × Int) → Option ((Unit) ⊕ (Bool))
 | 0, _ => none
 | n + 1, (n_, r, t16, t17, t18) =>
  if decide (t18 < t17) then
   if inb t18 t16 then
    if ((gd t16 t18 []).length : Int) != r.1 then
     some (.inr false)
    else
     (impl_inSize (gd t16 t18 []) n_).bind fun r1 =>
      if !r1 then
       some (.inr false)
      else
       if decide (t18 > 0) then
        if inb (w64 (t18 - 1)) r.2 then
         (impl_compareLists (gd r.2 (w64 (t18 - 1)) []) (gd t16 t18 [])).bind fun r2 =>
          if decide (r2 ≥ 0) then
           some (.inr false)
          else
           impl_isRelation_L4 n (n_, (r.1, r.2), t16, t17, w64 (t18 + 1))
        else none
       else
        impl_isRelation_L4 n (n_, (r.1, r.2), t16, t17, w64 (t18 + 1))
   else none
  else
   some (.inl ())
def impl_isRelation (n_ : Int) (r : Int × (List (List Int))) : Option (Bool) :=
 if decide (r.1 < 1) then
  some false
 else
  if decide (r.1 > 3) then
   some false
  else
   (impl_isRelation_L4 fuel (n_, (r.1, r.2), r.2, (r.2.length : Int), 0)).bind fun s1 =>
    match s1 with
    | .inl s2 =>
     some true
    | .inr s3 =>
     some s3
def impl_marked_L3 : Nat → ((List Int) × (List Bool) × Int × Int) → Option ((List Int))
 | 0, _ => none
 | n + 1, (list, t7, t8, t9) =>
  if decide (t9 < t8) then
   if inb t9 t7 then
    if gd t7 t9 false then
     if list.length + [t9].length ≤ lim then
      impl_marked_L3 n (list ++ [t9], t7, t8, w64 (t9 + 1))
     else none
    else
     impl_marked_L3 n (list, t7, t8, w64 (t9 + 1))
   else none
  else
   some list
def impl_marked (have_ : List Bool) : Option ((List Int)) :=
 (impl_marked_L3 fuel ([], have_, (have_.length : Int), 0)).bind fun s1 =>
  some s1
end T
open Go Go.Va
namespace T
abbrev Con := List Int × Int × List (List Int)
abbrev Net := Int × Int × List Con
def rowsS (a : List (List Int)) : Prop := a.length ≤ 1048576 ∧ ∀ r ∈ a, r.length ≤ 1048576
def relB (n : Int) (r : Int × List (List Int)) : Bool := decide (1 ≤ r.1 ∧ r.1 ≤ 3) && (r.2.all fun t => decide ((t.length : Int) = r.1) && belowB n t) && incB r.2
def tupAt (n : Int) (r : Int × List (List Int)) (k : Nat) : Bool := decide (((r.2.getD k []).length : Int) = r.1) && belowB n (r.2.getD k []) && (decide (k = 0) || decide (cmpL (r.2.getD (k - 1) []) (r.2.getD k []) < 0))
theorem getD_of {α : Type} {l : List α} {k : Nat} {d : α} (h : k < l.length) : l.getD k d = l[k] := by simp [List.getD_eq_getElem?_getD, h]
theorem tupAt_all {n ar : Int} {ts : List (List Int)} : (List.range ts.length).all (tupAt n (ar, ts)) = ((ts.all fun t => decide ((t.length : Int) = ar) && belowB n t) && incB ts) := by
 rw [Bool.eq_iff_iff, Bool.and_eq_true, List.all_eq_true, List.all_eq_true, incB_iff]
 unfold tupAt
 constructor
 ·intro h
  refine ⟨fun t ht => ?_, fun i hi => ?_⟩
  ·obtain ⟨k, hk, rfl⟩ := List.getElem_of_mem ht
   have := h k (List.mem_range.2 hk)
   rw [getD_of hk] at this
   simp only [Bool.and_eq_true] at this
   rw [Bool.and_eq_true]; exact this.1
  ·have := h (i + 1) (List.mem_range.2 hi)
   rw [getD_of hi, Nat.add_sub_cancel, getD_of (show i < ts.length by omega)] at this
   simp at this
   exact this.2
 ·rintro ⟨h1, h2⟩ k hk
  have hk := List.mem_range.1 hk
  have e := h1 _ (List.getElem_mem hk)
  rw [getD_of hk]
  rw [Bool.and_eq_true] at e
  rw [Bool.and_eq_true, Bool.and_eq_true]
  refine ⟨e, ?_⟩
  cases k with
  | zero => simp
  | succ i =>
   have := h2 i hk
   rw [Nat.add_sub_cancel, getD_of (show i < ts.length by omega)]
   simp [this]
theorem impl_isRelation_ok {n : Int} {r : Int × List (List Int)} (h : rowsS r.2) : impl_isRelation n r = some (relB n r) := by
 obtain ⟨ar, ts⟩ := r
 unfold impl_isRelation relB
 by_cases h1 : ar < 1
 ·simp [h1, show ¬ 1 ≤ ar by omega]
 ·by_cases h2 : ar > 3
  ·simp [h1, h2, show ¬ ar ≤ 3 by omega]
  ·rw [if_neg (by simpa using h1), if_neg (by simpa using h2)]
   have key := forA ts.length (fun m (_ : Unit) i => impl_isRelation_L4 m (n, (ar, ts), ts, (ts.length : Int), i)) (fun _ => ()) (tupAt n (ar, ts)) (r := some (.inr false)) (e := some (.inl ())) (fun m k hk => ?_) (fun m => ?_) (n := fuel) (by unfold fuel; have := h.1; simp at this; omega)
   ·rw [key, tupAt_all]
    simp only [show (1 ≤ ar ∧ ar ≤ 3) = True by simp; omega, decide_true, Bool.true_and]
    cases (ts.all fun t => decide ((t.length : Int) = ar) && belowB n t) && incB ts <;> simp
   ·have hx := h.2 ts[k] (List.getElem_mem hk)
    have hk' := h.1
    simp only at hk'
    simp only [impl_isRelation_L4, inb_nat, gd_nat hk, w64_succ (show k < 4611686018427387904 by omega), impl_inSize_ok n (show ts[k].length ≤ 1099511627775 by omega), tupAt, getD_of hk]
    by_cases hl : (ts[k].length : Int) = ar
    ·cases hb : belowB n ts[k] with
     | false => simp [hk, hl]
     | true =>
      cases k with
      | zero => simp [hk, hl]
      | succ i =>
       have hi : i < ts.length := by omega
       have hx2 := h.2 ts[i] (List.getElem_mem hi)
       have e : w64 (((i + 1 : Nat) : Int) - 1) = (i : Int) := by rw [w64_id (by omega) (by omega)]; omega
       simp only [e, inb_nat, gd_nat hi, Nat.add_sub_cancel, getD_of hi, impl_compareLists_ok (show ts[i].length ≤ 1099511627775 by omega)]
       by_cases hc : cmpL ts[i] ts[i + 1] < 0
       ·simp [hk, hl, hi, hc, show ¬ cmpL ts[i] ts[i + 1] ≥ 0 by omega]; omega
       ·simp [hk, hl, hi, hc, show cmpL ts[i] ts[i + 1] ≥ 0 by omega]; omega
    ·simp [hk, hl]
   ·simp [impl_isRelation_L4]
theorem spec_l13Good_ok {n : Int} {r : Int × List (List Int)} (h : rowsS r.2) (hn : 1 ≤ n ∧ n ≤ 8) : spec_l13Good n r = some (relB n r) := by
 obtain ⟨ar, ts⟩ := r
 unfold spec_l13Good relB
 rw [spec_l1In_ok]
 by_cases h1 : 1 ≤ ar ∧ ar ≤ 3
 ·simp only [h1, and_self, decide_true, Option.bind_some, Bool.not_true, Bool.false_eq_true, if_false, Bool.true_and]
  obtain ⟨m, rfl⟩ : ∃ m : Nat, ar = m := ⟨ar.toNat, by omega⟩
  rw [spec_l2Pow_ok (by omega) (by omega) (by omega)]
  simp only [Option.bind_some]
  have key := forB ts.length (fun m' (_ : Unit) i => spec_l13Good_L4 m' (n, ((m : Int), ts), i)) (fun _ => ()) (tupAt n ((m : Int), ts)) (r := some (.inr false)) (e := some (.inl ())) (fun m' k hk hb0 => ?_) (fun m' _ => ?_) (n := fuel) (by unfold fuel; have := h.1; simp at this; omega)
  ·by_cases hc : (ts.length : Int) > n ^ m
   ·rw [if_pos (by simpa using hc)]
    by_cases hv : ((ts.all fun t => decide ((t.length : Int) = m) && belowB n t) && incB ts) = true
    ·rw [Bool.and_eq_true, List.all_eq_true] at hv
     rcases inc_count (k := m) hv.2 fun t ht => by have := hv.1 t ht; simp at this; exact ⟨by omega, this.2⟩ with h2 | h2
     ·omega
     ·subst h2
      have := pow_bd (n := n) (by omega) (by omega) (k := m) (by omega)
      simp at hc; omega
    ·simp only [Bool.not_eq_true] at hv; rw [hv]
   ·rw [if_neg (by simpa using hc), key, tupAt_all]
    cases (ts.all fun t => decide ((t.length : Int) = m) && belowB n t) && incB ts <;> simp
  ·have hx := h.2 ts[k] (List.getElem_mem hk)
   have hk' := h.1
   simp only at hk'
   simp only [spec_l13Good_L4, inb_nat, gd_nat hk, w64_succ (show k < 4611686018427387904 by omega), spec_l8Tuple_ok (n := n) _ (by omega) (by omega) (show ts[k].length ≤ 1099511627775 by omega), tupAt, getD_of hk]
   by_cases hl : (ts[k].length : Int) = m
   ·cases hb : belowB n ts[k] with
    | false => simp [hk, hl]
    | true =>
     cases k with
     | zero => simp [hk, hl]
     | succ i =>
      have hi : i < ts.length := by omega
      have hx2 := h.2 ts[i] (List.getElem_mem hi)
      have e : w64 (((i + 1 : Nat) : Int) - 1) = (i : Int) := by rw [w64_id (by omega) (by omega)]; omega
      simp only [e, inb_nat, gd_nat hi, Nat.add_sub_cancel, getD_of hi]
      have hb1 := hb0 i (by omega)
      simp only [tupAt, getD_of hi, Bool.and_eq_true, decide_eq_true_eq] at hb1
      rw [spec_l3Less_ok (s := ts[i]) (t := ts[i + 1]) (by omega) (by have := hb1.1.1; omega)]
      by_cases hc : cmpL ts[i] ts[i + 1] < 0
      ·simp [hk, hl, hi, hc]; omega
      ·simp [hk, hl, hi, hc]; omega
   ·simp [hk, hl]
  ·simp [spec_l13Good_L4]
 ·have : ¬ (1 ≤ ar ∧ ar ≤ 3) := h1
  simp [this]
end T
open Go Go.Va
namespace T
theorem beq_dec (a b : Int) : (a == b) = decide (a = b) := by by_cases h : a = b <;> simp [h]
def g0 (l : List Int) (i : Nat) : Int := l.getD i 0
section
variable {v n up : Int} {c : Con} {vals : List Int}
theorem spec_l1Own_ok {l : List Int} (h : l.length ≤ 1099511627775) : spec_l1Own l = some l := by
 unfold spec_l1Own
 rw [if_pos (by unfold lim; simp; omega)]; simp
end
end T
open Go Go.Va
namespace T
abbrev Dom := List (List Bool)
def mk (bs : List Bool) : List Int := ((List.range bs.length).filter fun i => bs.getD i false).map fun i : Nat => (i : Int)
def d2 (d : Dom) (v x : Nat) : Bool := (d.getD v []).getD x false
theorem mk_len {bs : List Bool} : (mk bs).length ≤ bs.length := by
 unfold mk
 rw [List.length_map]
 have := List.length_filter_le (fun i => bs.getD i false) (List.range bs.length)
 simpa using this
theorem getD_set_of {α : Type} {l : List α} {i j : Nat} {y d : α} : (l.set i y).getD j d = if i = j ∧ j < l.length then y else l.getD j d := by
 simp only [List.getD_eq_getElem?_getD, List.getElem?_set]
 by_cases h : i = j
 ·subst h
  by_cases h2 : i < l.length
  ·simp [h2]
  ·simp [h2]
 ·simp [h]
end T
open Go Go.Va
namespace T
section
variable {a : Net} {K : Nat}
theorem impl_marked_ok {r : List Bool} (h : r.length ≤ 1048576) : impl_marked r = some (mk r) := by
 unfold impl_marked
 have e : ∀ k, k < r.length → mk (r.take (k + 1)) = mk (r.take k) ++ if r.getD k false then [(k : Int)] else [] := fun k hk => by
  unfold mk
  have h1 : (r.take (k + 1)).length = k + 1 := by simp; omega
  have h2 : (r.take k).length = k := by simp; omega
  rw [h1, h2, List.range_succ, List.filter_append, List.map_append]
  have h3 : (List.range k).filter (fun i => (r.take (k + 1)).getD i false) = (List.range k).filter (fun i => (r.take k).getD i false) := by
   apply List.filter_congr
   intro i hi
   have := List.mem_range.1 hi
   simp [List.getD_eq_getElem?_getD, List.getElem?_take, this, show i < k + 1 by omega]
  rw [h3]
  have h4 : (r.take (k + 1)).getD k false = r.getD k false := by simp [List.getD_eq_getElem?_getD, List.getElem?_take]
  simp only [List.filter_cons, List.filter_nil, h4]
  cases r.getD k false <;> simp
 have hlen : ∀ k, (mk (r.take k)).length ≤ k := fun k => Nat.le_trans mk_len (by simp; omega)
 have := forS r.length (fun n o i => impl_marked_L3 n (o, r, (r.length : Int), i)) (fun k => mk (r.take k)) (r := some (mk r)) (fun n k hk => ?_) (fun n => ?_) (n := fuel) (by unfold fuel; omega)
 ·have e0 : mk (r.take 0) = [] := by simp [mk]
  rw [e0] at this; rw [this]; rfl
 ·have hl1 : (mk (r.take k)).length + 1 ≤ lim := by have := hlen k; unfold lim; omega
  simp only [impl_marked_L3, inb_nat, gd_nat hk, w64_succ (show k < 4611686018427387904 by omega), e k hk, getD_of hk]
  cases r[k] <;> simp [hk, hl1]
 ·simp [impl_marked_L3]
end
end T
open Go Go.Va
namespace T
theorem w1 : w64 1 = 1 := by rw [w64_def]; rfl
theorem w2 : w64 2 = 2 := by rw [w64_def]; rfl
section
variable {a : Net}
end
end T
set_option linter.unusedVariables false
open Go Go.Va
namespace T
def impl_isOp (f : Int × (List Int)) (n_ : Int) : Option (Bool) :=
 if decide (f.1 ≥ 0) then
  if decide (f.1 ≤ 3) then
   (impl_power n_ f.1).bind fun r1 =>
    if (f.2.length : Int) == r1 then
     (impl_inSize f.2 n_).bind fun r2 =>
      some r2
    else
     some false
  else
   some false
 else
  some false
end T
open Go Go.Va
namespace T
abbrev Opn := Int × List Int
def opB (n : Int) (f : Opn) : Bool := decide (0 ≤ f.1 ∧ f.1 ≤ 3) && decide ((f.2.length : Int) = n ^ f.1.toNat) && belowB n f.2
theorem impl_isOp_ok {n : Int} (hn : 0 ≤ n ∧ n ≤ 8) {f : Opn} (h : f.2.length ≤ 1048576) : impl_isOp f n = some (opB n f) := by
 obtain ⟨ar, l⟩ := f
 unfold impl_isOp opB
 by_cases h0 : 0 ≤ ar
 ·by_cases h1 : ar ≤ 3
  ·obtain ⟨m, rfl⟩ : ∃ m : Nat, ar = m := ⟨ar.toNat, by omega⟩
   have hm : impl_power n (m : Int) = some (n ^ m) := impl_power_ok hn.1 hn.2 (by omega)
   simp only [ge_iff_le, h0, h1, decide_true, if_true, hm, Option.bind_some, impl_inSize_ok n (show l.length ≤ 1099511627775 by simp at h; omega), Int.toNat_natCast, and_self, Bool.true_and, beq_dec]
   by_cases hl : (l.length : Int) = n ^ m <;> simp [hl]
  ·simp [h0, h1]
 ·simp [h0]
section
variable {n : Int} {f : Opn}
variable {a : Net}
end
end T
set_option linter.unusedVariables false
open Go Go.Va
namespace T
def spec_l13Has (r : Int × (List (List Int))) (t : List Int) : Option (Bool) :=
 if (t.length : Int) != r.1 then
  some false
 else
  (spec_l8Find r.2 t).bind fun r1 =>
   some r1.2
def impl_compose_L3 : Nat → ((List Int) × (List Int) × (List Int) × Int × Int) → Option ((List Int))
 | 0, _ => none
 | n + 1, (g, h, t11, t12, t13) =>
  if decide (t13 < t12) then
   if inb t13 t11 then
    if inb (gd t11 t13 0) g then
     if inb t13 h then
      impl_compose_L3 n (g, stt h t13 (gd g (gd t11 t13 0) 0), t11, t12, w64 (t13 + 1))
     else none
    else none
   else none
  else
   some h
def impl_compose (f : List Int) (g : List Int) : Option ((List Int)) :=
 if 0 ≤ (f.length : Int) ∧ (f.length : Int) ≤ (f.length : Int) ∧ (f.length : Int) ≤ lim then
  (impl_compose_L3 fuel (g, List.replicate (Int.toNat (f.length : Int)) (0 : Int), f, (f.length : Int), 0)).bind fun s1 =>
   some s1
 else none
end T
open Go Go.Va
namespace T
def valI (vs : List Int) (v : Int) : Int := vs.getD v.toNat 0
def conH (vs : List Int) (c : Con) : Bool := decide (c.1.map (valI vs) ∈ c.2.2)
def satB (l : List Con) (vs : List Int) : Bool := l.all (conH vs)
def insB (vars : List Int) (c : Con) : Bool := c.1.all fun v => decide (v ∈ vars)
def insL (a : Net) (vars : List Int) : List Con := a.2.2.filter (insB vars)
section
variable {a : Net}
theorem impl_compose_ok {f g : List Int} (hf : f.length ≤ 1048576) (hg : ∀ v ∈ f, 0 ≤ v ∧ v < g.length) : impl_compose f g = some (f.map (valI g)) := by
 unfold impl_compose
 rw [if_pos (by unfold lim; omega)]
 have := fillX0 f (fun n o i => impl_compose_L3 n (g, o, f, (f.length : Int), i)) (valI g) some (fun n o k hk hlo => ?_) (fun n o hlo => ?_) (n := fuel) (out := List.replicate (Int.toNat (f.length : Int)) (0 : Int)) (by simp) (by unfold fuel; omega)
 ·simp only [this, Option.bind_some]
 ·have hko : k < o.length := by omega
  have hv := hg _ (List.getElem_mem hk)
  have e : gd g f[k] 0 = valI g f[k] := rfl
  simp only [impl_compose_L3, inb_nat, gd_nat hk, stt_nat, w64_succ (show k < 4611686018427387904 by omega), e]
  rw [if_pos (by simp; omega), if_pos hk, if_pos (show inb f[k] g from hv), if_pos hko]
 ·simp [impl_compose_L3]
end
end T
open Go Go.Va
namespace T
theorem gd_D {α : Type} {k : Nat} {xs : List α} {d : α} : gd xs (k : Int) d = xs.getD k d := rfl
abbrev T3 := List (List (List Bool))
abbrev T4 := List (List (List (List Bool)))
def Cell4 (s : Nat) (c : List (List Bool)) : Prop := c.length = s ∧ ∀ x, x < s → (c.getD x []).length = s
def Row4 (n s : Nat) (r : T3) : Prop := r.length = n ∧ ∀ j, j < n → Cell4 s (r.getD j [])
def Ok4 (n s : Nat) (t : T4) : Prop := t.length = n ∧ ∀ i, i < n → Row4 n s (t.getD i [])
def r4 (t : T4) (i j x y : Nat) : Bool := (((t.getD i []).getD j []).getD x []).getD y false
def s4 (t : T4) (i j x y : Nat) (b : Bool) : T4 := t.set i ((t.getD i []).set j (((t.getD i []).getD j []).set x ((((t.getD i []).getD j []).getD x []).set y b)))
def Ok3 (n m : Nat) (u : T3) : Prop := u.length = n ∧ ∀ i, i < n → (u.getD i []).length = n ∧ ∀ j, j < n → ((u.getD i []).getD j []).length = m
def r3 (u : T3) (i j p : Nat) : Bool := ((u.getD i []).getD j []).getD p false
def s3 (u : T3) (i j p : Nat) (b : Bool) : T3 := u.set i ((u.getD i []).set j (((u.getD i []).getD j []).set p b))
section
variable {n s m : Nat} {t : T4} {u : T3}
theorem Ok4.at (h : Ok4 n s t) {i j x : Nat} (hi : i < n) (hj : j < n) (hx : x < s) : i < t.length ∧ j < (t.getD i []).length ∧ x < ((t.getD i []).getD j []).length ∧ (((t.getD i []).getD j []).getD x []).length = s :=
 ⟨by rw [h.1]; exact hi, by rw [(h.2 i hi).1]; exact hj, by rw [((h.2 i hi).2 j hj).1]; exact hx, ((h.2 i hi).2 j hj).2 x hx⟩
theorem Ok3.at (h : Ok3 n m u) {i j : Nat} (hi : i < n) (hj : j < n) : i < u.length ∧ j < (u.getD i []).length ∧ ((u.getD i []).getD j []).length = m :=
 ⟨by rw [h.1]; exact hi, by rw [(h.2 i hi).1]; exact hj, (h.2 i hi).2 j hj⟩
theorem s4_ok (h : Ok4 n s t) {i j x y : Nat} {b : Bool} : Ok4 n s (s4 t i j x y b) := by
 unfold s4
 refine ⟨by rw [List.length_set]; exact h.1, fun i' hi' => ?_⟩
 rw [getD_set_of]
 split
 ·rename_i hc
  obtain ⟨rfl, _⟩ := hc
  have hr := h.2 i hi'
  refine ⟨by rw [List.length_set]; exact hr.1, fun j' hj' => ?_⟩
  rw [getD_set_of]
  split
  ·rename_i hc
   obtain ⟨rfl, _⟩ := hc
   have hcl := hr.2 j hj'
   refine ⟨by rw [List.length_set]; exact hcl.1, fun x' hx' => ?_⟩
   rw [getD_set_of]
   split
   ·rename_i hc
    obtain ⟨rfl, _⟩ := hc
    rw [List.length_set]; exact hcl.2 x hx'
   ·exact hcl.2 x' hx'
  ·exact hr.2 j' hj'
 ·exact h.2 i' hi'
theorem s3_ok (h : Ok3 n m u) {i j p : Nat} {b : Bool} : Ok3 n m (s3 u i j p b) := by
 unfold s3
 refine ⟨by rw [List.length_set]; exact h.1, fun i' hi' => ?_⟩
 rw [getD_set_of]
 split
 ·rename_i hc
  obtain ⟨rfl, _⟩ := hc
  have hr := h.2 i hi'
  refine ⟨by rw [List.length_set]; exact hr.1, fun j' hj' => ?_⟩
  rw [getD_set_of]
  split
  ·rename_i hc
   obtain ⟨rfl, _⟩ := hc
   rw [List.length_set]; exact hr.2 j hj'
  ·exact hr.2 j' hj'
 ·exact h.2 i' hi'
theorem r4_s4 (h : Ok4 n s t) {i j x y : Nat} {b : Bool} (hi : i < n) (hj : j < n) (hx : x < s) (hy : y < s) (i' j' x' y' : Nat) :
    r4 (s4 t i j x y b) i' j' x' y' = if i = i' ∧ j = j' ∧ x = x' ∧ y = y' then b else r4 t i' j' x' y' := by
  obtain ⟨h1, h2, h3, h4⟩ := h.at hi hj hx
  unfold r4 s4
  rw [getD_set_of]
  by_cases e1 : i = i'
  · subst e1
    rw [if_pos ⟨rfl, h1⟩, getD_set_of]
    by_cases e2 : j = j'
    · subst e2
      rw [if_pos ⟨rfl, h2⟩, getD_set_of]
      by_cases e3 : x = x'
      · subst e3
        rw [if_pos ⟨rfl, h3⟩, getD_set_of]
        by_cases e4 : y = y'
        · subst e4; rw [if_pos ⟨rfl, by omega⟩, if_pos ⟨rfl, rfl, rfl, rfl⟩]
        · rw [if_neg (by omega), if_neg (by omega)]
      · rw [if_neg (by omega), if_neg (by omega)]
    · rw [if_neg (by omega), if_neg (by omega)]
  · rw [if_neg (by omega), if_neg (by omega)]
theorem r3_s3 (h : Ok3 n m u) {i j p : Nat} {b : Bool} (hi : i < n) (hj : j < n) (hp : p < m) (i' j' p' : Nat) :
    r3 (s3 u i j p b) i' j' p' = if i = i' ∧ j = j' ∧ p = p' then b else r3 u i' j' p' := by
  obtain ⟨h1, h2, h3⟩ := h.at hi hj
  unfold r3 s3
  rw [getD_set_of]
  by_cases e1 : i = i'
  · subst e1
    rw [if_pos ⟨rfl, h1⟩, getD_set_of]
    by_cases e2 : j = j'
    · subst e2
      rw [if_pos ⟨rfl, h2⟩, getD_set_of]
      by_cases e3 : p = p'
      · subst e3; rw [if_pos ⟨rfl, by omega⟩, if_pos ⟨rfl, rfl, rfl⟩]
      · rw [if_neg (by omega), if_neg (by omega)]
    · rw [if_neg (by omega), if_neg (by omega)]
  · rw [if_neg (by omega), if_neg (by omega)]
end
structure Rel34 (n s : Nat) (t : T4) (u : T3) : Prop where
 o4 : Ok4 n s t
 o3 : Ok3 n (s * s) u
 eq : ∀ i j x y, i < j → j < n → x < s → y < s → r4 t i j x y = r3 u i j (x * s + y) ∧ r4 t j i y x = r3 u i j (x * s + y)
theorem cell_lt {s x y : Nat} (hx : x < s) (hy : y < s) : x * s + y < s * s := by
 have : (x + 1) * s ≤ s * s := Nat.mul_le_mul_right _ hx
 rw [Nat.succ_mul] at this; omega
theorem cell_inj {s x y x' y' : Nat} (hy : y < s) (hy' : y' < s) (h : x * s + y = x' * s + y') : x = x' ∧ y = y' := by
 have h1 : (x * s + y) / s = x := by rw [Nat.mul_comm, Nat.mul_add_div (by omega), Nat.div_eq_of_lt hy]; omega
 have h2 : (x' * s + y') / s = x' := by rw [Nat.mul_comm, Nat.mul_add_div (by omega), Nat.div_eq_of_lt hy']; omega
 have : x = x' := by rw [← h1, ← h2, h]
 subst this
 exact ⟨rfl, by omega⟩
theorem Rel34.drop {n s : Nat} {t : T4} {u : T3} (h : Rel34 n s t u) {i j x y : Nat} (hij : i < j) (hj : j < n) (hx : x < s) (hy : y < s) :
    Rel34 n s (s4 (s4 t i j x y false) j i y x false) (s3 u i j (x * s + y) false) := by
  refine ⟨s4_ok (s4_ok h.o4), s3_ok h.o3, fun i' j' x' y' h1 h2 h3 h4 => ?_⟩
  have hi : i < n := by omega
  rw [r4_s4 (s4_ok h.o4) hj hi hy hx, r4_s4 h.o4 hi hj hx hy, r4_s4 (s4_ok h.o4) hj hi hy hx, r4_s4 h.o4 hi hj hx hy, r3_s3 h.o3 hi hj (cell_lt hx hy)]
  obtain ⟨e1, e2⟩ := h.eq i' j' x' y' h1 h2 h3 h4
  by_cases e : i = i' ∧ j = j' ∧ x = x' ∧ y = y'
  · obtain ⟨rfl, rfl, rfl, rfl⟩ := e
    simp
  · have e3 : ¬ (i = i' ∧ j = j' ∧ x * s + y = x' * s + y') := fun ⟨q1, q2, q3⟩ => by
      have := cell_inj hy h4 q3
      exact e ⟨q1, q2, this.1, this.2⟩
    have e4 : ¬ (j = i' ∧ i = j' ∧ y = x' ∧ x = y') := by omega
    have e5 : ¬ (i = j' ∧ j = i' ∧ x = y' ∧ y = x') := by omega
    have e6 : ¬ (j = j' ∧ i = i' ∧ y = y' ∧ x = x') := by omega
    simp only [if_neg e, if_neg e3, if_neg e4, if_neg e5, if_neg e6]
    exact ⟨e1, e2⟩
end T
open Go Go.Va
namespace T
def V3 (n i j k x y z : Nat) : List Int := (((List.replicate n (0 : Int)).set i (x : Int)).set j (y : Int)).set k (z : Int)
section
variable {a : Net} {n s : Nat} {t : T4} {u : T3}
def hP (a : Net) (n : Nat) (t : T4) (i j k x y z : Nat) : Bool := r4 t i k x z && r4 t j k y z && satB (insL a [(i : Int), (j : Int), (k : Int)]) (V3 n i j k x y z)
end
end T
open Go Go.Va
namespace T
section
variable {a : Net} {n s : Nat} {t : T4} {u : T3}
def PA (n s i : Nat) (t : T4) : Prop := t.length = n ∧ ∀ i', i' < i → Row4 n s (t.getD i' [])
def PB (n s i j : Nat) (t : T4) : Prop := PA n s i t ∧ (t.getD i []).length = n ∧ ∀ j', j' < j → Cell4 s ((t.getD i []).getD j' [])
theorem PA.set {i : Nat} (h : PA n s i t) (r : T3) : PA n s i (t.set i r) := by
 refine ⟨by rw [List.length_set]; exact h.1, fun i' hi' => ?_⟩
 rw [getD_set_of, if_neg (by omega)]; exact h.2 i' hi'
theorem PB.set {i j : Nat} (h : PB n s i j t) (hi : i < n) (c : List (List Bool)) : PB n s i j (t.set i ((t.getD i []).set j c)) := by
 have hl := h.1.1
 refine ⟨h.1.set _, ?_, fun j' hj' => ?_⟩
 ·rw [getD_set_of, if_pos ⟨rfl, by omega⟩, List.length_set]; exact h.2.1
 ·rw [getD_set_of, if_pos ⟨rfl, by omega⟩, getD_set_of, if_neg (by omega)]; exact h.2.2 j' hj'
end
end T
open Go Go.Va
namespace T
section
variable {a : Net} {n s : Nat} {t : T4} {u : T3}
def cI (o : List Nat) : List Int := o.map fun x : Nat => (x : Int)
theorem cI_get {o : List Nat} {i : Nat} (h : i < o.length) : (cI o).getD i 0 = ((o.getD i 0 : Nat) : Int) := by
 unfold cI; rw [getD_of (by simpa using h), getD_of h]; simp
end
end T
set_option linter.unusedVariables false
open Go Go.Va
namespace T
def impl_keyOf_L3 : Nat → ((List Int) × (List Int) × Int × Int) → Option ((List Int))
 | 0, _ => none
 | n + 1, (b, t10, t11, t12) =>
  if decide (t12 < t11) then
   if inb t12 t10 then
    if (0 : Int) ≤ 8 then
     if b.length + [IntKind.wrap .u8 (shrI .i64 (gd t10 t12 0) 8), IntKind.wrap .u8 (gd t10 t12 0)].length ≤ lim then
      impl_keyOf_L3 n (b ++ [IntKind.wrap .u8 (shrI .i64 (gd t10 t12 0) 8), IntKind.wrap .u8 (gd t10 t12 0)], t10, t11, w64 (t12 + 1))
     else none
    else none
   else none
  else
   some b
def impl_keyOf (list : List Int) : Option (ByteArray) :=
 if (0 : Int) ≤ 0 ∧ (0 : Int) ≤ (w64 (2 * (list.length : Int))) ∧ (w64 (2 * (list.length : Int))) ≤ lim then
  (impl_keyOf_L3 fuel (List.replicate (Int.toNat 0) (0 : Int), list, (list.length : Int), 0)).bind fun s1 =>
   some (bytesOf s1)
 else none
def impl_tupleSet_L3 : Nat → ((List ByteArray) × (List (List Int)) × Int × Int) → Option ((List ByteArray))
 | 0, _ => none
 | n + 1, (set, t8, t9, t10) =>
  if decide (t10 < t9) then
   if inb t10 t8 then
    (impl_keyOf (gd t8 t10 [])).bind fun r1 =>
     impl_tupleSet_L3 n (mput set r1, t8, t9, w64 (t10 + 1))
   else none
  else
   some set
def impl_tupleSet (r : Int × (List (List Int))) : Option ((List ByteArray)) :=
 (impl_tupleSet_L3 fuel ([], r.2, (r.2.length : Int), 0)).bind fun s1 =>
  some s1
def impl_firstBreak_L10 : Nat → (Int × (Int × (List Int)) × (Int × (List (List Int))) × (List ByteArray) × Int × (List Int) × (List Int) × Int × Int × Int) → Option (Int × (Int × (List Int)) × (Int × (List (List Int))) × (List ByteArray) × Int × (List Int) × (List Int) × Int)
 | 0, _ => none
 | n + 1, (t0, t4, t5, t9, t10, t11, t12, t13, t14, t15) =>
  if decide (t15 ≥ 0) then
   if t10 ≠ 0 then
    if inb t15 t11 then
     if t10 ≠ 0 then
      impl_firstBreak_L10 n (t0, (t4.1, t4.2), (t5.1, t5.2), t9, t10, stt t11 t15 (Int.tmod t14 t10), t12, t13, w64 (Int.tdiv t14 t10), w64 (t15 - 1))
     else none
    else none
   else none
  else
   some (t0, (t4.1, t4.2), (t5.1, t5.2), t9, t10, t11, t12, t13)
def impl_firstBreak_L19 : Nat → (Unit × Int × (Int × (List Int)) × (Int × (List (List Int))) × (List ByteArray) × Int × (List Int) × (List Int) × Int × Int × Int × Int × Int × Int × Int) → Option (Int × (Int × (List Int)) × (Int × (List (List Int))) × (List ByteArray) × Int × (List Int) × (List Int) × Int × Int × Int × Int × Int)
 | 0, _ => none
 | n + 1, (al61, t0, t4, t5, t9, t10, t11, t12, t13, t16, t17, t57, t58, t62, t63) =>
  if decide (t63 < t62) then
   if inb t63 t11 then
    if inb (gd t11 t63 0) t5.2 then
     if inb t16 (gd t5.2 (gd t11 t63 0) []) then
      impl_firstBreak_L19 n ((), t0, (t4.1, t4.2), (t5.1, t5.2), t9, t10, t11, t12, t13, t16, w64 ((w64 (t17 * t0)) + (gd (gd t5.2 (gd t11 t63 0) []) t16 0)), t57, t58, t62, w64 (t63 + 1))
     else none
    else none
   else none
  else
   some (t0, (t4.1, t4.2), (t5.1, t5.2), t9, t10, t11, t12, t13, t16, t17, t57, t58)
def impl_firstBreak_L15 : Nat → (Int × (Int × (List Int)) × (Int × (List (List Int))) × (List ByteArray) × Int × (List Int) × (List Int) × Int × Int × Int) → Option (Int × (Int × (List Int)) × (Int × (List (List Int))) × (List ByteArray) × Int × (List Int) × (List Int) × Int)
 | 0, _ => none
 | n + 1, (t0, t4, t5, t9, t10, t11, t12, t13, t57, t58) =>
  if decide (t58 < t57) then
   (impl_firstBreak_L19 fuel ((), t0, (t4.1, t4.2), (t5.1, t5.2), t9, t10, t11, t12, t13, t58, 0, t57, t58, (t11.length : Int), 0)).bind fun s4 =>
    if inb s4.2.2.2.2.2.2.2.2.2.1 s4.2.1.2 then
     if inb s4.2.2.2.2.2.2.2.2.1 s4.2.2.2.2.2.2.1 then
      impl_firstBreak_L15 n (s4.1, (s4.2.1.1, s4.2.1.2), (s4.2.2.1.1, s4.2.2.1.2), s4.2.2.2.1, s4.2.2.2.2.1, s4.2.2.2.2.2.1, stt s4.2.2.2.2.2.2.1 s4.2.2.2.2.2.2.2.2.1 (gd s4.2.1.2 s4.2.2.2.2.2.2.2.2.2.1 0), s4.2.2.2.2.2.2.2.1, s4.2.2.2.2.2.2.2.2.2.2.1, w64 (s4.2.2.2.2.2.2.2.2.2.2.2 + 1))
     else none
    else none
  else
   some (t0, (t4.1, t4.2), (t5.1, t5.2), t9, t10, t11, t12, t13)
def impl_firstBreak_L6 : Nat → (Int × (Int × (List Int)) × (Int × (List (List Int))) × (List ByteArray) × Int × (List Int) × (List Int) × Int) → Option ((Unit) ⊕ ((List Int) × (List Int) × Bool))
 | 0, _ => none
 | n + 1, (t0, t4, t5, t9, t10, t11, t12, t13) =>
  (impl_power t10 t4.1).bind fun r2 =>
   if decide (t13 < r2) then
    (impl_firstBreak_L10 fuel (t0, (t4.1, t4.2), (t5.1, t5.2), t9, t10, t11, t12, t13, t13, w64 (t4.1 - 1))).bind fun s3 =>
     (impl_firstBreak_L15 fuel (s3.1, (s3.2.1.1, s3.2.1.2), (s3.2.2.1.1, s3.2.2.1.2), s3.2.2.2.1, s3.2.2.2.2.1, s3.2.2.2.2.2.1, s3.2.2.2.2.2.2.1, s3.2.2.2.2.2.2.2, (s3.2.2.2.2.2.2.1.length : Int), 0)).bind fun s4 =>
      (impl_keyOf s4.2.2.2.2.2.2.1).bind fun r5 =>
       if !(mhas s4.2.2.2.1 r5) then
        some (.inr (s4.2.2.2.2.2.1, s4.2.2.2.2.2.2.1, true))
       else
        impl_firstBreak_L6 n (s4.1, (s4.2.1.1, s4.2.1.2), (s4.2.2.1.1, s4.2.2.1.2), s4.2.2.2.1, s4.2.2.2.2.1, s4.2.2.2.2.2.1, s4.2.2.2.2.2.2.1, w64 (s4.2.2.2.2.2.2.2 + 1))
   else
    some (.inl ())
def impl_firstBreak (t0 : Int) (t1 : Int × (List Int)) (t2 : Int × (List (List Int))) : Option ((List Int) × (List Int) × Bool) :=
 (impl_tupleSet (t2.1, t2.2)).bind fun r1 =>
  if 0 ≤ t1.1 ∧ t1.1 ≤ t1.1 ∧ t1.1 ≤ lim then
   if 0 ≤ t2.1 ∧ t2.1 ≤ t2.1 ∧ t2.1 ≤ lim then
    (impl_firstBreak_L6 fuel (t0, (t1.1, t1.2), (t2.1, t2.2), r1, (t2.2.length : Int), List.replicate (Int.toNat t1.1) (0 : Int), List.replicate (Int.toNat t2.1) (0 : Int), 0)).bind fun s2 =>
     match s2 with
     | .inl s3 =>
      some ([], [], false)
     | .inr s4 =>
      some (s4.1, s4.2.1, s4.2.2)
   else none
  else none
def impl_keepsAll_L2 : Nat → (Int × (Int × (List Int)) × (List (Int × (List (List Int)))) × Int × Int) → Option ((Unit) ⊕ (Bool))
 | 0, _ => none
 | n + 1, (n_, op, t12, t13, t14) =>
  if decide (t14 < t13) then
   if inb t14 t12 then
    (impl_firstBreak n_ (op.1, op.2) ((gd t12 t14 (0, [])).1, (gd t12 t14 (0, [])).2)).bind fun r1 =>
     if r1.2.2 then
      some (.inr false)
     else
      impl_keepsAll_L2 n (n_, (op.1, op.2), t12, t13, w64 (t14 + 1))
   else none
  else
   some (.inl ())
def impl_keepsAll (n_ : Int) (rels : List (Int × (List (List Int)))) (op : Int × (List Int)) : Option (Bool) :=
 (impl_keepsAll_L2 fuel (n_, (op.1, op.2), rels, (rels.length : Int), 0)).bind fun s1 =>
  match s1 with
  | .inl s2 =>
   some true
  | .inr s3 =>
   some s3
end T
open Go Go.Va
namespace T
def kb (l : List Int) : List Int := l.flatMap fun x => [0, x]
def keyB (l : List Int) : ByteArray := bytesOf (kb l)
theorem u8_small {x : Int} (h0 : 0 ≤ x) (h1 : x < 256) : IntKind.wrap .u8 x = x := by
 simp [IntKind.wrap, IntKind.bits, IntKind.signed]
 omega
theorem shr_small {x : Int} (h0 : 0 ≤ x) (h1 : x < 256) : shrI .i64 x 8 = 0 := by
 unfold shrI
 have : (min (8 : Int).toNat IntKind.i64.bits) = 8 := by decide
 rw [this, Int.fdiv_eq_ediv_of_nonneg _ (by decide)]
 have : (2 : Int) ^ 8 = 256 := by decide
 rw [this]; omega
theorem impl_keyOf_ok {l : List Int} (hl : l.length ≤ 1048576) (hv : ∀ x ∈ l, 0 ≤ x ∧ x < 256) : impl_keyOf l = some (keyB l) := by
 unfold impl_keyOf
 have e2 : w64 (2 * (l.length : Int)) = 2 * (l.length : Int) := w64_id (by omega) (by omega)
 rw [e2, if_pos (by unfold lim; omega)]
 have kbl : ∀ k, k ≤ l.length → (kb (l.take k)).length = 2 * k := by
  intro k hk
  have : ∀ l : List Int, (kb l).length = 2 * l.length := by
   intro l
   induction l with
   | nil => rfl
   | cons x l ih => unfold kb at ih ⊢; simp only [List.flatMap_cons, List.length_append, ih, List.length_cons, List.length_nil]; omega
  rw [this]; simp; omega
 have := forS l.length (fun m o i => impl_keyOf_L3 m (o, l, (l.length : Int), i)) (fun k => kb (l.take k)) (r := some (kb l)) (fun m k hk => ?_) (fun m => ?_) (n := fuel) (by unfold fuel; omega)
 ·have e0 : kb (l.take 0) = [] := rfl
  rw [e0] at this
  have : impl_keyOf_L3 fuel (List.replicate (Int.toNat 0) (0 : Int), l, (l.length : Int), 0) = some (kb l) := this
  rw [this]; rfl
 ·have hx := hv _ (List.getElem_mem hk)
  have hlen := kbl k (by omega)
  have e : kb (l.take (k + 1)) = kb (l.take k) ++ [0, l[k]] := by
   unfold kb; rw [List.take_succ_eq_append_getElem hk, List.flatMap_append]; simp
  simp only [impl_keyOf_L3, inb_nat, gd_nat hk, w64_succ (show k < 4611686018427387904 by omega), u8_small hx.1 hx.2, shr_small hx.1 hx.2, u8_small (show (0 : Int) ≤ 0 by omega) (show (0 : Int) < 256 by omega), e]
  rw [if_pos (by simp; omega), if_pos hk, if_pos (by omega), if_pos (by unfold lim; simp; omega)]
 ·simp only [impl_keyOf_L3, List.take_length]
  rw [if_neg (by simp)]
theorem bytes_data : ∀ (xs : List Int) (s : ByteArray), (xs.foldl (fun s n => s.push (UInt8.ofNat n.toNat)) s).data = s.data ++ (xs.map fun n => UInt8.ofNat n.toNat).toArray
 | [], s => by simp
 | x :: xs, s => by
  rw [List.foldl_cons, bytes_data xs]
  apply Array.ext'
  simp [ByteArray.push]
theorem kb_inj : ∀ (l l' : List Int), (∀ x ∈ l, 0 ≤ x ∧ x < 256) → (∀ x ∈ l', 0 ≤ x ∧ x < 256) → (kb l).map (fun n => UInt8.ofNat n.toNat) = (kb l').map (fun n => UInt8.ofNat n.toNat) → l = l'
 | [], [], _, _, _ => rfl
 | [], y :: l', _, _, h => by simp [kb] at h
 | x :: l, [], _, _, h => by simp [kb] at h
 | x :: l, y :: l', hv, hv', h => by
  simp only [kb, List.flatMap_cons, List.map_append, List.map_cons, List.map_nil, List.cons_append, List.nil_append, List.cons.injEq, true_and] at h
  obtain ⟨h1, h2⟩ := h
  have hx := hv x (by simp)
  have hy := hv' y (by simp)
  have h1 := congrArg UInt8.toNat h1
  simp only [UInt8.toNat_ofNat'] at h1
  have : x = y := by omega
  rw [this, kb_inj l l' (fun z hz => hv z (List.mem_cons_of_mem _ hz)) (fun z hz => hv' z (List.mem_cons_of_mem _ hz)) h2]
theorem keyB_inj {l l' : List Int} (hv : ∀ x ∈ l, 0 ≤ x ∧ x < 256) (hv' : ∀ x ∈ l', 0 ≤ x ∧ x < 256) (h : keyB l = keyB l') : l = l' := by
 have h := congrArg ByteArray.data h
 unfold keyB bytesOf at h
 rw [bytes_data, bytes_data] at h
 have h := congrArg Array.toList h
 simp only [Array.toList_append] at h
 exact kb_inj l l' hv hv' (List.append_cancel_left h)
theorem ba_eq' {a b : ByteArray} : (a == b) = decide (a = b) := by
 show (a.data == b.data) = _
 rw [Bool.eq_iff_iff, beq_iff_eq, decide_eq_true_eq]
 exact ⟨fun h => ByteArray.ext h, fun h => congrArg ByteArray.data h⟩
theorem mhas_mem {ks : List ByteArray} {s : ByteArray} : mhas ks s = true ↔ s ∈ ks := by
 unfold mhas
 rw [List.any_eq_true]
 constructor
 ·rintro ⟨k, h1, h2⟩; rw [ba_eq', decide_eq_true_eq] at h2; subst h2; exact h1
 ·intro h; exact ⟨s, h, by rw [ba_eq']; simp⟩
theorem mput_mem {ks : List ByteArray} {s t : ByteArray} : t ∈ mput ks s ↔ t ∈ ks ∨ t = s := by
 unfold mput
 by_cases h : mhas ks s = true
 ·rw [if_pos h]
  exact ⟨.inl, fun h' => h'.elim id fun e => e ▸ mhas_mem.1 h⟩
 ·rw [if_neg h]; simp
def keys (l : List (List Int)) : List ByteArray := l.foldl (fun ks t => mput ks (keyB t)) []
theorem keys_mem {l : List (List Int)} {s : ByteArray} : s ∈ keys l ↔ ∃ t ∈ l, s = keyB t := by
 have key : ∀ (l : List (List Int)) (ks : List ByteArray), s ∈ l.foldl (fun ks t => mput ks (keyB t)) ks ↔ s ∈ ks ∨ ∃ t ∈ l, s = keyB t := by
  intro l
  induction l with
  | nil => intro ks; simp
  | cons t l ih =>
   intro ks
   rw [List.foldl_cons, ih, mput_mem]
   simp only [List.mem_cons, exists_eq_or_imp, or_assoc]
 unfold keys; rw [key]; simp
theorem impl_tupleSet_ok {r : Int × List (List Int)} (hl : r.2.length ≤ 1048576) (hv : ∀ t ∈ r.2, t.length ≤ 1048576 ∧ ∀ x ∈ t, 0 ≤ x ∧ x < 256) : impl_tupleSet r = some (keys r.2) := by
 unfold impl_tupleSet
 have := forS r.2.length (fun m o i => impl_tupleSet_L3 m (o, r.2, (r.2.length : Int), i)) (fun k => keys (r.2.take k)) (r := some (keys r.2)) (fun m k hk => ?_) (fun m => ?_) (n := fuel) (by unfold fuel; omega)
 ·have e0 : keys (r.2.take 0) = [] := rfl
  rw [e0] at this
  simp only [this, Option.bind_some]
 ·obtain ⟨h1, h2⟩ := hv _ (List.getElem_mem hk)
  have e : keys (r.2.take (k + 1)) = mput (keys (r.2.take k)) (keyB r.2[k]) := by
   unfold keys; rw [List.take_succ_eq_append_getElem hk, List.foldl_append]; rfl
  simp only [impl_tupleSet_L3, inb_nat, gd_nat hk, w64_succ (show k < 4611686018427387904 by omega), impl_keyOf_ok h1 h2, Option.bind_some, e]
  rw [if_pos (by simp; omega), if_pos hk]
 ·simp only [impl_tupleSet_L3, List.take_length]
  rw [if_neg (by simp)]
theorem mhas_keys {l : List (List Int)} {t : List Int} (hl : ∀ t ∈ l, ∀ x ∈ t, 0 ≤ x ∧ x < 256) (ht : ∀ x ∈ t, 0 ≤ x ∧ x < 256) : mhas (keys l) (keyB t) = decide (t ∈ l) := by
 rw [Bool.eq_iff_iff, mhas_mem, decide_eq_true_eq, keys_mem]
 constructor
 ·rintro ⟨u, h1, h2⟩; rw [keyB_inj ht (hl u h1) h2]; exact h1
 ·intro h; exact ⟨t, h, rfl⟩
def dg (b : Nat) : Nat → Nat → List Nat
 | 0, _ => []
 | k + 1, i => dg b k (i / b) ++ [i % b]
theorem dg_len {b : Nat} : ∀ {k i : Nat}, (dg b k i).length = k
 | 0, _ => rfl
 | k + 1, i => by simp [dg, dg_len (k := k)]
theorem dg_lt {b : Nat} (hb : 0 < b) : ∀ {k i : Nat}, ∀ x ∈ dg b k i, x < b
 | 0, _, x, h => by simp [dg] at h
 | k + 1, i, x, h => by
  simp only [dg] at h
  rcases List.mem_append.1 h with h | h
  ·exact dg_lt hb x h
  ·simp at h; subst h; exact Nat.mod_lt _ hb
theorem cI_len {o : List Nat} : (cI o).length = o.length := by unfold cI; simp
theorem cI_append {o p : List Nat} : cI (o ++ p) = cI o ++ cI p := by unfold cI; simp
end T
open Go Go.Va
namespace T
def vt (ts : List (List Int)) (x j : Nat) : Nat := ((ts.getD x []).getD j 0).toNat
def atF (n : Nat) (ts : List (List Int)) (j : Nat) (args : List Nat) : Nat := args.foldl (fun a x => a * n + vt ts x j) 0
def resT (n : Nat) (op : Opn) (ts : List (List Int)) (m : Nat) (args : List Nat) : List Int := (List.range m).map fun j => op.2.getD (atF n ts j args) 0
structure KOk (n k m : Nat) (op : Opn) (r : Int × List (List Int)) : Prop where
 op1 : op.1 = (k : Int)
 hk : 1 ≤ k ∧ k ≤ 3
 hn : 1 ≤ n ∧ n ≤ 4
 opl : op.2.length = n ^ k
 opv : ∀ x ∈ op.2, 0 ≤ x ∧ x < (n : Int)
 ar : r.1 = (m : Int)
 hm : 1 ≤ m ∧ m ≤ 3
 tl : ∀ t ∈ r.2, t.length = m
 tv : ∀ t ∈ r.2, ∀ x ∈ t, 0 ≤ x ∧ x < (n : Int)
 many : r.2.length ≤ 64
 inc : incB r.2 = true
def kB (n k m : Nat) (op : Opn) (r : Int × List (List Int)) : Bool := (List.range (r.2.length ^ k)).all fun i => decide (resT n op r.2 m (dg r.2.length k i) ∈ r.2)
theorem pow64 {b k : Nat} (hb : b ≤ 64) (hk : k ≤ 3) : b ^ k ≤ 262144 := by
 have h1 : b ^ k ≤ 64 ^ k := Nat.pow_le_pow_left hb k
 have h2 : 64 ^ k ≤ 64 ^ 3 := Nat.pow_le_pow_right (by omega) hk
 have : (64 : Nat) ^ 3 = 262144 := by decide
 omega
theorem pow_step {b j : Nat} (hb : b ≤ 64) (hj : j + 1 ≤ 3) : w64 (((b ^ j : Nat) : Int) * (b : Int)) = ((b ^ (j + 1) : Nat) : Int) := by
 have h := pow64 hb hj
 rw [Nat.pow_succ] at h ⊢
 rw [← Int.natCast_mul]
 exact w64_id (by omega) (by omega)
theorem power64_L2 {b : Nat} (hb : b ≤ 64) : ∀ (m k j : Nat), j + k ≤ 3 → k < m → impl_power_L2 m ((b : Int), (k : Int), ((b ^ j : Nat) : Int)) = some (((b ^ (j + k) : Nat) : Int)) := by
 intro m
 induction m with
 | zero => intro k j _ h; omega
 | succ m ih =>
  intro k j hj hk
  simp only [impl_power_L2]
  cases k with
  | zero => simp
  | succ k =>
   have e : w64 (((k + 1 : Nat) : Int) - 1) = (k : Int) := by rw [w64_id (by omega) (by omega)]; omega
   rw [e, pow_step hb (by omega), if_pos (by simp), ih k (j + 1) (by omega) (by omega)]
   congr 3; omega
theorem impl_power64 {b k : Nat} (hb : b ≤ 64) (hk : k ≤ 3) : impl_power (b : Int) (k : Int) = some (((b ^ k : Nat) : Int)) := by
 unfold impl_power
 have := power64_L2 hb fuel k 0 (by omega) (by unfold fuel; omega)
 have this : impl_power_L2 fuel ((b : Int), (k : Int), 1) = _ := this
 rw [this]; simp
section
variable {n k m : Nat} {op : Opn} {r : Int × List (List Int)}
theorem KOk.vt_lt (h : KOk n k m op r) {x j : Nat} (hx : x < r.2.length) (hj : j < m) : vt r.2 x j < n ∧ (r.2.getD x []).getD j 0 = ((vt r.2 x j : Nat) : Int) ∧ j < (r.2.getD x []).length := by
 have hmem : r.2[x] ∈ r.2 := List.getElem_mem hx
 have hl := h.tl _ hmem
 have hj' : j < (r.2[x]).length := by omega
 have hv := h.tv _ hmem _ (List.getElem_mem hj')
 unfold vt
 rw [getD_of hx, getD_of hj']
 exact ⟨by omega, by omega, by omega⟩
theorem pow_le3 {n k : Nat} (hn : n ≤ 4) (hk : k ≤ 3) : n ^ k ≤ 64 := by
 have h1 : n ^ k ≤ 4 ^ k := Nat.pow_le_pow_left hn k
 have h2 : 4 ^ k ≤ 4 ^ 3 := Nat.pow_le_pow_right (by omega) hk
 have : (4 : Nat) ^ 3 = 64 := by decide
 omega
theorem pow_le8 {n k : Nat} (hn : n ≤ 64) (hk : k ≤ 3) : n ^ k ≤ 262144 := by
 have h1 : n ^ k ≤ 64 ^ k := Nat.pow_le_pow_left hn k
 have h2 : 64 ^ k ≤ 64 ^ 3 := Nat.pow_le_pow_right (by omega) hk
 have : (64 : Nat) ^ 3 = 262144 := by decide
 omega
theorem atF_append {ts : List (List Int)} {j : Nat} {a : List Nat} {x : Nat} : atF n ts j (a ++ [x]) = atF n ts j a * n + vt ts x j := by unfold atF; rw [List.foldl_append]; rfl
theorem fold_lt {n : Nat} {v : Nat → Nat} : ∀ (a : List Nat) (c : Nat), (∀ x ∈ a, v x < n) → a.foldl (fun a x => a * n + v x) c < (c + 1) * n ^ a.length
 | [], c, _ => by simp
 | x :: a, c, h => by
  have h1 := fold_lt a (c * n + v x) fun y hy => h y (List.mem_cons_of_mem _ hy)
  have h2 := h x (by simp)
  have h3 : (c * n + v x + 1) * n ^ a.length ≤ ((c + 1) * n) * n ^ a.length := Nat.mul_le_mul_right _ (by rw [Nat.succ_mul]; omega)
  rw [List.foldl_cons, List.length_cons, Nat.pow_succ]
  have h4 : ((c + 1) * n) * n ^ a.length = (c + 1) * (n ^ a.length * n) := by rw [Nat.mul_assoc, Nat.mul_comm n]
  omega
theorem atF_lt (h : KOk n k m op r) {j : Nat} (hj : j < m) (a : List Nat) (ha : ∀ x ∈ a, x < r.2.length) : atF n r.2 j a < n ^ a.length := by
 have := fold_lt (n := n) (v := fun x => vt r.2 x j) a 0 fun x hx => (h.vt_lt (ha x hx) hj).1
 unfold atF; omega
theorem res_val (h : KOk n k m op r) {a : List Nat} (hl : a.length = k) (ha : ∀ x ∈ a, x < r.2.length) {j : Nat} (hj : j < m) : atF n r.2 j a < op.2.length ∧ 0 ≤ op.2.getD (atF n r.2 j a) 0 ∧ op.2.getD (atF n r.2 j a) 0 < (n : Int) := by
 have h1 := atF_lt h hj a ha
 rw [hl] at h1
 have h2 : atF n r.2 j a < op.2.length := by rw [h.opl]; exact h1
 rw [getD_of h2]
 exact ⟨h2, h.opv _ (List.getElem_mem h2)⟩
theorem w64_step (hn : n ≤ 4) {x v : Nat} (hx : x ≤ 64) (hv : v < n) : w64 (w64 ((x : Int) * (n : Int)) + (v : Int)) = ((x * n + v : Nat) : Int) := by
 have h1 : x * n ≤ 64 * 4 := Nat.mul_le_mul hx hn
 have e : (x : Int) * (n : Int) = ((x * n : Nat) : Int) := by push_cast; rfl
 rw [e, w64_id (x := ((x * n : Nat) : Int)) (by omega) (by omega), w64_id (by omega) (by omega)]
 push_cast; rfl
theorem fb_L10 (h : KOk n k m op r) (hb : 0 < r.2.length) (set : List ByteArray) (res : List Int) (i : Int) :
    ∀ (j : Nat) (args : List Nat) (rest f : Nat), args.length = k → j ≤ k → j < f → rest ≤ 262144 →
      impl_firstBreak_L10 f ((n : Int), (op.1, op.2), (r.1, r.2), set, (r.2.length : Int), cI args, res, i, (rest : Int), (j : Int) - 1) =
        some ((n : Int), (op.1, op.2), (r.1, r.2), set, (r.2.length : Int), cI (dg r.2.length j rest ++ args.drop j), res, i) := by
  have h8 := h.many
  intro j
  induction j with
  | zero =>
    intro args rest f hl _ hf _
    obtain ⟨f, rfl⟩ : ∃ q, f = q + 1 := ⟨f - 1, by omega⟩
    simp only [impl_firstBreak_L10]
    rw [if_neg (by simp)]; rfl
  | succ j ih =>
    intro args rest f hl hj hf hr
    obtain ⟨f, rfl⟩ : ∃ q, f = q + 1 := ⟨f - 1, by omega⟩
    have e1 : ((j + 1 : Nat) : Int) - 1 = (j : Int) := by omega
    have e2 : w64 ((j : Int) - 1) = (j : Int) - 1 := by have := h.hk; exact w64_id (by omega) (by omega)
    have hdiv : rest / r.2.length ≤ 262144 := Nat.le_trans (Nat.div_le_self _ _) hr
    have e3 : Int.tmod (rest : Int) (r.2.length : Int) = ((rest % r.2.length : Nat) : Int) := by rw [Int.tmod_eq_emod_of_nonneg (by omega), Int.natCast_emod]
    have e4 : w64 (Int.tdiv (rest : Int) (r.2.length : Int)) = ((rest / r.2.length : Nat) : Int) := by
      rw [Int.tdiv_eq_ediv_of_nonneg (by omega), ← Int.natCast_ediv]
      have hd' : ((rest / r.2.length : Nat) : Int) ≤ 262144 := Int.ofNat_le.2 hdiv
      exact w64_id (Int.le_trans (by decide) (Int.natCast_nonneg _)) (Int.le_trans hd' (by decide))
    have hjl : j < (cI args).length := by rw [cI_len]; omega
    have e5 : (cI args).set j ((rest % r.2.length : Nat) : Int) = cI (args.set j (rest % r.2.length)) := by unfold cI; rw [List.map_set]
    have hne : ¬ ((r.2.length : Int) = 0) := by omega
    have ihx := ih (args.set j (rest % r.2.length)) (rest / r.2.length) f (by simpa using hl) (by omega) (by omega) hdiv
    rw [e1]
    simp only [impl_firstBreak_L10, ne_eq, hne, not_false_eq_true, if_true, inb_nat, hjl, e2, e3, e4, stt_nat, e5, ihx]
    rw [if_pos (by simp)]
    have e6 : dg r.2.length j (rest / r.2.length) ++ (args.set j (rest % r.2.length)).drop j = dg r.2.length (j + 1) rest ++ args.drop (j + 1) := by
      have : (args.set j (rest % r.2.length)).drop j = (rest % r.2.length) :: args.drop (j + 1) := by
        rw [List.drop_eq_getElem_cons (by simp; omega), List.getElem_set_self, List.drop_set_of_lt (by omega)]
      rw [this]; simp [dg]
    rw [e6]
theorem fb_L19 (h : KOk n k m op r) (set : List ByteArray) (res : List Int) (i : Int) {args : List Nat} (hl : args.length = k) (ha : ∀ x ∈ args, x < r.2.length) {j : Nat} (hj : j < m) (t57 t58 : Int) :
    impl_firstBreak_L19 fuel ((), (n : Int), (op.1, op.2), (r.1, r.2), set, (r.2.length : Int), cI args, res, i, (j : Int), 0, t57, t58, (k : Int), 0) =
      some ((n : Int), (op.1, op.2), (r.1, r.2), set, (r.2.length : Int), cI args, res, i, (j : Int), ((atF n r.2 j args : Nat) : Int), t57, t58) := by
  have hk3 := h.hk
  have := forS k (fun f (s : Int) q => impl_firstBreak_L19 f ((), (n : Int), (op.1, op.2), (r.1, r.2), set, (r.2.length : Int), cI args, res, i, (j : Int), s, t57, t58, (k : Int), q)) (fun q => ((atF n r.2 j (args.take q) : Nat) : Int))
    (r := some ((n : Int), (op.1, op.2), (r.1, r.2), set, (r.2.length : Int), cI args, res, i, (j : Int), ((atF n r.2 j args : Nat) : Int), t57, t58)) (fun f q hq => ?_) (fun f => ?_) (n := fuel) (by unfold fuel; omega)
  · exact this
  · have hql : q < args.length := by omega
    have hqc : q < (cI args).length := by rw [cI_len]; exact hql
    have hg : (cI args).getD q 0 = ((args.getD q 0 : Nat) : Int) := cI_get hql
    have hx : args.getD q 0 < r.2.length := by rw [getD_of hql]; exact ha _ (List.getElem_mem _)
    obtain ⟨v1, v2, v3⟩ := h.vt_lt hx hj
    have hb := atF_lt h hj (args.take q) fun x hx => ha x (List.mem_of_mem_take hx)
    have hb2 : n ^ (args.take q).length ≤ 64 := pow_le3 h.hn.2 (by simp; omega)
    have e : atF n r.2 j (args.take (q + 1)) = atF n r.2 j (args.take q) * n + vt r.2 (args.getD q 0) j := by
      rw [List.take_succ_eq_append_getElem hql, atF_append, getD_of hql]
    rw [e]
    simp only [impl_firstBreak_L19, decide_eq_true (show (q : Int) < (k : Int) by omega), if_true, inb_nat, hqc, gd_D, hg, hx, v2, v3, w64_step h.hn.2 (show atF n r.2 j (args.take q) ≤ 64 by omega) v1, w64_succ (show q < 4611686018427387904 by omega)]
  · simp only [impl_firstBreak_L19]
    rw [if_neg (by simp), ← hl, List.take_length]
theorem fb_L15 (h : KOk n k m op r) (set : List ByteArray) {res : List Int} (hr : res.length = m) (i : Int) {args : List Nat} (hl : args.length = k) (ha : ∀ x ∈ args, x < r.2.length) :
    impl_firstBreak_L15 fuel ((n : Int), (op.1, op.2), (r.1, r.2), set, (r.2.length : Int), cI args, res, i, (m : Int), 0) =
      some ((n : Int), (op.1, op.2), (r.1, r.2), set, (r.2.length : Int), cI args, resT n op r.2 m args, i) := by
  have hm3 := h.hm
  have hcl : ((cI args).length : Int) = (k : Int) := by rw [cI_len, hl]
  have := fillX0 (List.range m) (fun f o q => impl_firstBreak_L15 f ((n : Int), (op.1, op.2), (r.1, r.2), set, (r.2.length : Int), cI args, o, i, (m : Int), q)) (fun j => op.2.getD (atF n r.2 j args) 0)
    (fun o => some ((n : Int), (op.1, op.2), (r.1, r.2), set, (r.2.length : Int), cI args, o, i)) (fun f o j hj ho => ?_) (fun f o ho => ?_) (n := fuel) (out := res) (by simpa using hr) (by unfold fuel; simp; omega)
  · exact this
  · rw [List.length_range] at hj ho
    have h19 := fb_L19 h set o i hl ha hj (m : Int) (j : Int)
    obtain ⟨v1, _, _⟩ := res_val h hl ha hj
    simp only [impl_firstBreak_L15, decide_eq_true (show (j : Int) < (m : Int) by omega), if_true, hcl, h19, Option.bind_some, inb_nat, v1, ho, hj, gd_D, stt_nat, List.getElem_range, w64_succ (show j < 4611686018427387904 by omega)]
  · simp only [impl_firstBreak_L15, List.length_range]
    rw [if_neg (by simp)]
theorem res_small (h : KOk n k m op r) {a : List Nat} (hl : a.length = k) (ha : ∀ x ∈ a, x < r.2.length) : (resT n op r.2 m a).length = m ∧ ∀ x ∈ resT n op r.2 m a, 0 ≤ x ∧ x < (n : Int) := by
 unfold resT
 refine ⟨by simp, fun x hx => ?_⟩
 rw [List.mem_map] at hx
 obtain ⟨j, hj, rfl⟩ := hx
 exact (res_val h hl ha (List.mem_range.1 hj)).2
theorem tup_small (h : KOk n k m op r) : ∀ t ∈ r.2, ∀ x ∈ t, 0 ≤ x ∧ x < 256 := fun t ht x hx => by have := h.tv t ht x hx; have := h.hn; omega
theorem fb_L6 (h : KOk n k m op r) : ∀ (d i : Nat) (args : List Nat) (res : List Int) (f : Nat), i + d = r.2.length ^ k → d < f → args.length = k → res.length = m →
    ∃ q, impl_firstBreak_L6 f ((n : Int), (op.1, op.2), (r.1, r.2), keys r.2, (r.2.length : Int), cI args, res, (i : Int)) = some q ∧
      (match q with | .inl _ => ((List.range' i d).all fun i => decide (resT n op r.2 m (dg r.2.length k i) ∈ r.2)) = true | .inr z => z.2.2 = true ∧ ((List.range' i d).all fun i => decide (resT n op r.2 m (dg r.2.length k i) ∈ r.2)) = false) := by
  have hk3 := h.hk
  have h8 := h.many
  have hpow := impl_power64 (b := r.2.length) (k := k) (by omega) (by omega)
  have hp8 := pow_le8 h8 hk3.2
  intro d
  induction d with
  | zero =>
    intro i args res f hi hf _ _
    obtain ⟨f, rfl⟩ : ∃ q, f = q + 1 := ⟨f - 1, by omega⟩
    refine ⟨.inl (), ?_, by simp⟩
    simp only [impl_firstBreak_L6, h.op1, hpow, Option.bind_some]
    rw [if_neg (by rw [decide_eq_true_eq]; omega)]
  | succ d ih =>
    intro i args res f hi hf hl hr
    obtain ⟨f, rfl⟩ : ∃ q, f = q + 1 := ⟨f - 1, by omega⟩
    have hb : 0 < r.2.length := Nat.pos_of_ne_zero fun e => by
      rw [e, Nat.zero_pow (by omega)] at hi; omega
    have hdl : (dg r.2.length k i).length = k := dg_len
    have hdv : ∀ x ∈ dg r.2.length k i, x < r.2.length := dg_lt hb
    have h10 := fb_L10 h hb (keys r.2) res (i : Int) k args i fuel hl (Nat.le_refl _) (by unfold fuel; omega) (by omega)
    have e0 : dg r.2.length k i ++ args.drop k = dg r.2.length k i := by rw [List.drop_of_length_le (by omega), List.append_nil]
    rw [e0] at h10
    have e1 : w64 ((k : Int) - 1) = (k : Int) - 1 := w64_id (by omega) (by omega)
    have h15 := fb_L15 h (keys r.2) hr (i : Int) hdl hdv
    obtain ⟨s1, s2⟩ := res_small h hdl hdv
    have s3 : ∀ x ∈ resT n op r.2 m (dg r.2.length k i), 0 ≤ x ∧ x < 256 := fun x hx => by have := s2 x hx; have := h.hn; omega
    have hkey := impl_keyOf_ok (l := resT n op r.2 m (dg r.2.length k i)) (by have := h.hm; omega) s3
    have hhas := mhas_keys (tup_small h) s3
    have hrl : ((res.length : Nat) : Int) = (m : Int) := by rw [hr]
    rw [h.op1] at h10 h15
    rw [List.range'_succ, List.all_cons]
    simp only [impl_firstBreak_L6, h.op1, hpow, Option.bind_some, e1, h10, hrl, h15, hkey, hhas]
    rw [if_pos (by rw [decide_eq_true_eq]; omega)]
    cases hc : decide (resT n op r.2 m (dg r.2.length k i) ∈ r.2) with
    | false => exact ⟨.inr (cI (dg r.2.length k i), resT n op r.2 m (dg r.2.length k i), true), by simp, ⟨rfl, by simp⟩⟩
    | true =>
      obtain ⟨q, h1, h2⟩ := ih (i + 1) (dg r.2.length k i) (resT n op r.2 m (dg r.2.length k i)) f (by omega) (by omega) hdl s1
      refine ⟨q, ?_, by simpa using h2⟩
      rw [h.op1] at h1
      simp only [Bool.not_true, Bool.false_eq_true, if_false, w64_succ (show i < 4611686018427387904 by omega)]
      exact h1
theorem impl_firstBreak_ok (h : KOk n k m op r) : ∃ z, impl_firstBreak (n : Int) op r = some z ∧ z.2.2 = !kB n k m op r := by
 have hk3 := h.hk
 have hm3 := h.hm
 have hset := impl_tupleSet_ok (r := r) (by have := h.many; omega) (fun t ht => ⟨by have := h.tl t ht; omega, tup_small h t ht⟩)
 obtain ⟨q, h1, h2⟩ := fb_L6 h (r.2.length ^ k) 0 (List.replicate k 0) (List.replicate m 0) fuel (by omega) (by have := pow_le8 h.many hk3.2; unfold fuel; omega) (by simp) (by simp)
 have e : cI (List.replicate k 0) = List.replicate k (0 : Int) := by unfold cI; simp
 rw [e] at h1
 have h1 : impl_firstBreak_L6 fuel ((n : Int), (op.1, op.2), (r.1, r.2), keys r.2, (r.2.length : Int), List.replicate k (0 : Int), List.replicate m (0 : Int), 0) = some q := h1
 unfold impl_firstBreak
 rw [show impl_tupleSet (r.1, r.2) = some (keys r.2) from hset]
 simp only [Option.bind_some]
 rw [if_pos (by rw [h.op1]; unfold lim; omega), if_pos (by rw [h.ar]; unfold lim; omega)]
 rw [h.op1, h.ar, Int.toNat_natCast, Int.toNat_natCast]
 rw [h.op1, h.ar] at h1
 rw [h1]
 have e2 : kB n k m op r = (List.range' 0 (r.2.length ^ k)).all fun i => decide (resT n op r.2 m (dg r.2.length k i) ∈ r.2) := by unfold kB; rw [List.range_eq_range']
 rw [e2]
 cases q with
 | inl x => exact ⟨([], [], false), rfl, by rw [h2]; rfl⟩
 | inr x => exact ⟨_, rfl, by rw [h2.2, h2.1]; rfl⟩
end
end T
set_option linter.unusedVariables false
open Go Go.Va
namespace T
def spec_l14Size (n_ : Int) : Option (Bool) :=
 (spec_l1In n_ 1 4).bind fun r1 =>
  some r1
def spec_l14Rels_L4 : Nat → (Int × (List (Int × (List (List Int)))) × Int) → Option ((Unit) ⊕ (Bool))
 | 0, _ => none
 | n + 1, (n_, rels, i) =>
  if decide (i < (rels.length : Int)) then
   if inb i rels then
    (spec_l13Good n_ (gd rels i (0, []))).bind fun r1 =>
     if !r1 then
      some (.inr false)
     else
      spec_l14Rels_L4 n (n_, rels, w64 (i + 1))
   else none
  else
   some (.inl ())
def spec_l14Rels (n_ : Int) (rels : List (Int × (List (List Int)))) : Option (Bool) :=
 if decide ((rels.length : Int) > 4) then
  some false
 else
  (spec_l14Rels_L4 fuel (n_, rels, 0)).bind fun s1 =>
   match s1 with
   | .inl s2 =>
    some true
   | .inr s3 =>
    some s3
def spec_l14Takes_L4 : Nat → ((List (Int × (List (List Int)))) × Int × Int) → Option ((Unit) ⊕ (Bool))
 | 0, _ => none
 | n + 1, (rels, k, i) =>
  if decide (i < (rels.length : Int)) then
   if k == 3 then
    if inb i rels then
     if decide ((((gd rels i (0, [])).2).length : Int) > 12) then
      some (.inr false)
     else
      spec_l14Takes_L4 n (rels, k, w64 (i + 1))
    else none
   else
    spec_l14Takes_L4 n (rels, k, w64 (i + 1))
  else
   some (.inl ())
def spec_l14Takes (n_ : Int) (rels : List (Int × (List (List Int)))) (k : Int) : Option (Bool) :=
 (spec_l14Size n_).bind fun r1 =>
  if !r1 then
   some false
  else
   (spec_l14Rels n_ rels).bind fun r2 =>
    if !r2 then
     some false
    else
     (spec_l1In k 1 3).bind fun r3 =>
      if !r3 then
       some false
      else
       (spec_l14Takes_L4 fuel (rels, k, 0)).bind fun s4 =>
        match s4 with
        | .inl s5 =>
         some true
        | .inr s6 =>
         some s6
def spec_l14Small (n_ : Int) (rels : List (Int × (List (List Int)))) (k : Int) : Option (Bool) :=
 (spec_l14Takes n_ rels k).bind fun r1 =>
  if r1 then
   (spec_l2Pow n_ k).bind fun r2 =>
    some (decide (r2 ≤ 9))
  else
   some false
def spec_l14Free_L3 : Nat → (Int × (List Int) × Int) → Option ((List Int))
 | 0, _ => none
 | n + 1, (size, out, i) =>
  if decide (i < size) then
   if out.length + [(-1)].length ≤ lim then
    spec_l14Free_L3 n (size, out ++ [(-1)], w64 (i + 1))
   else none
  else
   some out
def spec_l14Free (size : Int) : Option ((List Int)) :=
 (spec_l14Free_L3 fuel (size, [], 0)).bind fun s1 =>
  some s1
def spec_l2Args_L3 : Nat → (Int × Int × (List Int) × Int) → Option ((List Int))
 | 0, _ => none
 | n + 1, (n_, at_, out, i) =>
  if decide (i ≥ 0) then
   if n_ ≠ 0 then
    if inb i out then
     if n_ ≠ 0 then
      spec_l2Args_L3 n (n_, w64 (Int.tdiv at_ n_), stt out i (Int.tmod at_ n_), w64 (i - 1))
     else none
    else none
   else none
  else
   some out
def spec_l2Args (n_ : Int) (arity : Int) (at_ : Int) : Option ((List Int)) :=
 if 0 ≤ arity ∧ arity ≤ arity ∧ arity ≤ lim then
  (spec_l2Args_L3 fuel (n_, at_, List.replicate (Int.toNat arity) (0 : Int), w64 (arity - 1))).bind fun s1 =>
   some s1
 else none
def spec_l1Most (a : Int) (b : Int) : Option (Int) :=
 if decide (a > b) then
  some a
 else
  some b
def spec_l14Needs_L3 : Nat → (Int × (List (Int × (List (List Int)))) × Int × (List (List ((List Int) × Int × (List (List Int))))) × Int) → Option (Int × (List (Int × (List (List Int)))) × Int × (List (List ((List Int) × Int × (List (List Int))))))
 | 0, _ => none
 | n + 1, (t0, t1, t2, t7, t8) =>
  (spec_l2Pow t0 t2).bind fun r1 =>
   if decide (t8 < r1) then
    if t7.length + ([[]] : List (List ((List Int) × Int × (List (List Int))))).length ≤ lim then
     spec_l14Needs_L3 n (t0, t1, t2, t7 ++ [[]], w64 (t8 + 1))
    else none
   else
    some (t0, t1, t2, t7)
def spec_l14Needs_L21 : Nat → (Int × (List (Int × (List (List Int)))) × Int × (List (List ((List Int) × Int × (List (List Int))))) × Int × Int × Int × (List Int) × ((List Int) × (Int × (List (List Int)))) × Int × Int × Int × Int) → Option (Int × (List (Int × (List (List Int)))) × Int × (List (List ((List Int) × Int × (List (List Int))))) × Int × Int × Int × (List Int) × ((List Int) × (Int × (List (List Int)))) × Int × Int × Int)
 | 0, _ => none
 | n + 1, (t0, t1, t2, t7, t9, t10, t11, t12, t13, t14, t15, t16, t17) =>
  if decide (t17 < t2) then
   if inb t9 t1 then
    if inb t17 t12 then
     if inb (gd t12 t17 0) ((gd t1 t9 (0, [])).2) then
      if inb t15 (gd ((gd t1 t9 (0, [])).2) (gd t12 t17 0) []) then
       spec_l14Needs_L21 n (t0, t1, t2, t7, t9, t10, t11, t12, (t13.1, (t13.2.1, t13.2.2)), t14, t15, w64 ((w64 (t16 * t0)) + (gd (gd ((gd t1 t9 (0, [])).2) (gd t12 t17 0) []) t15 0)), w64 (t17 + 1))
      else none
     else none
    else none
   else none
  else
   some (t0, t1, t2, t7, t9, t10, t11, t12, (t13.1, (t13.2.1, t13.2.2)), t14, t15, t16)
def spec_l14Needs_L17 : Nat → (Int × (List (Int × (List (List Int)))) × Int × (List (List ((List Int) × Int × (List (List Int))))) × Int × Int × Int × (List Int) × ((List Int) × (Int × (List (List Int)))) × Int × Int) → Option (Int × (List (Int × (List (List Int)))) × Int × (List (List ((List Int) × Int × (List (List Int))))) × Int × Int × Int × ((List Int) × (Int × (List (List Int)))) × Int)
 | 0, _ => none
 | n + 1, (t0, t1, t2, t7, t9, t10, t11, t12, t13, t14, t15) =>
  if inb t9 t1 then
   if decide (t15 < ((gd t1 t9 (0, [])).1)) then
    (spec_l14Needs_L21 fuel (t0, t1, t2, t7, t9, t10, t11, t12, (t13.1, (t13.2.1, t13.2.2)), t14, t15, 0, 0)).bind fun s5 =>
     if s5.2.2.2.2.2.2.2.2.1.1.length + [s5.2.2.2.2.2.2.2.2.2.2.2].length ≤ lim then
      (spec_l1Most s5.2.2.2.2.2.2.2.2.2.1 s5.2.2.2.2.2.2.2.2.2.2.2).bind fun r6 =>
       spec_l14Needs_L17 n (s5.1, s5.2.1, s5.2.2.1, s5.2.2.2.1, s5.2.2.2.2.1, s5.2.2.2.2.2.1, s5.2.2.2.2.2.2.1, s5.2.2.2.2.2.2.2.1, (s5.2.2.2.2.2.2.2.2.1.1 ++ [s5.2.2.2.2.2.2.2.2.2.2.2], (s5.2.2.2.2.2.2.2.2.1.2.1, s5.2.2.2.2.2.2.2.2.1.2.2)), r6, w64 (s5.2.2.2.2.2.2.2.2.2.2.1 + 1))
     else none
   else
    some (t0, t1, t2, t7, t9, t10, t11, (t13.1, (t13.2.1, t13.2.2)), t14)
  else none
def spec_l14Needs_L11 : Nat → (Int × (List (Int × (List (List Int)))) × Int × (List (List ((List Int) × Int × (List (List Int))))) × Int × Int × Int) → Option (Int × (List (Int × (List (List Int)))) × Int × (List (List ((List Int) × Int × (List (List Int))))) × Int)
 | 0, _ => none
 | n + 1, (t0, t1, t2, t7, t9, t10, t11) =>
  (spec_l2Pow t10 t2).bind fun r3 =>
   if decide (t11 < r3) then
    (spec_l2Args t10 t2 t11).bind fun r4 =>
     if inb t9 t1 then
      (spec_l14Needs_L17 fuel (t0, t1, t2, t7, t9, t10, t11, r4, ([], ((gd t1 t9 (0, [])).1, (gd t1 t9 (0, [])).2)), 0, 0)).bind fun s5 =>
       if inb s5.2.2.2.2.2.2.2.2 s5.2.2.2.1 then
        if (gd s5.2.2.2.1 s5.2.2.2.2.2.2.2.2 []).length + [(s5.2.2.2.2.2.2.2.1.1, (s5.2.2.2.2.2.2.2.1.2.1, s5.2.2.2.2.2.2.2.1.2.2))].length ≤ lim then
         if inb s5.2.2.2.2.2.2.2.2 s5.2.2.2.1 then
          if s5.2.2.2.2.2.2.2.2 = s5.2.2.2.2.2.2.2.2 then
           spec_l14Needs_L11 n (s5.1, s5.2.1, s5.2.2.1, stt s5.2.2.2.1 s5.2.2.2.2.2.2.2.2 ((gd s5.2.2.2.1 s5.2.2.2.2.2.2.2.2 []) ++ [(s5.2.2.2.2.2.2.2.1.1, (s5.2.2.2.2.2.2.2.1.2.1, s5.2.2.2.2.2.2.2.1.2.2))]), s5.2.2.2.2.1, s5.2.2.2.2.2.1, w64 (s5.2.2.2.2.2.2.1 + 1))
          else none
         else none
        else none
       else none
     else none
   else
    some (t0, t1, t2, t7, t9)
def spec_l14Needs_L7 : Nat → (Int × (List (Int × (List (List Int)))) × Int × (List (List ((List Int) × Int × (List (List Int))))) × Int) → Option ((List (List ((List Int) × Int × (List (List Int))))))
 | 0, _ => none
 | n + 1, (t0, t1, t2, t7, t9) =>
  if decide (t9 < (t1.length : Int)) then
   if inb t9 t1 then
    (spec_l14Needs_L11 fuel (t0, t1, t2, t7, t9, (((gd t1 t9 (0, [])).2).length : Int), 0)).bind fun s3 =>
     spec_l14Needs_L7 n (s3.1, s3.2.1, s3.2.2.1, s3.2.2.2.1, w64 (s3.2.2.2.2 + 1))
   else none
  else
   some t7
def spec_l14Needs (t0 : Int) (t1 : List (Int × (List (List Int)))) (t2 : Int) : Option ((List (List ((List Int) × Int × (List (List Int)))))) :=
 (spec_l14Needs_L3 fuel (t0, t1, t2, [], 0)).bind fun s1 =>
  (spec_l14Needs_L7 fuel (s1.1, s1.2.1, s1.2.2.1, s1.2.2.2, 0)).bind fun s2 =>
   some s2
def spec_l14Holds_L6 : Nat → ((List ((List Int) × Int × (List (List Int)))) × (List Int) × Int × (List Int) × Int) → Option ((List ((List Int) × Int × (List (List Int)))) × (List Int) × Int × (List Int))
 | 0, _ => none
 | n + 1, (needs, table, i, t, k) =>
  if inb i needs then
   if decide (k < (((gd needs i ([], (0, []))).1).length : Int)) then
    if inb i needs then
     if inb k ((gd needs i ([], (0, []))).1) then
      if inb (gd ((gd needs i ([], (0, []))).1) k 0) table then
       if t.length + [gd table (gd ((gd needs i ([], (0, []))).1) k 0) 0].length ≤ lim then
        spec_l14Holds_L6 n (needs, table, i, t ++ [gd table (gd ((gd needs i ([], (0, []))).1) k 0) 0], w64 (k + 1))
       else none
      else none
     else none
    else none
   else
    some (needs, table, i, t)
  else none
def spec_l14Holds_L2 : Nat → ((List ((List Int) × Int × (List (List Int)))) × (List Int) × Int) → Option ((Unit) ⊕ (Bool))
 | 0, _ => none
 | n + 1, (needs, table, i) =>
  if decide (i < (needs.length : Int)) then
   (spec_l14Holds_L6 fuel (needs, table, i, [], 0)).bind fun s1 =>
    if inb s1.2.2.1 s1.1 then
     (spec_l13Has ((gd s1.1 s1.2.2.1 ([], (0, []))).2) s1.2.2.2).bind fun r2 =>
      if !r2 then
       some (.inr false)
      else
       spec_l14Holds_L2 n (s1.1, s1.2.1, w64 (s1.2.2.1 + 1))
    else none
  else
   some (.inl ())
def spec_l14Holds (needs : List ((List Int) × Int × (List (List Int)))) (table : List Int) : Option (Bool) :=
 (spec_l14Holds_L2 fuel (needs, table, 0)).bind fun s1 =>
  match s1 with
  | .inl s2 =>
   some true
  | .inr s3 =>
   some s3
def spec_l14Go_L8 (rec : (Int × (List (List ((List Int) × Int × (List (List Int))))) × (List Int) × (List Int) × ((List (List Int)) × (Int × Int))) → Option (((List (List Int)) × (Int × Int)))) : Nat → (Int × (List (List ((List Int) × Int × (List (List Int))))) × (List Int) × (List Int) × ((List (List Int)) × (Int × Int)) × ((List (List Int)) × (Int × Int)) × Int × Int) → Option ((((List (List Int)) × (Int × Int)) × ((List (List Int)) × (Int × Int))) ⊕ (((List (List Int)) × (Int × Int))))
 | 0, _ => none
 | n + 1, (t0, t1, t2, t3, t9, t10, t11, t12) =>
  if decide (t12 < t0) then
   if inb t11 t2 then
    if decide ((gd t2 t11 0) ≥ 0) then
     if inb t11 t2 then
      if (gd t2 t11 0) != t12 then
       spec_l14Go_L8 rec n (t0, t1, t2, t3, (t9.1, (t9.2.1, t9.2.2)), (t10.1, (t10.2.1, t10.2.2)), t11, w64 (t12 + 1))
      else
       (spec_l1Own t3).bind fun r2 =>
        if r2.length + [t12].length ≤ lim then
         if inb t11 t1 then
          (spec_l14Holds (gd t1 t11 []) (r2 ++ [t12])).bind fun r3 =>
           if r3 then
            (rec (t0, t1, t2, r2 ++ [t12], (t9.1, (t9.2.1, t9.2.2)))).bind fun r4 =>
             if r4.2.2 == 1 then
              if decide (r4.2.1 > 0) then
               some (.inr (r4.1, (r4.2.1, r4.2.2)))
              else
               spec_l14Go_L8 rec n (t0, t1, t2, t3, (r4.1, (r4.2.1, r4.2.2)), (t10.1, (t10.2.1, t10.2.2)), t11, w64 (t12 + 1))
             else
              spec_l14Go_L8 rec n (t0, t1, t2, t3, (r4.1, (r4.2.1, r4.2.2)), (t10.1, (t10.2.1, t10.2.2)), t11, w64 (t12 + 1))
           else
            if t9.2.2 == 1 then
             if decide (t9.2.1 > 0) then
              some (.inr (t9.1, (t9.2.1, t9.2.2)))
             else
              spec_l14Go_L8 rec n (t0, t1, t2, t3, (t9.1, (t9.2.1, t9.2.2)), (t10.1, (t10.2.1, t10.2.2)), t11, w64 (t12 + 1))
            else
             spec_l14Go_L8 rec n (t0, t1, t2, t3, (t9.1, (t9.2.1, t9.2.2)), (t10.1, (t10.2.1, t10.2.2)), t11, w64 (t12 + 1))
         else none
        else none
     else none
    else
     (spec_l1Own t3).bind fun r5 =>
      if r5.length + [t12].length ≤ lim then
       if inb t11 t1 then
        (spec_l14Holds (gd t1 t11 []) (r5 ++ [t12])).bind fun r6 =>
         if r6 then
          (rec (t0, t1, t2, r5 ++ [t12], (t9.1, (t9.2.1, t9.2.2)))).bind fun r7 =>
           if r7.2.2 == 1 then
            if decide (r7.2.1 > 0) then
             some (.inr (r7.1, (r7.2.1, r7.2.2)))
            else
             spec_l14Go_L8 rec n (t0, t1, t2, t3, (r7.1, (r7.2.1, r7.2.2)), (t10.1, (t10.2.1, t10.2.2)), t11, w64 (t12 + 1))
           else
            spec_l14Go_L8 rec n (t0, t1, t2, t3, (r7.1, (r7.2.1, r7.2.2)), (t10.1, (t10.2.1, t10.2.2)), t11, w64 (t12 + 1))
         else
          if t9.2.2 == 1 then
           if decide (t9.2.1 > 0) then
            some (.inr (t9.1, (t9.2.1, t9.2.2)))
           else
            spec_l14Go_L8 rec n (t0, t1, t2, t3, (t9.1, (t9.2.1, t9.2.2)), (t10.1, (t10.2.1, t10.2.2)), t11, w64 (t12 + 1))
          else
           spec_l14Go_L8 rec n (t0, t1, t2, t3, (t9.1, (t9.2.1, t9.2.2)), (t10.1, (t10.2.1, t10.2.2)), t11, w64 (t12 + 1))
       else none
      else none
   else none
  else
   some (.inl ((t9.1, (t9.2.1, t9.2.2)), (t10.1, (t10.2.1, t10.2.2))))
def spec_l14Go_body (rec : (Int × (List (List ((List Int) × Int × (List (List Int))))) × (List Int) × (List Int) × ((List (List Int)) × (Int × Int))) → Option (((List (List Int)) × (Int × Int)))) (t0 : Int) (t1 : List (List ((List Int) × Int × (List (List Int))))) (t2 : List Int) (t3 : List Int) (t4 : (List (List Int)) × (Int × Int)) : Option (((List (List Int)) × (Int × Int))) :=
 if (t3.length : Int) == (t1.length : Int) then
  if decide ((t4.1.length : Int) < t4.2.2) then
   (spec_l1Own t3).bind fun r1 =>
    if t4.1.length + [r1].length ≤ lim then
     some (t4.1 ++ [r1], (w64 (t4.2.1 + 1), t4.2.2))
    else none
  else
   some (t4.1, (w64 (t4.2.1 + 1), t4.2.2))
 else
  (spec_l14Go_L8 rec fuel (t0, t1, t2, t3, (t4.1, (t4.2.1, t4.2.2)), ([], (0, 0)), (t3.length : Int), 0)).bind fun s2 =>
   match s2 with
   | .inl s3 =>
    some (s3.1.1, (s3.1.2.1, s3.1.2.2))
   | .inr s4 =>
    some (s4.1, (s4.2.1, s4.2.2))
def spec_l14Go : Nat → (Int × (List (List ((List Int) × Int × (List (List Int))))) × (List Int) × (List Int) × ((List (List Int)) × (Int × Int))) → Option (((List (List Int)) × (Int × Int)))
 | 0, _ => none
 | d + 1, x => spec_l14Go_body (spec_l14Go d) x.1 x.2.1 x.2.2.1 x.2.2.2.1 x.2.2.2.2
def spec_l14All (n_ : Int) (rels : List (Int × (List (List Int)))) (k : Int) (fixed : List Int) (most : Int) : Option (((List (List Int)) × (Int × Int))) :=
 (spec_l14Needs n_ rels k).bind fun r1 =>
  (spec_l14Go fuel (n_, r1, fixed, [], ([], (0, most)))).bind fun r2 =>
   some (r2.1, (r2.2.1, r2.2.2))
def spec_l12Ops_L3 : Nat → (Int × (List (List Int)) × (List (Int × (List Int))) × Int) → Option ((List (Int × (List Int))))
 | 0, _ => none
 | n + 1, (k, tables, out, i) =>
  if decide (i < (tables.length : Int)) then
   if inb i tables then
    (spec_l1Own (gd tables i [])).bind fun r1 =>
     if out.length + [(k, r1)].length ≤ lim then
      spec_l12Ops_L3 n (k, tables, out ++ [(k, r1)], w64 (i + 1))
     else none
   else none
  else
   some out
def spec_l12Ops (k : Int) (tables : List (List Int)) : Option ((List (Int × (List Int)))) :=
 (spec_l12Ops_L3 fuel (k, tables, [], 0)).bind fun s1 =>
  some s1
def impl_isTemplate_L4 : Nat → (Int × (List (Int × (List (List Int)))) × Int × Int) → Option ((Unit) ⊕ (Bool))
 | 0, _ => none
 | n + 1, (n_, t10, t11, t12) =>
  if decide (t12 < t11) then
   if inb t12 t10 then
    (impl_isRelation n_ ((gd t10 t12 (0, [])).1, (gd t10 t12 (0, [])).2)).bind fun r1 =>
     if !r1 then
      some (.inr false)
     else
      impl_isTemplate_L4 n (n_, t10, t11, w64 (t12 + 1))
   else none
  else
   some (.inl ())
def impl_isTemplate (n_ : Int) (rels : List (Int × (List (List Int)))) : Option (Bool) :=
 if decide ((rels.length : Int) > 4) then
  some false
 else
  (impl_isTemplate_L4 fuel (n_, rels, (rels.length : Int), 0)).bind fun s1 =>
   match s1 with
   | .inl s2 =>
    some true
   | .inr s3 =>
    some s3
def impl_canAsk_L4 : Nat → (Int × (List (Int × (List (List Int)))) × Int × Int) → Option ((Unit) ⊕ (Bool))
 | 0, _ => none
 | n + 1, (k, t18, t19, t20) =>
  if decide (t20 < t19) then
   if inb t20 t18 then
    if k == 3 then
     if decide ((((gd t18 t20 (0, [])).2).length : Int) > 12) then
      some (.inr false)
     else
      impl_canAsk_L4 n (k, t18, t19, w64 (t20 + 1))
    else
     impl_canAsk_L4 n (k, t18, t19, w64 (t20 + 1))
   else none
  else
   some (.inl ())
def impl_canAsk (n_ : Int) (rels : List (Int × (List (List Int)))) (k : Int) : Option (Bool) :=
 (impl_isTemplateSize n_).bind fun r1 =>
  if !r1 then
   some false
  else
   (impl_isTemplate n_ rels).bind fun r2 =>
    if !r2 then
     some false
    else
     (impl_canAsk_L4 fuel (k, rels, (rels.length : Int), 0)).bind fun s3 =>
      match s3 with
      | .inl s4 =>
       some true
      | .inr s5 =>
       some s5
def impl_isPolyRange (n_ : Int) (k : Int) : Option (Bool) :=
 if decide (k ≥ 1) then
  if decide (k ≤ 3) then
   (impl_power n_ k).bind fun r1 =>
    some (decide (r1 ≤ 9))
  else
   some false
 else
  some false
def impl_freeTable_L3 : Nat → ((List Int) × Int × Int) → Option ((List Int))
 | 0, _ => none
 | n + 1, (list, t8, t9) =>
  if decide (t9 < t8) then
   if inb t9 list then
    impl_freeTable_L3 n (stt list t9 (-1), t8, w64 (t9 + 1))
   else none
  else
   some list
def impl_freeTable (many : Int) : Option ((List Int)) :=
 if 0 ≤ many ∧ many ≤ many ∧ many ≤ lim then
  (impl_freeTable_L3 fuel (List.replicate (Int.toNat many) (0 : Int), ((List.replicate (Int.toNat many) (0 : Int)).length : Int), 0)).bind fun s1 =>
   some s1
 else none
def impl_argsAt_L3 : Nat → (Int × Int × (List Int) × Int) → Option ((List Int))
 | 0, _ => none
 | n + 1, (i, n_, args, j) =>
  if decide (j ≥ 0) then
   if n_ ≠ 0 then
    if inb j args then
     if n_ ≠ 0 then
      impl_argsAt_L3 n (w64 (Int.tdiv i n_), n_, stt args j (Int.tmod i n_), w64 (j - 1))
     else none
    else none
   else none
  else
   some args
def impl_argsAt (i : Int) (k : Int) (n_ : Int) : Option ((List Int)) :=
 if 0 ≤ k ∧ k ≤ k ∧ k ≤ lim then
  (impl_argsAt_L3 fuel (i, n_, List.replicate (Int.toNat k) (0 : Int), w64 (k - 1))).bind fun s1 =>
   some s1
 else none
def impl_newPolySearch_L17 : Nat → (Unit × Int × Int × (Int × (Int × (List (List ((List Int) × (List ByteArray)))))) × (Int × (List (List Int))) × (List ByteArray) × (List ByteArray) × Int × (List Int) × (List Int) × Int × Int × (List (Int × (List (List Int)))) × Int × Int × Int × Int × Int × Int) → Option (Int × Int × (Int × (Int × (List (List ((List Int) × (List ByteArray)))))) × (Int × (List (List Int))) × (List ByteArray) × (List ByteArray) × Int × (List Int) × (List Int) × Int × Int × (List (Int × (List (List Int)))) × Int × Int × Int × Int)
 | 0, _ => none
 | n + 1, (al60, t0, t2, t7, t9, t10, t11, t12, t13, t14, t15, t16, t28, t29, t30, t56, t57, t61, t62) =>
  if decide (t62 < t61) then
   if inb t62 t13 then
    if inb t16 t14 then
     if inb (gd t13 t62 0) t9.2 then
      if inb t16 (gd t9.2 (gd t13 t62 0) []) then
       if inb t16 t14 then
        impl_newPolySearch_L17 n ((), t0, t2, (t7.1, (t7.2.1, t7.2.2)), (t9.1, t9.2), t10, t11, t12, t13, stt t14 t16 (w64 ((w64 ((gd t14 t16 0) * t0)) + (gd (gd t9.2 (gd t13 t62 0) []) t16 0))), t15, t16, t28, t29, t30, t56, t57, t61, w64 (t62 + 1))
       else none
      else none
     else none
    else none
   else none
  else
   some (t0, t2, (t7.1, (t7.2.1, t7.2.2)), (t9.1, t9.2), t10, t11, t12, t13, t14, t15, t16, t28, t29, t30, t56, t57)
def impl_newPolySearch_L14 : Nat → (Int × Int × (Int × (Int × (List (List ((List Int) × (List ByteArray)))))) × (Int × (List (List Int))) × (List ByteArray) × (List ByteArray) × Int × (List Int) × (List Int) × Int × (List (Int × (List (List Int)))) × Int × Int × Int × Int) → Option (Int × Int × (Int × (Int × (List (List ((List Int) × (List ByteArray)))))) × (Int × (List (List Int))) × (List ByteArray) × (List ByteArray) × Int × (List Int) × Int × (List (Int × (List (List Int)))) × Int × Int)
 | 0, _ => none
 | n + 1, (t0, t2, t7, t9, t10, t11, t12, t13, t14, t15, t28, t29, t30, t56, t57) =>
  if decide (t57 < t56) then
   (impl_newPolySearch_L17 fuel ((), t0, t2, (t7.1, (t7.2.1, t7.2.2)), (t9.1, t9.2), t10, t11, t12, t13, t14, t15, t57, t28, t29, t30, t56, t57, (t13.length : Int), 0)).bind fun s5 =>
    if inb s5.2.2.2.2.2.2.2.2.2.2.1 s5.2.2.2.2.2.2.2.2.1 then
     impl_newPolySearch_L14 n (s5.1, s5.2.1, (s5.2.2.1.1, (s5.2.2.1.2.1, s5.2.2.1.2.2)), (s5.2.2.2.1.1, s5.2.2.2.1.2), s5.2.2.2.2.1, s5.2.2.2.2.2.1, s5.2.2.2.2.2.2.1, s5.2.2.2.2.2.2.2.1, s5.2.2.2.2.2.2.2.2.1, maxI s5.2.2.2.2.2.2.2.2.2.1 (gd s5.2.2.2.2.2.2.2.2.1 s5.2.2.2.2.2.2.2.2.2.2.1 0), s5.2.2.2.2.2.2.2.2.2.2.2.1, s5.2.2.2.2.2.2.2.2.2.2.2.2.1, s5.2.2.2.2.2.2.2.2.2.2.2.2.2.1, s5.2.2.2.2.2.2.2.2.2.2.2.2.2.2.1, w64 (s5.2.2.2.2.2.2.2.2.2.2.2.2.2.2.2 + 1))
    else none
  else
   some (t0, t2, (t7.1, (t7.2.1, t7.2.2)), (t9.1, t9.2), t10, t11, t12, t14, t15, t28, t29, t30)
def impl_newPolySearch_L8 : Nat → (Int × Int × (Int × (Int × (List (List ((List Int) × (List ByteArray)))))) × (Int × (List (List Int))) × (List ByteArray) × (List ByteArray) × Int × (List (Int × (List (List Int)))) × Int × Int) → Option (Int × Int × (Int × (Int × (List (List ((List Int) × (List ByteArray)))))) × (List (Int × (List (List Int)))) × Int × Int)
 | 0, _ => none
 | n + 1, (t0, t2, t7, t9, t10, t11, t12, t28, t29, t30) =>
  (impl_power (t9.2.length : Int) t2).bind fun r3 =>
   if decide (t12 < r3) then
    (impl_argsAt t12 t2 (t9.2.length : Int)).bind fun r4 =>
     if 0 ≤ t9.1 ∧ t9.1 ≤ t9.1 ∧ t9.1 ≤ lim then
      (impl_newPolySearch_L14 fuel (t0, t2, (t7.1, (t7.2.1, t7.2.2)), (t9.1, t9.2), t10, t11, t12, r4, List.replicate (Int.toNat t9.1) (0 : Int), 0, t28, t29, t30, ((List.replicate (Int.toNat t9.1) (0 : Int)).length : Int), 0)).bind fun s5 =>
       (impl_keyOf s5.2.2.2.2.2.2.2.1).bind fun r6 =>
        if !(mhas s5.2.2.2.2.2.1 r6) then
         if inb s5.2.2.2.2.2.2.2.2.1 s5.2.2.1.2.2 then
          if (gd s5.2.2.1.2.2 s5.2.2.2.2.2.2.2.2.1 []).length + [(s5.2.2.2.2.2.2.2.1, s5.2.2.2.2.1)].length ≤ lim then
           if inb s5.2.2.2.2.2.2.2.2.1 s5.2.2.1.2.2 then
            if s5.2.2.2.2.2.2.2.2.1 = s5.2.2.2.2.2.2.2.2.1 then
             impl_newPolySearch_L8 n (s5.1, s5.2.1, (s5.2.2.1.1, (s5.2.2.1.2.1, stt s5.2.2.1.2.2 s5.2.2.2.2.2.2.2.2.1 ((gd s5.2.2.1.2.2 s5.2.2.2.2.2.2.2.2.1 []) ++ [(s5.2.2.2.2.2.2.2.1, s5.2.2.2.2.1)]))), (s5.2.2.2.1.1, s5.2.2.2.1.2), s5.2.2.2.2.1, mput s5.2.2.2.2.2.1 r6, w64 (s5.2.2.2.2.2.2.1 + 1), s5.2.2.2.2.2.2.2.2.2.1, s5.2.2.2.2.2.2.2.2.2.2.1, s5.2.2.2.2.2.2.2.2.2.2.2)
            else none
           else none
          else none
         else none
        else
         impl_newPolySearch_L8 n (s5.1, s5.2.1, (s5.2.2.1.1, (s5.2.2.1.2.1, s5.2.2.1.2.2)), (s5.2.2.2.1.1, s5.2.2.2.1.2), s5.2.2.2.2.1, s5.2.2.2.2.2.1, w64 (s5.2.2.2.2.2.2.1 + 1), s5.2.2.2.2.2.2.2.2.2.1, s5.2.2.2.2.2.2.2.2.2.2.1, s5.2.2.2.2.2.2.2.2.2.2.2)
     else none
   else
    some (t0, t2, (t7.1, (t7.2.1, t7.2.2)), t28, t29, t30)
def impl_newPolySearch_L3 : Nat → (Int × Int × (Int × (Int × (List (List ((List Int) × (List ByteArray)))))) × (List (Int × (List (List Int)))) × Int × Int) → Option ((Int × (Int × (List (List ((List Int) × (List ByteArray)))))))
 | 0, _ => none
 | n + 1, (t0, t2, t7, t28, t29, t30) =>
  if decide (t30 < t29) then
   if inb t30 t28 then
    (impl_tupleSet ((gd t28 t30 (0, [])).1, (gd t28 t30 (0, [])).2)).bind fun r2 =>
     (impl_newPolySearch_L8 fuel (t0, t2, (t7.1, (t7.2.1, t7.2.2)), ((gd t28 t30 (0, [])).1, (gd t28 t30 (0, [])).2), r2, [], 0, t28, t29, t30)).bind fun s3 =>
      impl_newPolySearch_L3 n (s3.1, s3.2.1, (s3.2.2.1.1, (s3.2.2.1.2.1, s3.2.2.1.2.2)), s3.2.2.2.1, s3.2.2.2.2.1, w64 (s3.2.2.2.2.2 + 1))
   else none
  else
   some (t7.1, (t7.2.1, t7.2.2))
def impl_newPolySearch (t0 : Int) (t1 : List (Int × (List (List Int)))) (t2 : Int) : Option ((Bool × Int × Int × (List (List ((List Int) × (List ByteArray)))))) :=
 (impl_power t0 t2).bind fun r1 =>
  if 0 ≤ r1 ∧ r1 ≤ r1 ∧ r1 ≤ lim then
   (impl_newPolySearch_L3 fuel (t0, t2, (t0, (t2, List.replicate (Int.toNat r1) ([] : List ((List Int) × (List ByteArray))))), t1, (t1.length : Int), 0)).bind fun s2 =>
    some (true, (s2.1, (s2.2.1, s2.2.2)))
  else none
def impl_clone (list : List Int) : Option ((List Int)) :=
 if ([] : List Int).length + list.length ≤ lim then
  some ([] ++ list)
 else none
def impl_listPolys_c1 (table : List Int) (t1 : List (Int × (List Int))) (t2 : Int) : Option ((List (Int × (List Int))) × Int × Bool) :=
 (impl_clone table).bind fun r1 =>
  if t1.length + [(t2, r1)].length ≤ lim then
   some (t1 ++ [(t2, r1)], t2, decide (((t1 ++ [(t2, r1)]).length : Int) ≤ 300))
  else none
def impl_polySearch_fits_p_L2 : Nat → ((List Int) × (List ((List Int) × (List ByteArray))) × Int × Int) → Option ((Unit) ⊕ (Bool))
 | 0, _ => none
 | n + 1, (table, t15, t16, t17) =>
  if decide (t17 < t16) then
   if inb t17 t15 then
    (impl_compose ((gd t15 t17 ([], [])).1) table).bind fun r1 =>
     (impl_keyOf r1).bind fun r2 =>
      if !(mhas ((gd t15 t17 ([], [])).2) r2) then
       some (.inr false)
      else
       impl_polySearch_fits_p_L2 n (table, t15, t16, w64 (t17 + 1))
   else none
  else
   some (.inl ())
def impl_polySearch_fits_p (s : Bool × Int × Int × (List (List ((List Int) × (List ByteArray))))) (table : List Int) (at_ : Int) : Option (Bool) :=
 if s.1 = true then
  if inb at_ s.2.2.2 then
   (impl_polySearch_fits_p_L2 fuel (table, gd s.2.2.2 at_ [], ((gd s.2.2.2 at_ []).length : Int), 0)).bind fun s1 =>
    match s1 with
    | .inl s2 =>
     some true
    | .inr s3 =>
     some s3
  else none
 else none
def impl_polySearch_each_c1_impl_listPolys_c1_L4 (rec : (Int × (List Int) × ((List (Int × (List Int))) × Int) × (Bool × Int × Int × (List (List ((List Int) × (List ByteArray))))) × (List Int) × Unit) → Option ((List Int) × ((List (Int × (List Int))) × Int) × (Bool × Int × Int × (List (List ((List Int) × (List ByteArray))))) × (List Int) × Bool)) : Nat → (Int × (List Int) × ((List (Int × (List Int))) × Int) × (Bool × Int × Int × (List (List ((List Int) × (List ByteArray))))) × (List Int) × Unit × Int) → Option (((List Int) × ((List (Int × (List Int))) × Int) × (Bool × Int × Int × (List (List ((List Int) × (List ByteArray))))) × (List Int) × Unit) ⊕ ((List Int) × ((List (Int × (List Int))) × Int) × (Bool × Int × Int × (List (List ((List Int) × (List ByteArray))))) × (List Int) × Unit × Bool))
 | 0, _ => none
 | n + 1, (at_, t1, t2, t3, t4, t5, x) =>
  if t3.1 = true then
   if decide (x < t3.2.1) then
    if inb at_ t4 then
     if decide ((gd t4 at_ 0) ≥ 0) then
      if inb at_ t4 then
       if (gd t4 at_ 0) != x then
        impl_polySearch_each_c1_impl_listPolys_c1_L4 rec n (at_, t1, (t2.1, t2.2), t3, t4, (), w64 (x + 1))
       else
        if inb at_ t1 then
         (impl_polySearch_fits_p t3 (stt t1 at_ x) at_).bind fun r2 =>
          if r2 then
           (rec (w64 (at_ + 1), stt t1 at_ x, (t2.1, t2.2), t3, t4, ())).bind fun r3 =>
            if !r3.2.2.2.2 then
             some (.inr (r3.1, (r3.2.1.1, r3.2.1.2), r3.2.2.1, r3.2.2.2.1, (), false))
            else
             impl_polySearch_each_c1_impl_listPolys_c1_L4 rec n (at_, r3.1, (r3.2.1.1, r3.2.1.2), r3.2.2.1, r3.2.2.2.1, (), w64 (x + 1))
          else
           impl_polySearch_each_c1_impl_listPolys_c1_L4 rec n (at_, stt t1 at_ x, (t2.1, t2.2), t3, t4, (), w64 (x + 1))
        else none
      else none
     else
      if inb at_ t1 then
       (impl_polySearch_fits_p t3 (stt t1 at_ x) at_).bind fun r4 =>
        if r4 then
         (rec (w64 (at_ + 1), stt t1 at_ x, (t2.1, t2.2), t3, t4, ())).bind fun r5 =>
          if !r5.2.2.2.2 then
           some (.inr (r5.1, (r5.2.1.1, r5.2.1.2), r5.2.2.1, r5.2.2.2.1, (), false))
          else
           impl_polySearch_each_c1_impl_listPolys_c1_L4 rec n (at_, r5.1, (r5.2.1.1, r5.2.1.2), r5.2.2.1, r5.2.2.2.1, (), w64 (x + 1))
        else
         impl_polySearch_each_c1_impl_listPolys_c1_L4 rec n (at_, stt t1 at_ x, (t2.1, t2.2), t3, t4, (), w64 (x + 1))
      else none
    else none
   else
    some (.inl (t1, (t2.1, t2.2), t3, t4, ()))
  else none
def impl_polySearch_each_c1_impl_listPolys_c1_body (rec : (Int × (List Int) × ((List (Int × (List Int))) × Int) × (Bool × Int × Int × (List (List ((List Int) × (List ByteArray))))) × (List Int) × Unit) → Option ((List Int) × ((List (Int × (List Int))) × Int) × (Bool × Int × Int × (List (List ((List Int) × (List ByteArray))))) × (List Int) × Bool)) (at_ : Int) (t1 : List Int) (t2 : (List (Int × (List Int))) × Int) (t3 : Bool × Int × Int × (List (List ((List Int) × (List ByteArray))))) (t4 : List Int) (t5 : Unit) : Option ((List Int) × ((List (Int × (List Int))) × Int) × (Bool × Int × Int × (List (List ((List Int) × (List ByteArray))))) × (List Int) × Bool) :=
 if at_ == (t1.length : Int) then
  (impl_listPolys_c1 t1 t2.1 t2.2).bind fun r1 =>
   some (t1, (r1.1, r1.2.1), t3, t4, r1.2.2)
 else
  (impl_polySearch_each_c1_impl_listPolys_c1_L4 rec fuel (at_, t1, (t2.1, t2.2), t3, t4, (), 0)).bind fun s2 =>
   match s2 with
   | .inl s3 =>
    some (s3.1, (s3.2.1.1, s3.2.1.2), s3.2.2.1, s3.2.2.2.1, true)
   | .inr s4 =>
    some (s4.1, (s4.2.1.1, s4.2.1.2), s4.2.2.1, s4.2.2.2.1, s4.2.2.2.2.2)
def impl_polySearch_each_c1_impl_listPolys_c1 : Nat → (Int × (List Int) × ((List (Int × (List Int))) × Int) × (Bool × Int × Int × (List (List ((List Int) × (List ByteArray))))) × (List Int) × Unit) → Option ((List Int) × ((List (Int × (List Int))) × Int) × (Bool × Int × Int × (List (List ((List Int) × (List ByteArray))))) × (List Int) × Bool)
 | 0, _ => none
 | d + 1, x => impl_polySearch_each_c1_impl_listPolys_c1_body (impl_polySearch_each_c1_impl_listPolys_c1 d) x.1 x.2.1 x.2.2.1 x.2.2.2.1 x.2.2.2.2.1 x.2.2.2.2.2
def impl_polySearch_each_impl_listPolys_c1 (s : Bool × Int × Int × (List (List ((List Int) × (List ByteArray))))) (given : List Int) (found : (List (Int × (List Int))) × Int) : Option (((List (Int × (List Int))) × Int)) :=
 if 0 ≤ (given.length : Int) ∧ (given.length : Int) ≤ (given.length : Int) ∧ (given.length : Int) ≤ lim then
  (impl_polySearch_each_c1_impl_listPolys_c1 fuel (0, List.replicate (Int.toNat (given.length : Int)) (0 : Int), (found.1, found.2), s, given, ())).bind fun r1 =>
   some (r1.2.1.1, r1.2.1.2)
 else none
def impl_listPolys (n_ : Int) (rels : List (Int × (List (List Int)))) (k : Int) (given : List Int) : Option ((List (Int × (List Int))) × Bool) :=
 (impl_newPolySearch n_ rels k).bind fun r1 =>
  (impl_polySearch_each_impl_listPolys_c1 r1 given ([], k)).bind fun r2 =>
   if decide ((r2.1.length : Int) > 300) then
    some ([], false)
   else
    some (r2.1, true)
def spec_l14Idempotent_L7 : Nat → (Int × Int × (List Int) × Int × Int × Int) → Option (Int × Int × (List Int) × Int × Int)
 | 0, _ => none
 | n + 1, (n_, k, out, x, at_, i) =>
  if decide (i < k) then
   spec_l14Idempotent_L7 n (n_, k, out, x, w64 ((w64 (at_ * n_)) + x), w64 (i + 1))
  else
   some (n_, k, out, x, at_)
def spec_l14Idempotent_L3 : Nat → (Int × Int × (List Int) × Int) → Option ((List Int))
 | 0, _ => none
 | n + 1, (n_, k, out, x) =>
  if decide (x < n_) then
   (spec_l14Idempotent_L7 fuel (n_, k, out, x, 0, 0)).bind fun s3 =>
    if inb s3.2.2.2.2 s3.2.2.1 then
     spec_l14Idempotent_L3 n (s3.1, s3.2.1, stt s3.2.2.1 s3.2.2.2.2 s3.2.2.2.1, w64 (s3.2.2.2.1 + 1))
    else none
  else
   some out
def spec_l14Idempotent (n_ : Int) (k : Int) : Option ((List Int)) :=
 (spec_l2Pow n_ k).bind fun r1 =>
  (spec_l14Free r1).bind fun r2 =>
   (spec_l14Idempotent_L3 fuel (n_, k, r2, 0)).bind fun s3 =>
    some s3
def spec_IdempotentPolymorphisms (n_ : Int) (rels : List (Int × (List (List Int)))) (k : Int) : Option ((List (Int × (List Int))) × Bool) :=
 (spec_l14Small n_ rels k).bind fun r1 =>
  if !r1 then
   some ([], false)
  else
   (spec_l14Idempotent n_ k).bind fun r2 =>
    (spec_l14All n_ rels k r2 300).bind fun r3 =>
     if decide (r3.2.1 > 300) then
      some ([], false)
     else
      (spec_l12Ops k r3.1).bind fun r4 =>
       some (r4, true)
def impl_idempotentTable_L7 : Nat → (Int × Int × (List Int) × Int × Int × Int) → Option (Int × Int × (List Int) × Int × Int)
 | 0, _ => none
 | n + 1, (n_, k, list, x, at_, i) =>
  if decide (i < k) then
   impl_idempotentTable_L7 n (n_, k, list, x, w64 ((w64 (at_ * n_)) + x), w64 (i + 1))
  else
   some (n_, k, list, x, at_)
def impl_idempotentTable_L3 : Nat → (Int × Int × (List Int) × Int) → Option ((List Int))
 | 0, _ => none
 | n + 1, (n_, k, list, x) =>
  if decide (x < n_) then
   (impl_idempotentTable_L7 fuel (n_, k, list, x, 0, 0)).bind fun s3 =>
    if inb s3.2.2.2.2 s3.2.2.1 then
     impl_idempotentTable_L3 n (s3.1, s3.2.1, stt s3.2.2.1 s3.2.2.2.2 s3.2.2.2.1, w64 (s3.2.2.2.1 + 1))
    else none
  else
   some list
def impl_idempotentTable (n_ : Int) (k : Int) : Option ((List Int)) :=
 (impl_power n_ k).bind fun r1 =>
  (impl_freeTable r1).bind fun r2 =>
   (impl_idempotentTable_L3 fuel (n_, k, r2, 0)).bind fun s3 =>
    some s3
def impl_IdempotentPolymorphisms (n_ : Int) (rels : List (Int × (List (List Int)))) (k : Int) : Option ((List (Int × (List Int))) × Bool) :=
 (impl_canAsk n_ rels k).bind fun r1 =>
  if !r1 then
   some ([], false)
  else
   (impl_isPolyRange n_ k).bind fun r2 =>
    if !r2 then
     some ([], false)
    else
     (impl_idempotentTable n_ k).bind fun r3 =>
      (impl_listPolys n_ rels k r3).bind fun r4 =>
       some (r4.1, r4.2)
def spec_l1Put_L2 : Nat → ((List Int) × Int × Int) → Option ((List Int) × Int × Int)
 | 0, _ => none
 | n + 1, (l, n_, k) =>
  if decide (k < (l.length : Int)) then
   if inb k l then
    if decide ((gd l k 0) < n_) then
     spec_l1Put_L2 n (l, n_, w64 (k + 1))
    else
     some (l, n_, k)
   else none
  else
   some (l, n_, k)
def spec_l1Put (l : List Int) (n_ : Int) : Option ((List Int)) :=
 (spec_l1Put_L2 fuel (l, n_, 0)).bind fun s1 =>
  if decide (s1.2.2 < (s1.1.length : Int)) then
   if inb s1.2.2 s1.1 then
    if (gd s1.1 s1.2.2 0) == s1.2.1 then
     some s1.1
    else
     if (0 : Int) ≤ 0 ∧ 0 ≤ s1.2.2 ∧ s1.2.2 ≤ (s1.1.length : Int) then
      if ([] : List Int).length + ((s1.1.take (Int.toNat s1.2.2)).drop (Int.toNat 0)).length ≤ lim then
       if ([] ++ ((s1.1.take (Int.toNat s1.2.2)).drop (Int.toNat 0))).length + [s1.2.1].length ≤ lim then
        if (0 : Int) ≤ s1.2.2 ∧ s1.2.2 ≤ (s1.1.length : Int) ∧ (s1.1.length : Int) ≤ (s1.1.length : Int) then
         if (([] ++ ((s1.1.take (Int.toNat s1.2.2)).drop (Int.toNat 0))) ++ [s1.2.1]).length + ((s1.1.take (Int.toNat (s1.1.length : Int))).drop (Int.toNat s1.2.2)).length ≤ lim then
          some ((([] ++ ((s1.1.take (Int.toNat s1.2.2)).drop (Int.toNat 0))) ++ [s1.2.1]) ++ ((s1.1.take (Int.toNat (s1.1.length : Int))).drop (Int.toNat s1.2.2)))
         else none
        else none
       else none
      else none
     else none
   else none
  else
   if (0 : Int) ≤ 0 ∧ 0 ≤ s1.2.2 ∧ s1.2.2 ≤ (s1.1.length : Int) then
    if ([] : List Int).length + ((s1.1.take (Int.toNat s1.2.2)).drop (Int.toNat 0)).length ≤ lim then
     if ([] ++ ((s1.1.take (Int.toNat s1.2.2)).drop (Int.toNat 0))).length + [s1.2.1].length ≤ lim then
      if (0 : Int) ≤ s1.2.2 ∧ s1.2.2 ≤ (s1.1.length : Int) ∧ (s1.1.length : Int) ≤ (s1.1.length : Int) then
       if (([] ++ ((s1.1.take (Int.toNat s1.2.2)).drop (Int.toNat 0))) ++ [s1.2.1]).length + ((s1.1.take (Int.toNat (s1.1.length : Int))).drop (Int.toNat s1.2.2)).length ≤ lim then
        some ((([] ++ ((s1.1.take (Int.toNat s1.2.2)).drop (Int.toNat 0))) ++ [s1.2.1]) ++ ((s1.1.take (Int.toNat (s1.1.length : Int))).drop (Int.toNat s1.2.2)))
       else none
      else none
     else none
    else none
   else none
def spec_l14Values_L3 : Nat → ((List Int) × (List Int) × Int) → Option ((List Int))
 | 0, _ => none
 | n + 1, (table, out, i) =>
  if decide (i < (table.length : Int)) then
   if inb i table then
    (spec_l1Put out (gd table i 0)).bind fun r1 =>
     spec_l14Values_L3 n (table, r1, w64 (i + 1))
   else none
  else
   some out
def spec_l14Values (table : List Int) : Option ((List Int)) :=
 (spec_l14Values_L3 fuel (table, [], 0)).bind fun s1 =>
  some s1
def impl_marks_L3 : Nat → ((List Bool) × (List Int) × Int × Int) → Option ((List Bool))
 | 0, _ => none
 | n + 1, (have_, t10, t11, t12) =>
  if decide (t12 < t11) then
   if inb t12 t10 then
    if inb (gd t10 t12 0) have_ then
     impl_marks_L3 n (stt have_ (gd t10 t12 0) true, t10, t11, w64 (t12 + 1))
    else none
   else none
  else
   some have_
def impl_marks (list : List Int) (n_ : Int) : Option ((List Bool)) :=
 if 0 ≤ n_ ∧ n_ ≤ n_ ∧ n_ ≤ lim then
  (impl_marks_L3 fuel (List.replicate (Int.toNat n_) (false : Bool), list, (list.length : Int), 0)).bind fun s1 =>
   some s1
 else none
def impl_imagesOf (f : List Int) (n_ : Int) : Option ((List Int)) :=
 (impl_marks f n_).bind fun r1 =>
  (impl_marked r1).bind fun r2 =>
   some r2
def impl_CoreMap_c1 (table : List Int) (t1 : Int) (t2 : Int) (t3 : Int × (List Int)) : Option (Int × Int × (Int × (List Int)) × Bool) :=
 (impl_imagesOf table t1).bind fun r1 =>
  if decide ((r1.length : Int) < t2) then
   (impl_clone table).bind fun r2 =>
    some (t1, (r1.length : Int), (1, r2), true)
  else
   some (t1, t2, (t3.1, t3.2), true)
def impl_polySearch_each_c1_impl_CoreMap_c1_L4 (rec : (Int × (List Int) × (Int × (Int × (Int × (List Int)))) × (Bool × Int × Int × (List (List ((List Int) × (List ByteArray))))) × (List Int) × Unit) → Option ((List Int) × (Int × (Int × (Int × (List Int)))) × (Bool × Int × Int × (List (List ((List Int) × (List ByteArray))))) × (List Int) × Bool)) : Nat → (Int × (List Int) × (Int × (Int × (Int × (List Int)))) × (Bool × Int × Int × (List (List ((List Int) × (List ByteArray))))) × (List Int) × Unit × Int) → Option (((List Int) × (Int × (Int × (Int × (List Int)))) × (Bool × Int × Int × (List (List ((List Int) × (List ByteArray))))) × (List Int) × Unit) ⊕ ((List Int) × (Int × (Int × (Int × (List Int)))) × (Bool × Int × Int × (List (List ((List Int) × (List ByteArray))))) × (List Int) × Unit × Bool))
 | 0, _ => none
 | n + 1, (at_, t1, t2, t3, t4, t5, x) =>
  if t3.1 = true then
   if decide (x < t3.2.1) then
    if inb at_ t4 then
     if decide ((gd t4 at_ 0) ≥ 0) then
      if inb at_ t4 then
       if (gd t4 at_ 0) != x then
        impl_polySearch_each_c1_impl_CoreMap_c1_L4 rec n (at_, t1, (t2.1, (t2.2.1, (t2.2.2.1, t2.2.2.2))), t3, t4, (), w64 (x + 1))
       else
        if inb at_ t1 then
         (impl_polySearch_fits_p t3 (stt t1 at_ x) at_).bind fun r2 =>
          if r2 then
           (rec (w64 (at_ + 1), stt t1 at_ x, (t2.1, (t2.2.1, (t2.2.2.1, t2.2.2.2))), t3, t4, ())).bind fun r3 =>
            if !r3.2.2.2.2 then
             some (.inr (r3.1, (r3.2.1.1, (r3.2.1.2.1, (r3.2.1.2.2.1, r3.2.1.2.2.2))), r3.2.2.1, r3.2.2.2.1, (), false))
            else
             impl_polySearch_each_c1_impl_CoreMap_c1_L4 rec n (at_, r3.1, (r3.2.1.1, (r3.2.1.2.1, (r3.2.1.2.2.1, r3.2.1.2.2.2))), r3.2.2.1, r3.2.2.2.1, (), w64 (x + 1))
          else
           impl_polySearch_each_c1_impl_CoreMap_c1_L4 rec n (at_, stt t1 at_ x, (t2.1, (t2.2.1, (t2.2.2.1, t2.2.2.2))), t3, t4, (), w64 (x + 1))
        else none
      else none
     else
      if inb at_ t1 then
       (impl_polySearch_fits_p t3 (stt t1 at_ x) at_).bind fun r4 =>
        if r4 then
         (rec (w64 (at_ + 1), stt t1 at_ x, (t2.1, (t2.2.1, (t2.2.2.1, t2.2.2.2))), t3, t4, ())).bind fun r5 =>
          if !r5.2.2.2.2 then
           some (.inr (r5.1, (r5.2.1.1, (r5.2.1.2.1, (r5.2.1.2.2.1, r5.2.1.2.2.2))), r5.2.2.1, r5.2.2.2.1, (), false))
          else
           impl_polySearch_each_c1_impl_CoreMap_c1_L4 rec n (at_, r5.1, (r5.2.1.1, (r5.2.1.2.1, (r5.2.1.2.2.1, r5.2.1.2.2.2))), r5.2.2.1, r5.2.2.2.1, (), w64 (x + 1))
        else
         impl_polySearch_each_c1_impl_CoreMap_c1_L4 rec n (at_, stt t1 at_ x, (t2.1, (t2.2.1, (t2.2.2.1, t2.2.2.2))), t3, t4, (), w64 (x + 1))
      else none
    else none
   else
    some (.inl (t1, (t2.1, (t2.2.1, (t2.2.2.1, t2.2.2.2))), t3, t4, ()))
  else none
def impl_polySearch_each_c1_impl_CoreMap_c1_body (rec : (Int × (List Int) × (Int × (Int × (Int × (List Int)))) × (Bool × Int × Int × (List (List ((List Int) × (List ByteArray))))) × (List Int) × Unit) → Option ((List Int) × (Int × (Int × (Int × (List Int)))) × (Bool × Int × Int × (List (List ((List Int) × (List ByteArray))))) × (List Int) × Bool)) (at_ : Int) (t1 : List Int) (t2 : Int × (Int × (Int × (List Int)))) (t3 : Bool × Int × Int × (List (List ((List Int) × (List ByteArray))))) (t4 : List Int) (t5 : Unit) : Option ((List Int) × (Int × (Int × (Int × (List Int)))) × (Bool × Int × Int × (List (List ((List Int) × (List ByteArray))))) × (List Int) × Bool) :=
 if at_ == (t1.length : Int) then
  (impl_CoreMap_c1 t1 t2.1 t2.2.1 (t2.2.2.1, t2.2.2.2)).bind fun r1 =>
   some (t1, (r1.1, (r1.2.1, (r1.2.2.1.1, r1.2.2.1.2))), t3, t4, r1.2.2.2)
 else
  (impl_polySearch_each_c1_impl_CoreMap_c1_L4 rec fuel (at_, t1, (t2.1, (t2.2.1, (t2.2.2.1, t2.2.2.2))), t3, t4, (), 0)).bind fun s2 =>
   match s2 with
   | .inl s3 =>
    some (s3.1, (s3.2.1.1, (s3.2.1.2.1, (s3.2.1.2.2.1, s3.2.1.2.2.2))), s3.2.2.1, s3.2.2.2.1, true)
   | .inr s4 =>
    some (s4.1, (s4.2.1.1, (s4.2.1.2.1, (s4.2.1.2.2.1, s4.2.1.2.2.2))), s4.2.2.1, s4.2.2.2.1, s4.2.2.2.2.2)
def impl_polySearch_each_c1_impl_CoreMap_c1 : Nat → (Int × (List Int) × (Int × (Int × (Int × (List Int)))) × (Bool × Int × Int × (List (List ((List Int) × (List ByteArray))))) × (List Int) × Unit) → Option ((List Int) × (Int × (Int × (Int × (List Int)))) × (Bool × Int × Int × (List (List ((List Int) × (List ByteArray))))) × (List Int) × Bool)
 | 0, _ => none
 | d + 1, x => impl_polySearch_each_c1_impl_CoreMap_c1_body (impl_polySearch_each_c1_impl_CoreMap_c1 d) x.1 x.2.1 x.2.2.1 x.2.2.2.1 x.2.2.2.2.1 x.2.2.2.2.2
def impl_polySearch_each_impl_CoreMap_c1 (s : Bool × Int × Int × (List (List ((List Int) × (List ByteArray))))) (given : List Int) (found : Int × (Int × (Int × (List Int)))) : Option ((Int × (Int × (Int × (List Int))))) :=
 if 0 ≤ (given.length : Int) ∧ (given.length : Int) ≤ (given.length : Int) ∧ (given.length : Int) ≤ lim then
  (impl_polySearch_each_c1_impl_CoreMap_c1 fuel (0, List.replicate (Int.toNat (given.length : Int)) (0 : Int), (found.1, (found.2.1, (found.2.2.1, found.2.2.2))), s, given, ())).bind fun r1 =>
   some (r1.2.1.1, (r1.2.1.2.1, (r1.2.1.2.2.1, r1.2.1.2.2.2)))
 else none
def impl_CoreMap (n_ : Int) (rels : List (Int × (List (List Int)))) : Option ((Int × (List Int)) × Bool) :=
 (impl_canAsk n_ rels 1).bind fun r1 =>
  if !r1 then
   some ((0, []), false)
  else
   (impl_newPolySearch n_ rels 1).bind fun r2 =>
    (impl_freeTable n_).bind fun r3 =>
     (impl_polySearch_each_impl_CoreMap_c1 r2 r3 (n_, (w64 (n_ + 1), (0, [])))).bind fun r4 =>
      some ((r4.2.2.1, r4.2.2.2), true)
def spec_l5Place_L2 : Nat → ((List Int) × Int × Int) → Option ((Unit) ⊕ (Int))
 | 0, _ => none
 | n + 1, (list, x, i) =>
  if decide (i < (list.length : Int)) then
   if inb i list then
    if (gd list i 0) == x then
     some (.inr i)
    else
     spec_l5Place_L2 n (list, x, w64 (i + 1))
   else none
  else
   some (.inl ())
def spec_l5Place (list : List Int) (x : Int) : Option (Int) :=
 (spec_l5Place_L2 fuel (list, x, 0)).bind fun s1 =>
  match s1 with
  | .inl s2 =>
   some (-1)
  | .inr s3 =>
   some s3
def impl_CoreTemplate_L7 : Nat → (Int × (List (Int × (List (List Int)))) × (List Int) × (List Int) × Int × Int) → Option (Int × (List (Int × (List (List Int)))) × (List Int) × (List Int))
 | 0, _ => none
 | n + 1, (t0, t1, t9, t10, t37, t38) =>
  if decide (t38 < t37) then
   if inb t38 t10 then
    impl_CoreTemplate_L7 n (t0, t1, t9, stt t10 t38 (-1), t37, w64 (t38 + 1))
   else none
  else
   some (t0, t1, t9, t10)
def impl_CoreTemplate_L12 : Nat → (Unit × Int × (List (Int × (List (List Int)))) × (List Int) × (List Int) × Int × Int) → Option (Int × (List (Int × (List (List Int)))) × (List Int) × (List Int))
 | 0, _ => none
 | n + 1, (al45, t0, t1, t9, t10, t46, t47) =>
  if decide (t47 < t46) then
   if inb t47 t9 then
    if inb (gd t9 t47 0) t10 then
     impl_CoreTemplate_L12 n ((), t0, t1, t9, stt t10 (gd t9 t47 0) t47, t46, w64 (t47 + 1))
    else none
   else none
  else
   some (t0, t1, t9, t10)
def impl_CoreTemplate_L22 : Nat → (Int × (List Int) × (List Int) × (List (Int × (List (List Int)))) × (Int × (List (List Int))) × (List (Int × (List (List Int)))) × Int × Int × (List (List Int)) × Int × Int) → Option (Int × (List Int) × (List Int) × (List (Int × (List (List Int)))) × (Int × (List (List Int))) × (List (Int × (List (List Int)))) × Int × Int)
 | 0, _ => none
 | n + 1, (t0, t9, t10, t14, t17, t58, t59, t60, t68, t69, t70) =>
  if decide (t70 < t69) then
   if inb t70 t68 then
    (impl_compose (gd t68 t70 []) t10).bind fun r5 =>
     (impl_inSize r5 t0).bind fun r6 =>
      if r6 then
       if t17.2.length + [r5].length ≤ lim then
        impl_CoreTemplate_L22 n (t0, t9, t10, t14, (t17.1, t17.2 ++ [r5]), t58, t59, t60, t68, t69, w64 (t70 + 1))
       else none
      else
       impl_CoreTemplate_L22 n (t0, t9, t10, t14, (t17.1, t17.2), t58, t59, t60, t68, t69, w64 (t70 + 1))
   else none
  else
   some (t0, t9, t10, t14, (t17.1, t17.2), t58, t59, t60)
def impl_CoreTemplate_L18 : Nat → (Int × (List Int) × (List Int) × (List (Int × (List (List Int)))) × (List (Int × (List (List Int)))) × Int × Int) → Option ((List Int) × (List (Int × (List (List Int)))))
 | 0, _ => none
 | n + 1, (t0, t9, t10, t14, t58, t59, t60) =>
  if decide (t60 < t59) then
   if inb t60 t58 then
    (impl_CoreTemplate_L22 fuel (t0, t9, t10, t14, ((gd t58 t60 (0, [])).1, []), t58, t59, t60, (gd t58 t60 (0, [])).2, (((gd t58 t60 (0, [])).2).length : Int), 0)).bind fun s5 =>
     if s5.2.2.2.1.length + [(s5.2.2.2.2.1.1, s5.2.2.2.2.1.2)].length ≤ lim then
      impl_CoreTemplate_L18 n (s5.1, s5.2.1, s5.2.2.1, s5.2.2.2.1 ++ [(s5.2.2.2.2.1.1, s5.2.2.2.2.1.2)], s5.2.2.2.2.2.1, s5.2.2.2.2.2.2.1, w64 (s5.2.2.2.2.2.2.2 + 1))
     else none
   else none
  else
   some (t9, t14)
def impl_CoreTemplate (t0 : Int) (t1 : List (Int × (List (List Int)))) : Option (Int × (List (Int × (List (List Int)))) × Bool) :=
 (impl_CoreMap t0 t1).bind fun r1 =>
  if !r1.2 then
   some (0, [], false)
  else
   (impl_imagesOf r1.1.2 t0).bind fun r2 =>
    if 0 ≤ t0 ∧ t0 ≤ t0 ∧ t0 ≤ lim then
     (impl_CoreTemplate_L7 fuel (t0, t1, r2, List.replicate (Int.toNat t0) (0 : Int), ((List.replicate (Int.toNat t0) (0 : Int)).length : Int), 0)).bind fun s3 =>
      (impl_CoreTemplate_L12 fuel ((), s3.1, s3.2.1, s3.2.2.1, s3.2.2.2, (s3.2.2.1.length : Int), 0)).bind fun s4 =>
       (impl_CoreTemplate_L18 fuel (s4.1, s4.2.2.1, s4.2.2.2, [], s4.2.1, (s4.2.1.length : Int), 0)).bind fun s5 =>
        some ((s5.1.length : Int), s5.2, true)
    else none
end T
open Go Go.Va
namespace T
theorem tdivN {a b : Nat} (ha : a < 4611686018427387904) : w64 (Int.tdiv (a : Int) (b : Int)) = ((a / b : Nat) : Int) := by
 rw [Int.tdiv_eq_ediv_of_nonneg (by omega), ← Int.natCast_ediv]
 have := Nat.div_le_self a b
 generalize a / b = q at this
 exact w64_id (by omega) (by omega)
theorem tmodN {a b : Nat} : Int.tmod (a : Int) (b : Int) = ((a % b : Nat) : Int) := by
 rw [Int.tmod_eq_emod_of_nonneg (by omega), ← Int.natCast_emod]
section
variable {n : Nat}
end
end T
open Go Go.Va
namespace T
abbrev RelT := Int × List (List Int)
structure ROk (n m : Nat) (r : RelT) : Prop where
 ar : r.1 = (m : Int)
 hm : 1 ≤ m ∧ m ≤ 3
 tl : ∀ t ∈ r.2, t.length = m
 tv : ∀ t ∈ r.2, ∀ x ∈ t, 0 ≤ x ∧ x < (n : Int)
 many : r.2.length ≤ 64
 inc : incB r.2 = true
theorem rok_of {n : Nat} {r : RelT} (hn : 1 ≤ n ∧ n ≤ 4) (h : relB (n : Int) r = true) : ROk n r.1.toNat r := by
 unfold relB at h
 simp only [Bool.and_eq_true, decide_eq_true_eq, List.all_eq_true] at h
 obtain ⟨⟨h1, h2⟩, h3⟩ := h
 refine ⟨by omega, by omega, fun t ht => by have := (h2 t ht).1; omega, fun t ht x hx => ?_, ?_, h3⟩
 ·obtain ⟨j, hj, rfl⟩ := List.mem_iff_getElem.1 hx
  exact belowB_get (h2 t ht).2 j hj
 ·rcases inc_count (n := (n : Int)) (k := r.1.toNat) h3 fun t ht => ⟨by have := (h2 t ht).1; omega, (h2 t ht).2⟩ with h6 | h6
  ·have h7 : ((n : Int)) ^ r.1.toNat = ((n ^ r.1.toNat : Nat) : Int) := by push_cast; rfl
   have h8 := pow_le3 hn.2 (show r.1.toNat ≤ 3 by omega)
   omega
  ·rw [h6]; simp
theorem pow64_L2 {b : Nat} (hb : b ≤ 64) : ∀ (m k j : Nat), j + k ≤ 3 → k < m → spec_l2Pow_L2 m ((b : Int), (k : Int), ((b ^ j : Nat) : Int)) = some (((b ^ (j + k) : Nat) : Int)) := by
 intro m
 induction m with
 | zero => intro k j _ h; omega
 | succ m ih =>
  intro k j hj hk
  simp only [spec_l2Pow_L2]
  cases k with
  | zero => simp
  | succ k =>
   have e : w64 (((k + 1 : Nat) : Int) - 1) = (k : Int) := by rw [w64_id (by omega) (by omega)]; omega
   rw [e, pow_step hb (by omega), if_pos (by simp), ih k (j + 1) (by omega) (by omega)]
   congr 3; omega
theorem spec_pow64 {b k : Nat} (hb : b ≤ 64) (hk : k ≤ 3) : spec_l2Pow (b : Int) (k : Int) = some (((b ^ k : Nat) : Int)) := by
 unfold spec_l2Pow
 have := pow64_L2 hb fuel k 0 (by omega) (by unfold fuel; omega)
 have this : spec_l2Pow_L2 fuel ((b : Int), (k : Int), 1) = _ := this
 rw [this]; simp
theorem cI_set {l : List Nat} {s : List Nat} {x y : Nat} : (cI (l ++ x :: s)).set l.length (y : Int) = cI (l ++ y :: s) := by
 unfold cI
 rw [List.map_append, List.map_append, List.map_cons, List.map_cons, List.set_append_right _ _ (by simp)]
 simp
theorem args_L3 {b : Nat} (hb : 0 < b) : ∀ (j i f : Nat) (s : List Nat), j < f → i < 4611686018427387904 → j ≤ 1000 →
    impl_argsAt_L3 f ((i : Int), (b : Int), cI (List.replicate j 0 ++ s), (j : Int) - 1) = some (cI (dg b j i ++ s)) := by
  intro j
  induction j with
  | zero =>
    intro i f s hf hi hj
    obtain ⟨f, rfl⟩ : ∃ z, f = z + 1 := ⟨f - 1, by omega⟩
    simp only [impl_argsAt_L3]
    rw [if_neg (by simp)]; rfl
  | succ j ih =>
    intro i f s hf hi hj
    obtain ⟨f, rfl⟩ : ∃ z, f = z + 1 := ⟨f - 1, by omega⟩
    have e1 : ((j + 1 : Nat) : Int) - 1 = (j : Int) := by omega
    have hz : List.replicate (j + 1) 0 ++ s = List.replicate j 0 ++ 0 :: s := by rw [List.replicate_succ']; simp
    have hlen : j < (cI (List.replicate j 0 ++ 0 :: s)).length := by rw [cI_len]; simp
    have hset := cI_set (l := List.replicate j 0) (s := s) (x := 0) (y := i % b)
    rw [List.length_replicate] at hset
    have w2 : w64 ((j : Int) - 1) = (j : Int) - 1 := w64_id (by omega) (by omega)
    have hle := Nat.div_le_self i b
    rw [e1, hz]
    simp only [impl_argsAt_L3, tdivN hi, tmodN, inb_nat, hlen, stt_nat, hset, w2]
    rw [if_pos (by simp), if_pos (by omega), if_pos trivial, if_pos (by omega), ih (i / b) f _ (by omega) (by omega) (by omega)]
    simp [dg]
theorem impl_argsAt_ok {b k i : Nat} (hb : 0 < b) (hk : k ≤ 1000) (hi : i < 4611686018427387904) : impl_argsAt (i : Int) (k : Int) (b : Int) = some (cI (dg b k i)) := by
 have h := args_L3 hb k i fuel [] (by unfold fuel; omega) hi hk
 have e : cI (List.replicate k 0 ++ []) = List.replicate (Int.toNat (k : Int)) (0 : Int) := by unfold cI; simp
 rw [e, List.append_nil] at h
 unfold impl_argsAt
 rw [w64_id (x := (k : Int) - 1) (by omega) (by omega), h, if_pos (by unfold lim; omega)]; rfl
theorem l2Args_L3 {b : Nat} (hb : 0 < b) : ∀ (j i f : Nat) (s : List Nat), j < f → i < 4611686018427387904 → j ≤ 1000 →
    spec_l2Args_L3 f ((b : Int), (i : Int), cI (List.replicate j 0 ++ s), (j : Int) - 1) = some (cI (dg b j i ++ s)) := by
  intro j
  induction j with
  | zero =>
    intro i f s hf hi hj
    obtain ⟨f, rfl⟩ : ∃ z, f = z + 1 := ⟨f - 1, by omega⟩
    simp only [spec_l2Args_L3]
    rw [if_neg (by simp)]; rfl
  | succ j ih =>
    intro i f s hf hi hj
    obtain ⟨f, rfl⟩ : ∃ z, f = z + 1 := ⟨f - 1, by omega⟩
    have e1 : ((j + 1 : Nat) : Int) - 1 = (j : Int) := by omega
    have hz : List.replicate (j + 1) 0 ++ s = List.replicate j 0 ++ 0 :: s := by rw [List.replicate_succ']; simp
    have hlen : j < (cI (List.replicate j 0 ++ 0 :: s)).length := by rw [cI_len]; simp
    have hset := cI_set (l := List.replicate j 0) (s := s) (x := 0) (y := i % b)
    rw [List.length_replicate] at hset
    have w2 : w64 ((j : Int) - 1) = (j : Int) - 1 := w64_id (by omega) (by omega)
    have hle := Nat.div_le_self i b
    rw [e1, hz]
    simp only [spec_l2Args_L3, tdivN hi, tmodN, inb_nat, hlen, stt_nat, hset, w2]
    rw [if_pos (by simp), if_pos (by omega), if_pos trivial, if_pos (by omega), ih (i / b) f _ (by omega) (by omega) (by omega)]
    simp [dg]
theorem spec_l2Args_ok {b k i : Nat} (hb : 0 < b) (hk : k ≤ 1000) (hi : i < 4611686018427387904) : spec_l2Args (b : Int) (k : Int) (i : Int) = some (cI (dg b k i)) := by
 have h := l2Args_L3 hb k i fuel [] (by unfold fuel; omega) hi hk
 have e : cI (List.replicate k 0 ++ []) = List.replicate (Int.toNat (k : Int)) (0 : Int) := by unfold cI; simp
 rw [e, List.append_nil] at h
 unfold spec_l2Args
 rw [w64_id (x := (k : Int) - 1) (by omega) (by omega), h, if_pos (by unfold lim; omega)]; rfl
def PL (n k : Nat) (r : RelT) (i : Nat) : List Nat := (List.range r.1.toNat).map fun j => atF n r.2 j (dg r.2.length k i)
def lastP (l : List Nat) : Nat := l.foldl max 0
theorem lastP_le : ∀ (l : List Nat) (a : Nat), a ≤ l.foldl max a ∧ ∀ x ∈ l, x ≤ l.foldl max a
 | [], a => ⟨Nat.le_refl _, fun x h => by simp at h⟩
 | y :: l, a => by
  obtain ⟨h1, h2⟩ := lastP_le l (max a y)
  refine ⟨by rw [List.foldl_cons]; omega, fun x hx => ?_⟩
  rw [List.foldl_cons]
  rcases List.mem_cons.1 hx with rfl | hx
  ·omega
  ·exact h2 x hx
theorem lastP_lt {l : List Nat} {b : Nat} (hb : 0 < b) (h : ∀ x ∈ l, x < b) : lastP l < b := by
 unfold lastP
 have key : ∀ (l : List Nat) (a : Nat), a < b → (∀ x ∈ l, x < b) → l.foldl max a < b := by
  intro l
  induction l with
  | nil => intro a ha _; exact ha
  | cons y l ih => intro a ha hl; rw [List.foldl_cons]; exact ih _ (by have := hl y (by simp); omega) fun x hx => hl x (List.mem_cons_of_mem _ hx)
 exact key l 0 hb h
section
variable {n k m : Nat} {r : RelT}
theorem ROk.vt_lt (h : ROk n m r) {x j : Nat} (hx : x < r.2.length) (hj : j < m) : vt r.2 x j < n ∧ (r.2.getD x []).getD j 0 = ((vt r.2 x j : Nat) : Int) ∧ j < (r.2.getD x []).length := by
 have hmem : r.2[x] ∈ r.2 := List.getElem_mem hx
 have hl := h.tl _ hmem
 have hj' : j < (r.2[x]).length := by omega
 have hv := h.tv _ hmem _ (List.getElem_mem hj')
 unfold vt
 rw [getD_of hx, getD_of hj']
 exact ⟨by omega, by omega, by omega⟩
theorem ROk.at_lt (h : ROk n m r) {j : Nat} (hj : j < m) (a : List Nat) (ha : ∀ x ∈ a, x < r.2.length) : atF n r.2 j a < n ^ a.length := by
 have := fold_lt (n := n) (v := fun x => vt r.2 x j) a 0 fun x hx => (h.vt_lt (ha x hx) hj).1
 unfold atF; omega
theorem ROk.pl_lt (h : ROk n m r) {i : Nat} (hb : 0 < r.2.length) : ∀ x ∈ PL n k r i, x < n ^ k := fun x hx => by
 unfold PL at hx
 obtain ⟨j, hj, rfl⟩ := List.mem_map.1 hx
 have := h.at_lt (j := j) (by have := List.mem_range.1 hj; have := h.ar; omega) (dg r.2.length k i) (dg_lt hb)
 rw [dg_len] at this
 exact this
theorem ROk.pl_len (h : ROk n m r) {i : Nat} : (PL n k r i).length = m := by unfold PL; simp; have := h.ar; omega
end
end T
open Go Go.Va
namespace T
def addAt {α : Type} (X : List (List α)) (p : Nat) (d : α) : List (List α) := X.set p (X.getD p [] ++ [d])
theorem addAt_len {α : Type} {X : List (List α)} {p : Nat} {d : α} : (addAt X p d).length = X.length := by unfold addAt; simp
theorem addAt_get {α : Type} {X : List (List α)} {p q : Nat} {d : α} (hp : p < X.length) : (addAt X p d).getD q [] = if q = p then X.getD p [] ++ [d] else X.getD q [] := by
 unfold addAt
 by_cases e : q = p
 ·subst e; rw [if_pos rfl, getD_of (by simp; exact hp)]; simp
 ·rw [if_neg e]
  simp only [List.getD_eq_getElem?_getD]
  rw [List.getElem?_set_ne (by omega)]
abbrev DT := List (List (List Int × List ByteArray))
def stepD (n k : Nat) (r : RelT) (X : DT × List ByteArray) (i : Nat) : DT × List ByteArray :=
 if mhas X.2 (keyB (cI (PL n k r i))) then X else (addAt X.1 (lastP (PL n k r i)) (cI (PL n k r i), keys r.2), mput X.2 (keyB (cI (PL n k r i))))
def relD (n k : Nat) (D : DT) (r : RelT) : DT := ((List.range (r.2.length ^ k)).foldl (stepD n k r) (D, [])).1
abbrev NT := List (List (List Int × Int × List (List Int)))
def stepN (n k : Nat) (r : RelT) (X : NT) (i : Nat) : NT := addAt X (lastP (PL n k r i)) (cI (PL n k r i), r)
def relN (n k : Nat) (X : NT) (r : RelT) : NT := (List.range (r.2.length ^ k)).foldl (stepN n k r) X
section
variable {n k m : Nat} {r : RelT}
theorem np_L17 (h : ROk n m r) (hn : 1 ≤ n ∧ n ≤ 4) (hk : k ≤ 3) {args : List Nat} (hl : args.length ≤ 3) (ha : ∀ x ∈ args, x < r.2.length) {j : Nat} (hj : j < m) {o : List Int} (ho : j < o.length) (h0 : o.getD j 0 = 0)
    (p q : Int) (D : DT) (t10 t11 : List ByteArray) (t12 t15 : Int) (t28 : List RelT) (t29 t30 t56 : Int) :
    impl_newPolySearch_L17 fuel ((), (n : Int), (k : Int), (p, (q, D)), (r.1, r.2), t10, t11, t12, cI args, o, t15, (j : Int), t28, t29, t30, t56, (j : Int), ((cI args).length : Int), 0)
      = some ((n : Int), (k : Int), (p, (q, D)), (r.1, r.2), t10, t11, t12, cI args, o.set j ((atF n r.2 j args : Nat) : Int), t15, (j : Int), t28, t29, t30, t56, (j : Int)) := by
  have := forS args.length (fun f o i => impl_newPolySearch_L17 f ((), (n : Int), (k : Int), (p, (q, D)), (r.1, r.2), t10, t11, t12, cI args, o, t15, (j : Int), t28, t29, t30, t56, (j : Int), ((cI args).length : Int), i)) (fun z => o.set j ((atF n r.2 j (args.take z) : Nat) : Int))
    (r := some ((n : Int), (k : Int), (p, (q, D)), (r.1, r.2), t10, t11, t12, cI args, o.set j ((atF n r.2 j args : Nat) : Int), t15, (j : Int), t28, t29, t30, t56, (j : Int))) (fun f z hz => ?_) (fun f => ?_) (n := fuel) (by unfold fuel; omega)
  · have e : o.set j ((atF n r.2 j (args.take 0) : Nat) : Int) = o := by
      have : ((atF n r.2 j (args.take 0) : Nat) : Int) = o[j] := by rw [getD_of ho] at h0; rw [h0]; rfl
      rw [this, List.set_getElem_self]
    rw [e] at this
    exact this
  · have hzc : z < (cI args).length := by rw [cI_len]; exact hz
    have hx := ha _ (List.getElem_mem hz)
    have hg : (cI args).getD z 0 = ((args[z] : Nat) : Int) := by rw [getD_of hzc]; simp [cI]
    obtain ⟨v1, v2, v3⟩ := h.vt_lt hx hj
    have hlt := h.at_lt hj (args.take z) fun x hx => ha x (List.mem_of_mem_take hx)
    have hp := pow_le3 (n := n) (k := (args.take z).length) hn.2 (by rw [List.length_take]; omega)
    have hstep := w64_step (n := n) hn.2 (x := atF n r.2 j (args.take z)) (v := vt r.2 args[z] j) (by omega) v1
    have htk : args.take (z + 1) = args.take z ++ [args[z]] := List.take_succ_eq_append_getElem hz
    have hos : j < (o.set j ((atF n r.2 j (args.take z) : Nat) : Int)).length := by simp; exact ho
    have hog : (o.set j ((atF n r.2 j (args.take z) : Nat) : Int)).getD j 0 = ((atF n r.2 j (args.take z) : Nat) : Int) := by rw [getD_of hos]; simp
    have hoo : ∀ y : Int, (o.set j ((atF n r.2 j (args.take z) : Nat) : Int)).set j y = o.set j y := fun y => by simp
    simp only [impl_newPolySearch_L17, inb_nat, hzc, gd_D, hg, hos, hog, hx, v3, v2, hstep, stt_nat, hoo, htk, atF_append, w64_succ (show z < 4611686018427387904 by omega), if_true]
    rw [if_pos (by simp; rw [cI_len]; exact hz)]
  · simp only [impl_newPolySearch_L17, List.take_length]
    rw [if_neg (by rw [cI_len]; simp)]
theorem PL_get {i j : Nat} (hj : j < (PL n k r i).length) : (PL n k r i)[j] = atF n r.2 j (dg r.2.length k i) := by simp [PL]
theorem lastP_take {l : List Nat} {j : Nat} (hj : j < l.length) : lastP (l.take (j + 1)) = max (lastP (l.take j)) l[j] := by
 unfold lastP; rw [List.take_succ_eq_append_getElem hj, List.foldl_append]; rfl
theorem maxI_nat (a b : Nat) : maxI (a : Int) (b : Int) = ((max a b : Nat) : Int) := by
 unfold maxI
 by_cases h : b > a
 ·rw [if_pos (by omega)]; omega
 ·rw [if_neg (by omega)]; omega
theorem np_L14 (h : ROk n m r) (hn : 1 ≤ n ∧ n ≤ 4) (hk : k ≤ 3) (hb : 0 < r.2.length) (i : Nat) (p q : Int) (D : DT) (t10 t11 : List ByteArray) (t12 : Int) (t28 : List RelT) (t29 t30 : Int) :
    impl_newPolySearch_L14 fuel ((n : Int), (k : Int), (p, (q, D)), (r.1, r.2), t10, t11, t12, cI (dg r.2.length k i), List.replicate (Int.toNat r.1) (0 : Int), 0, t28, t29, t30, ((List.replicate (Int.toNat r.1) (0 : Int)).length : Int), 0)
      = some ((n : Int), (k : Int), (p, (q, D)), (r.1, r.2), t10, t11, t12, cI (PL n k r i), ((lastP (PL n k r i) : Nat) : Int), t28, t29, t30) := by
  have hm := h.hm
  have har := h.ar
  have hpl := h.pl_len (k := k) (i := i)
  have hrep : List.replicate (Int.toNat r.1) (0 : Int) = List.replicate m 0 := by rw [har]; simp
  rw [hrep]
  have := forS m (fun f (s : List Int × Int) j => impl_newPolySearch_L14 f ((n : Int), (k : Int), (p, (q, D)), (r.1, r.2), t10, t11, t12, cI (dg r.2.length k i), s.1, s.2, t28, t29, t30, ((List.replicate m (0 : Int)).length : Int), j))
    (fun j => (cI ((PL n k r i).take j) ++ List.replicate (m - j) 0, ((lastP ((PL n k r i).take j) : Nat) : Int)))
    (r := some ((n : Int), (k : Int), (p, (q, D)), (r.1, r.2), t10, t11, t12, cI (PL n k r i), ((lastP (PL n k r i) : Nat) : Int), t28, t29, t30)) (fun f j hj => ?_) (fun f => ?_) (n := fuel) (by unfold fuel; omega)
  · exact this
  · have hjl : j < (PL n k r i).length := by omega
    have htl : ((PL n k r i).take j).length = j := by rw [List.length_take]; omega
    have hol : j < (cI ((PL n k r i).take j) ++ List.replicate (m - j) 0).length := by rw [List.length_append, cI_len, htl]; simp; omega
    have hog : (cI ((PL n k r i).take j) ++ List.replicate (m - j) 0).getD j 0 = 0 := by
      rw [getD_of hol, List.getElem_append_right (by rw [cI_len]; omega)]; simp
    have h17 := np_L17 h hn hk (args := dg r.2.length k i) (by rw [dg_len]; exact hk) (dg_lt hb) hj hol hog p q D t10 t11 t12 ((lastP ((PL n k r i).take j) : Nat) : Int) t28 t29 t30 ((List.replicate m (0 : Int)).length : Int)
    have hset : (cI ((PL n k r i).take j) ++ List.replicate (m - j) 0).set j ((atF n r.2 j (dg r.2.length k i) : Nat) : Int) = cI ((PL n k r i).take (j + 1)) ++ List.replicate (m - (j + 1)) 0 := by
      rw [List.take_succ_eq_append_getElem hjl, PL_get hjl, cI_append, show m - j = (m - (j + 1)) + 1 by omega, List.replicate_succ, List.set_append_right _ _ (by rw [cI_len]; omega), cI_len, htl]
      simp [cI]
    have hol' : j < (cI ((PL n k r i).take (j + 1)) ++ List.replicate (m - (j + 1)) 0).length := by rw [← hset]; simpa using hol
    have hog' : (cI ((PL n k r i).take (j + 1)) ++ List.replicate (m - (j + 1)) 0).getD j 0 = (((PL n k r i)[j] : Nat) : Int) := by
      rw [← hset, getD_of (by rw [List.length_set]; exact hol), PL_get hjl]; simp
    rw [hset] at h17
    simp only [impl_newPolySearch_L14, h17, Option.bind_some, inb_nat, hol', gd_D, hog', maxI_nat, lastP_take hjl, w64_succ (show j < 4611686018427387904 by omega), if_true]
    rw [if_pos (by simp; omega)]
  · have e : (PL n k r i).take m = PL n k r i := List.take_of_length_le (by omega)
    simp only [impl_newPolySearch_L14, e]
    rw [if_neg (by simp)]; simp
theorem stepD_len (X : DT × List ByteArray) (i : Nat) : (stepD n k r X i).1.length = X.1.length := by unfold stepD; split <;> simp [addAt_len]
theorem foldD_len : ∀ (l : List Nat) (X : DT × List ByteArray), (l.foldl (stepD n k r) X).1.length = X.1.length
 | [], X => rfl
 | i :: l, X => by rw [List.foldl_cons, foldD_len l]; exact stepD_len X i
theorem relD_len (D : DT) : (relD n k D r).length = D.length := foldD_len _ _
def roomD {α : Type} (X : List (List α)) (B : Nat) : Prop := ∀ p, (X.getD p []).length ≤ B
theorem addAt_room {α : Type} {X : List (List α)} {B : Nat} (h : roomD X B) {p : Nat} {d : α} : roomD (addAt X p d) (B + 1) := fun q => by
 rcases Nat.lt_or_ge p X.length with hp | hp
 ·rw [addAt_get hp]
  have h1 := h p
  have h2 := h q
  split
  ·rw [List.length_append, List.length_singleton]; omega
  ·omega
 ·unfold addAt; rw [List.set_eq_of_length_le hp]; have := h q; omega
theorem stepD_room {X : DT × List ByteArray} {B : Nat} (h : roomD X.1 B) (i : Nat) : roomD (stepD n k r X i).1 (B + 1) := by
 unfold stepD
 split
 ·intro p; have := h p; omega
 ·exact addAt_room h
theorem foldD_room : ∀ (l : List Nat) (X : DT × List ByteArray) (B : Nat), roomD X.1 B → roomD (l.foldl (stepD n k r) X).1 (B + l.length)
 | [], X, B, h => h
 | i :: l, X, B, h => by
  have := foldD_room l _ _ (stepD_room (n := n) (k := k) (r := r) h i)
  rw [List.foldl_cons, List.length_cons, show B + (l.length + 1) = B + 1 + l.length by omega]
  exact this
theorem range_fold {α : Type} {f : α → Nat → α} {a : α} {i : Nat} : (List.range (i + 1)).foldl f a = f ((List.range i).foldl f a) i := by rw [List.range_succ, List.foldl_append]; rfl
theorem pl_small (h : ROk n m r) (hn : 1 ≤ n ∧ n ≤ 4) (hk : k ≤ 3) (hb : 0 < r.2.length) (i : Nat) : ∀ x ∈ cI (PL n k r i), 0 ≤ x ∧ x < 256 := fun x hx => by
 unfold cI at hx
 obtain ⟨y, hy, rfl⟩ := List.mem_map.1 hx
 have := h.pl_lt hb y hy
 have := pow_le3 hn.2 hk
 omega
theorem np_L8 (h : ROk n m r) (hn : 1 ≤ n ∧ n ≤ 4) (hk : k ≤ 3) (hk1 : 0 < k) {D : DT} (hD : D.length = n ^ k) {B : Nat} (hroom : roomD D B) (hB : B ≤ 100000000) (p q : Int) (t28 : List RelT) (t29 t30 : Int) :
    impl_newPolySearch_L8 fuel ((n : Int), (k : Int), (p, (q, D)), (r.1, r.2), keys r.2, [], 0, t28, t29, t30)
      = some ((n : Int), (k : Int), (p, (q, relD n k D r)), t28, t29, t30) := by
  have hm := h.hm
  have har := h.ar
  have hN := pow64 h.many hk
  have hmany := h.many
  have := forS (r.2.length ^ k) (fun f (s : DT × List ByteArray) i => impl_newPolySearch_L8 f ((n : Int), (k : Int), (p, (q, s.1)), (r.1, r.2), keys r.2, s.2, i, t28, t29, t30)) (fun i => (List.range i).foldl (stepD n k r) (D, []))
    (r := some ((n : Int), (k : Int), (p, (q, relD n k D r)), t28, t29, t30)) (fun f i hi => ?_) (fun f => ?_) (n := fuel) (by unfold fuel; omega)
  · exact this
  · have hb : 0 < r.2.length := by
      rcases Nat.eq_zero_or_pos r.2.length with e2 | e2
      · rw [e2, Nat.zero_pow hk1] at hi; omega
      · exact e2
    have hlen : ((List.range i).foldl (stepD n k r) (D, [])).1.length = n ^ k := by rw [foldD_len]; exact hD
    have hro := foldD_room (n := n) (k := k) (r := r) (List.range i) (D, []) B hroom
    rw [List.length_range] at hro
    generalize hX : (List.range i).foldl (stepD n k r) (D, []) = X at hlen hro
    have hlast : lastP (PL n k r i) < X.1.length := by
      rw [hlen]; exact lastP_lt (Nat.pow_pos (by omega)) (h.pl_lt hb)
    have hkey := impl_keyOf_ok (l := cI (PL n k r i)) (by rw [cI_len, h.pl_len]; omega) (pl_small h hn hk hb i)
    have h14 := np_L14 h hn hk hb i p q X.1 (keys r.2) X.2 (i : Int) t28 t29 t30
    have hlim := hro (lastP (PL n k r i))
    rw [range_fold, hX]
    simp only [impl_newPolySearch_L8, impl_power64 hmany hk, impl_argsAt_ok (k := k) hb (by omega) (show i < 4611686018427387904 by omega), Option.bind_some, h14, hkey, inb_nat, hlast, gd_D, stt_nat, w64_succ (show i < 4611686018427387904 by omega)]
    rw [if_pos (decide_eq_true (show (i : Int) < ((r.2.length ^ k : Nat) : Int) from Int.ofNat_lt.2 hi)), if_pos (by unfold lim; omega)]
    unfold stepD
    cases mhas X.2 (keyB (cI (PL n k r i))) with
    | true => simp
    | false =>
      simp only [Bool.not_false, if_true, Bool.false_eq_true, if_false]
      rw [if_pos (by rw [List.length_singleton]; unfold lim; omega)]
      rfl
  · simp only [impl_newPolySearch_L8, impl_power64 hmany hk, Option.bind_some]
    rw [if_neg (by simp)]; rfl
end
end T
open Go Go.Va
namespace T
structure RelsOk (n k : Nat) (rels : List RelT) : Prop where
 hn : 1 ≤ n ∧ n ≤ 4
 hk : 1 ≤ k ∧ k ≤ 3
 len : rels.length ≤ 8
 ok : ∀ r ∈ rels, ROk n r.1.toNat r
def demD (n k : Nat) (rels : List RelT) : DT := rels.foldl (relD n k) (List.replicate (n ^ k) [])
def demN (n k : Nat) (rels : List RelT) : NT := rels.foldl (relN n k) (List.replicate (n ^ k) [])
section
variable {n k m : Nat} {r : RelT} {rels : List RelT}
theorem RelsOk.cnt (h : RelsOk n k rels) (hr : r ∈ rels) : r.2.length ^ k ≤ 262144 := pow64 (h.ok r hr).many h.hk.2
theorem demD_inv (h : RelsOk n k rels) (t : Nat) (ht : t ≤ rels.length) : ((rels.take t).foldl (relD n k) (List.replicate (n ^ k) [])).length = n ^ k ∧ roomD ((rels.take t).foldl (relD n k) (List.replicate (n ^ k) [])) (262144 * t) := by
 induction t with
 | zero => exact ⟨by simp, fun p => by simp [List.getD_eq_getElem?_getD, List.getElem?_replicate]; split <;> simp⟩
 | succ t ih =>
  obtain ⟨h1, h2⟩ := ih (by omega)
  have htl : t < rels.length := by omega
  rw [List.take_succ_eq_append_getElem htl, List.foldl_append]
  simp only [List.foldl_cons, List.foldl_nil]
  refine ⟨by rw [relD_len]; exact h1, fun p => ?_⟩
  have h3 := h.cnt (List.getElem_mem htl)
  have := foldD_room (n := n) (k := k) (r := rels[t]) (List.range (rels[t].2.length ^ k)) (_, []) _ h2 p
  rw [List.length_range] at this
  exact Nat.le_trans this (by omega)
theorem impl_newPolySearch_ok (h : RelsOk n k rels) : impl_newPolySearch (n : Int) rels (k : Int) = some (true, (n : Int), (k : Int), demD n k rels) := by
 have hk := h.hk
 have hn := h.hn
 have hl := h.len
 have hp := pow_le3 (n := n) (k := k) hn.2 hk.2
 unfold impl_newPolySearch
 rw [impl_power64 (by omega) hk.2]
 simp only [Option.bind_some]
 have := forS rels.length (fun f (s : DT) i => impl_newPolySearch_L3 f ((n : Int), (k : Int), ((n : Int), ((k : Int), s)), rels, (rels.length : Int), i)) (fun t => (rels.take t).foldl (relD n k) (List.replicate (n ^ k) []))
  (r := some ((n : Int), ((k : Int), demD n k rels))) (fun f t ht => ?_) (fun f => ?_) (n := fuel) (by unfold fuel; omega)
 ·have e : ((rels.take 0).foldl (relD n k) (List.replicate (n ^ k) [])) = List.replicate (Int.toNat ((n ^ k : Nat) : Int)) ([] : List (List Int × List ByteArray)) := by rw [Int.toNat_natCast]; rfl
  rw [e] at this
  have this : impl_newPolySearch_L3 fuel ((n : Int), (k : Int), ((n : Int), ((k : Int), List.replicate (Int.toNat ((n ^ k : Nat) : Int)) ([] : List (List Int × List ByteArray)))), rels, (rels.length : Int), 0) = _ := this
  rw [this, if_pos (by unfold lim; omega)]; rfl
 ·have hr := h.ok _ (List.getElem_mem ht)
  obtain ⟨h1, h2⟩ := demD_inv h t (by omega)
  have hm := hr.hm
  have h8 := np_L8 hr hn hk.2 (by omega) h1 h2 (by omega) (n : Int) (k : Int) rels (rels.length : Int) (t : Int)
  have hts := impl_tupleSet_ok (r := rels[t]) (by have := hr.many; omega) (fun u hu => ⟨by have := hr.tl u hu; omega, fun x hx => by have := hr.tv u hu x hx; omega⟩)
  have hts : impl_tupleSet (rels[t].1, rels[t].2) = _ := hts
  have htk : (rels.take (t + 1)).foldl (relD n k) (List.replicate (n ^ k) []) = relD n k ((rels.take t).foldl (relD n k) (List.replicate (n ^ k) [])) rels[t] := by
   rw [List.take_succ_eq_append_getElem ht, List.foldl_append]; rfl
  simp only [impl_newPolySearch_L3, inb_nat, ht, gd_nat ht, hts, Option.bind_some, h8, htk, w64_succ (show t < 4611686018427387904 by omega)]
  rw [if_pos (by simp; omega)]; rfl
 ·simp only [impl_newPolySearch_L3, List.take_length]
  rw [if_neg (by simp)]; rfl
theorem nd_L21 (h : ROk n m r) (hn : 1 ≤ n ∧ n ≤ 4) {t : Nat} (ht : t < rels.length) (er : rels[t] = r) {args : List Nat} (hl : args.length ≤ 3) (ha : ∀ x ∈ args, x < r.2.length) {j : Nat} (hj : j < m)
    (t7 : NT) (t10 t11 : Int) (t13 : List Int × Int × List (List Int)) (t14 : Int) :
    spec_l14Needs_L21 fuel ((n : Int), rels, (args.length : Int), t7, (t : Int), t10, t11, cI args, (t13.1, (t13.2.1, t13.2.2)), t14, (j : Int), 0, 0)
      = some ((n : Int), rels, (args.length : Int), t7, (t : Int), t10, t11, cI args, (t13.1, (t13.2.1, t13.2.2)), t14, (j : Int), ((atF n r.2 j args : Nat) : Int)) := by
  have := forS args.length (fun f (s : Int) i => spec_l14Needs_L21 f ((n : Int), rels, (args.length : Int), t7, (t : Int), t10, t11, cI args, (t13.1, (t13.2.1, t13.2.2)), t14, (j : Int), s, i)) (fun z => ((atF n r.2 j (args.take z) : Nat) : Int))
    (r := some ((n : Int), rels, (args.length : Int), t7, (t : Int), t10, t11, cI args, (t13.1, (t13.2.1, t13.2.2)), t14, (j : Int), ((atF n r.2 j args : Nat) : Int))) (fun f z hz => ?_) (fun f => ?_) (n := fuel) (by unfold fuel; omega)
  · exact this
  · have hzc : z < (cI args).length := by rw [cI_len]; exact hz
    have hx := ha _ (List.getElem_mem hz)
    have hg : (cI args).getD z 0 = ((args[z] : Nat) : Int) := by rw [getD_of hzc]; simp [cI]
    obtain ⟨v1, v2, v3⟩ := h.vt_lt hx hj
    have hlt := h.at_lt hj (args.take z) fun x hx => ha x (List.mem_of_mem_take hx)
    have hp := pow_le3 (n := n) (k := (args.take z).length) hn.2 (by rw [List.length_take]; omega)
    have hstep := w64_step (n := n) hn.2 (x := atF n r.2 j (args.take z)) (v := vt r.2 args[z] j) (by omega) v1
    have htk : args.take (z + 1) = args.take z ++ [args[z]] := List.take_succ_eq_append_getElem hz
    simp only [spec_l14Needs_L21, inb_nat, ht, gd_nat ht, er, hzc, gd_D, hg, hx, v3, v2, hstep, htk, atF_append, w64_succ (show z < 4611686018427387904 by omega), if_true]
    rw [if_pos (by simp; omega)]
  · simp only [spec_l14Needs_L21, List.take_length]
    rw [if_neg (by simp)]
theorem spec_l1Most_nat (a b : Nat) : spec_l1Most (a : Int) (b : Int) = some ((max a b : Nat) : Int) := by
 unfold spec_l1Most
 by_cases h : (a : Int) > (b : Int)
 ·rw [if_pos (by simpa using h)]; congr 2; omega
 ·rw [if_neg (by simpa using h)]; congr 2; omega
theorem nd_L17 (h : ROk n m r) (hn : 1 ≤ n ∧ n ≤ 4) (hk : k ≤ 3) (hb : 0 < r.2.length) {t : Nat} (ht : t < rels.length) (er : rels[t] = r) (i : Nat) (t7 : NT) (t10 t11 : Int) (q : Int × List (List Int)) :
    spec_l14Needs_L17 fuel ((n : Int), rels, (k : Int), t7, (t : Int), t10, t11, cI (dg r.2.length k i), ([], (q.1, q.2)), 0, 0)
      = some ((n : Int), rels, (k : Int), t7, (t : Int), t10, t11, (cI (PL n k r i), (q.1, q.2)), ((lastP (PL n k r i) : Nat) : Int)) := by
  have hm := h.hm
  have har := h.ar
  have hpl := h.pl_len (k := k) (i := i)
  have := forS m (fun f (s : List Int × Int) j => spec_l14Needs_L17 f ((n : Int), rels, (k : Int), t7, (t : Int), t10, t11, cI (dg r.2.length k i), (s.1, (q.1, q.2)), s.2, j))
    (fun j => (cI ((PL n k r i).take j), ((lastP ((PL n k r i).take j) : Nat) : Int)))
    (r := some ((n : Int), rels, (k : Int), t7, (t : Int), t10, t11, (cI (PL n k r i), (q.1, q.2)), ((lastP (PL n k r i) : Nat) : Int))) (fun f j hj => ?_) (fun f => ?_) (n := fuel) (by unfold fuel; omega)
  · exact this
  · have hjl : j < (PL n k r i).length := by omega
    have htl : ((PL n k r i).take j).length = j := by rw [List.length_take]; omega
    have h21 := nd_L21 h hn ht er (args := dg r.2.length k i) (by rw [dg_len]; exact hk) (dg_lt hb) hj t7 t10 t11 (cI ((PL n k r i).take j), (q.1, q.2)) ((lastP ((PL n k r i).take j) : Nat) : Int)
    rw [dg_len] at h21
    have e1 : cI ((PL n k r i).take (j + 1)) = cI ((PL n k r i).take j) ++ [((atF n r.2 j (dg r.2.length k i) : Nat) : Int)] := by
      rw [List.take_succ_eq_append_getElem hjl, PL_get hjl, cI_append]; rfl
    have e2 : lastP ((PL n k r i).take (j + 1)) = max (lastP ((PL n k r i).take j)) (atF n r.2 j (dg r.2.length k i)) := by rw [lastP_take hjl, PL_get hjl]
    simp only [spec_l14Needs_L17, inb_nat, ht, gd_nat ht, er, har, h21, Option.bind_some, spec_l1Most_nat, e1, e2, w64_succ (show j < 4611686018427387904 by omega), if_true]
    rw [if_pos (by simp; omega), if_pos (by rw [cI_len, htl, List.length_singleton]; unfold lim; omega)]
  · have e : (PL n k r i).take m = PL n k r i := List.take_of_length_le (by omega)
    simp only [spec_l14Needs_L17, inb_nat, ht, gd_nat ht, er, har, e, if_true]
    rw [if_neg (by simp)]
theorem stepN_len (X : NT) (i : Nat) : (stepN n k r X i).length = X.length := addAt_len
theorem foldN_len : ∀ (l : List Nat) (X : NT), (l.foldl (stepN n k r) X).length = X.length
 | [], X => rfl
 | i :: l, X => by rw [List.foldl_cons, foldN_len l]; exact stepN_len X i
theorem foldN_room : ∀ (l : List Nat) (X : NT) (B : Nat), roomD X B → roomD (l.foldl (stepN n k r) X) (B + l.length)
 | [], X, B, h => h
 | i :: l, X, B, h => by
  have := foldN_room l _ _ (addAt_room (p := lastP (PL n k r i)) (d := (cI (PL n k r i), r)) h)
  rw [List.foldl_cons, List.length_cons, show B + (l.length + 1) = B + 1 + l.length by omega]
  exact this
theorem nd_L11 (h : ROk n m r) (hn : 1 ≤ n ∧ n ≤ 4) (hk : k ≤ 3) (hk1 : 0 < k) {t : Nat} (ht : t < rels.length) (er : rels[t] = r) {X : NT} (hX : X.length = n ^ k) {B : Nat} (hroom : roomD X B) (hB : B ≤ 100000000) :
    spec_l14Needs_L11 fuel ((n : Int), rels, (k : Int), X, (t : Int), (r.2.length : Int), 0) = some ((n : Int), rels, (k : Int), relN n k X r, (t : Int)) := by
  have hm := h.hm
  have hN := pow64 h.many hk
  have hmany := h.many
  have := forS (r.2.length ^ k) (fun f (s : NT) i => spec_l14Needs_L11 f ((n : Int), rels, (k : Int), s, (t : Int), (r.2.length : Int), i)) (fun i => (List.range i).foldl (stepN n k r) X)
    (r := some ((n : Int), rels, (k : Int), relN n k X r, (t : Int))) (fun f i hi => ?_) (fun f => ?_) (n := fuel) (by unfold fuel; omega)
  · exact this
  · have hb : 0 < r.2.length := by
      rcases Nat.eq_zero_or_pos r.2.length with e2 | e2
      · rw [e2, Nat.zero_pow hk1] at hi; omega
      · exact e2
    have hlen : ((List.range i).foldl (stepN n k r) X).length = n ^ k := by rw [foldN_len]; exact hX
    have hro := foldN_room (n := n) (k := k) (r := r) (List.range i) X B hroom
    rw [List.length_range] at hro
    generalize hY : (List.range i).foldl (stepN n k r) X = Y at hlen hro
    have hlast : lastP (PL n k r i) < Y.length := by
      rw [hlen]; exact lastP_lt (Nat.pow_pos (by omega)) (h.pl_lt hb)
    have h17 := nd_L17 h hn hk hb ht er i Y (r.2.length : Int) (i : Int) r
    have hlim := hro (lastP (PL n k r i))
    rw [range_fold, hY]
    simp only [spec_l14Needs_L11, spec_pow64 hmany hk, spec_l2Args_ok (k := k) hb (by omega) (show i < 4611686018427387904 by omega), Option.bind_some, inb_nat, ht, gd_nat ht, er, h17, hlast, gd_D, stt_nat, w64_succ (show i < 4611686018427387904 by omega), if_true]
    rw [if_pos (decide_eq_true (show (i : Int) < ((r.2.length ^ k : Nat) : Int) from Int.ofNat_lt.2 hi)), if_pos (by rw [List.length_singleton]; unfold lim; omega)]
    rfl
  · simp only [spec_l14Needs_L11, spec_pow64 hmany hk, Option.bind_some]
    rw [if_neg (by simp)]; rfl
theorem demN_inv (h : RelsOk n k rels) (t : Nat) (ht : t ≤ rels.length) : ((rels.take t).foldl (relN n k) (List.replicate (n ^ k) [])).length = n ^ k ∧ roomD ((rels.take t).foldl (relN n k) (List.replicate (n ^ k) [])) (262144 * t) := by
 induction t with
 | zero => exact ⟨by simp, fun p => by simp [List.getD_eq_getElem?_getD, List.getElem?_replicate]; split <;> simp⟩
 | succ t ih =>
  obtain ⟨h1, h2⟩ := ih (by omega)
  have htl : t < rels.length := by omega
  rw [List.take_succ_eq_append_getElem htl, List.foldl_append]
  simp only [List.foldl_cons, List.foldl_nil]
  refine ⟨by unfold relN; rw [foldN_len]; exact h1, fun p => ?_⟩
  have h3 := h.cnt (List.getElem_mem htl)
  have := foldN_room (n := n) (k := k) (r := rels[t]) (List.range (rels[t].2.length ^ k)) _ _ h2 p
  rw [List.length_range] at this
  exact Nat.le_trans this (by omega)
theorem spec_l14Needs_ok (h : RelsOk n k rels) : spec_l14Needs (n : Int) rels (k : Int) = some (demN n k rels) := by
 have hk := h.hk
 have hn := h.hn
 have hl := h.len
 have hp := pow_le3 (n := n) (k := k) hn.2 hk.2
 unfold spec_l14Needs
 have h3 := forS (n ^ k) (fun f (s : NT) i => spec_l14Needs_L3 f ((n : Int), rels, (k : Int), s, i)) (fun t => List.replicate t []) (r := some ((n : Int), rels, (k : Int), List.replicate (n ^ k) [])) (fun f t ht => ?_) (fun f => ?_) (n := fuel) (by unfold fuel; omega)
 ·have h3 : spec_l14Needs_L3 fuel ((n : Int), rels, (k : Int), [], 0) = _ := h3
  simp only [h3, Option.bind_some]
  have := forS rels.length (fun f (s : NT) i => spec_l14Needs_L7 f ((n : Int), rels, (k : Int), s, i)) (fun t => (rels.take t).foldl (relN n k) (List.replicate (n ^ k) [])) (r := some (demN n k rels)) (fun f t ht => ?_) (fun f => ?_) (n := fuel) (by unfold fuel; omega)
  ·have e : ((rels.take 0).foldl (relN n k) (List.replicate (n ^ k) [])) = List.replicate (n ^ k) [] := by simp
   rw [e] at this
   have this : spec_l14Needs_L7 fuel ((n : Int), rels, (k : Int), List.replicate (n ^ k) [], 0) = _ := this
   rw [this]; rfl
  ·have hr := h.ok _ (List.getElem_mem ht)
   obtain ⟨h1, h2⟩ := demN_inv h t (by omega)
   have h11 := nd_L11 hr hn hk.2 (by omega) ht rfl h1 h2 (by omega)
   have htk : (rels.take (t + 1)).foldl (relN n k) (List.replicate (n ^ k) []) = relN n k ((rels.take t).foldl (relN n k) (List.replicate (n ^ k) [])) rels[t] := by
    rw [List.take_succ_eq_append_getElem ht, List.foldl_append]; rfl
   simp only [spec_l14Needs_L7, inb_nat, ht, gd_nat ht, Option.bind_some, h11, htk, w64_succ (show t < 4611686018427387904 by omega)]
   rw [if_pos (by simp; omega)]; rfl
  ·simp only [spec_l14Needs_L7, List.take_length]
   rw [if_neg (by simp)]; rfl
 ·simp only [spec_l14Needs_L3, spec_pow64 (show n ≤ 64 by omega) hk.2, Option.bind_some, List.replicate_succ', w64_succ (show t < 4611686018427387904 by omega)]
  rw [if_pos (decide_eq_true (show (t : Int) < ((n ^ k : Nat) : Int) from Int.ofNat_lt.2 ht)), if_pos (by simp; unfold lim; omega)]
 ·simp only [spec_l14Needs_L3, spec_pow64 (show n ≤ 64 by omega) hk.2, Option.bind_some]
  rw [if_neg (by simp)]
end
end T
open Go Go.Va
namespace T
section
variable {n k m : Nat} {r : RelT} {rels : List RelT}
theorem last_lt (h : ROk n m r) (hn : 1 ≤ n ∧ n ≤ 4) (hk1 : 0 < k) {i : Nat} (hi : i < r.2.length ^ k) : lastP (PL n k r i) < n ^ k := by
 have hb : 0 < r.2.length := by
  rcases Nat.eq_zero_or_pos r.2.length with e2 | e2
  ·rw [e2, Nat.zero_pow hk1] at hi; omega
  ·exact e2
 exact lastP_lt (Nat.pow_pos (by omega)) (h.pl_lt hb)
theorem foldN_mem (h : ROk n m r) (hn : 1 ≤ n ∧ n ≤ 4) (hk1 : 0 < k) {X : NT} (hX : X.length = n ^ k) : ∀ (i : Nat), i ≤ r.2.length ^ k → ∀ at' d, d ∈ ((List.range i).foldl (stepN n k r) X).getD at' [] ↔ d ∈ X.getD at' [] ∨ ∃ j, j < i ∧ lastP (PL n k r j) = at' ∧ d = (cI (PL n k r j), r) := by
 intro i
 induction i with
 | zero => intro _ a d; simp
 | succ i ih =>
  intro hi a d
  have hlen : ((List.range i).foldl (stepN n k r) X).length = n ^ k := by rw [foldN_len]; exact hX
  have hl := last_lt h hn hk1 (i := i) (by omega)
  have ih := ih (by omega)
  rw [range_fold]
  generalize (List.range i).foldl (stepN n k r) X = Y at ih hlen
  unfold stepN
  rw [addAt_get (by rw [hlen]; exact hl)]
  by_cases e : a = lastP (PL n k r i)
  ·rw [if_pos e, List.mem_append, ← e, ih, List.mem_singleton]
   constructor
   ·rintro ((h1 | ⟨j, h1, h2⟩) | h1)
    ·exact .inl h1
    ·exact .inr ⟨j, by omega, h2⟩
    ·exact .inr ⟨i, by omega, e.symm, h1⟩
   ·rintro (h1 | ⟨j, h1, h2, h3⟩)
    ·exact .inl (.inl h1)
    ·by_cases e2 : j = i
     ·subst e2; exact .inr h3
     ·exact .inl (.inr ⟨j, by omega, h2, h3⟩)
  ·rw [if_neg e, ih]
   constructor
   ·rintro (h1 | ⟨j, h1, h2⟩)
    ·exact .inl h1
    ·exact .inr ⟨j, by omega, h2⟩
   ·rintro (h1 | ⟨j, h1, h2, h3⟩)
    ·exact .inl h1
    ·by_cases e2 : j = i
     ·subst e2; exact absurd h2.symm e
     ·exact .inr ⟨j, by omega, h2, h3⟩
theorem relN_len {X : NT} : (relN n k X r).length = X.length := by unfold relN; rw [foldN_len]
theorem foldRN_mem (hn : 1 ≤ n ∧ n ≤ 4) (hk1 : 0 < k) : ∀ (l : List RelT) (X : NT), X.length = n ^ k → (∀ r ∈ l, ROk n r.1.toNat r) → ∀ at' d, d ∈ (l.foldl (relN n k) X).getD at' [] ↔ d ∈ X.getD at' [] ∨ ∃ r ∈ l, ∃ j, j < r.2.length ^ k ∧ lastP (PL n k r j) = at' ∧ d = (cI (PL n k r j), r)
 | [], X, _, _, a, d => by simp
 | r :: l, X, hX, hl, a, d => by
  rw [List.foldl_cons, foldRN_mem hn hk1 l _ (by rw [relN_len]; exact hX) (fun r hr => hl r (List.mem_cons_of_mem _ hr))]
  unfold relN
  rw [foldN_mem (hl r (by simp)) hn hk1 hX _ (Nat.le_refl _)]
  constructor
  ·rintro ((h1 | ⟨j, h1⟩) | ⟨q, h1, h2⟩)
   ·exact .inl h1
   ·exact .inr ⟨r, by simp, j, h1⟩
   ·exact .inr ⟨q, by simp [h1], h2⟩
  ·rintro (h1 | ⟨q, h1, h2⟩)
   ·exact .inl (.inl h1)
   ·rcases List.mem_cons.1 h1 with rfl | h1
    ·exact .inl (.inr h2)
    ·exact .inr ⟨q, h1, h2⟩
theorem repl_mem {α : Type} {N a : Nat} {d : α} : ¬ d ∈ (List.replicate N ([] : List α)).getD a [] := by
 simp [List.getD_eq_getElem?_getD, List.getElem?_replicate]; split <;> simp
theorem demN_mem (h : RelsOk n k rels) (at' : Nat) (d) : d ∈ (demN n k rels).getD at' [] ↔ ∃ r ∈ rels, ∃ j, j < r.2.length ^ k ∧ lastP (PL n k r j) = at' ∧ d = (cI (PL n k r j), r) := by
 unfold demN
 rw [foldRN_mem h.hn h.hk.1 rels _ (by simp) h.ok]
 constructor
 ·rintro (h1 | h1)
  ·exact absurd h1 repl_mem
  ·exact h1
 ·exact .inr
theorem cI_inj {a b : List Nat} (h : cI a = cI b) : a = b := by
 unfold cI at h
 exact List.map_inj_right (fun x y e => by exact Int.ofNat_inj.1 e) |>.1 h
theorem foldD_mem (h : ROk n m r) (hn : 1 ≤ n ∧ n ≤ 4) (hk : k ≤ 3) (hk1 : 0 < k) {X : DT} (hX : X.length = n ^ k) : ∀ (i : Nat), i ≤ r.2.length ^ k →
    (∀ at' d, d ∈ ((List.range i).foldl (stepD n k r) (X, [])).1.getD at' [] ↔ d ∈ X.getD at' [] ∨ ∃ j, j < i ∧ lastP (PL n k r j) = at' ∧ d = (cI (PL n k r j), keys r.2)) ∧
    (∀ s, s ∈ ((List.range i).foldl (stepD n k r) (X, [])).2 ↔ ∃ j, j < i ∧ s = keyB (cI (PL n k r j))) := by
  intro i
  induction i with
  | zero => intro _; exact ⟨fun a d => by simp, fun s => by simp⟩
  | succ i ih =>
    intro hi
    obtain ⟨ih1, ih2⟩ := ih (by omega)
    have hlen : ((List.range i).foldl (stepD n k r) (X, [])).1.length = n ^ k := by rw [foldD_len]; exact hX
    have hl := last_lt h hn hk1 (i := i) (by omega)
    have hb : 0 < r.2.length := by
      rcases Nat.eq_zero_or_pos r.2.length with e2 | e2
      · rw [e2, Nat.zero_pow hk1] at hi; omega
      · exact e2
    rw [range_fold]
    generalize (List.range i).foldl (stepD n k r) (X, []) = Y at ih1 ih2 hlen
    unfold stepD
    by_cases hc : mhas Y.2 (keyB (cI (PL n k r i))) = true
    · rw [if_pos hc]
      obtain ⟨j0, hj0, e0⟩ := (ih2 _).1 (mhas_mem.1 hc)
      have e1 := keyB_inj (pl_small h hn hk hb i) (pl_small h hn hk hb j0) e0
      have e2 := cI_inj e1
      refine ⟨fun a d => ?_, fun s => ?_⟩
      · rw [ih1]
        constructor
        · rintro (h1 | ⟨j, h1, h2⟩)
          · exact .inl h1
          · exact .inr ⟨j, by omega, h2⟩
        · rintro (h1 | ⟨j, h1, h2, h3⟩)
          · exact .inl h1
          · by_cases e3 : j = i
            · subst e3; exact .inr ⟨j0, hj0, by rw [← e2]; exact h2, by rw [← e2]; exact h3⟩
            · exact .inr ⟨j, by omega, h2, h3⟩
      · rw [ih2]
        constructor
        · rintro ⟨j, h1, h2⟩; exact ⟨j, by omega, h2⟩
        · rintro ⟨j, h1, h2⟩
          by_cases e3 : j = i
          · subst e3; exact ⟨j0, hj0, by rw [← e2]; exact h2⟩
          · exact ⟨j, by omega, h2⟩
    · rw [if_neg hc]
      refine ⟨fun a d => ?_, fun s => ?_⟩
      · rw [addAt_get (by rw [hlen]; exact hl)]
        by_cases e : a = lastP (PL n k r i)
        · rw [if_pos e, List.mem_append, ← e, ih1, List.mem_singleton]
          constructor
          · rintro ((h1 | ⟨j, h1, h2⟩) | h1)
            · exact .inl h1
            · exact .inr ⟨j, by omega, h2⟩
            · exact .inr ⟨i, by omega, e.symm, h1⟩
          · rintro (h1 | ⟨j, h1, h2, h3⟩)
            · exact .inl (.inl h1)
            · by_cases e2 : j = i
              · subst e2; exact .inr h3
              · exact .inl (.inr ⟨j, by omega, h2, h3⟩)
        · rw [if_neg e, ih1]
          constructor
          · rintro (h1 | ⟨j, h1, h2⟩)
            · exact .inl h1
            · exact .inr ⟨j, by omega, h2⟩
          · rintro (h1 | ⟨j, h1, h2, h3⟩)
            · exact .inl h1
            · by_cases e2 : j = i
              · subst e2; exact absurd h2.symm e
              · exact .inr ⟨j, by omega, h2, h3⟩
      · rw [mput_mem, ih2]
        constructor
        · rintro (⟨j, h1, h2⟩ | h1)
          · exact ⟨j, by omega, h2⟩
          · exact ⟨i, by omega, h1⟩
        · rintro ⟨j, h1, h2⟩
          by_cases e2 : j = i
          · subst e2; exact .inr h2
          · exact .inl ⟨j, by omega, h2⟩
theorem foldRD_mem (hn : 1 ≤ n ∧ n ≤ 4) (hk : k ≤ 3) (hk1 : 0 < k) : ∀ (l : List RelT) (X : DT), X.length = n ^ k → (∀ r ∈ l, ROk n r.1.toNat r) → ∀ at' d, d ∈ (l.foldl (relD n k) X).getD at' [] ↔ d ∈ X.getD at' [] ∨ ∃ r ∈ l, ∃ j, j < r.2.length ^ k ∧ lastP (PL n k r j) = at' ∧ d = (cI (PL n k r j), keys r.2)
 | [], X, _, _, a, d => by simp
 | r :: l, X, hX, hl, a, d => by
  rw [List.foldl_cons, foldRD_mem hn hk hk1 l _ (by rw [relD_len]; exact hX) (fun r hr => hl r (List.mem_cons_of_mem _ hr))]
  unfold relD
  rw [(foldD_mem (hl r (by simp)) hn hk hk1 hX _ (Nat.le_refl _)).1]
  constructor
  ·rintro ((h1 | ⟨j, h1⟩) | ⟨q, h1, h2⟩)
   ·exact .inl h1
   ·exact .inr ⟨r, by simp, j, h1⟩
   ·exact .inr ⟨q, by simp [h1], h2⟩
  ·rintro (h1 | ⟨q, h1, h2⟩)
   ·exact .inl (.inl h1)
   ·rcases List.mem_cons.1 h1 with rfl | h1
    ·exact .inl (.inr h2)
    ·exact .inr ⟨q, h1, h2⟩
theorem demD_mem (h : RelsOk n k rels) (at' : Nat) (d) : d ∈ (demD n k rels).getD at' [] ↔ ∃ r ∈ rels, ∃ j, j < r.2.length ^ k ∧ lastP (PL n k r j) = at' ∧ d = (cI (PL n k r j), keys r.2) := by
 unfold demD
 rw [foldRD_mem h.hn h.hk.2 h.hk.1 rels _ (by simp) h.ok]
 constructor
 ·rintro (h1 | h1)
  ·exact absurd h1 repl_mem
  ·exact h1
 ·exact .inr
def metB (n k : Nat) (rels : List RelT) (at' : Nat) (tab : List Int) : Bool :=
 rels.all fun r => (List.range (r.2.length ^ k)).all fun j => !decide (lastP (PL n k r j) = at') || decide ((cI (PL n k r j)).map (valI tab) ∈ r.2)
theorem valI_take {t : List Int} {x q : Nat} (h : x < q) : valI (t.take q) (x : Int) = valI t (x : Int) := by
 simp [valI, List.getD_eq_getElem?_getD, List.getElem?_take, h]
theorem metB_take {at' : Nat} {tab : List Int} : metB n k rels at' (tab.take (at' + 1)) = metB n k rels at' tab := by
 unfold metB
 congr 1; funext r; congr 1; funext j
 by_cases e : lastP (PL n k r j) = at'
 ·have : (cI (PL n k r j)).map (valI (tab.take (at' + 1))) = (cI (PL n k r j)).map (valI tab) := by
   refine List.map_congr_left fun x hx => ?_
   unfold cI at hx
   obtain ⟨y, hy, rfl⟩ := List.mem_map.1 hx
   have := (lastP_le (PL n k r j) 0).2 y hy
   unfold lastP at e
   exact valI_take (by omega)
  rw [this]
 ·simp [e]
theorem dem_len (h : RelsOk n k rels) : (demD n k rels).length = n ^ k ∧ roomD (demD n k rels) 2097152 := by
 have := demD_inv h rels.length (Nat.le_refl _)
 rw [List.take_length] at this
 have hl := h.len
 exact ⟨this.1, fun p => by have := this.2 p; unfold demD; omega⟩
theorem demN_len (h : RelsOk n k rels) : (demN n k rels).length = n ^ k ∧ roomD (demN n k rels) 2097152 := by
 have := demN_inv h rels.length (Nat.le_refl _)
 rw [List.take_length] at this
 have hl := h.len
 exact ⟨this.1, fun p => by have := this.2 p; unfold demN; omega⟩
theorem fits_ok (h : RelsOk n k rels) {tab : List Int} (ht : tab.length = n ^ k) (hv : ∀ x ∈ tab, 0 ≤ x ∧ x < 256) {at' : Nat} (ha : at' < n ^ k) :
    impl_polySearch_fits_p (true, (n : Int), (k : Int), demD n k rels) tab (at' : Int) = some (metB n k rels at' tab) := by
  obtain ⟨hlen, hroom⟩ := dem_len h
  have hp := pow_le3 h.hn.2 h.hk.2
  have hkey : ∀ d ∈ (demD n k rels).getD at' [], ∃ r ∈ rels, ∃ j, j < r.2.length ^ k ∧ lastP (PL n k r j) = at' ∧ d = (cI (PL n k r j), keys r.2) ∧ impl_compose d.1 tab = some (d.1.map (valI tab)) ∧ impl_keyOf (d.1.map (valI tab)) = some (keyB (d.1.map (valI tab))) ∧ mhas d.2 (keyB (d.1.map (valI tab))) = decide (d.1.map (valI tab) ∈ r.2) := fun d hd => by
    obtain ⟨r, hr, j, hj, hla, rfl⟩ := (demD_mem h at' d).1 hd
    have hrk := h.ok r hr
    have hm := hrk.hm
    have hpl : ∀ v ∈ cI (PL n k r j), 0 ≤ v ∧ v < tab.length := fun v hv => by
      unfold cI at hv
      obtain ⟨y, hy, rfl⟩ := List.mem_map.1 hv
      have := (lastP_le (PL n k r j) 0).2 y hy
      unfold lastP at hla
      omega
    have hval : ∀ x ∈ (cI (PL n k r j)).map (valI tab), 0 ≤ x ∧ x < 256 := fun x hx => by
      obtain ⟨v, hvv, rfl⟩ := List.mem_map.1 hx
      obtain ⟨h1, h2⟩ := hpl v hvv
      have : v.toNat < tab.length := by omega
      unfold valI
      rw [getD_of this]
      exact hv _ (List.getElem_mem this)
    refine ⟨r, hr, j, hj, hla, rfl, impl_compose_ok (by rw [cI_len, hrk.pl_len]; omega) hpl, impl_keyOf_ok (by rw [List.length_map, cI_len, hrk.pl_len]; omega) hval, ?_⟩
    exact mhas_keys (fun u hu x hx => by have := hrk.tv u hu x hx; have := h.hn; omega) hval
  have e : metB n k rels at' tab = ((demD n k rels).getD at' []).all fun d => mhas d.2 (keyB (d.1.map (valI tab))) := by
    rw [Bool.eq_iff_iff, List.all_eq_true]
    unfold metB
    simp only [List.all_eq_true, Bool.or_eq_true, Bool.not_eq_true', decide_eq_false_iff_not, decide_eq_true_eq, List.mem_range]
    constructor
    · intro h1 d hd
      obtain ⟨r, hr, j, hj, hla, e1, _, _, h2⟩ := hkey d hd
      rw [h2, decide_eq_true_eq, e1]
      rcases h1 r hr j hj with h3 | h3
      · exact absurd hla h3
      · exact h3
    · intro h1 r hr j hj
      by_cases hla : lastP (PL n k r j) = at'
      · right
        have hd := (demD_mem h at' (cI (PL n k r j), keys r.2)).2 ⟨r, hr, j, hj, hla, rfl⟩
        have h2 := h1 _ hd
        have hrk := h.ok r hr
        rw [mhas_keys (fun u hu x hx => by have := hrk.tv u hu x hx; have := h.hn; omega) (fun x hx => by
          obtain ⟨v, hvv, rfl⟩ := List.mem_map.1 hx
          unfold cI at hvv
          obtain ⟨y, hy, rfl⟩ := List.mem_map.1 hvv
          have := (lastP_le (PL n k r j) 0).2 y hy
          unfold lastP at hla
          have hyt : y < tab.length := by omega
          unfold valI
          rw [getD_of (by simpa using hyt)]
          exact hv _ (List.getElem_mem _)), decide_eq_true_eq] at h2
        exact h2
      · exact .inl hla
  have hgd : gd (demD n k rels) (at' : Int) [] = (demD n k rels).getD at' [] := rfl
  unfold impl_polySearch_fits_p
  simp only [if_true, inb_nat, hlen, ha, hgd]
  have hro := hroom at'
  generalize (demD n k rels).getD at' [] = l at hkey e hro
  rw [e]
  have := allX l (fun f i => impl_polySearch_fits_p_L2 f (tab, l, (l.length : Int), i)) (fun d => mhas d.2 (keyB (d.1.map (valI tab)))) (.inr false) (.inl ()) (fun f i hi => ?_) (fun f => ?_) (n := fuel) (by unfold fuel; omega)
  · have this : impl_polySearch_fits_p_L2 fuel (tab, l, (l.length : Int), 0) = _ := this
    rw [this]
    cases l.all fun d => mhas d.2 (keyB (d.1.map (valI tab))) <;> rfl
  · obtain ⟨r, hr, j, hj, hla, e1, h1, h2, _⟩ := hkey _ (List.getElem_mem hi)
    simp only [impl_polySearch_fits_p_L2, inb_nat, hi, gd_nat hi, h1, h2, Option.bind_some, w64_succ (show i < 4611686018427387904 by omega)]
    rw [if_pos (by simp; omega)]
    cases mhas l[i].2 (keyB (l[i].1.map (valI tab))) <;> simp
  · simp [impl_polySearch_fits_p_L2]
end
end T
open Go Go.Va
namespace T
abbrev PS := Bool × Int × Int × DT
abbrev SIn (σ : Type) := Int × List Int × σ × PS × List Int × Unit
abbrev SOut (σ : Type) := List Int × σ × PS × List Int × Bool
def gL {σ : Type} (rec : SIn σ → Option (SOut σ)) : Nat → (Int × List Int × σ × PS × List Int × Unit × Int) → Option ((List Int × σ × PS × List Int × Unit) ⊕ (List Int × σ × PS × List Int × Unit × Bool))
 | 0, _ => none
 | n + 1, (at_, t1, t2, t3, t4, t5, x) =>
  if t3.1 = true then
   if decide (x < t3.2.1) then
    if inb at_ t4 then
     if decide ((gd t4 at_ 0) ≥ 0) then
      if inb at_ t4 then
       if (gd t4 at_ 0) != x then
        gL rec n (at_, t1, t2, t3, t4, (), w64 (x + 1))
       else
        if inb at_ t1 then
         (impl_polySearch_fits_p t3 (stt t1 at_ x) at_).bind fun r2 =>
          if r2 then
           (rec (w64 (at_ + 1), stt t1 at_ x, t2, t3, t4, ())).bind fun r3 =>
            if !r3.2.2.2.2 then
             some (.inr (r3.1, r3.2.1, r3.2.2.1, r3.2.2.2.1, (), false))
            else
             gL rec n (at_, r3.1, r3.2.1, r3.2.2.1, r3.2.2.2.1, (), w64 (x + 1))
          else
           gL rec n (at_, stt t1 at_ x, t2, t3, t4, (), w64 (x + 1))
        else none
      else none
     else
      if inb at_ t1 then
       (impl_polySearch_fits_p t3 (stt t1 at_ x) at_).bind fun r4 =>
        if r4 then
         (rec (w64 (at_ + 1), stt t1 at_ x, t2, t3, t4, ())).bind fun r5 =>
          if !r5.2.2.2.2 then
           some (.inr (r5.1, r5.2.1, r5.2.2.1, r5.2.2.2.1, (), false))
          else
           gL rec n (at_, r5.1, r5.2.1, r5.2.2.1, r5.2.2.2.1, (), w64 (x + 1))
        else
         gL rec n (at_, stt t1 at_ x, t2, t3, t4, (), w64 (x + 1))
      else none
    else none
   else
    some (.inl (t1, t2, t3, t4, ()))
  else none
def gBody {σ : Type} (cb : List Int → σ → Option (σ × Bool)) (rec : SIn σ → Option (SOut σ)) (x : SIn σ) : Option (SOut σ) :=
 if x.1 == (x.2.1.length : Int) then
  (cb x.2.1 x.2.2.1).bind fun r1 => some (x.2.1, r1.1, x.2.2.2.1, x.2.2.2.2.1, r1.2)
 else
  (gL rec fuel (x.1, x.2.1, x.2.2.1, x.2.2.2.1, x.2.2.2.2.1, (), 0)).bind fun s2 =>
   match s2 with
   | .inl s3 => some (s3.1, s3.2.1, s3.2.2.1, s3.2.2.2.1, true)
   | .inr s4 => some (s4.1, s4.2.1, s4.2.2.1, s4.2.2.2.1, s4.2.2.2.2.2)
def gF {σ : Type} (cb : List Int → σ → Option (σ × Bool)) : Nat → SIn σ → Option (SOut σ)
 | 0, _ => none
 | d + 1, x => gBody cb (gF cb d) x
def foldU {σ : Type} (cb : List Int → σ → Option (σ × Bool)) : List (List Int) → σ → Option (σ × Bool)
 | [], s => some (s, true)
 | t :: l, s => match cb t s with | some (s', true) => foldU cb l s' | some (s', false) => some (s', false) | none => none
theorem foldU_append {σ : Type} {cb : List Int → σ → Option (σ × Bool)} : ∀ (l l' : List (List Int)) (s : σ), foldU cb (l ++ l') s = match foldU cb l s with | some (s', true) => foldU cb l' s' | some (s', false) => some (s', false) | none => none
 | [], l', s => rfl
 | t :: l, l', s => by
  simp only [List.cons_append, foldU]
  cases hc : cb t s with
  | none => rfl
  | some q =>
   obtain ⟨s', b⟩ := q
   cases b with
   | false => rfl
   | true => exact foldU_append l l' s'
def mstB (given : List Int) (at' x : Nat) : Bool := !(decide (given.getD at' 0 ≥ 0) && given.getD at' 0 != (x : Int))
def extL (n : Nat) (given : List Int) (ok : List Int → Bool) : Nat → List Int → List (List Int)
 | 0, pre => [pre]
 | m + 1, pre => (List.range n).flatMap fun x => if mstB given pre.length x && ok (pre ++ [(x : Int)]) then extL n given ok m (pre ++ [(x : Int)]) else []
section
variable {n k : Nat} {rels : List RelT} {given : List Int}
def okB (n k : Nat) (rels : List RelT) (pre : List Int) : Bool := metB n k rels (pre.length - 1) pre
theorem gF_ok (h : RelsOk n k rels) (hg : given.length = n ^ k) {σ : Type} (cb : List Int → σ → Option (σ × Bool)) : ∀ (m d at' : Nat) (tab : List Int) (s : σ), at' + m = n ^ k → m < d → tab.length = n ^ k → (∀ x ∈ tab, 0 ≤ x ∧ x < 256) →
    ∀ s' b, foldU cb (extL n given (okB n k rels) m (tab.take at')) s = some (s', b) →
    ∃ tab' : List Int, tab'.length = n ^ k ∧ (∀ x ∈ tab', 0 ≤ x ∧ x < 256) ∧ tab'.take at' = tab.take at' ∧ gF cb d ((at' : Int), tab, s, (true, (n : Int), (k : Int), demD n k rels), given, ()) = some (tab', s', (true, (n : Int), (k : Int), demD n k rels), given, b) := by
  have hn := h.hn
  have hp := pow_le3 (n := n) (k := k) hn.2 h.hk.2
  intro m
  induction m with
  | zero =>
    intro d a tab s ha hd ht hv s' b hf
    obtain ⟨d, rfl⟩ : ∃ z, d = z + 1 := ⟨d - 1, by omega⟩
    have e : tab.take a = tab := List.take_of_length_le (by omega)
    rw [e] at hf
    simp only [extL, foldU] at hf
    refine ⟨tab, ht, hv, rfl, ?_⟩
    simp only [gF, gBody]
    rw [if_pos (by simp; omega)]
    cases hc : cb tab s with
    | none => rw [hc] at hf; exact absurd hf (by simp)
    | some q =>
      obtain ⟨s1, b1⟩ := q
      rw [hc] at hf
      have : s1 = s' ∧ b1 = b := by cases b1 <;> simpa using hf
      obtain ⟨rfl, rfl⟩ := this
      rfl
  | succ m ih =>
    intro d a tab s ha hd ht hv s' b hf
    obtain ⟨d, rfl⟩ : ∃ z, d = z + 1 := ⟨d - 1, by omega⟩
    have hat : a < n ^ k := by omega
    have key : ∀ (c x f : Nat) (tab1 : List Int) (s1 : σ), x + c = n → c < f → tab1.length = n ^ k → (∀ x ∈ tab1, 0 ≤ x ∧ x < 256) → tab1.take a = tab.take a → ∀ s' b,
        foldU cb ((List.range' x c).flatMap fun x => if mstB given (tab.take a).length x && okB n k rels (tab.take a ++ [(x : Int)]) then extL n given (okB n k rels) m (tab.take a ++ [(x : Int)]) else []) s1 = some (s', b) →
        ∃ tab' : List Int, tab'.length = n ^ k ∧ (∀ x ∈ tab', 0 ≤ x ∧ x < 256) ∧ tab'.take a = tab.take a ∧ gL (gF cb d) f ((a : Int), tab1, s1, (true, (n : Int), (k : Int), demD n k rels), given, (), (x : Int)) = some (if b then .inl (tab', s', (true, (n : Int), (k : Int), demD n k rels), given, ()) else .inr (tab', s', (true, (n : Int), (k : Int), demD n k rels), given, (), false)) := by
      intro c
      induction c with
      | zero =>
        intro x f tab1 s1 hx hf1 ht1 hv1 htk s' b hf2
        obtain ⟨f, rfl⟩ : ∃ z, f = z + 1 := ⟨f - 1, by omega⟩
        have : s1 = s' ∧ true = b := by simpa [foldU] using hf2
        obtain ⟨rfl, rfl⟩ := this
        refine ⟨tab1, ht1, hv1, htk, ?_⟩
        simp only [gL]
        rw [if_pos trivial, if_neg (by simp; omega)]; rfl
      | succ c ihc =>
        intro x f tab1 s1 hx hf1 ht1 hv1 htk s' b hf2
        obtain ⟨f, rfl⟩ : ∃ z, f = z + 1 := ⟨f - 1, by omega⟩
        have hlen : (tab.take a).length = a := by rw [List.length_take]; omega
        have hag : a < given.length := by omega
        have hat1 : a < tab1.length := by omega
        rw [List.range'_succ, List.flatMap_cons, foldU_append, hlen] at hf2
        rw [hlen] at ihc
        have hset : (tab1.set a (x : Int)).take (a + 1) = tab.take a ++ [(x : Int)] := by
          rw [List.take_succ_eq_append_getElem (by simp; omega), List.take_set_of_le (Nat.le_refl _), List.getElem_set_self, htk]
        have hsl : (tab1.set a (x : Int)).length = n ^ k := by simp [ht1]
        have hsv : ∀ y ∈ tab1.set a (x : Int), 0 ≤ y ∧ y < 256 := fun y hy => by
          rcases List.mem_or_eq_of_mem_set hy with h1 | h1
          · exact hv1 y h1
          · subst h1; omega
        have hst : (tab1.set a (x : Int)).take a = tab.take a := by rw [List.take_set_of_le (Nat.le_refl _), htk]
        have hfit := fits_ok h hsl hsv hat
        have hokB : okB n k rels (tab.take a ++ [(x : Int)]) = metB n k rels a (tab1.set a (x : Int)) := by
          unfold okB
          rw [List.length_append, hlen, List.length_singleton, Nat.add_sub_cancel, ← hset, metB_take]
        have hw : w64 ((x : Int) + 1) = ((x + 1 : Nat) : Int) := w64_succ (by omega)
        have hwa : w64 ((a : Int) + 1) = ((a + 1 : Nat) : Int) := w64_succ (by omega)
        have step : mstB given a x = true → ∀ R, R = (impl_polySearch_fits_p (true, (n : Int), (k : Int), demD n k rels) (tab1.set a (x : Int)) (a : Int)).bind (fun r4 =>
                if r4 then
                  (gF cb d (w64 ((a : Int) + 1), tab1.set a (x : Int), s1, (true, (n : Int), (k : Int), demD n k rels), given, ())).bind fun r5 =>
                    if !r5.2.2.2.2 then
                      some (.inr (r5.1, r5.2.1, r5.2.2.1, r5.2.2.2.1, (), false))
                    else
                      gL (gF cb d) f ((a : Int), r5.1, r5.2.1, r5.2.2.1, r5.2.2.2.1, (), w64 ((x : Int) + 1))
                else
                  gL (gF cb d) f ((a : Int), tab1.set a (x : Int), s1, (true, (n : Int), (k : Int), demD n k rels), given, (), w64 ((x : Int) + 1))) →
            ∃ tab' : List Int, tab'.length = n ^ k ∧ (∀ x ∈ tab', 0 ≤ x ∧ x < 256) ∧ tab'.take a = tab.take a ∧ R = some (if b then .inl (tab', s', (true, (n : Int), (k : Int), demD n k rels), given, ()) else .inr (tab', s', (true, (n : Int), (k : Int), demD n k rels), given, (), false)) := by
          intro hm R hR
          rw [hfit] at hR
          simp only [Option.bind_some] at hR
          rw [hm, hokB] at hf2
          cases hfi : metB n k rels a (tab1.set a (x : Int)) with
          | false =>
            rw [hfi] at hf2 hR
            simp only [Bool.and_false, Bool.false_eq_true, if_false, foldU] at hf2 hR
            rw [hw] at hR
            rw [hR]
            exact ihc (x + 1) f _ s1 (by omega) (by omega) hsl hsv hst s' b hf2
          | true =>
            rw [hfi] at hf2 hR
            simp only [Bool.and_true, if_true] at hf2 hR
            rw [hwa] at hR
            cases hq : foldU cb (extL n given (okB n k rels) m (tab.take a ++ [(x : Int)])) s1 with
            | none => rw [hq] at hf2; exact absurd hf2 (by simp)
            | some q =>
              obtain ⟨s2, b2⟩ := q
              rw [hq] at hf2
              rw [← hset] at hq
              obtain ⟨tab2, h1, h2, h3, h4⟩ := ih d (a + 1) _ s1 (by omega) (by omega) hsl hsv s2 b2 hq
              have h3' : tab2.take a = tab.take a := by
                have := congrArg (List.take a) h3
                rw [List.take_take, List.take_take, Nat.min_eq_left (by omega)] at this
                rw [this, hst]
              rw [h4] at hR
              simp only [Option.bind_some] at hR
              cases b2 with
              | false =>
                have : s2 = s' ∧ false = b := by simpa using hf2
                obtain ⟨rfl, rfl⟩ := this
                refine ⟨tab2, h1, h2, h3', ?_⟩
                rw [hR]; rfl
              | true =>
                simp only [Bool.not_true, Bool.false_eq_true, if_false, hw] at hR
                rw [hR]
                exact ihc (x + 1) f tab2 s2 (by omega) (by omega) h1 h2 h3' s' b hf2
        simp only [gL, stt_nat, inb_nat, hag, hat1, if_true]
        rw [if_pos (by simp; omega)]
        by_cases hc1 : gd given (a : Int) 0 ≥ 0
        · rw [if_pos (decide_eq_true hc1)]
          by_cases hc2 : gd given (a : Int) 0 = (x : Int)
          · rw [if_neg (by simpa using hc2)]
            exact step (by unfold mstB; rw [show given.getD a 0 = (x : Int) from hc2]; simp) _ rfl
          · rw [if_pos (by simpa using hc2), hw]
            have hm : mstB given a x = false := by
              unfold mstB
              rw [decide_eq_true (show given.getD a 0 ≥ 0 from hc1)]
              simp only [Bool.true_and, Bool.not_eq_false', bne_iff_ne]; exact hc2
            rw [hm] at hf2
            simp only [Bool.false_and, Bool.false_eq_true, if_false, foldU] at hf2
            exact ihc (x + 1) f tab1 s1 (by omega) (by omega) ht1 hv1 htk s' b hf2
        · rw [if_neg (by simpa using hc1)]
          exact step (by unfold mstB; rw [decide_eq_false (show ¬ given.getD a 0 ≥ 0 from hc1)]; rfl) _ rfl
    simp only [extL] at hf
    rw [List.range_eq_range'] at hf
    obtain ⟨tab', h1, h2, h3, h4⟩ := key n 0 fuel tab s (by omega) (by unfold fuel; omega) ht hv rfl s' b hf
    refine ⟨tab', h1, h2, h3, ?_⟩
    simp only [gF, gBody]
    rw [if_neg (by simp; omega)]
    have h4 : gL (gF cb d) fuel ((a : Int), tab, s, (true, (n : Int), (k : Int), demD n k rels), given, (), 0) = _ := h4
    rw [h4]
    cases b <;> rfl
end
end T
open Go Go.Va
namespace T
section
variable {n k : Nat} {rels : List RelT} {given : List Int}
theorem spec_l13Has_ok {m : Nat} {r : RelT} (h : ROk n m r) {t : List Int} (ht : t.length = m) : spec_l13Has r t = some (decide (t ∈ r.2)) := by
 have hm := h.hm
 have har := h.ar
 have hmany := h.many
 unfold spec_l13Has
 obtain ⟨q, h3, _⟩ := spec_l8Find_ok (list := r.2) (t := t) (k := m) (by omega) (by omega) h.tl ht h.inc
 rw [if_neg (by simp; omega), h3]; rfl
theorem holds_ok (h : RelsOk n k rels) {tab : List Int} {at' : Nat} (ht : tab.length = at' + 1) : spec_l14Holds ((demN n k rels).getD at' []) tab = some (okB n k rels tab) := by
 obtain ⟨hlen, hroom⟩ := demN_len h
 have hkey : ∀ d ∈ (demN n k rels).getD at' [], ∃ r ∈ rels, ∃ j, j < r.2.length ^ k ∧ lastP (PL n k r j) = at' ∧ d = (cI (PL n k r j), r) ∧ (∀ v ∈ d.1, 0 ≤ v ∧ v < tab.length) ∧ d.1.length ≤ 3 ∧ spec_l13Has d.2 (d.1.map (valI tab)) = some (decide (d.1.map (valI tab) ∈ d.2.2)) := fun d hd => by
  obtain ⟨r, hr, j, hj, hla, rfl⟩ := (demN_mem h at' d).1 hd
  have hrk := h.ok r hr
  have hm := hrk.hm
  have hpl : ∀ v ∈ cI (PL n k r j), 0 ≤ v ∧ v < tab.length := fun v hv => by
   unfold cI at hv
   obtain ⟨y, hy, rfl⟩ := List.mem_map.1 hv
   have := (lastP_le (PL n k r j) 0).2 y hy
   unfold lastP at hla
   omega
  refine ⟨r, hr, j, hj, hla, rfl, hpl, by rw [cI_len, hrk.pl_len]; omega, spec_l13Has_ok hrk (by rw [List.length_map, cI_len, hrk.pl_len])⟩
 have e : okB n k rels tab = ((demN n k rels).getD at' []).all fun d => decide (d.1.map (valI tab) ∈ d.2.2) := by
  rw [Bool.eq_iff_iff, List.all_eq_true]
  unfold okB metB
  rw [show tab.length - 1 = at' by omega]
  simp only [List.all_eq_true, Bool.or_eq_true, Bool.not_eq_true', decide_eq_false_iff_not, decide_eq_true_eq, List.mem_range]
  constructor
  ·intro h1 d hd
   obtain ⟨r, hr, j, hj, hla, e1, _⟩ := hkey d hd
   rw [e1]
   rcases h1 r hr j hj with h3 | h3
   ·exact absurd hla h3
   ·exact h3
  ·intro h1 r hr j hj
   by_cases hla : lastP (PL n k r j) = at'
   ·right
    exact h1 _ ((demN_mem h at' (cI (PL n k r j), r)).2 ⟨r, hr, j, hj, hla, rfl⟩)
   ·exact .inl hla
 have hro := hroom at'
 rw [e]
 generalize (demN n k rels).getD at' [] = l at hkey hro
 unfold spec_l14Holds
 have := allX l (fun f i => spec_l14Holds_L2 f (l, tab, i)) (fun d => decide (d.1.map (valI tab) ∈ d.2.2)) (.inr false) (.inl ()) (fun f i hi => ?_) (fun f => ?_) (n := fuel) (by unfold fuel; omega)
 ·have this : spec_l14Holds_L2 fuel (l, tab, 0) = _ := this
  rw [this]
  cases l.all fun d => decide (d.1.map (valI tab) ∈ d.2.2) <;> rfl
 ·obtain ⟨r, hr, j, hj, hla, e1, h1, h2, h3⟩ := hkey _ (List.getElem_mem hi)
  have h6 := forS l[i].1.length (fun f (o : List Int) q => spec_l14Holds_L6 f (l, tab, (i : Int), o, q)) (fun q => (l[i].1.take q).map (valI tab)) (r := some (l, tab, (i : Int), l[i].1.map (valI tab))) (fun f q hq => ?_) (fun f => ?_) (n := fuel) (by unfold fuel; omega)
  ·have h6 : spec_l14Holds_L6 fuel (l, tab, (i : Int), [], 0) = _ := h6
   simp only [spec_l14Holds_L2, h6, Option.bind_some, inb_nat, hi, gd_nat hi, h3, w64_succ (show i < 4611686018427387904 by omega), if_true]
   rw [if_pos (by simp; omega)]
   by_cases hc : l[i].1.map (valI tab) ∈ l[i].2.2
   ·rw [decide_eq_true hc]; simp
   ·rw [decide_eq_false hc]; simp
  ·obtain ⟨hv0, hv1⟩ := h1 _ (List.getElem_mem hq)
   have hin : inb l[i].1[q] tab := ⟨hv0, hv1⟩
   have hval : gd tab l[i].1[q] 0 = valI tab l[i].1[q] := rfl
   have htk : (l[i].1.take (q + 1)).map (valI tab) = (l[i].1.take q).map (valI tab) ++ [valI tab l[i].1[q]] := by
    rw [List.take_succ_eq_append_getElem hq, List.map_append]; rfl
   simp only [spec_l14Holds_L6, inb_nat, hi, gd_nat hi, hq, gd_nat hq, hin, hval, htk, if_true, w64_succ (show q < 4611686018427387904 by omega)]
   rw [if_pos (by simp; omega), if_pos (by simp; unfold lim; omega)]
  ·simp only [spec_l14Holds_L6, inb_nat, hi, gd_nat hi, List.take_length, if_true]
   rw [if_neg (by simp)]
 ·simp [spec_l14Holds_L2]
abbrev SS := List (List Int) × Int × Int
def stopB (s : SS) : Bool := s.2.2 == 1 && decide (s.2.1 > 0)
def sCb (t : List Int) (s : SS) : Option (SS × Bool) :=
 let s' : SS := (if decide ((s.1.length : Int) < s.2.2) then s.1 ++ [t] else s.1, s.2.1 + 1, s.2.2)
 some (s', !stopB s')
theorem foldS_cnt : ∀ (l : List (List Int)) (s s' : SS) (b : Bool), foldU sCb l s = some (s', b) → s.2.1 ≤ s'.2.1 ∧ s'.2.1 ≤ s.2.1 + l.length ∧ s'.1.length ≤ s.1.length + l.length ∧ s'.2.2 = s.2.2 ∧ (stopB s = false → b = !stopB s')
 | [], s, s', b, h => by
  have : s = s' ∧ true = b := by simpa [foldU] using h
  obtain ⟨rfl, rfl⟩ := this
  exact ⟨by omega, by simp, by simp, rfl, fun h => by simp [h]⟩
 | t :: l, s, s', b, h => by
  simp only [foldU, sCb] at h
  generalize hs1 : ((if decide ((s.1.length : Int) < s.2.2) then s.1 ++ [t] else s.1, s.2.1 + 1, s.2.2) : SS) = s1 at h
  have h1 : s1.2.1 = s.2.1 + 1 := by rw [← hs1]
  have h2 : s1.1.length ≤ s.1.length + 1 := by
   rw [← hs1]
   show (if decide ((s.1.length : Int) < s.2.2) then s.1 ++ [t] else s.1).length ≤ _
   split <;> simp
  have h3 : s1.2.2 = s.2.2 := by rw [← hs1]
  cases hb : stopB s1 with
  | true =>
   rw [hb] at h
   have : s1 = s' ∧ false = b := by simpa using h
   obtain ⟨rfl, rfl⟩ := this
   rw [List.length_cons]
   exact ⟨by omega, by omega, by omega, h3, fun _ => by rw [hb]; rfl⟩
  | false =>
   rw [hb] at h
   obtain ⟨g1, g2, g3, g4, g5⟩ := foldS_cnt l s1 s' b h
   rw [List.length_cons]
   exact ⟨by omega, by push_cast; omega, by omega, by omega, fun _ => g5 hb⟩
theorem foldS_tot : ∀ (l : List (List Int)) (s : SS), ∃ q, foldU sCb l s = some q
 | [], s => ⟨_, rfl⟩
 | t :: l, s => by
  simp only [foldU, sCb]
  generalize ((if decide ((s.1.length : Int) < s.2.2) then s.1 ++ [t] else s.1, s.2.1 + 1, s.2.2) : SS) = s1
  cases hb : stopB s1 with
  | true => exact ⟨_, rfl⟩
  | false => exact foldS_tot l s1
theorem go_ok (h : RelsOk n k rels) (hg : given.length = n ^ k) : ∀ (m d : Nat) (pre : List Int) (s : SS), pre.length + m = n ^ k → m < d → stopB s = false → 0 ≤ s.2.1 → s.2.2 ≤ 1000000 → s.2.1 + (extL n given (okB n k rels) m pre).length ≤ 4611686018427387904 →
    ∀ s' b, foldU sCb (extL n given (okB n k rels) m pre) s = some (s', b) → spec_l14Go d ((n : Int), demN n k rels, given, pre, s) = some s' := by
  have hn := h.hn
  have hp := pow_le3 (n := n) (k := k) hn.2 h.hk.2
  obtain ⟨hlenN, _⟩ := demN_len h
  intro m
  induction m with
  | zero =>
    intro d pre s hpre hd hst h0 hr1 hr2 s' b hf
    obtain ⟨d, rfl⟩ : ∃ z, d = z + 1 := ⟨d - 1, by omega⟩
    simp only [extL, foldU, sCb] at hf
    simp only [spec_l14Go, spec_l14Go_body]
    simp only [extL, List.length_singleton] at hr2
    have hs' : s' = (if decide ((s.1.length : Int) < s.2.2) then s.1 ++ [pre] else s.1, s.2.1 + 1, s.2.2) := by
      cases hb : stopB ((if decide ((s.1.length : Int) < s.2.2) then s.1 ++ [pre] else s.1, s.2.1 + 1, s.2.2) : SS) <;> rw [hb] at hf <;> simp at hf <;> rw [← hf.1] <;> simp
    have hw : w64 (s.2.1 + 1) = s.2.1 + 1 := w64_id (by omega) (by omega)
    rw [if_pos (by simp; omega), hs', hw, spec_l1Own_ok (by omega)]
    by_cases hc : (s.1.length : Int) < s.2.2
    · rw [if_pos (decide_eq_true hc), if_pos (decide_eq_true hc)]
      simp only [Option.bind_some]
      rw [if_pos (by rw [List.length_singleton]; unfold lim; omega)]
    · rw [if_neg (by simpa using hc), if_neg (by simpa using hc)]
  | succ m ih =>
    intro d pre s hpre hd hst h0 hr1 hr2 s' b hf
    obtain ⟨d, rfl⟩ : ∃ z, d = z + 1 := ⟨d - 1, by omega⟩
    have hat : pre.length < n ^ k := by omega
    have key : ∀ (c x f : Nat) (s1 : SS), x + c = n → c < f → stopB s1 = false → 0 ≤ s1.2.1 →
        s1.2.2 ≤ 1000000 →
        s1.2.1 + ((List.range' x c).flatMap fun x => if mstB given pre.length x && okB n k rels (pre ++ [(x : Int)]) then extL n given (okB n k rels) m (pre ++ [(x : Int)]) else []).length ≤ 4611686018427387904 → ∀ s' b,
        foldU sCb ((List.range' x c).flatMap fun x => if mstB given pre.length x && okB n k rels (pre ++ [(x : Int)]) then extL n given (okB n k rels) m (pre ++ [(x : Int)]) else []) s1 = some (s', b) →
        spec_l14Go_L8 (spec_l14Go d) f ((n : Int), demN n k rels, given, pre, s1, ([], (0, 0)), (pre.length : Int), (x : Int)) = some (if b then .inl (s', ([], (0, 0))) else .inr s') := by
      intro c
      induction c with
      | zero =>
        intro x f s1 hx hf1 hst1 h01 hr1 hr2 s' b hf2
        obtain ⟨f, rfl⟩ : ∃ z, f = z + 1 := ⟨f - 1, by omega⟩
        have : s1 = s' ∧ true = b := by simpa [foldU] using hf2
        obtain ⟨rfl, rfl⟩ := this
        simp only [spec_l14Go_L8]
        rw [if_neg (by simp; omega)]; rfl
      | succ c ihc =>
        intro x f s1 hx hf1 hst1 h01 hr1 hr2 s' b hf2
        obtain ⟨f, rfl⟩ : ∃ z, f = z + 1 := ⟨f - 1, by omega⟩
        have hag : pre.length < given.length := by omega
        have haN : pre.length < (demN n k rels).length := by omega
        rw [List.range'_succ, List.flatMap_cons, foldU_append] at hf2
        rw [List.range'_succ, List.flatMap_cons, List.length_append] at hr2
        have hol := holds_ok h (tab := pre ++ [(x : Int)]) (at' := pre.length) (by simp)
        have hw : w64 ((x : Int) + 1) = ((x + 1 : Nat) : Int) := w64_succ (by omega)
        have step : mstB given pre.length x = true → ∀ R, R = (spec_l14Holds (gd (demN n k rels) (pre.length : Int) []) (pre ++ [(x : Int)])).bind (fun r6 =>
                  if r6 then
                    (spec_l14Go d ((n : Int), demN n k rels, given, pre ++ [(x : Int)], (s1.1, (s1.2.1, s1.2.2)))).bind fun r7 =>
                      if r7.2.2 == 1 then
                        if decide (r7.2.1 > 0) then
                          some (.inr (r7.1, (r7.2.1, r7.2.2)))
                        else
                          spec_l14Go_L8 (spec_l14Go d) f ((n : Int), demN n k rels, given, pre, (r7.1, (r7.2.1, r7.2.2)), ([], (0, 0)), (pre.length : Int), w64 ((x : Int) + 1))
                      else
                        spec_l14Go_L8 (spec_l14Go d) f ((n : Int), demN n k rels, given, pre, (r7.1, (r7.2.1, r7.2.2)), ([], (0, 0)), (pre.length : Int), w64 ((x : Int) + 1))
                  else
                    if s1.2.2 == 1 then
                      if decide (s1.2.1 > 0) then
                        some (.inr (s1.1, (s1.2.1, s1.2.2)))
                      else
                        spec_l14Go_L8 (spec_l14Go d) f ((n : Int), demN n k rels, given, pre, (s1.1, (s1.2.1, s1.2.2)), ([], (0, 0)), (pre.length : Int), w64 ((x : Int) + 1))
                    else
                      spec_l14Go_L8 (spec_l14Go d) f ((n : Int), demN n k rels, given, pre, (s1.1, (s1.2.1, s1.2.2)), ([], (0, 0)), (pre.length : Int), w64 ((x : Int) + 1))) →
            R = some (if b then .inl (s', ([], (0, 0))) else .inr s') := by
          intro hm R hR
          have hgd : gd (demN n k rels) (pre.length : Int) [] = (demN n k rels).getD pre.length [] := rfl
          rw [hgd, hol] at hR
          simp only [Option.bind_some, hw] at hR
          rw [hm] at hf2 hr2
          have hnst : ∀ (z : SS) {γ : Type} (A B : γ), stopB z = false → (if z.2.2 == 1 then if decide (z.2.1 > 0) then A else B else B) = B := fun z γ A B hz => by
            unfold stopB at hz
            by_cases h1 : z.2.2 = 1
            · rw [if_pos (by simpa using h1), if_neg (by simp [h1] at hz; simpa using hz)]
            · rw [if_neg (by simpa using h1)]
          have hyst : ∀ (z : SS) {γ : Type} (A B : γ), stopB z = true → (if z.2.2 == 1 then if decide (z.2.1 > 0) then A else B else B) = A := fun z γ A B hz => by
            unfold stopB at hz
            simp only [Bool.and_eq_true] at hz
            rw [if_pos hz.1, if_pos hz.2]
          cases hfi : okB n k rels (pre ++ [(x : Int)]) with
          | false =>
            rw [hfi] at hf2 hr2 hR
            simp only [Bool.and_false, Bool.false_eq_true, if_false, foldU, List.length_nil, Nat.zero_add] at hf2 hr2 hR
            rw [hnst s1 _ _ hst1] at hR
            rw [hR]
            exact ihc (x + 1) f s1 (by omega) (by omega) hst1 h01 hr1 hr2 s' b hf2
          | true =>
            rw [hfi] at hf2 hr2 hR
            simp only [Bool.and_true, if_true] at hf2 hr2 hR
            obtain ⟨⟨s2, b2⟩, hq⟩ := foldS_tot (extL n given (okB n k rels) m (pre ++ [(x : Int)])) s1
            obtain ⟨g1, g2, g3, g4, g5⟩ := foldS_cnt _ _ _ _ hq
            have g5 := g5 hst1
            rw [hq] at hf2
            have hrec := ih d (pre ++ [(x : Int)]) s1 (by simp; omega) (by omega) hst1 h01 (by omega) (by push_cast at hr2; omega) s2 b2 hq
            have hrec : spec_l14Go d ((n : Int), demN n k rels, given, pre ++ [(x : Int)], (s1.1, (s1.2.1, s1.2.2))) = some s2 := hrec
            rw [hrec] at hR
            simp only [Option.bind_some] at hR
            cases hb2 : stopB s2 with
            | true =>
              rw [hb2] at g5
              subst g5
              have : s2 = s' ∧ false = b := by simpa using hf2
              obtain ⟨rfl, rfl⟩ := this
              rw [hyst s2 _ _ hb2] at hR
              rw [hR]; rfl
            | false =>
              rw [hb2] at g5
              subst g5
              rw [hnst s2 _ _ hb2] at hR
              rw [hR]
              exact ihc (x + 1) f s2 (by omega) (by omega) hb2 (by omega) (by push_cast at hr2; omega) (by push_cast at hr2; omega) s' b hf2
        simp only [spec_l14Go_L8, inb_nat, hag, haN, if_true, spec_l1Own_ok (show pre.length ≤ 1099511627775 by omega), Option.bind_some]
        rw [if_pos (by simp; omega)]
        have hlim : pre.length + [(x : Int)].length ≤ lim := by rw [List.length_singleton]; unfold lim; omega
        rw [if_pos hlim]
        by_cases hc1 : gd given (pre.length : Int) 0 ≥ 0
        · rw [if_pos (decide_eq_true hc1)]
          by_cases hc2 : gd given (pre.length : Int) 0 = (x : Int)
          · rw [if_neg (by simpa using hc2)]
            exact step (by unfold mstB; rw [show given.getD pre.length 0 = (x : Int) from hc2]; simp) _ rfl
          · rw [if_pos (by simpa using hc2), hw]
            have hm : mstB given pre.length x = false := by
              unfold mstB
              rw [decide_eq_true (show given.getD pre.length 0 ≥ 0 from hc1)]
              simp only [Bool.true_and, Bool.not_eq_false', bne_iff_ne]; exact hc2
            rw [hm] at hf2 hr2
            simp only [Bool.false_and, Bool.false_eq_true, if_false, foldU, List.length_nil, Nat.zero_add] at hf2 hr2
            exact ihc (x + 1) f s1 (by omega) (by omega) hst1 h01 hr1 hr2 s' b hf2
        · rw [if_neg (by simpa using hc1)]
          exact step (by unfold mstB; rw [decide_eq_false (show ¬ given.getD pre.length 0 ≥ 0 from hc1)]; rfl) _ rfl
    simp only [extL] at hf hr2
    rw [List.range_eq_range'] at hf hr2
    have h4 := key n 0 fuel s (by omega) (by unfold fuel; omega) hst h0 hr1 hr2 s' b hf
    simp only [spec_l14Go, spec_l14Go_body]
    rw [if_neg (by simp; omega)]
    have h4 : spec_l14Go_L8 (spec_l14Go d) fuel ((n : Int), demN n k rels, given, pre, (s.1, (s.2.1, s.2.2)), ([], (0, 0)), (pre.length : Int), 0) = _ := h4
    rw [h4]
    cases b <;> rfl
end
end T
open Go Go.Va
namespace T
theorem eachLP_L (rec) : ∀ f x, impl_polySearch_each_c1_impl_listPolys_c1_L4 rec f x = gL rec f x
 | 0, _ => rfl
 | f + 1, (a, b, c, d, e, g, x) => by simp only [impl_polySearch_each_c1_impl_listPolys_c1_L4, gL, eachLP_L rec f]
def lpCb (t : List Int) (s : List Opn × Int) : Option ((List Opn × Int) × Bool) := (impl_listPolys_c1 t s.1 s.2).bind fun r => some ((r.1, r.2.1), r.2.2)
theorem eachLP : ∀ d x, impl_polySearch_each_c1_impl_listPolys_c1 d x = gF lpCb d x
 | 0, _ => rfl
 | d + 1, (a, t, (s1, s2), ps, g, u) => by
  have e : impl_polySearch_each_c1_impl_listPolys_c1 d = gF lpCb d := funext fun x => eachLP d x
  simp only [impl_polySearch_each_c1_impl_listPolys_c1, gF, gBody, impl_polySearch_each_c1_impl_listPolys_c1_body, eachLP_L, e]
  split
  ·unfold lpCb; cases impl_listPolys_c1 t s1 s2 <;> rfl
  ·congr 1; funext z; cases z <;> rfl
section
variable {n k : Nat} {rels : List RelT} {given : List Int}
theorem ext_len {ok : List Int → Bool} : ∀ (m : Nat) (pre : List Int), (extL n given ok m pre).length ≤ n ^ m
 | 0, pre => by simp [extL]
 | m + 1, pre => by
  simp only [extL]
  have key : ∀ (l : List Nat), (l.flatMap fun x => if mstB given pre.length x && ok (pre ++ [(x : Int)]) then extL n given ok m (pre ++ [(x : Int)]) else []).length ≤ l.length * n ^ m := by
   intro l
   induction l with
   | nil => simp
   | cons x l ih =>
    rw [List.flatMap_cons, List.length_append, List.length_cons, Nat.succ_mul]
    have : (if mstB given pre.length x && ok (pre ++ [(x : Int)]) then extL n given ok m (pre ++ [(x : Int)]) else []).length ≤ n ^ m := by
     split
     ·exact ext_len m _
     ·simp
    omega
  have := key (List.range n)
  rw [List.length_range] at this
  rw [Nat.pow_succ, Nat.mul_comm]
  exact this
theorem ext_mem {ok : List Int → Bool} : ∀ (m : Nat) (pre t : List Int), t ∈ extL n given ok m pre → t.length = pre.length + m ∧ ((∀ x ∈ pre, 0 ≤ x ∧ x < (n : Int)) → ∀ x ∈ t, 0 ≤ x ∧ x < (n : Int))
 | 0, pre, t, h => by simp only [extL, List.mem_singleton] at h; subst h; exact ⟨rfl, fun h => h⟩
 | m + 1, pre, t, h => by
  simp only [extL, List.mem_flatMap] at h
  obtain ⟨x, hx, h⟩ := h
  have hx := List.mem_range.1 hx
  split at h
  ·obtain ⟨h1, h2⟩ := ext_mem m _ t h
   refine ⟨by rw [h1]; simp; omega, fun hp => h2 fun y hy => ?_⟩
   rcases List.mem_append.1 hy with h3 | h3
   ·exact hp y h3
   ·rw [List.mem_singleton.1 h3]; omega
  ·simp at h
def allT (n k : Nat) (rels : List RelT) (given : List Int) : List (List Int) := extL n given (okB n k rels) (n ^ k) []
theorem allT_mem {t : List Int} (h : t ∈ allT n k rels given) : t.length = n ^ k ∧ ∀ x ∈ t, 0 ≤ x ∧ x < (n : Int) := by
 obtain ⟨h1, h2⟩ := ext_mem _ _ _ h
 exact ⟨by rw [h1]; simp, h2 fun x hx => by simp at hx⟩
theorem allT_len : (allT n k rels given).length ≤ n ^ n ^ k := ext_len _ _
theorem foldS_many {most : Int} (h1 : most ≠ 1) : ∀ (l : List (List Int)) (f : List (List Int)) (c : Int), foldU sCb l (f, c, most) = some ((f ++ l.take (most - f.length).toNat, c + l.length, most), true)
 | [], f, c => by simp [foldU]
 | t :: l, f, c => by
  have hns : ∀ (f' : List (List Int)) (c' : Int), stopB (f', c', most) = false := fun f' c' => by unfold stopB; simp [h1]
  simp only [foldU, sCb, hns, Bool.not_false]
  rw [foldS_many h1 l]
  by_cases hc : (f.length : Int) < most
  ·rw [if_pos (by simpa using hc)]
   have e1 : (most - (f.length : Int)).toNat = (most - ((f ++ [t]).length : Int)).toNat + 1 := by rw [List.length_append, List.length_singleton]; omega
   rw [e1, List.take_succ_cons]
   simp; omega
  ·rw [if_neg (by simpa using hc)]
   have e1 : (most - (f.length : Int)).toNat = 0 := by omega
   rw [e1]; simp; omega
theorem spec_l14All_ok (h : RelsOk n k rels) (hg : given.length = n ^ k) (hz : n ^ n ^ k ≤ 4611686018427387904) {most : Int} (hm : most ≤ 1000000) :
    ∃ s b, foldU sCb (allT n k rels given) ([], 0, most) = some (s, b) ∧ spec_l14All (n : Int) rels (k : Int) given most = some s := by
  obtain ⟨⟨s, b⟩, hf⟩ := foldS_tot (allT n k rels given) ([], 0, most)
  refine ⟨s, b, hf, ?_⟩
  have := go_ok h hg (n ^ k) fuel [] ([], 0, most) (by simp) (by have := pow_le3 (n := n) (k := k) h.hn.2 h.hk.2; unfold fuel; omega) (by unfold stopB; simp) (by simp) hm (by have := allT_len (n := n) (k := k) (rels := rels) (given := given); unfold allT at this; simp; omega) s b hf
  unfold spec_l14All
  rw [spec_l14Needs_ok h]
  simp only [Option.bind_some, this]
theorem each_ok (h : RelsOk n k rels) (hg : given.length = n ^ k) {σ : Type} (cb : List Int → σ → Option (σ × Bool)) {s s' : σ} {b : Bool} (hf : foldU cb (allT n k rels given) s = some (s', b)) :
    ∃ r : SOut σ, gF cb fuel (0, List.replicate (Int.toNat (given.length : Int)) (0 : Int), s, (true, (n : Int), (k : Int), demD n k rels), given, ()) = some r ∧ r.2.1 = s' := by
  have hp := pow_le3 (n := n) (k := k) h.hn.2 h.hk.2
  obtain ⟨tab', h1, h2, h3, h4⟩ := gF_ok h hg cb (n ^ k) fuel 0 (List.replicate (Int.toNat (given.length : Int)) (0 : Int)) s (by omega) (by unfold fuel; omega) (by rw [List.length_replicate, hg, Int.toNat_natCast]) (fun x hx => by rw [(List.mem_replicate.1 hx).2]; omega) s' b hf
  exact ⟨_, h4, rfl⟩
theorem foldLP {k : Int} : ∀ (l : List (List Int)) (f : List Opn), (∀ t ∈ l, t.length ≤ 1000) → f.length ≤ 300 → ∃ s b, foldU lpCb l (f, k) = some (s, b) ∧ (f.length + l.length ≤ 300 → s = (f ++ l.map fun t => (k, t), k)) ∧ (300 < f.length + l.length → 300 < s.1.length)
 | [], f, _, hf => ⟨(f, k), true, rfl, fun _ => by simp, fun h => by simp at h; omega⟩
 | t :: l, f, ht, hf => by
  have hcl : impl_clone t = some t := by
   unfold impl_clone
   have := ht t (by simp)
   rw [if_pos (by simp; unfold lim; omega)]; simp
  have hcb : lpCb t (f, k) = some ((f ++ [(k, t)], k), decide (((f ++ [(k, t)]).length : Int) ≤ 300)) := by
   unfold lpCb impl_listPolys_c1
   simp only [hcl, Option.bind_some]
   rw [if_pos (by rw [List.length_singleton]; unfold lim; omega)]; rfl
  simp only [foldU, hcb]
  by_cases hc : f.length + 1 ≤ 300
  ·rw [decide_eq_true (by simp; omega)]
   obtain ⟨s, b, h1, h2, h3⟩ := foldLP l (f ++ [(k, t)]) (fun t ht' => ht t (List.mem_cons_of_mem _ ht')) (by simp; omega)
   refine ⟨s, b, h1, fun h => ?_, fun h => h3 (by simp at h ⊢; omega)⟩
   rw [h2 (by simp at h ⊢; omega)]; simp
  ·rw [decide_eq_false (by simp; omega)]
   refine ⟨_, _, rfl, fun h => ?_, fun h => ?_⟩
   ·simp at h; omega
   ·show 300 < (f ++ [(k, t)]).length
    simp; omega
def listR (k : Nat) (l : List (List Int)) : List Opn × Bool := if l.length ≤ 300 then (l.map fun t => ((k : Int), t), true) else ([], false)
theorem impl_listPolys_ok (h : RelsOk n k rels) (hg : given.length = n ^ k) : impl_listPolys (n : Int) rels (k : Int) given = some (listR k (allT n k rels given)) := by
 have hp := pow_le3 (n := n) (k := k) h.hn.2 h.hk.2
 obtain ⟨s, b, h1, h2, h3⟩ := foldLP (k := (k : Int)) (allT n k rels given) [] (fun t ht => by rw [(allT_mem ht).1]; omega) (by simp)
 obtain ⟨r, h4, h5⟩ := each_ok h hg lpCb h1
 unfold impl_listPolys impl_polySearch_each_impl_listPolys_c1
 rw [impl_newPolySearch_ok h]
 simp only [Option.bind_some, eachLP, h4]
 rw [if_pos (by unfold lim; omega)]
 simp only [Option.bind_some, h5]
 unfold listR
 by_cases hc : (allT n k rels given).length ≤ 300
 ·have := h2 (by simpa using hc)
  rw [this, if_pos hc, if_neg (by simp; omega)]; simp
 ·have := h3 (by simp; omega)
  rw [if_pos (by simp; omega), if_neg hc]
theorem spec_l12Ops_ok {l : List (List Int)} (hl : l.length ≤ 1000) (ht : ∀ t ∈ l, t.length ≤ 1000) : spec_l12Ops (k : Int) l = some (l.map fun t => ((k : Int), t)) := by
 unfold spec_l12Ops
 have := forS l.length (fun f o i => spec_l12Ops_L3 f ((k : Int), l, o, i)) (fun q => (l.take q).map fun t => ((k : Int), t)) (r := some (l.map fun t => ((k : Int), t))) (fun f q hq => ?_) (fun f => ?_) (n := fuel) (by unfold fuel; omega)
 ·have this : spec_l12Ops_L3 fuel ((k : Int), l, [], 0) = _ := this
  rw [this]; rfl
 ·have := ht _ (List.getElem_mem hq)
  have e : (l.take (q + 1)).map (fun t => ((k : Int), t)) = (l.take q).map (fun t => ((k : Int), t)) ++ [((k : Int), l[q])] := by rw [List.take_succ_eq_append_getElem hq, List.map_append]; rfl
  simp only [spec_l12Ops_L3, inb_nat, hq, gd_nat hq, spec_l1Own_ok (show l[q].length ≤ 1099511627775 by omega), Option.bind_some, e, if_true, w64_succ (show q < 4611686018427387904 by omega)]
  rw [if_pos (by simp; omega), if_pos (by simp; unfold lim; omega)]
 ·simp only [spec_l12Ops_L3, List.take_length]
  rw [if_neg (by simp)]
theorem spec_list_ok (h : RelsOk n k rels) (hg : given.length = n ^ k) (hz : n ^ n ^ k ≤ 4611686018427387904) : ∃ s : SS, spec_l14All (n : Int) rels (k : Int) given 300 = some s ∧ s.2.1 = ((allT n k rels given).length : Int) ∧ ((allT n k rels given).length ≤ 300 → s.1 = allT n k rels given) := by
 obtain ⟨s, b, h1, h2⟩ := spec_l14All_ok h hg hz (most := 300) (by omega)
 rw [foldS_many (by omega)] at h1
 have := (Option.some.inj h1).symm
 simp only [Prod.mk.injEq] at this
 obtain ⟨rfl, rfl⟩ := this
 exact ⟨_, h2, by simp, fun h => by
  show [] ++ (allT n k rels given).take _ = _
  rw [List.nil_append, List.take_of_length_le (by simp; omega)]⟩
def firstR (k : Nat) (l : List (List Int)) : Opn × Bool := match l with | [] => ((0, []), false) | t :: _ => (((k : Int), t), true)
end
end T
