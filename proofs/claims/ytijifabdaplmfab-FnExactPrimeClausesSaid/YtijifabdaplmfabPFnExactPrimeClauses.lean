/- Plain lemmas on the typed functions of the program, and the plain law of FnExactPrimeClauses; no conditions. -/
import Derived.Test.YtijifabdaplmfabV1
import Derived.Test.YtijifabdaplmfabV5
import Derived.KernelRfl
set_option linter.all false
namespace Go.Va
theorem w64_def (x : Int) : w64 x = (x + 9223372036854775808) % 18446744073709551616 - 9223372036854775808 := by
 simp [w64, IntKind.wrap, IntKind.bits, IntKind.signed]
 split <;> omega
theorem w64_id {x : Int} (h1 : -9223372036854775808 ≤ x) (h2 : x ≤ 9223372036854775807) : w64 x = x := by
 rw [w64_def]; omega
theorem w64_succ {k : Nat} (h : k < 4611686018427387904) : w64 ((k : Int) + 1) = ((k + 1 : Nat) : Int) := by
 rw [w64_id (by omega) (by omega)]; rfl
theorem inb_nat {α : Type} {k : Nat} {xs : List α} : inb (k : Int) xs ↔ k < xs.length := by
 unfold inb; omega
theorem gd_nat {α : Type} {k : Nat} {xs : List α} {d : α} (h : k < xs.length) : gd xs (k : Int) d = xs[k] := by
 unfold gd; simp [h]
theorem stt_nat {α : Type} {k : Nat} {xs : List α} {x : α} : stt xs (k : Int) x = xs.set k x := by
 unfold stt; simp
def runX {α σ β : Type} (step : σ → α → Option (σ ⊕ β)) (fin : σ → Option β) : List α → σ → Option β
 | [], s => fin s
 | a :: l, s => match step s a with | some (.inl s') => runX step fin l s' | some (.inr r) => some r | none => none
theorem loopX {α σ β : Type} (xs : List α) (L : Nat → σ → Int → Option β) (step : σ → α → Option (σ ⊕ β)) (fin : σ → Option β)
    (hs : ∀ n s (k : Nat) (hk : k < xs.length), L (n + 1) s k = match step s xs[k] with | some (.inl s') => L n s' ((k + 1 : Nat) : Int) | some (.inr r) => some r | none => none)
    (he : ∀ n s, L (n + 1) s (xs.length : Nat) = fin s) : ∀ (n k : Nat) (s : σ), k ≤ xs.length → xs.length - k < n → L n s k = runX step fin (xs.drop k) s := by
  intro n
  induction n with
  | zero => intro k s _ h; omega
  | succ n ih =>
    intro k s hk hn
    rcases Nat.lt_or_ge k xs.length with hlt | hge
    · rw [hs n s k hlt, List.drop_eq_getElem_cons hlt]
      simp only [runX]
      cases step s xs[k] with
      | none => rfl
      | some q =>
        cases q with
        | inl s' => exact ih (k + 1) s' hlt (by omega)
        | inr r => rfl
    · have : k = xs.length := by omega
      subst this
      rw [he, List.drop_length]; rfl
theorem loopX0 {α σ β : Type} (xs : List α) (L : Nat → σ → Int → Option β) (step : σ → α → Option (σ ⊕ β)) (fin : σ → Option β)
    (hs : ∀ n s (k : Nat) (hk : k < xs.length), L (n + 1) s k = match step s xs[k] with | some (.inl s') => L n s' ((k + 1 : Nat) : Int) | some (.inr r) => some r | none => none)
    (he : ∀ n s, L (n + 1) s (xs.length : Nat) = fin s) {n : Nat} (hn : xs.length < n) (s : σ) : L n s 0 = runX step fin xs s := by
  have := loopX xs L step fin hs he n 0 s (Nat.zero_le _) (by omega)
  simpa using this
theorem runX_all {α β : Type} {p : α → Bool} {step : Unit → α → Option (Unit ⊕ β)} {fin : Unit → Option β} {r : β} : ∀ {l : List α}, (∀ a ∈ l, step () a = if p a then some (.inl ()) else some (.inr r)) → runX step fin l () = if l.all p then fin () else some r
 | [], _ => rfl
 | a :: l, h => by
  simp only [runX]
  rw [h a (by simp)]
  cases hp : p a with
  | true => simp only [if_true, List.all_cons, hp, Bool.true_and]; exact runX_all fun b hb => h b (List.mem_cons_of_mem _ hb)
  | false => simp [List.all_cons, hp]
theorem fillX {α β γ : Type} (xs : List α) (L : Nat → List β → Int → Option γ) (g : α → β) (fin : List β → Option γ)
    (hs : ∀ n (out : List β) (k : Nat) (hk : k < xs.length), out.length = xs.length → L (n + 1) out k = L n (out.set k (g xs[k])) ((k + 1 : Nat) : Int))
    (he : ∀ n out, out.length = xs.length → L (n + 1) out (xs.length : Nat) = fin out) : ∀ (n k : Nat) (out : List β), out.length = xs.length → k ≤ xs.length → xs.length - k < n → L n out k = fin (out.take k ++ (xs.drop k).map g) := by
  intro n
  induction n with
  | zero => intro k out _ _ h; omega
  | succ n ih =>
    intro k out hl hk hn
    rcases Nat.lt_or_ge k xs.length with hlt | hge
    · have : (out.set k (g xs[k])).take (k + 1) = out.take k ++ [g xs[k]] := by
        rw [List.take_succ_eq_append_getElem (by simp; omega), List.take_set_of_le (Nat.le_refl _), List.getElem_set_self]
      rw [hs n out k hlt hl, ih (k + 1) _ (by simpa using hl) hlt (by omega), List.drop_eq_getElem_cons hlt, this, List.map_cons, List.append_assoc, List.singleton_append]
    · have : k = xs.length := by omega
      subst this
      rw [he _ _ hl, List.drop_length, List.take_of_length_le (by omega)]; simp
theorem fillX0 {α β γ : Type} (xs : List α) (L : Nat → List β → Int → Option γ) (g : α → β) (fin : List β → Option γ)
    (hs : ∀ n (out : List β) (k : Nat) (hk : k < xs.length), out.length = xs.length → L (n + 1) out k = L n (out.set k (g xs[k])) ((k + 1 : Nat) : Int))
    (he : ∀ n out, out.length = xs.length → L (n + 1) out (xs.length : Nat) = fin out) {n : Nat} {out : List β} (hl : out.length = xs.length) (hn : xs.length < n) : L n out 0 = fin (xs.map g) := by
  have := fillX xs L g fin hs he n 0 out hl (Nat.zero_le _) (by omega)
  simpa using this
theorem eqX {α : Type} [DecidableEq α] (a b : List α) (hl : a.length = b.length) (L : Nat → Int → Option (Unit ⊕ Bool))
    (hs : ∀ n (k : Nat) (h1 : k < a.length) (h2 : k < b.length), L (n + 1) k = if a[k] = b[k] then L n ((k + 1 : Nat) : Int) else some (.inr false)) (he : ∀ n, L (n + 1) (a.length : Nat) = some (.inl ())) {n : Nat} (hn : a.length < n) :
    L n 0 = some (if a = b then .inl () else .inr false) := by
  have key : ∀ (n k : Nat), k ≤ a.length → a.length - k < n → L n k = some (if a.drop k = b.drop k then .inl () else .inr false) := by
    intro n
    induction n with
    | zero => intro k _ h; omega
    | succ n ih =>
      intro k hk hn
      rcases Nat.lt_or_ge k a.length with hlt | hge
      · have h2 : k < b.length := by omega
        have e : (a.drop k = b.drop k) ↔ (a[k] = b[k] ∧ a.drop (k + 1) = b.drop (k + 1)) := by
          rw [List.drop_eq_getElem_cons hlt, List.drop_eq_getElem_cons h2]; exact List.cons_eq_cons
        rw [hs n k hlt h2]
        by_cases h : a[k] = b[k]
        · rw [if_pos h, ih (k + 1) hlt (by omega)]
          by_cases h3 : a.drop (k + 1) = b.drop (k + 1)
          · rw [if_pos h3, if_pos (e.2 ⟨h, h3⟩)]
          · rw [if_neg h3, if_neg fun h' => h3 (e.1 h').2]
        · rw [if_neg h, if_neg fun h' => h (e.1 h').1]
      · have : k = a.length := by omega
        subst this
        rw [he, List.drop_length, hl, List.drop_length]; rfl
  have := key n 0 (Nat.zero_le _) (by omega)
  simpa using this
theorem allX {α β : Type} (xs : List α) (L : Nat → Int → Option β) (p : α → Bool) (r e : β)
    (hs : ∀ n (k : Nat) (hk : k < xs.length), L (n + 1) k = if p xs[k] then L n ((k + 1 : Nat) : Int) else some r) (he : ∀ n, L (n + 1) (xs.length : Nat) = some e) {n : Nat} (hn : xs.length < n) :
    L n 0 = some (if xs.all p then e else r) := by
  have := loopX0 xs (fun n (_ : Unit) i => L n i) (fun _ a => if p a then some (.inl ()) else some (.inr r)) (fun _ => some e) (fun n s k hk => by rw [hs n k hk]; cases p xs[k] <;> simp) (fun n s => he n) hn ()
  rw [this, runX_all (p := p) (r := r) fun a _ => by cases p a <;> simp]
  cases xs.all p <;> simp
theorem forS {σ β : Type} (N : Nat) (L : Nat → σ → Int → Option β) (S : Nat → σ) {r : Option β}
    (hs : ∀ n (k : Nat), k < N → L (n + 1) (S k) k = L n (S (k + 1)) ((k + 1 : Nat) : Int)) (he : ∀ n, L (n + 1) (S N) (N : Nat) = r) {n : Nat} (hn : N < n) : L n (S 0) 0 = r := by
  have key : ∀ (n k : Nat), k ≤ N → N - k < n → L n (S k) k = r := by
    intro n
    induction n with
    | zero => intro k _ h; omega
    | succ n ih =>
      intro k hk hn
      rcases Nat.lt_or_ge k N with hlt | hge
      · rw [hs n k hlt]; exact ih (k + 1) hlt (by omega)
      · have : k = N := by omega
        subst this; exact he n
  exact key n 0 (Nat.zero_le _) (by omega)
theorem forA {σ β : Type} (N : Nat) (L : Nat → σ → Int → Option β) (S : Nat → σ) (p : Nat → Bool) {r e : Option β}
    (hs : ∀ n (k : Nat), k < N → L (n + 1) (S k) k = if p k then L n (S (k + 1)) ((k + 1 : Nat) : Int) else r) (he : ∀ n, L (n + 1) (S N) (N : Nat) = e) {n : Nat} (hn : N < n) :
    L n (S 0) 0 = if (List.range N).all p then e else r := by
  have key : ∀ (n k : Nat), k ≤ N → N - k < n → L n (S k) k = if (List.range' k (N - k)).all p then e else r := by
    intro n
    induction n with
    | zero => intro k _ h; omega
    | succ n ih =>
      intro k hk hn
      rcases Nat.lt_or_ge k N with hlt | hge
      · rw [hs n k hlt, show N - k = (N - (k + 1)) + 1 by omega, List.range'_succ, List.all_cons]
        cases hp : p k with
        | false => simp
        | true => simp only [if_true, Bool.true_and]; exact ih (k + 1) hlt (by omega)
      · have : k = N := by omega
        subst this; rw [he]; simp
  have := key n 0 (Nat.zero_le _) (by omega)
  rw [List.range_eq_range']
  simpa using this
theorem forB {σ β : Type} (N : Nat) (L : Nat → σ → Int → Option β) (S : Nat → σ) (p : Nat → Bool) {r e : Option β}
    (hs : ∀ n (k : Nat), k < N → (∀ j, j < k → p j = true) → L (n + 1) (S k) k = if p k then L n (S (k + 1)) ((k + 1 : Nat) : Int) else r) (he : ∀ n, (∀ j, j < N → p j = true) → L (n + 1) (S N) (N : Nat) = e) {n : Nat} (hn : N < n) :
    L n (S 0) 0 = if (List.range N).all p then e else r := by
  have key : ∀ (n k : Nat), k ≤ N → N - k < n → (∀ j, j < k → p j = true) → L n (S k) k = if (List.range' k (N - k)).all p then e else r := by
    intro n
    induction n with
    | zero => intro k _ h; omega
    | succ n ih =>
      intro k hk hn hb
      rcases Nat.lt_or_ge k N with hlt | hge
      · rw [hs n k hlt hb, show N - k = (N - (k + 1)) + 1 by omega, List.range'_succ, List.all_cons]
        cases hp : p k with
        | false => simp
        | true =>
          simp only [if_true, Bool.true_and]
          refine ih (k + 1) hlt (by omega) fun j hj => ?_
          rcases Nat.lt_or_ge j k with h | h
          · exact hb j h
          · have : j = k := by omega
            rw [this]; exact hp
      · have : k = N := by omega
        subst this; rw [he n hb]; simp
  have := key n 0 (Nat.zero_le _) (by omega) (fun j h => by omega)
  rw [List.range_eq_range']
  simpa using this
def szR (t : Nat) (left : Int) : Int := if (t : Int) ≤ left then left - t else -1
end Go.Va
set_option linter.unusedVariables false
open Go Go.Va
namespace T
def fuel : Nat := 1099511627776
def laws_szIntS (a : List Int) (left : Int) : Option (Int) :=
 if decide ((w64 (left - (a.length : Int))) < 0) then
  some (-1)
 else
  some (w64 (left - (a.length : Int)))
def laws_szIntSS_L5 : Nat → ((List (List Int)) × Int × Int) → Option ((Int) ⊕ (Int))
 | 0, _ => none
 | n + 1, (a, left, i) =>
  if decide (i < (a.length : Int)) then
   if inb i a then
    (laws_szIntS (gd a i []) left).bind fun r1 =>
     if decide (r1 < 0) then
      some (.inr (-1))
     else
      laws_szIntSS_L5 n (a, r1, w64 (i + 1))
   else none
  else
   some (.inl left)
def laws_szIntSS (a : List (List Int)) (left : Int) : Option (Int) :=
 if decide ((w64 (left - (a.length : Int))) < 0) then
  some (-1)
 else
  (laws_szIntSS_L5 fuel (a, w64 (left - (a.length : Int)), 0)).bind fun s1 =>
   match s1 with
   | .inl s2 =>
    some s2
   | .inr s3 =>
    some s3
def laws_toIntS_L3 : Nat → ((List Int) × (List Int) × Int) → Option ((List Int))
 | 0, _ => none
 | n + 1, (a, out, i) =>
  if decide (i < (a.length : Int)) then
   if inb i a then
    if inb i out then
     laws_toIntS_L3 n (a, stt out i (gd a i 0), w64 (i + 1))
    else none
   else none
  else
   some out
def laws_toIntS (a : List Int) : Option ((List Int)) :=
 if 0 ≤ (a.length : Int) ∧ (a.length : Int) ≤ (a.length : Int) ∧ (a.length : Int) ≤ lim then
  (laws_toIntS_L3 fuel (a, List.replicate (Int.toNat (a.length : Int)) (0 : Int), 0)).bind fun s1 =>
   some s1
 else none
def laws_toIntSS_L3 : Nat → ((List (List Int)) × (List (List Int)) × Int) → Option ((List (List Int)))
 | 0, _ => none
 | n + 1, (a, out, i) =>
  if decide (i < (a.length : Int)) then
   if inb i a then
    (laws_toIntS (gd a i [])).bind fun r1 =>
     if inb i out then
      laws_toIntSS_L3 n (a, stt out i r1, w64 (i + 1))
     else none
   else none
  else
   some out
def laws_toIntSS (a : List (List Int)) : Option ((List (List Int))) :=
 if 0 ≤ (a.length : Int) ∧ (a.length : Int) ≤ (a.length : Int) ∧ (a.length : Int) ≤ lim then
  (laws_toIntSS_L3 fuel (a, List.replicate (Int.toNat (a.length : Int)) ([] : List Int), 0)).bind fun s1 =>
   some s1
 else none
def spec_l1In (x : Int) (a : Int) (b : Int) : Option (Bool) :=
 if decide (x ≥ a) then
  some (decide (x ≤ b))
 else
  some false
def spec_l2Elements_L2 : Nat → (Int × (List Int) × Int) → Option ((Unit) ⊕ (Bool))
 | 0, _ => none
 | n + 1, (n_, list, i) =>
  if decide (i < (list.length : Int)) then
   if inb i list then
    (spec_l1In (gd list i 0) 0 (w64 (n_ - 1))).bind fun r1 =>
     if !r1 then
      some (.inr false)
     else
      spec_l2Elements_L2 n (n_, list, w64 (i + 1))
   else none
  else
   some (.inl ())
def spec_l2Elements (n_ : Int) (list : List Int) : Option (Bool) :=
 (spec_l2Elements_L2 fuel (n_, list, 0)).bind fun s1 =>
  match s1 with
  | .inl s2 =>
   some true
  | .inr s3 =>
   some s3
def spec_l8Tuple (n_ : Int) (k : Int) (t : List Int) : Option (Bool) :=
 if (t.length : Int) == k then
  (spec_l2Elements n_ t).bind fun r1 =>
   some r1
 else
  some false
def impl_inSize_L2 : Nat → (Int × (List Int) × Int × Int) → Option ((Unit) ⊕ (Bool))
 | 0, _ => none
 | n + 1, (n_, t7, t8, t9) =>
  if decide (t9 < t8) then
   if inb t9 t7 then
    if decide ((gd t7 t9 0) < 0) then
     some (.inr false)
    else
     if decide ((gd t7 t9 0) ≥ n_) then
      some (.inr false)
     else
      impl_inSize_L2 n (n_, t7, t8, w64 (t9 + 1))
   else none
  else
   some (.inl ())
def impl_inSize (list : List Int) (n_ : Int) : Option (Bool) :=
 (impl_inSize_L2 fuel (n_, list, (list.length : Int), 0)).bind fun s1 =>
  match s1 with
  | .inl s2 =>
   some true
  | .inr s3 =>
   some s3
def laws_eqIntS_L4 : Nat → ((List Int) × (List Int) × Int) → Option ((Unit) ⊕ (Bool))
 | 0, _ => none
 | n + 1, (a, b, i) =>
  if decide (i < (a.length : Int)) then
   if inb i a then
    if inb i b then
     if (gd a i 0) != (gd b i 0) then
      some (.inr false)
     else
      laws_eqIntS_L4 n (a, b, w64 (i + 1))
    else none
   else none
  else
   some (.inl ())
def laws_eqIntS (a : List Int) (b : List Int) : Option (Bool) :=
 if (a.length : Int) != (b.length : Int) then
  some false
 else
  (laws_eqIntS_L4 fuel (a, b, 0)).bind fun s1 =>
   match s1 with
   | .inl s2 =>
    some true
   | .inr s3 =>
    some s3
def laws_eqIntSS_L4 : Nat → ((List (List Int)) × (List (List Int)) × Int) → Option ((Unit) ⊕ (Bool))
 | 0, _ => none
 | n + 1, (a, b, i) =>
  if decide (i < (a.length : Int)) then
   if inb i a then
    if inb i b then
     (laws_eqIntS (gd a i []) (gd b i [])).bind fun r1 =>
      if !r1 then
       some (.inr false)
      else
       laws_eqIntSS_L4 n (a, b, w64 (i + 1))
    else none
   else none
  else
   some (.inl ())
def laws_eqIntSS (a : List (List Int)) (b : List (List Int)) : Option (Bool) :=
 if (a.length : Int) != (b.length : Int) then
  some false
 else
  (laws_eqIntSS_L4 fuel (a, b, 0)).bind fun s1 =>
   match s1 with
   | .inl s2 =>
    some true
   | .inr s3 =>
    some s3
def spec_l2Pow_L2 : Nat → (Int × Int × Int) → Option (Int)
 | 0, _ => none
 | n + 1, (n_, k, out) =>
  if decide (k > 0) then
   spec_l2Pow_L2 n (n_, w64 (k - 1), w64 (out * n_))
  else
   some out
def spec_l2Pow (n_ : Int) (k : Int) : Option (Int) :=
 (spec_l2Pow_L2 fuel (n_, k, 1)).bind fun s1 =>
  some s1
def spec_l3Less_L2 : Nat → ((List Int) × (List Int) × Int) → Option ((Unit) ⊕ (Bool))
 | 0, _ => none
 | n + 1, (a, b, i) =>
  if decide (i < (a.length : Int)) then
   if inb i a then
    if inb i b then
     if (gd a i 0) != (gd b i 0) then
      if inb i a then
       if inb i b then
        some (.inr (decide ((gd a i 0) < (gd b i 0))))
       else none
      else none
     else
      spec_l3Less_L2 n (a, b, w64 (i + 1))
    else none
   else none
  else
   some (.inl ())
def spec_l3Less (a : List Int) (b : List Int) : Option (Bool) :=
 (spec_l3Less_L2 fuel (a, b, 0)).bind fun s1 =>
  match s1 with
  | .inl s2 =>
   some false
  | .inr s3 =>
   some s3
def impl_compareLists_L2 : Nat → ((List Int) × (List Int) × Int) → Option (((List Int) × (List Int)) ⊕ (Int))
 | 0, _ => none
 | n + 1, (s, t, i) =>
  if decide (i < (s.length : Int)) then
   if decide (i < (t.length : Int)) then
    if inb i s then
     if inb i t then
      if (gd s i 0) != (gd t i 0) then
       if inb i s then
        if inb i t then
         if decide ((gd s i 0) < (gd t i 0)) then
          some (.inr (-1))
         else
          some (.inr 1)
        else none
       else none
      else
       impl_compareLists_L2 n (s, t, w64 (i + 1))
     else none
    else none
   else
    some (.inl (s, t))
  else
   some (.inl (s, t))
def impl_compareLists (s : List Int) (t : List Int) : Option (Int) :=
 (impl_compareLists_L2 fuel (s, t, 0)).bind fun s1 =>
  match s1 with
  | .inl s2 =>
   if decide ((s2.1.length : Int) < (s2.2.length : Int)) then
    some (-1)
   else
    if decide ((s2.1.length : Int) > (s2.2.length : Int)) then
     some 1
    else
     some 0
  | .inr s3 =>
   some s3
def impl_power_L2 : Nat → (Int × Int × Int) → Option (Int)
 | 0, _ => none
 | n + 1, (n_, k, p) =>
  if decide (k > 0) then
   impl_power_L2 n (n_, w64 (k - 1), w64 (p * n_))
  else
   some p
def impl_power (n_ : Int) (k : Int) : Option (Int) :=
 (impl_power_L2 fuel (n_, k, 1)).bind fun s1 =>
  some s1
end T
open Go Go.Va
namespace T
theorem szIntS_ok {a : List Int} {left : Int} (h0 : 0 ≤ left) (h1 : left ≤ 4611686018427387904) (ha : a.length ≤ 9223372036854775807) : laws_szIntS a left = some (szR a.length left) := by
 unfold laws_szIntS szR
 rw [w64_id (by omega) (by omega)]
 by_cases h : (a.length : Int) ≤ left
 ·rw [if_neg (by simp; omega), if_pos h]
 ·rw [if_pos (by simp; omega), if_neg h]
def totSS (a : List (List Int)) : Nat := a.length + (a.map List.length).sum
theorem szIntSS_ok {a : List (List Int)} {left : Int} (h0 : 0 ≤ left) (h1 : left ≤ 1099511627775) (ha : a.length ≤ 9223372036854775807) (hr : ∀ r ∈ a, r.length ≤ 9223372036854775807) : laws_szIntSS a left = some (szR (totSS a) left) := by
  unfold laws_szIntSS
  rw [w64_id (by omega) (by omega)]
  by_cases h : (a.length : Int) ≤ left
  · rw [if_neg (by simp; omega)]
    have key := loopX0 a (fun n s i => laws_szIntSS_L5 n (a, s, i)) (fun s r => (laws_szIntS r s).bind fun q => if q < 0 then some (.inr (.inr (-1))) else some (.inl q)) (fun s => some (.inl s)) ?_ ?_ (n := fuel) (by unfold fuel; omega) (left - a.length)
    · rw [key]
      have run : ∀ (l : List (List Int)) (s : Int), 0 ≤ s → s ≤ 1099511627775 → (∀ r ∈ l, r.length ≤ 9223372036854775807) →
          runX (fun s r => (laws_szIntS r s).bind fun q => if q < 0 then some (.inr (.inr (-1))) else some (.inl q)) (fun s => some (.inl s)) l s = some (if ((l.map List.length).sum : Int) ≤ s then (.inl (s - (l.map List.length).sum) : Int ⊕ Int) else .inr (-1)) := by
        intro l
        induction l with
        | nil => intro s h0 _ _; simp [runX, h0]
        | cons r l ih =>
          intro s h0 h1 hr
          simp only [runX]
          rw [szIntS_ok h0 (by omega) (hr r (by simp))]
          unfold szR
          by_cases h : (r.length : Int) ≤ s
          · rw [if_pos h]
            simp only [Option.bind_some]
            rw [if_neg (by omega)]
            dsimp only
            rw [ih (s - r.length) (by omega) (by omega) fun r hr' => hr r (List.mem_cons_of_mem _ hr')]
            simp only [List.map_cons, List.sum_cons]
            congr 1
            by_cases h2 : (((l.map List.length).sum : Nat) : Int) ≤ s - r.length
            · rw [if_pos h2, if_pos (by omega)]; congr 1; omega
            · rw [if_neg h2, if_neg (by omega)]
          · rw [if_neg h]
            simp only [List.map_cons, List.sum_cons]
            rw [if_neg (by omega)]
            rfl
      rw [run a _ (by omega) (by omega) hr]
      unfold szR totSS
      by_cases h2 : (((a.map List.length).sum : Nat) : Int) ≤ left - a.length
      · rw [if_pos h2, if_pos (by omega)]
        simp only [Option.bind_some, Option.some.injEq]; omega
      · rw [if_neg h2, if_neg (by omega)]; rfl
    · intro n s k hk
      simp only [laws_szIntSS_L5, inb_nat, gd_nat hk, w64_succ (show k < 4611686018427387904 by omega)]
      simp [hk]
      cases laws_szIntS a[k] s with
      | none => rfl
      | some q => by_cases hq : q < 0 <;> simp [hq]
    · intro n s
      simp [laws_szIntSS_L5]
  · rw [if_pos (by simp; omega)]
    unfold szR totSS
    rw [if_neg (by omega)]
theorem toIntS_ok {a : List Int} (ha : a.length ≤ 1099511627775) : laws_toIntS a = some a := by
 unfold laws_toIntS
 rw [if_pos (by unfold lim; omega)]
 have key := fillX0 a (fun n out i => laws_toIntS_L3 n (a, out, i)) id some ?_ ?_ (n := fuel) (out := List.replicate (Int.toNat (a.length : Int)) (0 : Int)) (by simp) (by unfold fuel; omega)
 ·rw [key]; simp
 ·intro n out k hk hl
  simp only [laws_toIntS_L3, inb_nat, gd_nat hk, stt_nat, w64_succ (show k < 4611686018427387904 by omega)]
  simp [hk, hl]
 ·intro n out hl
  simp [laws_toIntS_L3]
theorem toIntSS_ok {a : List (List Int)} (ha : a.length ≤ 1099511627775) (hr : ∀ r ∈ a, r.length ≤ 1099511627775) : laws_toIntSS a = some a := by
 unfold laws_toIntSS
 rw [if_pos (by unfold lim; omega)]
 have key := fillX0 a (fun n out i => laws_toIntSS_L3 n (a, out, i)) id some ?_ ?_ (n := fuel) (out := List.replicate (Int.toNat (a.length : Int)) ([] : List Int)) (by simp) (by unfold fuel; omega)
 ·rw [key]; simp
 ·intro n out k hk hl
  simp only [laws_toIntSS_L3, inb_nat, gd_nat hk, stt_nat, w64_succ (show k < 4611686018427387904 by omega)]
  simp [hk, hl, toIntS_ok (hr _ (List.getElem_mem hk))]
 ·intro n out hl
  simp [laws_toIntSS_L3]
theorem eqIntS_ok {a b : List Int} (ha : a.length ≤ 1099511627775) : laws_eqIntS a b = some (decide (a = b)) := by
 unfold laws_eqIntS
 by_cases hl : a.length = b.length
 ·rw [if_neg (by simp [hl]), eqX a b hl (fun n i => laws_eqIntS_L4 n (a, b, i)) ?_ ?_ (by unfold fuel; omega)]
  ·by_cases h : a = b <;> simp [h]
  ·intro n k h1 h2
   simp only [laws_eqIntS_L4, inb_nat, gd_nat h1, gd_nat h2, w64_succ (show k < 4611686018427387904 by omega)]
   by_cases h : a[k] = b[k] <;> simp [h1, h2, h]
  ·intro n
   simp [laws_eqIntS_L4]
 ·rw [if_pos (by simp; omega), decide_eq_false (fun e => hl (by rw [e]))]
theorem eqIntSS_ok {a b : List (List Int)} (ha : a.length ≤ 1099511627775) (hr : ∀ r ∈ a, r.length ≤ 1099511627775) : laws_eqIntSS a b = some (decide (a = b)) := by
 unfold laws_eqIntSS
 by_cases hl : a.length = b.length
 ·rw [if_neg (by simp [hl]), eqX a b hl (fun n i => laws_eqIntSS_L4 n (a, b, i)) ?_ ?_ (by unfold fuel; omega)]
  ·by_cases h : a = b <;> simp [h]
  ·intro n k h1 h2
   simp only [laws_eqIntSS_L4, inb_nat, gd_nat h1, gd_nat h2, w64_succ (show k < 4611686018427387904 by omega), eqIntS_ok (hr _ (List.getElem_mem h1))]
   by_cases h : a[k] = b[k] <;> simp [h1, h2, h]
  ·intro n
   simp [laws_eqIntSS_L4]
 ·rw [if_pos (by simp; omega), decide_eq_false (fun e => hl (by rw [e]))]
abbrev Lin := Int × Int × List (List Int)
def linS (a : Lin) : Prop := a.2.2.length ≤ 1048576 ∧ ∀ r ∈ a.2.2, r.length ≤ 1048576
theorem mem_sum {l : List (List Int)} : ∀ {r : List Int}, r ∈ l → r.length ≤ (l.map List.length).sum := by
 induction l with
 | nil => intro r h; cases h
 | cons x l ih =>
  intro r h
  rw [List.map_cons, List.sum_cons]
  rcases List.mem_cons.1 h with rfl | h
  ·omega
  ·have := ih h; omega
theorem szLinear_small {a : Lin} (h : ¬ szR (totSS a.2.2) 1048576 < 0) : linS a := by
 unfold szR totSS at h
 split at h
 ·exact ⟨by omega, fun r hr => by have := mem_sum hr; omega⟩
 ·omega
theorem spec_l1In_ok (x a b : Int) : spec_l1In x a b = some (decide (a ≤ x ∧ x ≤ b)) := by
 unfold spec_l1In
 by_cases h : a ≤ x <;> simp [h]
def belowB (n : Int) (l : List Int) : Bool := l.all fun x => decide (0 ≤ x ∧ x < n)
theorem impl_inSize_ok {l : List Int} (n : Int) (hl : l.length ≤ 1099511627775) : impl_inSize l n = some (belowB n l) := by
 unfold impl_inSize
 rw [allX l (fun m i => impl_inSize_L2 m (n, l, (l.length : Int), i)) (fun x => decide (0 ≤ x ∧ x < n)) (.inr false) (.inl ()) ?_ ?_ (by unfold fuel; omega)]
 ·unfold belowB; cases l.all (fun x => decide (0 ≤ x ∧ x < n)) <;> simp
 ·intro m k hk
  simp only [impl_inSize_L2, inb_nat, gd_nat hk, w64_succ (show k < 4611686018427387904 by omega)]
  by_cases h1 : l[k] < 0
  ·simp [hk, h1, show ¬ 0 ≤ l[k] by omega]
  ·by_cases h2 : n ≤ l[k]
   ·simp [hk, h1, h2, show ¬ l[k] < n by omega]
   ·simp [hk, h1, h2, show 0 ≤ l[k] ∧ l[k] < n by omega]
 ·intro m
  simp [impl_inSize_L2]
theorem spec_l2Elements_ok {l : List Int} {n : Int} (hn : -9223372036854775808 < n) (hn' : n ≤ 9223372036854775807) (hl : l.length ≤ 1099511627775) : spec_l2Elements n l = some (belowB n l) := by
 unfold spec_l2Elements
 rw [allX l (fun m i => spec_l2Elements_L2 m (n, l, i)) (fun x => decide (0 ≤ x ∧ x < n)) (.inr false) (.inl ()) ?_ ?_ (by unfold fuel; omega)]
 ·unfold belowB; cases l.all (fun x => decide (0 ≤ x ∧ x < n)) <;> simp
 ·intro m k hk
  simp only [spec_l2Elements_L2, inb_nat, gd_nat hk, w64_succ (show k < 4611686018427387904 by omega), spec_l1In_ok, w64_id (show -9223372036854775808 ≤ n - 1 by omega) (show n - 1 ≤ 9223372036854775807 by omega)]
  by_cases h1 : 0 ≤ l[k] ∧ l[k] < n
  ·simp [hk, h1, show l[k] ≤ n - 1 by omega]
  ·have : ¬ (0 ≤ l[k] ∧ l[k] ≤ n - 1) := by omega
   simp [hk, h1, this]
 ·intro m
  simp [spec_l2Elements_L2]
theorem spec_l8Tuple_ok {l : List Int} {n : Int} (k : Int) (hn : -9223372036854775808 < n) (hn' : n ≤ 9223372036854775807) (hl : l.length ≤ 1099511627775) : spec_l8Tuple n k l = some (decide ((l.length : Int) = k) && belowB n l) := by
 unfold spec_l8Tuple
 rw [spec_l2Elements_ok hn hn' hl]
 by_cases h : (l.length : Int) = k <;> simp [h]
end T
open Go Go.Va
namespace T
theorem belowB_get {n : Int} {l : List Int} (h : belowB n l = true) (k : Nat) (hk : k < l.length) : 0 ≤ l[k] ∧ l[k] < n := by
 have := (List.all_eq_true.1 h) l[k] (List.getElem_mem hk)
 simpa using this
section
variable {p v : Int} {rows : List (List Int)} {y : List Int}
end
end T
open Go Go.Va
namespace T
def cmpL : List Int → List Int → Int
 | [], [] => 0
 | [], _ :: _ => -1
 | _ :: _, [] => 1
 | a :: s, b :: t => if a = b then cmpL s t else if a < b then -1 else 1
theorem compare_L2 {s t : List Int} (hs : s.length ≤ 1099511627775) : ∀ (n k : Nat), k ≤ s.length → k ≤ t.length → s.length - k < n →
    (impl_compareLists_L2 n (s, t, (k : Int))).bind (fun s1 => match s1 with
      | .inl s2 => if decide ((s2.1.length : Int) < (s2.2.length : Int)) then some (-1) else if decide ((s2.1.length : Int) > (s2.2.length : Int)) then some 1 else some 0
      | .inr s3 => some s3) = some (cmpL (s.drop k) (t.drop k)) := by
  intro n
  induction n with
  | zero => intro k _ _ h; omega
  | succ n ih =>
    intro k h1 h2 hn
    by_cases k1 : k < s.length
    · by_cases k2 : k < t.length
      · rw [List.drop_eq_getElem_cons k1, List.drop_eq_getElem_cons k2]
        simp only [impl_compareLists_L2, inb_nat, gd_nat k1, gd_nat k2, w64_succ (show k < 4611686018427387904 by omega), cmpL]
        by_cases he : s[k] = t[k]
        · have := ih (k + 1) k1 k2 (by omega)
          simp [k1, k2, he]
          simpa using this
        · by_cases hl : s[k] < t[k] <;> simp [k1, k2, he, hl]
      · rw [List.drop_eq_getElem_cons k1, List.drop_of_length_le (show t.length ≤ k by omega)]
        have e : k = t.length := by omega
        simp only [impl_compareLists_L2, cmpL]
        simp [k1, k2, show ¬ s.length < t.length by omega, show t.length < s.length by omega]
    · rw [List.drop_of_length_le (show s.length ≤ k by omega)]
      simp only [impl_compareLists_L2]
      by_cases k2 : k < t.length
      · rw [List.drop_eq_getElem_cons k2]
        simp [k1, cmpL, show s.length < t.length by omega]
      · rw [List.drop_of_length_le (show t.length ≤ k by omega)]
        simp [k1, cmpL, show ¬ s.length < t.length by omega, show ¬ t.length < s.length by omega]
theorem impl_compareLists_ok {s t : List Int} (hs : s.length ≤ 1099511627775) : impl_compareLists s t = some (cmpL s t) := by
 have := compare_L2 (t := t) hs fuel 0 (Nat.zero_le _) (Nat.zero_le _) (by unfold fuel; omega)
 rw [List.drop_zero, List.drop_zero] at this
 exact this
theorem spec_l3Less_ok {s t : List Int} (hs : s.length ≤ 1099511627775) (hl : s.length = t.length) : spec_l3Less s t = some (decide (cmpL s t < 0)) := by
 have key : ∀ (n k : Nat), k ≤ s.length → s.length - k < n → (spec_l3Less_L2 n (s, t, (k : Int))).bind (fun s1 => match s1 with | .inl _ => some false | .inr s3 => some s3) = some (decide (cmpL (s.drop k) (t.drop k) < 0)) := by
  intro n
  induction n with
  | zero => intro k _ h; omega
  | succ n ih =>
   intro k h1 hn
   by_cases k1 : k < s.length
   ·have k2 : k < t.length := by omega
    rw [List.drop_eq_getElem_cons k1, List.drop_eq_getElem_cons k2]
    simp only [spec_l3Less_L2, inb_nat, gd_nat k1, gd_nat k2, w64_succ (show k < 4611686018427387904 by omega), cmpL]
    by_cases he : s[k] = t[k]
    ·have := ih (k + 1) k1 (by omega)
     simp [k1, k2, he]
     simpa using this
    ·by_cases hl : s[k] < t[k] <;> simp [k1, k2, he, hl]
   ·rw [List.drop_of_length_le (show s.length ≤ k by omega), List.drop_of_length_le (show t.length ≤ k by omega)]
    simp [spec_l3Less_L2, k1, cmpL]
 have := key fuel 0 (Nat.zero_le _) (by unfold fuel; omega)
 rw [List.drop_zero, List.drop_zero] at this
 exact this
theorem cmpL_refl : ∀ s, cmpL s s = 0
 | [] => rfl
 | a :: s => by simp [cmpL, cmpL_refl s]
theorem cmpL_eq : ∀ {s t}, cmpL s t = 0 ↔ s = t
 | [], [] => by simp [cmpL]
 | [], _ :: _ => by simp [cmpL]
 | _ :: _, [] => by simp [cmpL]
 | a :: s, b :: t => by
  simp only [cmpL]
  by_cases h : a = b
  ·rw [if_pos h, cmpL_eq]; simp [h]
  ·rw [if_neg h]; split <;> simp [h]
theorem cmpL_symm : ∀ s t, cmpL t s = - cmpL s t
 | [], [] => by simp [cmpL]
 | [], _ :: _ => by simp [cmpL]
 | _ :: _, [] => by simp [cmpL]
 | a :: s, b :: t => by
  simp only [cmpL]
  by_cases h : a = b
  ·rw [if_pos h, if_pos h.symm, cmpL_symm s t]
  ·rw [if_neg h, if_neg (Ne.symm h)]
   by_cases h2 : a < b
   ·rw [if_pos h2, if_neg (by omega)]; rfl
   ·rw [if_neg h2, if_pos (by omega)]
theorem cmpL_trans : ∀ {s t u}, cmpL s t < 0 → cmpL t u < 0 → cmpL s u < 0
 | [], [], _, h, _ => by simp [cmpL] at h
 | [], _ :: _, [], _, h => by simp [cmpL] at h
 | [], _ :: _, _ :: _, _, _ => by simp [cmpL]
 | _ :: _, [], _, h, _ => by simp [cmpL] at h
 | _ :: _, _ :: _, [], _, h => by simp [cmpL] at h
 | a :: s, b :: t, c :: u, h1, h2 => by
  simp only [cmpL] at *
  by_cases e1 : a = b
  ·rw [if_pos e1] at h1
   by_cases e2 : b = c
   ·rw [if_pos e2] at h2; rw [if_pos (e1.trans e2)]; exact cmpL_trans h1 h2
   ·rw [if_neg e2] at h2; rw [e1, if_neg e2]; exact h2
  ·rw [if_neg e1] at h1
   have l1 : a < b := by
    by_cases h : a < b
    ·exact h
    ·rw [if_neg h] at h1; omega
   by_cases e2 : b = c
   ·rw [← e2, if_neg e1, if_pos l1]; omega
   ·rw [if_neg e2] at h2
    have l2 : b < c := by
     by_cases h : b < c
     ·exact h
     ·rw [if_neg h] at h2; omega
    rw [if_neg (by omega), if_pos (by omega)]; omega
def incB : List (List Int) → Bool
 | a :: b :: l => decide (cmpL a b < 0) && incB (b :: l)
 | _ => true
theorem incB_tail {a : List Int} {l : List (List Int)} (h : incB (a :: l) = true) : incB l = true := by
 cases l with
 | nil => rfl
 | cons b l => simp only [incB, Bool.and_eq_true] at h; exact h.2
theorem incB_head : ∀ {a : List Int} {l : List (List Int)}, incB (a :: l) = true → ∀ b ∈ l, cmpL a b < 0
 | a, [], _, b, hb => by cases hb
 | a, c :: l, h, b, hb => by
  simp only [incB, Bool.and_eq_true, decide_eq_true_eq] at h
  rcases List.mem_cons.1 hb with rfl | hb
  ·exact h.1
  ·exact cmpL_trans h.1 (incB_head h.2 b hb)
theorem incB_lt : ∀ {l : List (List Int)}, incB l = true → ∀ (i j : Nat) (hi : i < j) (hj : j < l.length), cmpL (l[i]'(by omega)) l[j] < 0
 | [], _, i, j, _, hj => by simp at hj
 | a :: l, h, 0, j + 1, _, hj => by
  simp only [List.getElem_cons_zero, List.getElem_cons_succ]
  exact incB_head h _ (List.getElem_mem _)
 | a :: l, h, i + 1, j + 1, hi, hj => by
  simp only [List.getElem_cons_succ]
  exact incB_lt (incB_tail h) i j (by omega) (by simpa using hj)
theorem incB_iff {l : List (List Int)} : incB l = true ↔ ∀ (i : Nat) (hi : i + 1 < l.length), cmpL (l[i]'(by omega)) l[i + 1] < 0 := by
 constructor
 ·exact fun h i hi => incB_lt h i (i + 1) (by omega) hi
 ·induction l with
  | nil => intro _; rfl
  | cons a l ih =>
   intro h
   cases l with
   | nil => rfl
   | cons b l =>
    simp only [incB, Bool.and_eq_true, decide_eq_true_eq]
    exact ⟨h 0 (by simp), ih fun i hi => by have := h (i + 1) (by simpa using hi); simpa using this⟩
end T
open Go Go.Va
namespace T
theorem pow_le_of {n : Int} (h0 : 0 ≤ n) (h8 : n ≤ 8) : ∀ k : Nat, 0 ≤ n ^ k ∧ n ^ k ≤ 8 ^ k
 | 0 => by simp
 | k + 1 => by
  obtain ⟨h1, h2⟩ := pow_le_of h0 h8 k
  rw [Int.pow_succ, Int.pow_succ]
  exact ⟨Int.mul_nonneg h1 h0, Int.mul_le_mul h2 h8 h0 (by have : (0 : Int) ≤ 8 ^ k := Int.le_trans h1 h2; exact this)⟩
theorem pow8_le : ∀ k : Nat, k ≤ 20 → (8 : Int) ^ k ≤ 8 ^ 20 := by
 intro k hk
 have : ((8 ^ k : Nat) : Int) ≤ ((8 ^ 20 : Nat) : Int) := Int.ofNat_le.2 (Nat.pow_le_pow_right (by omega) hk)
 simpa using this
theorem pow_bd {n : Int} (h0 : 0 ≤ n) (h8 : n ≤ 8) {k : Nat} (hk : k ≤ 20) : 0 ≤ n ^ k ∧ n ^ k ≤ 1152921504606846976 := by
  obtain ⟨h1, h2⟩ := pow_le_of h0 h8 k
  have := pow8_le k hk
  exact ⟨h1, by have e : (8 : Int) ^ 20 = 1152921504606846976 := by decide
                omega⟩
theorem l2Pow_L2 {n : Int} (h0 : 0 ≤ n) (h8 : n ≤ 8) : ∀ (m k j : Nat), j + k ≤ 20 → k < m → spec_l2Pow_L2 m (n, (k : Int), n ^ j) = some (n ^ (j + k)) := by
 intro m
 induction m with
 | zero => intro k j _ h; omega
 | succ m ih =>
  intro k j hj hk
  simp only [spec_l2Pow_L2]
  cases k with
  | zero => simp
  | succ k =>
   have e : w64 (((k + 1 : Nat) : Int) - 1) = (k : Int) := by rw [w64_id (by omega) (by omega)]; omega
   have hb := pow_bd h0 h8 (k := j + 1) (by omega)
   rw [Int.pow_succ] at hb
   rw [e, w64_id (by omega) (by omega), ← Int.pow_succ, if_pos (by simp), ih k (j + 1) (by omega) (by omega)]
   congr 2 <;> omega
theorem spec_l2Pow_ok {n : Int} (h0 : 0 ≤ n) (h8 : n ≤ 8) {k : Nat} (hk : k ≤ 20) : spec_l2Pow n (k : Int) = some (n ^ k) := by
 unfold spec_l2Pow
 have := l2Pow_L2 h0 h8 fuel k 0 (by omega) (by unfold fuel; omega)
 rw [Int.pow_zero] at this
 rw [this]; simp
def idxA (n : Int) : Int → List Int → Int
 | i, [] => i
 | i, a :: l => idxA n (i * n + a) l
def idx (n : Int) (l : List Int) : Int := idxA n 0 l
theorem idxA_eq (n : Int) : ∀ (l : List Int) (i : Int), idxA n i l = i * n ^ l.length + idxA n 0 l
 | [], i => by simp [idxA]
 | a :: l, i => by
  simp only [idxA, List.length_cons]
  rw [idxA_eq n l (i * n + a), idxA_eq n l (0 * n + a), Int.pow_succ]
  simp only [Int.zero_mul, Int.zero_add]
  rw [Int.add_mul, Int.mul_assoc, Int.mul_comm n (n ^ l.length)]
  omega
theorem idx_cons (n a : Int) (l : List Int) : idx n (a :: l) = a * n ^ l.length + idx n l := by
 unfold idx
 simp only [idxA]
 rw [idxA_eq]; simp
theorem belowB_cons {n a : Int} {l : List Int} : belowB n (a :: l) = true ↔ (0 ≤ a ∧ a < n) ∧ belowB n l = true := by
 unfold belowB; simp [List.all_cons]
theorem idx_bd {n : Int} : ∀ {l : List Int}, belowB n l = true → 0 ≤ idx n l ∧ idx n l < n ^ l.length
 | [], _ => by simp [idx, idxA]
 | a :: l, h => by
  obtain ⟨h1, h2⟩ := belowB_cons.1 h
  obtain ⟨h3, h4⟩ := idx_bd h2
  rw [idx_cons, List.length_cons, Int.pow_succ]
  have hp : 0 ≤ n ^ l.length := by omega
  have k1 := Int.mul_nonneg h1.1 hp
  have k2 := Int.mul_le_mul_of_nonneg_right (show a + 1 ≤ n by omega) hp
  rw [Int.add_mul, Int.one_mul, Int.mul_comm n] at k2
  exact ⟨by omega, by omega⟩
theorem idx_cmp {n : Int} : ∀ {s t : List Int}, belowB n s = true → belowB n t = true → s.length = t.length → (cmpL s t < 0 ↔ idx n s < idx n t) ∧ (cmpL s t = 0 ↔ idx n s = idx n t)
 | [], [], _, _, _ => by simp [cmpL, idx, idxA]
 | [], _ :: _, _, _, h => by simp at h
 | _ :: _, [], _, _, h => by simp at h
 | a :: s, b :: t, hs, ht, hl => by
  obtain ⟨s1, s2⟩ := belowB_cons.1 hs
  obtain ⟨t1, t2⟩ := belowB_cons.1 ht
  have hl' : s.length = t.length := by simpa using hl
  have ih := idx_cmp s2 t2 hl'
  obtain ⟨b1, b2⟩ := idx_bd s2
  obtain ⟨c1, c2⟩ := idx_bd t2
  rw [idx_cons, idx_cons, hl']
  rw [hl'] at b2
  simp only [cmpL]
  have hp : 0 ≤ n ^ t.length := by omega
  rcases Int.lt_trichotomy a b with h | h | h
  ·have := Int.mul_le_mul_of_nonneg_right (show a + 1 ≤ b by omega) hp
   rw [Int.add_mul, Int.one_mul] at this
   rw [if_neg (by omega), if_pos h]
   exact ⟨by constructor <;> intro <;> omega, by constructor <;> intro <;> omega⟩
  ·subst h
   rw [if_pos rfl]
   exact ⟨by rw [ih.1]; constructor <;> intro <;> omega, by rw [ih.2]; constructor <;> intro <;> omega⟩
  ·have := Int.mul_le_mul_of_nonneg_right (show b + 1 ≤ a by omega) hp
   rw [Int.add_mul, Int.one_mul] at this
   rw [if_neg (by omega), if_neg (by omega)]
   exact ⟨by constructor <;> intro <;> omega, by constructor <;> intro <;> omega⟩
theorem inc_count {n : Int} {k : Nat} {l : List (List Int)} (hi : incB l = true) (hv : ∀ t ∈ l, t.length = k ∧ belowB n t = true) : (l.length : Int) ≤ n ^ k ∨ l = [] := by
 have key : ∀ (i : Nat) (h : i < l.length), (i : Int) ≤ idx n l[i] := by
  intro i
  induction i with
  | zero => intro h; exact (idx_bd (hv _ (List.getElem_mem h)).2).1
  | succ i ih =>
   intro h
   have h1 := ih (by omega)
   obtain ⟨l1, b1⟩ := hv _ (List.getElem_mem (show i < l.length by omega))
   obtain ⟨l2, b2⟩ := hv _ (List.getElem_mem h)
   have := (idx_cmp b1 b2 (l1.trans l2.symm)).1.1 (incB_lt hi i (i + 1) (by omega) h)
   omega
 cases hn : l.length with
 | zero => exact .inr (List.length_eq_zero_iff.1 hn)
 | succ m =>
  left
  have h := key m (by omega)
  obtain ⟨l1, b1⟩ := hv _ (List.getElem_mem (show m < l.length by omega))
  have := (idx_bd b1).2
  rw [l1] at this
  omega
end T
open Go Go.Va
namespace T
section
variable {p : Int} {k : Nat} {ts : List (List Int)}
end
theorem szR_small {a : List (List Int)} (h : ¬ szR (totSS a) 1048576 < 0) : a.length ≤ 1048576 ∧ ∀ r ∈ a, r.length ≤ 1048576 := szLinear_small (a := (0, 0, a)) h
end T
set_option linter.unusedVariables false
open Go Go.Va
namespace T
def laws_szRelation (a : Int × (List (List Int))) (left : Int) : Option (Int) :=
 (laws_szIntSS a.2 left).bind fun r1 =>
  if decide (r1 < 0) then
   some (-1)
  else
   some r1
def laws_toRelation (a : Int × (List (List Int))) : Option ((Int × (List (List Int)))) :=
 (laws_toIntSS a.2).bind fun r1 =>
  some (a.1, r1)
def spec_l13Good_L4 : Nat → (Int × (Int × (List (List Int))) × Int) → Option ((Unit) ⊕ (Bool))
 | 0, _ => none
 | n + 1, (n_, r, i) =>
  if decide (i < (r.2.length : Int)) then
   if inb i r.2 then
    (spec_l8Tuple n_ r.1 (gd r.2 i [])).bind fun r3 =>
     if !r3 then
      some (.inr false)
     else
      if decide (i > 0) then
       if inb (w64 (i - 1)) r.2 then
        if inb i r.2 then
         (spec_l3Less (gd r.2 (w64 (i - 1)) []) (gd r.2 i [])).bind fun r4 =>
          if !r4 then
           some (.inr false)
          else
           spec_l13Good_L4 n (n_, (r.1, r.2), w64 (i + 1))
        else none
       else none
      else
       spec_l13Good_L4 n (n_, (r.1, r.2), w64 (i + 1))
   else none
  else
   some (.inl ())
def spec_l13Good (n_ : Int) (r : Int × (List (List Int))) : Option (Bool) :=
 (spec_l1In r.1 1 3).bind fun r1 =>
  if !r1 then
   some false
  else
   (spec_l2Pow n_ r.1).bind fun r2 =>
    if decide ((r.2.length : Int) > r2) then
     some false
    else
     (spec_l13Good_L4 fuel (n_, (r.1, r.2), 0)).bind fun s3 =>
      match s3 with
      | .inl s4 =>
       some true
      | .inr s5 =>
       some s5
def spec_l1Own (l : List Int) : Option ((List Int)) :=
 if ([] : List Int).length + l.length ≤ lim then
  some ([] ++ l)
 else none
def impl_isRelation_L4 : Nat → (Int × (Int × (List (List Int))) × (List (List Int)) × Int × Int) → Option ((Unit) ⊕ (Bool))
 | 0, _ => none
 | n + 1, (n_, r, t16, t17, t18) =>
  if decide (t18 < t17) then
   if inb t18 t16 then
    if ((gd t16 t18 []).length : Int) != r.1 then
     some (.inr false)
    else
     (impl_inSize (gd t16 t18 []) n_).bind fun r1 =>
      if !r1 then
       some (.inr false)
      else
       if decide (t18 > 0) then
        if inb (w64 (t18 - 1)) r.2 then
         (impl_compareLists (gd r.2 (w64 (t18 - 1)) []) (gd t16 t18 [])).bind fun r2 =>
          if decide (r2 ≥ 0) then
           some (.inr false)
          else
           impl_isRelation_L4 n (n_, (r.1, r.2), t16, t17, w64 (t18 + 1))
        else none
       else
        impl_isRelation_L4 n (n_, (r.1, r.2), t16, t17, w64 (t18 + 1))
   else none
  else
   some (.inl ())
def impl_isRelation (n_ : Int) (r : Int × (List (List Int))) : Option (Bool) :=
 if decide (r.1 < 1) then
  some false
 else
  if decide (r.1 > 3) then
   some false
  else
   (impl_isRelation_L4 fuel (n_, (r.1, r.2), r.2, (r.2.length : Int), 0)).bind fun s1 =>
    match s1 with
    | .inl s2 =>
     some true
    | .inr s3 =>
     some s3
def laws_eqRelation (a : Int × (List (List Int))) (b : Int × (List (List Int))) : Option (Bool) :=
 if a.1 != b.1 then
  some false
 else
  (laws_eqIntSS a.2 b.2).bind fun r1 =>
   if !r1 then
    some false
   else
    some true
def laws_markIntS_L2 : Nat → ((List Int) × Int × Int) → Option ((List Int) × Int)
 | 0, _ => none
 | n + 1, (a, k, i) =>
  if decide (i < (a.length : Int)) then
   if inb i a then
    laws_markIntS_L2 n (stt a i k, w64 (k + 1), w64 (i + 1))
   else none
  else
   some (a, k)
def laws_markIntS (a : List Int) (k : Int) : Option ((List Int) × Int) :=
 (laws_markIntS_L2 fuel (a, k, 0)).bind fun s1 =>
  some (s1.1, s1.2)
def laws_markIntSS_L2 : Nat → ((List (List Int)) × Int × Int) → Option ((List (List Int)) × Int)
 | 0, _ => none
 | n + 1, (a, k, i) =>
  if decide (i < (a.length : Int)) then
   if inb i a then
    (laws_markIntS (gd a i []) k).bind fun r1 =>
     laws_markIntSS_L2 n (stt a i r1.1, r1.2, w64 (i + 1))
   else none
  else
   some (a, k)
def laws_markIntSS (a : List (List Int)) (k : Int) : Option ((List (List Int)) × Int) :=
 (laws_markIntSS_L2 fuel (a, k, 0)).bind fun s1 =>
  some (s1.1, s1.2)
def laws_heldIntS_L2 : Nat → ((List Int) × Int × Int) → Option ((Int) ⊕ (Int))
 | 0, _ => none
 | n + 1, (a, k, i) =>
  if decide (i < (a.length : Int)) then
   if inb i a then
    if (gd a i 0) != k then
     some (.inr (-1))
    else
     laws_heldIntS_L2 n (a, w64 (k + 1), w64 (i + 1))
   else none
  else
   some (.inl k)
def laws_heldIntS (a : List Int) (k : Int) : Option (Int) :=
 (laws_heldIntS_L2 fuel (a, k, 0)).bind fun s1 =>
  match s1 with
  | .inl s2 =>
   some s2
  | .inr s3 =>
   some s3
def laws_heldIntSS_L2 : Nat → ((List (List Int)) × Int × Int) → Option ((Int) ⊕ (Int))
 | 0, _ => none
 | n + 1, (a, k, i) =>
  if decide (i < (a.length : Int)) then
   if inb i a then
    (laws_heldIntS (gd a i []) k).bind fun r1 =>
     if decide (r1 < 0) then
      some (.inr (-1))
     else
      laws_heldIntSS_L2 n (a, r1, w64 (i + 1))
   else none
  else
   some (.inl k)
def laws_heldIntSS (a : List (List Int)) (k : Int) : Option (Int) :=
 (laws_heldIntSS_L2 fuel (a, k, 0)).bind fun s1 =>
  match s1 with
  | .inl s2 =>
   some s2
  | .inr s3 =>
   some s3
end T
open Go Go.Va
namespace T
abbrev Con := List Int × Int × List (List Int)
abbrev Net := Int × Int × List Con
def rowsS (a : List (List Int)) : Prop := a.length ≤ 1048576 ∧ ∀ r ∈ a, r.length ≤ 1048576
def relB (n : Int) (r : Int × List (List Int)) : Bool := decide (1 ≤ r.1 ∧ r.1 ≤ 3) && (r.2.all fun t => decide ((t.length : Int) = r.1) && belowB n t) && incB r.2
def tupAt (n : Int) (r : Int × List (List Int)) (k : Nat) : Bool := decide (((r.2.getD k []).length : Int) = r.1) && belowB n (r.2.getD k []) && (decide (k = 0) || decide (cmpL (r.2.getD (k - 1) []) (r.2.getD k []) < 0))
theorem getD_of {α : Type} {l : List α} {k : Nat} {d : α} (h : k < l.length) : l.getD k d = l[k] := by simp [List.getD_eq_getElem?_getD, h]
theorem tupAt_all {n ar : Int} {ts : List (List Int)} : (List.range ts.length).all (tupAt n (ar, ts)) = ((ts.all fun t => decide ((t.length : Int) = ar) && belowB n t) && incB ts) := by
 rw [Bool.eq_iff_iff, Bool.and_eq_true, List.all_eq_true, List.all_eq_true, incB_iff]
 unfold tupAt
 constructor
 ·intro h
  refine ⟨fun t ht => ?_, fun i hi => ?_⟩
  ·obtain ⟨k, hk, rfl⟩ := List.getElem_of_mem ht
   have := h k (List.mem_range.2 hk)
   rw [getD_of hk] at this
   simp only [Bool.and_eq_true] at this
   rw [Bool.and_eq_true]; exact this.1
  ·have := h (i + 1) (List.mem_range.2 hi)
   rw [getD_of hi, Nat.add_sub_cancel, getD_of (show i < ts.length by omega)] at this
   simp at this
   exact this.2
 ·rintro ⟨h1, h2⟩ k hk
  have hk := List.mem_range.1 hk
  have e := h1 _ (List.getElem_mem hk)
  rw [getD_of hk]
  rw [Bool.and_eq_true] at e
  rw [Bool.and_eq_true, Bool.and_eq_true]
  refine ⟨e, ?_⟩
  cases k with
  | zero => simp
  | succ i =>
   have := h2 i hk
   rw [Nat.add_sub_cancel, getD_of (show i < ts.length by omega)]
   simp [this]
theorem impl_isRelation_ok {n : Int} {r : Int × List (List Int)} (h : rowsS r.2) : impl_isRelation n r = some (relB n r) := by
 obtain ⟨ar, ts⟩ := r
 unfold impl_isRelation relB
 by_cases h1 : ar < 1
 ·simp [h1, show ¬ 1 ≤ ar by omega]
 ·by_cases h2 : ar > 3
  ·simp [h1, h2, show ¬ ar ≤ 3 by omega]
  ·rw [if_neg (by simpa using h1), if_neg (by simpa using h2)]
   have key := forA ts.length (fun m (_ : Unit) i => impl_isRelation_L4 m (n, (ar, ts), ts, (ts.length : Int), i)) (fun _ => ()) (tupAt n (ar, ts)) (r := some (.inr false)) (e := some (.inl ())) (fun m k hk => ?_) (fun m => ?_) (n := fuel) (by unfold fuel; have := h.1; simp at this; omega)
   ·rw [key, tupAt_all]
    simp only [show (1 ≤ ar ∧ ar ≤ 3) = True by simp; omega, decide_true, Bool.true_and]
    cases (ts.all fun t => decide ((t.length : Int) = ar) && belowB n t) && incB ts <;> simp
   ·have hx := h.2 ts[k] (List.getElem_mem hk)
    have hk' := h.1
    simp only at hk'
    simp only [impl_isRelation_L4, inb_nat, gd_nat hk, w64_succ (show k < 4611686018427387904 by omega), impl_inSize_ok n (show ts[k].length ≤ 1099511627775 by omega), tupAt, getD_of hk]
    by_cases hl : (ts[k].length : Int) = ar
    ·cases hb : belowB n ts[k] with
     | false => simp [hk, hl]
     | true =>
      cases k with
      | zero => simp [hk, hl]
      | succ i =>
       have hi : i < ts.length := by omega
       have hx2 := h.2 ts[i] (List.getElem_mem hi)
       have e : w64 (((i + 1 : Nat) : Int) - 1) = (i : Int) := by rw [w64_id (by omega) (by omega)]; omega
       simp only [e, inb_nat, gd_nat hi, Nat.add_sub_cancel, getD_of hi, impl_compareLists_ok (show ts[i].length ≤ 1099511627775 by omega)]
       by_cases hc : cmpL ts[i] ts[i + 1] < 0
       ·simp [hk, hl, hi, hc, show ¬ cmpL ts[i] ts[i + 1] ≥ 0 by omega]; omega
       ·simp [hk, hl, hi, hc, show cmpL ts[i] ts[i + 1] ≥ 0 by omega]; omega
    ·simp [hk, hl]
   ·simp [impl_isRelation_L4]
theorem spec_l13Good_ok {n : Int} {r : Int × List (List Int)} (h : rowsS r.2) (hn : 1 ≤ n ∧ n ≤ 8) : spec_l13Good n r = some (relB n r) := by
 obtain ⟨ar, ts⟩ := r
 unfold spec_l13Good relB
 rw [spec_l1In_ok]
 by_cases h1 : 1 ≤ ar ∧ ar ≤ 3
 ·simp only [h1, and_self, decide_true, Option.bind_some, Bool.not_true, Bool.false_eq_true, if_false, Bool.true_and]
  obtain ⟨m, rfl⟩ : ∃ m : Nat, ar = m := ⟨ar.toNat, by omega⟩
  rw [spec_l2Pow_ok (by omega) (by omega) (by omega)]
  simp only [Option.bind_some]
  have key := forB ts.length (fun m' (_ : Unit) i => spec_l13Good_L4 m' (n, ((m : Int), ts), i)) (fun _ => ()) (tupAt n ((m : Int), ts)) (r := some (.inr false)) (e := some (.inl ())) (fun m' k hk hb0 => ?_) (fun m' _ => ?_) (n := fuel) (by unfold fuel; have := h.1; simp at this; omega)
  ·by_cases hc : (ts.length : Int) > n ^ m
   ·rw [if_pos (by simpa using hc)]
    by_cases hv : ((ts.all fun t => decide ((t.length : Int) = m) && belowB n t) && incB ts) = true
    ·rw [Bool.and_eq_true, List.all_eq_true] at hv
     rcases inc_count (k := m) hv.2 fun t ht => by have := hv.1 t ht; simp at this; exact ⟨by omega, this.2⟩ with h2 | h2
     ·omega
     ·subst h2
      have := pow_bd (n := n) (by omega) (by omega) (k := m) (by omega)
      simp at hc; omega
    ·simp only [Bool.not_eq_true] at hv; rw [hv]
   ·rw [if_neg (by simpa using hc), key, tupAt_all]
    cases (ts.all fun t => decide ((t.length : Int) = m) && belowB n t) && incB ts <;> simp
  ·have hx := h.2 ts[k] (List.getElem_mem hk)
   have hk' := h.1
   simp only at hk'
   simp only [spec_l13Good_L4, inb_nat, gd_nat hk, w64_succ (show k < 4611686018427387904 by omega), spec_l8Tuple_ok (n := n) _ (by omega) (by omega) (show ts[k].length ≤ 1099511627775 by omega), tupAt, getD_of hk]
   by_cases hl : (ts[k].length : Int) = m
   ·cases hb : belowB n ts[k] with
    | false => simp [hk, hl]
    | true =>
     cases k with
     | zero => simp [hk, hl]
     | succ i =>
      have hi : i < ts.length := by omega
      have hx2 := h.2 ts[i] (List.getElem_mem hi)
      have e : w64 (((i + 1 : Nat) : Int) - 1) = (i : Int) := by rw [w64_id (by omega) (by omega)]; omega
      simp only [e, inb_nat, gd_nat hi, Nat.add_sub_cancel, getD_of hi]
      have hb1 := hb0 i (by omega)
      simp only [tupAt, getD_of hi, Bool.and_eq_true, decide_eq_true_eq] at hb1
      rw [spec_l3Less_ok (s := ts[i]) (t := ts[i + 1]) (by omega) (by have := hb1.1.1; omega)]
      by_cases hc : cmpL ts[i] ts[i + 1] < 0
      ·simp [hk, hl, hi, hc]; omega
      ·simp [hk, hl, hi, hc]; omega
   ·simp [hk, hl]
  ·simp [spec_l13Good_L4]
 ·have : ¬ (1 ≤ ar ∧ ar ≤ 3) := h1
  simp [this]
end T
open Go Go.Va
namespace T
section
variable {v n up : Int} {c : Con} {vals : List Int}
theorem spec_l1Own_ok {l : List Int} (h : l.length ≤ 1099511627775) : spec_l1Own l = some l := by
 unfold spec_l1Own
 rw [if_pos (by unfold lim; simp; omega)]; simp
end
end T
open Go Go.Va
namespace T
theorem getD_set_of {α : Type} {l : List α} {i j : Nat} {y d : α} : (l.set i y).getD j d = if i = j ∧ j < l.length then y else l.getD j d := by
 simp only [List.getD_eq_getElem?_getD, List.getElem?_set]
 by_cases h : i = j
 ·subst h
  by_cases h2 : i < l.length
  ·simp [h2]
  ·simp [h2]
 ·simp [h]
end T
open Go Go.Va
namespace T
def mkL {α : Type} (f : α → Int → α × Int) : List α → Int → List α × Int
 | [], k => ([], k)
 | x :: l, k => ((f x k).1 :: (mkL f l (f x k).2).1, (mkL f l (f x k).2).2)
theorem mkL_snoc {α : Type} (f : α → Int → α × Int) : ∀ (l : List α) (x : α) (k : Int), mkL f (l ++ [x]) k = ((mkL f l k).1 ++ [(f x (mkL f l k).2).1], (f x (mkL f l k).2).2)
 | [], x, k => by simp [mkL]
 | y :: l, x, k => by
  simp only [List.cons_append, mkL]
  rw [mkL_snoc f l x]
theorem mkL_len {α : Type} (f : α → Int → α × Int) : ∀ (l : List α) (k : Int), (mkL f l k).1.length = l.length
 | [], _ => rfl
 | x :: l, k => by simp [mkL, mkL_len f l]
theorem mkL_far {α : Type} {f : α → Int → α × Int} {w : α → Nat} : ∀ (l : List α) (k : Int), (∀ x ∈ l, ∀ k, (f x k).2 = k + w x) → (mkL f l k).2 = k + ((l.map w).sum : Nat)
 | [], k, _ => by simp [mkL]
 | x :: l, k, h => by
  simp only [mkL, List.map_cons, List.sum_cons]
  rw [mkL_far l _ fun y hy => h y (List.mem_cons_of_mem _ hy), h x (by simp)]; push_cast; omega
theorem markX {α β : Type} (N : Nat) (L : Nat → List α → Int → Int → Option β) (f : α → Int → α × Int) (w : α → Nat) (B : Int) (fin : List α → Int → Option β) (xs : List α) (k0 : Int) (hN : xs.length = N) (hw : ∀ x ∈ xs, ∀ k, (f x k).2 = k + w x)
    (h0 : 0 ≤ k0) (hB : k0 + ((xs.map w).sum : Nat) ≤ B)
    (hs : ∀ n (a : List α) (k : Int) (i : Nat) (hi : i < N) (hl : a.length = N), a[i]'(by omega) ∈ xs → 0 ≤ k → k + w (a[i]'(by omega)) ≤ B → L (n + 1) a k i = L n (a.set i (f (a[i]'(by omega)) k).1) (f (a[i]'(by omega)) k).2 ((i + 1 : Nat) : Int))
    (he : ∀ n a k, a.length = N → L (n + 1) a k (N : Nat) = fin a k) {n : Nat} (hn : N < n) : L n xs k0 0 = fin (mkL f xs k0).1 (mkL f xs k0).2 := by
  have far : ∀ i, i ≤ N → (mkL f (xs.take i) k0).2 = k0 + (((xs.take i).map w).sum : Nat) := fun i _ => mkL_far _ _ fun x hx => hw x (List.mem_of_mem_take hx)
  have := forS N (fun n (s : List α × Int) i => L n s.1 s.2 i) (fun i => ((mkL f (xs.take i) k0).1 ++ xs.drop i, (mkL f (xs.take i) k0).2)) (r := fin (mkL f xs k0).1 (mkL f xs k0).2) (fun n i hi => ?_) (fun n => ?_) hn
  · simpa [mkL] using this
  · have hix : i < xs.length := by omega
    have hlen : (mkL f (xs.take i) k0).1.length = i := by rw [mkL_len]; simp; omega
    have hl2 : ((mkL f (xs.take i) k0).1 ++ xs.drop i).length = N := by simp [hlen]; omega
    have hget : ((mkL f (xs.take i) k0).1 ++ xs.drop i)[i]'(by omega) = xs[i] := by
      rw [List.getElem_append_right (by omega)]; simp [hlen]
    have hsum : (((xs.take i).map w).sum : Nat) + w xs[i] ≤ (xs.map w).sum := by
      have h1 : xs = xs.take i ++ xs[i] :: xs.drop (i + 1) := by rw [← List.drop_eq_getElem_cons hix, List.take_append_drop]
      have h2 : (xs.map w).sum = ((xs.take i).map w).sum + (w xs[i] + ((xs.drop (i + 1)).map w).sum) := by
        conv => lhs; rw [h1]
        rw [List.map_append, List.sum_append, List.map_cons, List.sum_cons]
      omega
    have hf := far i (by omega)
    dsimp only
    rw [hs n _ _ i hi hl2 (by rw [hget]; exact List.getElem_mem hix) (by omega) (by rw [hget, hf]; omega), hget, List.take_succ_eq_append_getElem hix, mkL_snoc]
    congr 1
    rw [List.set_append_right _ _ (by omega), hlen, Nat.sub_self, List.drop_eq_getElem_cons hix, List.set_cons_zero, List.append_assoc]; rfl
  · dsimp only
    rw [List.take_of_length_le (by omega), List.drop_of_length_le (by omega), List.append_nil]
    exact he n _ _ (by rw [mkL_len]; exact hN)
theorem heldX {α : Type} (f : α → Int → α × Int) (h : α → Int → Option Int) (w : α → Nat) (B : Int) : ∀ (xs : List α) (k0 : Int) (L : Nat → Int → Int → Option (Int ⊕ Int)) (j : Nat), (∀ x ∈ xs, ∀ k, (f x k).2 = k + w x) → 0 ≤ k0 → k0 + ((xs.map w).sum : Nat) ≤ B →
    (∀ x ∈ xs, ∀ k, 0 ≤ k → k + w x ≤ B → h (f x k).1 k = some (f x k).2) →
    (∀ n k (i : Nat) (hi : i < xs.length), 0 ≤ k → k + w xs[i] ≤ B → L (n + 1) k ((j + i : Nat) : Int) = (h ((mkL f xs k0).1[i]'(by rw [mkL_len]; exact hi)) k).bind fun q => if q < 0 then some (.inr (-1)) else L n q ((j + i + 1 : Nat) : Int)) →
    (∀ n k, L (n + 1) k ((j + xs.length : Nat) : Int) = some (.inl k)) → ∀ n, xs.length < n → L n k0 (j : Int) = some (.inl (mkL f xs k0).2)
  | [], k0, L, j, _, _, _, _, _, he, n, hn => by
    obtain ⟨n, rfl⟩ : ∃ m, n = m + 1 := ⟨n - 1, by simp at hn; omega⟩
    have := he n k0
    simpa [mkL] using this
  | x :: xs, k0, L, j, hw, h0, hB, hh, hs, he, n, hn => by
    obtain ⟨n, rfl⟩ : ∃ m, n = m + 1 := ⟨n - 1, by simp at hn; omega⟩
    rw [List.map_cons, List.sum_cons] at hB
    have hx := hw x (by simp) k0
    have h1 := hs n k0 0 (by simp) h0 (by simp only [List.getElem_cons_zero]; omega)
    simp only [Nat.add_zero, mkL, List.getElem_cons_zero] at h1
    rw [h1, hh x (by simp) k0 h0 (by omega)]
    simp only [Option.bind_some]
    rw [if_neg (by omega)]
    have := heldX f h w B xs (f x k0).2 L (j + 1) (fun y hy => hw y (List.mem_cons_of_mem _ hy)) (by omega) (by rw [hx]; omega) (fun y hy => hh y (List.mem_cons_of_mem _ hy))
      (fun n k i hi hk0 hkB => by
        have := hs n k (i + 1) (by simpa using hi) hk0 (by simpa using hkB)
        simp only [mkL, List.getElem_cons_succ] at this
        rw [show j + 1 + i = j + (i + 1) by omega]; exact this)
      (fun n k => by have := he n k; rw [List.length_cons] at this; rw [show j + 1 + xs.length = j + (xs.length + 1) by omega]; exact this) n (by simp at hn; omega)
    exact this
abbrev BM : Int := 1152921504606846976
def mInt (_ : Int) (k : Int) : Int × Int := (k, k + 1)
def mIntS (l : List Int) (k : Int) : List Int × Int := mkL mInt l k
def mIntSS (l : List (List Int)) (k : Int) : List (List Int) × Int := mkL mIntS l k
theorem sum_one {α : Type} : ∀ (l : List α), (l.map fun _ => 1).sum = l.length
 | [] => rfl
 | _ :: l => by rw [List.map_cons, List.sum_cons, sum_one l, List.length_cons]; omega
theorem mIntS_far (l : List Int) (k : Int) : (mIntS l k).2 = k + (l.length : Nat) := by
 unfold mIntS
 rw [mkL_far (w := fun _ => 1) l k fun _ _ _ => rfl, sum_one]
theorem mIntSS_far (l : List (List Int)) (k : Int) : (mIntSS l k).2 = k + ((l.map List.length).sum : Nat) := by
 unfold mIntSS
 rw [mkL_far (w := List.length) l k fun x _ k => mIntS_far x k]
theorem markIntS_ok {l : List Int} {k : Int} (hl : l.length ≤ 1048576) (h0 : 0 ≤ k) (hB : k + l.length ≤ BM) : laws_markIntS l k = some (mIntS l k) := by
 unfold laws_markIntS
 have := markX l.length (fun n a k i => laws_markIntS_L2 n (a, k, i)) mInt (fun _ => 1) BM (fun a k => some (a, k)) l k rfl (fun _ _ _ => rfl) h0 (by rw [sum_one]; exact hB) (fun n a k i hi hl' _ hk0 hkB => ?_) (fun n a k hl' => ?_) (n := fuel) (by unfold fuel; omega)
 ·rw [this]; rfl
 ·have hk1 : w64 (k + 1) = k + 1 := w64_id (by omega) (by unfold BM at hkB; omega)
  simp only [laws_markIntS_L2, inb_nat, stt_nat, w64_succ (show i < 4611686018427387904 by omega), hk1, mInt]
  simp [hl', hi]
 ·simp [laws_markIntS_L2, hl']
theorem heldIntS_ok {l : List Int} {k : Int} (hl : l.length ≤ 1048576) (h0 : 0 ≤ k) (hB : k + l.length ≤ BM) : laws_heldIntS (mIntS l k).1 k = some (mIntS l k).2 := by
 unfold laws_heldIntS
 have hlen : (mIntS l k).1.length = l.length := mkL_len _ _ _
 have := heldX mInt (fun x k => if x = k then some (k + 1) else some (-1)) (fun _ => 1) BM l k (fun n k' i => laws_heldIntS_L2 n ((mIntS l k).1, k', i)) 0 (fun _ _ _ => rfl) h0 (by rw [sum_one]; exact hB) (fun x _ k' _ _ => by simp [mInt])
  (fun n k' i hi hk0 hkB => by
   have hi' : i < (mIntS l k).1.length := by omega
   have hk1 : w64 (k' + 1) = k' + 1 := w64_id (by omega) (by unfold BM at hkB; omega)
   rw [Nat.zero_add]
   simp only [laws_heldIntS_L2, inb_nat, gd_nat hi', w64_succ (show i < 4611686018427387904 by omega), hk1]
   have e : (mkL mInt l k).1[i]'(by rw [mkL_len]; exact hi) = (mIntS l k).1[i] := rfl
   rw [e]
   by_cases h : (mIntS l k).1[i] = k'
   ·simp [hi', hi, h, hlen, show ¬ k' + 1 < 0 by omega]
   ·simp [hi', hi, h, hlen])
  (fun n k' => by rw [Nat.zero_add]; simp [laws_heldIntS_L2, hlen]) fuel (by unfold fuel; omega)
 rw [show ((0 : Nat) : Int) = 0 from rfl] at this
 rw [this]; rfl
theorem markIntSS_ok {l : List (List Int)} {k : Int} (hl : l.length ≤ 1048576) (hr : ∀ r ∈ l, r.length ≤ 1048576) (h0 : 0 ≤ k) (hB : k + ((l.map List.length).sum : Nat) ≤ BM) : laws_markIntSS l k = some (mIntSS l k) := by
 unfold laws_markIntSS
 have := markX l.length (fun n a k i => laws_markIntSS_L2 n (a, k, i)) mIntS List.length BM (fun a k => some (a, k)) l k rfl (fun x _ k => mIntS_far x k) h0 hB (fun n a k i hi hl' hm hk0 hkB => ?_) (fun n a k hl' => ?_) (n := fuel) (by unfold fuel; omega)
 ·rw [this]; rfl
 ·have hia : i < a.length := by omega
  simp only [laws_markIntSS_L2, inb_nat, stt_nat, gd_nat hia, w64_succ (show i < 4611686018427387904 by omega), markIntS_ok (hr _ hm) hk0 hkB, Option.bind_some]
  simp [hl', hi]
 ·simp [laws_markIntSS_L2, hl']
theorem heldIntSS_ok {l : List (List Int)} {k : Int} (hl : l.length ≤ 1048576) (hr : ∀ r ∈ l, r.length ≤ 1048576) (h0 : 0 ≤ k) (hB : k + ((l.map List.length).sum : Nat) ≤ BM) : laws_heldIntSS (mIntSS l k).1 k = some (mIntSS l k).2 := by
 unfold laws_heldIntSS
 have hlen : (mIntSS l k).1.length = l.length := mkL_len _ _ _
 have := heldX mIntS laws_heldIntS List.length BM l k (fun n k' i => laws_heldIntSS_L2 n ((mIntSS l k).1, k', i)) 0 (fun x _ k => mIntS_far x k) h0 hB (fun x hx k' hk0 hkB => heldIntS_ok (hr x hx) hk0 hkB)
  (fun n k' i hi hk0 hkB => by
   have hi' : i < (mIntSS l k).1.length := by omega
   rw [Nat.zero_add]
   simp only [laws_heldIntSS_L2, inb_nat, gd_nat hi', w64_succ (show i < 4611686018427387904 by omega)]
   have e : (mkL mIntS l k).1[i]'(by rw [mkL_len]; exact hi) = (mIntSS l k).1[i] := rfl
   rw [e]
   simp [hlen, hi])
  (fun n k' => by rw [Nat.zero_add]; simp [laws_heldIntSS_L2, hlen]) fuel (by unfold fuel; omega)
 rw [show ((0 : Nat) : Int) = 0 from rfl] at this
 rw [this]; rfl
end T
open Go Go.Va
namespace T
theorem w1 : w64 1 = 1 := by rw [w64_def]; rfl
theorem w2 : w64 2 = 2 := by rw [w64_def]; rfl
theorem w3 : w64 3 = 3 := by rw [w64_def]; rfl
section
variable {a : Net}
end
end T
open Go Go.Va
namespace T
abbrev Opn := Int × List Int
section
variable {n : Int} {f : Opn}
variable {a : Net}
end
end T
open Go Go.Va
namespace T
abbrev T3 := List (List (List Bool))
abbrev T4 := List (List (List (List Bool)))
def Cell4 (s : Nat) (c : List (List Bool)) : Prop := c.length = s ∧ ∀ x, x < s → (c.getD x []).length = s
def Row4 (n s : Nat) (r : T3) : Prop := r.length = n ∧ ∀ j, j < n → Cell4 s (r.getD j [])
def Ok4 (n s : Nat) (t : T4) : Prop := t.length = n ∧ ∀ i, i < n → Row4 n s (t.getD i [])
def r4 (t : T4) (i j x y : Nat) : Bool := (((t.getD i []).getD j []).getD x []).getD y false
def s4 (t : T4) (i j x y : Nat) (b : Bool) : T4 := t.set i ((t.getD i []).set j (((t.getD i []).getD j []).set x ((((t.getD i []).getD j []).getD x []).set y b)))
def Ok3 (n m : Nat) (u : T3) : Prop := u.length = n ∧ ∀ i, i < n → (u.getD i []).length = n ∧ ∀ j, j < n → ((u.getD i []).getD j []).length = m
def r3 (u : T3) (i j p : Nat) : Bool := ((u.getD i []).getD j []).getD p false
def s3 (u : T3) (i j p : Nat) (b : Bool) : T3 := u.set i ((u.getD i []).set j (((u.getD i []).getD j []).set p b))
section
variable {n s m : Nat} {t : T4} {u : T3}
theorem Ok4.at (h : Ok4 n s t) {i j x : Nat} (hi : i < n) (hj : j < n) (hx : x < s) : i < t.length ∧ j < (t.getD i []).length ∧ x < ((t.getD i []).getD j []).length ∧ (((t.getD i []).getD j []).getD x []).length = s :=
 ⟨by rw [h.1]; exact hi, by rw [(h.2 i hi).1]; exact hj, by rw [((h.2 i hi).2 j hj).1]; exact hx, ((h.2 i hi).2 j hj).2 x hx⟩
theorem Ok3.at (h : Ok3 n m u) {i j : Nat} (hi : i < n) (hj : j < n) : i < u.length ∧ j < (u.getD i []).length ∧ ((u.getD i []).getD j []).length = m :=
 ⟨by rw [h.1]; exact hi, by rw [(h.2 i hi).1]; exact hj, (h.2 i hi).2 j hj⟩
theorem s4_ok (h : Ok4 n s t) {i j x y : Nat} {b : Bool} : Ok4 n s (s4 t i j x y b) := by
 unfold s4
 refine ⟨by rw [List.length_set]; exact h.1, fun i' hi' => ?_⟩
 rw [getD_set_of]
 split
 ·rename_i hc
  obtain ⟨rfl, _⟩ := hc
  have hr := h.2 i hi'
  refine ⟨by rw [List.length_set]; exact hr.1, fun j' hj' => ?_⟩
  rw [getD_set_of]
  split
  ·rename_i hc
   obtain ⟨rfl, _⟩ := hc
   have hcl := hr.2 j hj'
   refine ⟨by rw [List.length_set]; exact hcl.1, fun x' hx' => ?_⟩
   rw [getD_set_of]
   split
   ·rename_i hc
    obtain ⟨rfl, _⟩ := hc
    rw [List.length_set]; exact hcl.2 x hx'
   ·exact hcl.2 x' hx'
  ·exact hr.2 j' hj'
 ·exact h.2 i' hi'
theorem s3_ok (h : Ok3 n m u) {i j p : Nat} {b : Bool} : Ok3 n m (s3 u i j p b) := by
 unfold s3
 refine ⟨by rw [List.length_set]; exact h.1, fun i' hi' => ?_⟩
 rw [getD_set_of]
 split
 ·rename_i hc
  obtain ⟨rfl, _⟩ := hc
  have hr := h.2 i hi'
  refine ⟨by rw [List.length_set]; exact hr.1, fun j' hj' => ?_⟩
  rw [getD_set_of]
  split
  ·rename_i hc
   obtain ⟨rfl, _⟩ := hc
   rw [List.length_set]; exact hr.2 j hj'
  ·exact hr.2 j' hj'
 ·exact h.2 i' hi'
theorem r4_s4 (h : Ok4 n s t) {i j x y : Nat} {b : Bool} (hi : i < n) (hj : j < n) (hx : x < s) (hy : y < s) (i' j' x' y' : Nat) :
    r4 (s4 t i j x y b) i' j' x' y' = if i = i' ∧ j = j' ∧ x = x' ∧ y = y' then b else r4 t i' j' x' y' := by
  obtain ⟨h1, h2, h3, h4⟩ := h.at hi hj hx
  unfold r4 s4
  rw [getD_set_of]
  by_cases e1 : i = i'
  · subst e1
    rw [if_pos ⟨rfl, h1⟩, getD_set_of]
    by_cases e2 : j = j'
    · subst e2
      rw [if_pos ⟨rfl, h2⟩, getD_set_of]
      by_cases e3 : x = x'
      · subst e3
        rw [if_pos ⟨rfl, h3⟩, getD_set_of]
        by_cases e4 : y = y'
        · subst e4; rw [if_pos ⟨rfl, by omega⟩, if_pos ⟨rfl, rfl, rfl, rfl⟩]
        · rw [if_neg (by omega), if_neg (by omega)]
      · rw [if_neg (by omega), if_neg (by omega)]
    · rw [if_neg (by omega), if_neg (by omega)]
  · rw [if_neg (by omega), if_neg (by omega)]
theorem r3_s3 (h : Ok3 n m u) {i j p : Nat} {b : Bool} (hi : i < n) (hj : j < n) (hp : p < m) (i' j' p' : Nat) :
    r3 (s3 u i j p b) i' j' p' = if i = i' ∧ j = j' ∧ p = p' then b else r3 u i' j' p' := by
  obtain ⟨h1, h2, h3⟩ := h.at hi hj
  unfold r3 s3
  rw [getD_set_of]
  by_cases e1 : i = i'
  · subst e1
    rw [if_pos ⟨rfl, h1⟩, getD_set_of]
    by_cases e2 : j = j'
    · subst e2
      rw [if_pos ⟨rfl, h2⟩, getD_set_of]
      by_cases e3 : p = p'
      · subst e3; rw [if_pos ⟨rfl, by omega⟩, if_pos ⟨rfl, rfl, rfl⟩]
      · rw [if_neg (by omega), if_neg (by omega)]
    · rw [if_neg (by omega), if_neg (by omega)]
  · rw [if_neg (by omega), if_neg (by omega)]
end
structure Rel34 (n s : Nat) (t : T4) (u : T3) : Prop where
 o4 : Ok4 n s t
 o3 : Ok3 n (s * s) u
 eq : ∀ i j x y, i < j → j < n → x < s → y < s → r4 t i j x y = r3 u i j (x * s + y) ∧ r4 t j i y x = r3 u i j (x * s + y)
theorem cell_lt {s x y : Nat} (hx : x < s) (hy : y < s) : x * s + y < s * s := by
 have : (x + 1) * s ≤ s * s := Nat.mul_le_mul_right _ hx
 rw [Nat.succ_mul] at this; omega
theorem cell_inj {s x y x' y' : Nat} (hy : y < s) (hy' : y' < s) (h : x * s + y = x' * s + y') : x = x' ∧ y = y' := by
 have h1 : (x * s + y) / s = x := by rw [Nat.mul_comm, Nat.mul_add_div (by omega), Nat.div_eq_of_lt hy]; omega
 have h2 : (x' * s + y') / s = x' := by rw [Nat.mul_comm, Nat.mul_add_div (by omega), Nat.div_eq_of_lt hy']; omega
 have : x = x' := by rw [← h1, ← h2, h]
 subst this
 exact ⟨rfl, by omega⟩
theorem Rel34.drop {n s : Nat} {t : T4} {u : T3} (h : Rel34 n s t u) {i j x y : Nat} (hij : i < j) (hj : j < n) (hx : x < s) (hy : y < s) :
    Rel34 n s (s4 (s4 t i j x y false) j i y x false) (s3 u i j (x * s + y) false) := by
  refine ⟨s4_ok (s4_ok h.o4), s3_ok h.o3, fun i' j' x' y' h1 h2 h3 h4 => ?_⟩
  have hi : i < n := by omega
  rw [r4_s4 (s4_ok h.o4) hj hi hy hx, r4_s4 h.o4 hi hj hx hy, r4_s4 (s4_ok h.o4) hj hi hy hx, r4_s4 h.o4 hi hj hx hy, r3_s3 h.o3 hi hj (cell_lt hx hy)]
  obtain ⟨e1, e2⟩ := h.eq i' j' x' y' h1 h2 h3 h4
  by_cases e : i = i' ∧ j = j' ∧ x = x' ∧ y = y'
  · obtain ⟨rfl, rfl, rfl, rfl⟩ := e
    simp
  · have e3 : ¬ (i = i' ∧ j = j' ∧ x * s + y = x' * s + y') := fun ⟨q1, q2, q3⟩ => by
      have := cell_inj hy h4 q3
      exact e ⟨q1, q2, this.1, this.2⟩
    have e4 : ¬ (j = i' ∧ i = j' ∧ y = x' ∧ x = y') := by omega
    have e5 : ¬ (i = j' ∧ j = i' ∧ x = y' ∧ y = x') := by omega
    have e6 : ¬ (j = j' ∧ i = i' ∧ y = y' ∧ x = x') := by omega
    simp only [if_neg e, if_neg e3, if_neg e4, if_neg e5, if_neg e6]
    exact ⟨e1, e2⟩
end T
open Go Go.Va
namespace T
section
variable {a : Net} {n s : Nat} {t : T4} {u : T3}
def PA (n s i : Nat) (t : T4) : Prop := t.length = n ∧ ∀ i', i' < i → Row4 n s (t.getD i' [])
def PB (n s i j : Nat) (t : T4) : Prop := PA n s i t ∧ (t.getD i []).length = n ∧ ∀ j', j' < j → Cell4 s ((t.getD i []).getD j' [])
theorem PA.set {i : Nat} (h : PA n s i t) (r : T3) : PA n s i (t.set i r) := by
 refine ⟨by rw [List.length_set]; exact h.1, fun i' hi' => ?_⟩
 rw [getD_set_of, if_neg (by omega)]; exact h.2 i' hi'
theorem PB.set {i j : Nat} (h : PB n s i j t) (hi : i < n) (c : List (List Bool)) : PB n s i j (t.set i ((t.getD i []).set j c)) := by
 have hl := h.1.1
 refine ⟨h.1.set _, ?_, fun j' hj' => ?_⟩
 ·rw [getD_set_of, if_pos ⟨rfl, by omega⟩, List.length_set]; exact h.2.1
 ·rw [getD_set_of, if_pos ⟨rfl, by omega⟩, getD_set_of, if_neg (by omega)]; exact h.2.2 j' hj'
end
end T
open Go Go.Va
namespace T
section
variable {n k m : Nat} {op : Opn} {r : Int × List (List Int)}
theorem pow_le3 {n k : Nat} (hn : n ≤ 4) (hk : k ≤ 3) : n ^ k ≤ 64 := by
 have h1 : n ^ k ≤ 4 ^ k := Nat.pow_le_pow_left hn k
 have h2 : 4 ^ k ≤ 4 ^ 3 := Nat.pow_le_pow_right (by omega) hk
 have : (4 : Nat) ^ 3 = 64 := by decide
 omega
end
end T
set_option linter.unusedVariables false
open Go Go.Va
namespace T
def spec_l2Args_L3 : Nat → (Int × Int × (List Int) × Int) → Option ((List Int))
 | 0, _ => none
 | n + 1, (n_, at_, out, i) =>
  if decide (i ≥ 0) then
   if n_ ≠ 0 then
    if inb i out then
     if n_ ≠ 0 then
      spec_l2Args_L3 n (n_, w64 (Int.tdiv at_ n_), stt out i (Int.tmod at_ n_), w64 (i - 1))
     else none
    else none
   else none
  else
   some out
def spec_l2Args (n_ : Int) (arity : Int) (at_ : Int) : Option ((List Int)) :=
 if 0 ≤ arity ∧ arity ≤ arity ∧ arity ≤ lim then
  (spec_l2Args_L3 fuel (n_, at_, List.replicate (Int.toNat arity) (0 : Int), w64 (arity - 1))).bind fun s1 =>
   some s1
 else none
def impl_argsAt_L3 : Nat → (Int × Int × (List Int) × Int) → Option ((List Int))
 | 0, _ => none
 | n + 1, (i, n_, args, j) =>
  if decide (j ≥ 0) then
   if n_ ≠ 0 then
    if inb j args then
     if n_ ≠ 0 then
      impl_argsAt_L3 n (w64 (Int.tdiv i n_), n_, stt args j (Int.tmod i n_), w64 (j - 1))
     else none
    else none
   else none
  else
   some args
def impl_argsAt (i : Int) (k : Int) (n_ : Int) : Option ((List Int)) :=
 if 0 ≤ k ∧ k ≤ k ∧ k ≤ lim then
  (impl_argsAt_L3 fuel (i, n_, List.replicate (Int.toNat k) (0 : Int), w64 (k - 1))).bind fun s1 =>
   some s1
 else none
def impl_clone (list : List Int) : Option ((List Int)) :=
 if ([] : List Int).length + list.length ≤ lim then
  some ([] ++ list)
 else none
end T
open Go Go.Va
namespace T
abbrev RelT := Int × List (List Int)
structure ROk (n m : Nat) (r : RelT) : Prop where
 ar : r.1 = (m : Int)
 hm : 1 ≤ m ∧ m ≤ 3
 tl : ∀ t ∈ r.2, t.length = m
 tv : ∀ t ∈ r.2, ∀ x ∈ t, 0 ≤ x ∧ x < (n : Int)
 many : r.2.length ≤ 64
 inc : incB r.2 = true
theorem rok_of {n : Nat} {r : RelT} (hn : 1 ≤ n ∧ n ≤ 4) (h : relB (n : Int) r = true) : ROk n r.1.toNat r := by
 unfold relB at h
 simp only [Bool.and_eq_true, decide_eq_true_eq, List.all_eq_true] at h
 obtain ⟨⟨h1, h2⟩, h3⟩ := h
 refine ⟨by omega, by omega, fun t ht => by have := (h2 t ht).1; omega, fun t ht x hx => ?_, ?_, h3⟩
 ·obtain ⟨j, hj, rfl⟩ := List.mem_iff_getElem.1 hx
  exact belowB_get (h2 t ht).2 j hj
 ·rcases inc_count (n := (n : Int)) (k := r.1.toNat) h3 fun t ht => ⟨by have := (h2 t ht).1; omega, (h2 t ht).2⟩ with h6 | h6
  ·have h7 : ((n : Int)) ^ r.1.toNat = ((n ^ r.1.toNat : Nat) : Int) := by push_cast; rfl
   have h8 := pow_le3 hn.2 (show r.1.toNat ≤ 3 by omega)
   omega
  ·rw [h6]; simp
section
variable {n k m : Nat} {r : RelT}
end
end T
open Go Go.Va
namespace T
theorem toRelation_ok {r : RelT} (h : rowsS r.2) : laws_toRelation r = some r := by
 unfold laws_toRelation
 rw [toIntSS_ok (by have := h.1; omega) fun t ht => by have := h.2 t ht; omega]
 rfl
theorem eqRelation_ok {a b : RelT} (h : rowsS a.2) : laws_eqRelation a b = some (decide (a = b)) := by
 unfold laws_eqRelation
 rw [eqIntSS_ok (by have := h.1; omega) fun r hr => by have := h.2 r hr; omega]
 obtain ⟨a1, a2⟩ := a
 obtain ⟨b1, b2⟩ := b
 by_cases h1 : a1 = b1
 ·by_cases h2 : a2 = b2 <;> simp [h1, h2]
 ·simp [h1]
end T
open Go Go.Va
namespace T
section
variable {α : Type} {nw old : Nat → α} {N i : Nat}
end
section
variable {p : Int} {W : Nat} {r row : List Int}
theorem w64_small {x : Int} (h0 : -1000000 ≤ x) (h1 : x ≤ 1000000) : w64 x = x := w64_id (by omega) (by omega)
end
section
variable {p : Int} {W N : Nat}
end
end T
open Go Go.Va
namespace T
section
variable {a : Lin}
theorem tot_le {t : Nat} (h : ¬ szR t 1048576 < 0) : t ≤ 1048576 := by
 unfold szR at h; split at h <;> omega
end
end T
open Go Go.Va
namespace T
section
variable {a : Lin} {p : Int} {W N V : Nat}
theorem sum_le16 : ∀ {l : List (List Int)}, (∀ r ∈ l, r.length ≤ 16) → (l.map List.length).sum ≤ 16 * l.length
 | [], _ => by simp
 | r :: l, h => by
  have := sum_le16 (l := l) fun q hq => h q (List.mem_cons_of_mem _ hq)
  have := h r (by simp)
  rw [List.map_cons, List.sum_cons, List.length_cons]; omega
end
end T
open Go Go.Va
namespace T
def cg (p a b : Int) : Prop := ∃ k, a = b + p * k
section
variable {p a b c d : Int}
end
inductive Sp (p : Int) (V : Nat) (A : List (List Int)) : (Nat → Int) → Prop
 | zero : Sp p V A fun _ => 0
 | add {f : Nat → Int} (r : List Int) (c : Int) : r ∈ A → Sp p V A f → Sp p V A fun i => f i + c * r.getD i 0
 | cgr {f g : Nat → Int} : Sp p V A f → (∀ i, i < V → cg p (g i) (f i)) → Sp p V A g
section
variable {p : Int} {V W N : Nat} {A B : List (List Int)} {f g : Nat → Int}
def eqSp (p : Int) (V : Nat) (A B : List (List Int)) : Prop := ∀ f, Sp p V A f ↔ Sp p V B f
end
end T
open Go Go.Va
namespace T
section
variable {p : Int} {V W N : Nat} {A B C D : List (List Int)} {f g : Nat → Int}
theorem eqSp.symm (h : eqSp p V A B) : eqSp p V B A := fun f => (h f).symm
theorem eqSp.trans (h : eqSp p V A B) (g : eqSp p V B C) : eqSp p V A C := fun f => (h f).trans (g f)
end
end T
set_option linter.unusedVariables false
open Go Go.Va
namespace T
def spec_l22Obeys_L2 : Nat → ((List Int) × (List Int) × Int) → Option ((Unit) ⊕ (Bool))
 | 0, _ => none
 | n + 1, (t, clause, i) =>
  if decide (i < (clause.length : Int)) then
   if inb i clause then
    if decide ((gd clause i 0) > 0) then
     if inb i clause then
      if inb (w64 ((gd clause i 0) - 1)) t then
       if (gd t (w64 ((gd clause i 0) - 1)) 0) == 1 then
        some (.inr true)
       else
        if inb i clause then
         if decide ((gd clause i 0) < 0) then
          if inb i clause then
           if inb (w64 ((w64 (0 - (gd clause i 0))) - 1)) t then
            if (gd t (w64 ((w64 (0 - (gd clause i 0))) - 1)) 0) == 0 then
             some (.inr true)
            else
             spec_l22Obeys_L2 n (t, clause, w64 (i + 1))
           else none
          else none
         else
          spec_l22Obeys_L2 n (t, clause, w64 (i + 1))
        else none
      else none
     else none
    else
     if inb i clause then
      if decide ((gd clause i 0) < 0) then
       if inb i clause then
        if inb (w64 ((w64 (0 - (gd clause i 0))) - 1)) t then
         if (gd t (w64 ((w64 (0 - (gd clause i 0))) - 1)) 0) == 0 then
          some (.inr true)
         else
          spec_l22Obeys_L2 n (t, clause, w64 (i + 1))
        else none
       else none
      else
       spec_l22Obeys_L2 n (t, clause, w64 (i + 1))
     else none
   else none
  else
   some (.inl ())
def spec_l22Obeys (t : List Int) (clause : List Int) : Option (Bool) :=
 (spec_l22Obeys_L2 fuel (t, clause, 0)).bind fun s1 =>
  match s1 with
  | .inl s2 =>
   some false
  | .inr s3 =>
   some s3
def impl_obeysClause_L2 : Nat → ((List Int) × (List Int) × Int × Int) → Option ((Unit) ⊕ (Bool))
 | 0, _ => none
 | n + 1, (t, t7, t8, t9) =>
  if decide (t9 < t8) then
   if inb t9 t7 then
    if decide ((gd t7 t9 0) > 0) then
     if inb (w64 ((gd t7 t9 0) - 1)) t then
      if (gd t (w64 ((gd t7 t9 0) - 1)) 0) == 1 then
       some (.inr true)
      else
       if decide ((gd t7 t9 0) < 0) then
        if inb (w64 ((w64 (0 - (gd t7 t9 0))) - 1)) t then
         if (gd t (w64 ((w64 (0 - (gd t7 t9 0))) - 1)) 0) == 0 then
          some (.inr true)
         else
          impl_obeysClause_L2 n (t, t7, t8, w64 (t9 + 1))
        else none
       else
        impl_obeysClause_L2 n (t, t7, t8, w64 (t9 + 1))
     else none
    else
     if decide ((gd t7 t9 0) < 0) then
      if inb (w64 ((w64 (0 - (gd t7 t9 0))) - 1)) t then
       if (gd t (w64 ((w64 (0 - (gd t7 t9 0))) - 1)) 0) == 0 then
        some (.inr true)
       else
        impl_obeysClause_L2 n (t, t7, t8, w64 (t9 + 1))
      else none
     else
      impl_obeysClause_L2 n (t, t7, t8, w64 (t9 + 1))
   else none
  else
   some (.inl ())
def impl_obeysClause (t : List Int) (clause : List Int) : Option (Bool) :=
 (impl_obeysClause_L2 fuel (t, clause, (clause.length : Int), 0)).bind fun s1 =>
  match s1 with
  | .inl s2 =>
   some false
  | .inr s3 =>
   some s3
def laws_markRelation (a : Int × (List (List Int))) (k : Int) : Option ((Unit × (List (List Int))) × Int) :=
 (laws_markIntSS a.2 k).bind fun r1 =>
  some (((), r1.1), r1.2)
end T
open Go Go.Va
namespace T
section
variable {c : List Int} {ar : Int}
def litB (t : List Int) (x : Int) : Bool := if x > 0 then gd t (x - 1) 0 == 1 else gd t (-x - 1) 0 == 0
theorem impl_obey {t : List Int} (ha : 1 ≤ ar ∧ ar ≤ 3) (ht : (t.length : Int) = ar) (hc : ∀ x ∈ c, -ar ≤ x ∧ x ≤ ar ∧ x ≠ 0) (hl : c.length ≤ 1099511627775) : impl_obeysClause t c = some (c.any (litB t)) := by
 unfold impl_obeysClause
 have key := allX c (fun m i => impl_obeysClause_L2 m (t, c, (c.length : Int), i)) (fun x => !litB t x) (.inr true) (.inl ()) (fun m k hk => ?_) (fun m => ?_) (n := fuel) (by unfold fuel; omega)
 ·rw [key]
  have e : (c.all fun r => !litB t r) = !(c.any (litB t)) := by rw [List.not_any_eq_all_not]
  rw [e]
  cases c.any (litB t) <;> simp
 ·have hx := hc _ (List.getElem_mem hk)
  generalize hgx : c[k] = x at hx
  have w1 : w64 (x - 1) = x - 1 := w64_small (by omega) (by omega)
  have w2 : w64 (0 - x) = -x := by rw [w64_small (by omega) (by omega)]; omega
  have w3 : w64 (-x - 1) = -x - 1 := w64_small (by omega) (by omega)
  simp only [impl_obeysClause_L2, inb_nat, hk, gd_nat hk, hgx, if_true, w1, w2, w3, w64_succ (show k < 4611686018427387904 by omega)]
  rw [if_pos (by simp; omega)]
  unfold litB
  by_cases cx : x > 0
  ·rw [if_pos (by simpa using cx), if_pos cx, if_pos (show inb (x - 1) t by unfold inb; omega), if_neg (show ¬ decide (x < 0) = true by simp; omega)]
   cases (gd t (x - 1) 0 == 1) <;> rfl
  ·rw [if_neg (by simpa using cx), if_neg cx, if_pos (show decide (x < 0) = true by simp; omega), if_pos (show inb (-x - 1) t by unfold inb; omega)]
   cases (gd t (-x - 1) 0 == 0) <;> rfl
 ·simp only [impl_obeysClause_L2]
  rw [if_neg (by simp)]
theorem spec_obey {t : List Int} (ha : 1 ≤ ar ∧ ar ≤ 3) (ht : (t.length : Int) = ar) (hc : ∀ x ∈ c, -ar ≤ x ∧ x ≤ ar ∧ x ≠ 0) (hl : c.length ≤ 1099511627775) : spec_l22Obeys t c = some (c.any (litB t)) := by
 unfold spec_l22Obeys
 have key := allX c (fun m i => spec_l22Obeys_L2 m (t, c, i)) (fun x => !litB t x) (.inr true) (.inl ()) (fun m k hk => ?_) (fun m => ?_) (n := fuel) (by unfold fuel; omega)
 ·rw [key]
  have e : (c.all fun r => !litB t r) = !(c.any (litB t)) := by rw [List.not_any_eq_all_not]
  rw [e]
  cases c.any (litB t) <;> simp
 ·have hx := hc _ (List.getElem_mem hk)
  generalize hgx : c[k] = x at hx
  have w1 : w64 (x - 1) = x - 1 := w64_small (by omega) (by omega)
  have w2 : w64 (0 - x) = -x := by rw [w64_small (by omega) (by omega)]; omega
  have w3 : w64 (-x - 1) = -x - 1 := w64_small (by omega) (by omega)
  simp only [spec_l22Obeys_L2, inb_nat, hk, gd_nat hk, hgx, if_true, w1, w2, w3, w64_succ (show k < 4611686018427387904 by omega)]
  rw [if_pos (by simp; omega)]
  unfold litB
  by_cases cx : x > 0
  ·rw [if_pos (by simpa using cx), if_pos cx, if_pos (show inb (x - 1) t by unfold inb; omega), if_neg (show ¬ decide (x < 0) = true by simp; omega)]
   cases (gd t (x - 1) 0 == 1) <;> rfl
  ·rw [if_neg (by simpa using cx), if_neg cx, if_pos (show decide (x < 0) = true by simp; omega), if_pos (show inb (-x - 1) t by unfold inb; omega)]
   cases (gd t (-x - 1) 0 == 0) <;> rfl
 ·simp only [spec_l22Obeys_L2]
  rw [if_neg (by simp)]
end
end T
open Go Go.Va
namespace T
def sortL (cmp : List Int → List Int → Int) (rows : List (List Int)) : List (List Int) := rows.mergeSort (fun x y => !decide (cmp y x < 0))
def cmpT (s t : List Int) : Int := if s.length < t.length then -1 else if t.length < s.length then 1 else cmpL s t
theorem cmpT_refl (s : List Int) : cmpT s s = 0 := by unfold cmpT; rw [if_neg (by omega), if_neg (by omega), cmpL_refl]
theorem cmpT_symm (s t : List Int) : cmpT t s = - cmpT s t := by
 unfold cmpT
 by_cases h1 : s.length < t.length
 ·rw [if_neg (by omega), if_pos h1, if_pos h1]; rfl
 ·by_cases h2 : t.length < s.length
  ·rw [if_pos h2, if_neg h1, if_pos h2]
  ·rw [if_neg h2, if_neg h1, if_neg h1, if_neg h2, cmpL_symm]
theorem cmpT_eq {s t : List Int} (h : cmpT s t = 0) : s = t := by
 unfold cmpT at h
 by_cases h1 : s.length < t.length
 ·rw [if_pos h1] at h; exact absurd h (by decide)
 ·rw [if_neg h1] at h
  by_cases h2 : t.length < s.length
  ·rw [if_pos h2] at h; exact absurd h (by decide)
  ·rw [if_neg h2] at h; exact cmpL_eq.1 h
theorem cmpT_trans {s t u : List Int} (h1 : cmpT s t < 0) (h2 : cmpT t u < 0) : cmpT s u < 0 := by
 unfold cmpT at *
 by_cases a1 : s.length < u.length
 ·rw [if_pos a1]; decide
 ·rw [if_neg a1]
  by_cases b1 : s.length < t.length
  ·have b2 : u.length < t.length := by omega
   rw [if_neg (by omega), if_pos b2] at h2; exact absurd h2 (by decide)
  ·rw [if_neg b1] at h1
   by_cases b3 : t.length < s.length
   ·rw [if_pos b3] at h1; exact absurd h1 (by decide)
   ·rw [if_neg b3] at h1
    by_cases c1 : t.length < u.length
    ·omega
    ·rw [if_neg c1] at h2
     by_cases c2 : u.length < t.length
     ·rw [if_pos c2] at h2; exact absurd h2 (by decide)
     ·rw [if_neg c2] at h2
      rw [if_neg (by omega)]
      exact cmpL_trans h1 h2
end T
set_option linter.unusedVariables false
open Go Go.Va
namespace T
def spec_l3Before (s : List Int) (t : List Int) : Option (Bool) :=
 if (s.length : Int) != (t.length : Int) then
  some (decide ((s.length : Int) < (t.length : Int)))
 else
  (spec_l3Less s t).bind fun r1 =>
   some r1
def spec_l22Clauses_L7 : Nat → (Int × (List (List Int)) × Int × (List Int) × (List Int) × Int) → Option (Int × (List (List Int)) × Int × (List Int))
 | 0, _ => none
 | n + 1, (t0, t3, t4, t5, t6, t7) =>
  if decide (t7 < t0) then
   if inb t7 t5 then
    if (gd t5 t7 0) == 1 then
     if t6.length + [w64 (t7 + 1)].length ≤ lim then
      if inb t7 t5 then
       if (gd t5 t7 0) == 2 then
        if (t6 ++ [w64 (t7 + 1)]).length + [w64 ((w64 (0 - t7)) - 1)].length ≤ lim then
         spec_l22Clauses_L7 n (t0, t3, t4, t5, (t6 ++ [w64 (t7 + 1)]) ++ [w64 ((w64 (0 - t7)) - 1)], w64 (t7 + 1))
        else none
       else
        spec_l22Clauses_L7 n (t0, t3, t4, t5, t6 ++ [w64 (t7 + 1)], w64 (t7 + 1))
      else none
     else none
    else
     if inb t7 t5 then
      if (gd t5 t7 0) == 2 then
       if t6.length + [w64 ((w64 (0 - t7)) - 1)].length ≤ lim then
        spec_l22Clauses_L7 n (t0, t3, t4, t5, t6 ++ [w64 ((w64 (0 - t7)) - 1)], w64 (t7 + 1))
       else none
      else
       spec_l22Clauses_L7 n (t0, t3, t4, t5, t6, w64 (t7 + 1))
     else none
   else none
  else
   some (t0, t3, t4, t6)
def spec_l22Clauses_L14 : Nat → (Int × (List (List Int)) × Int × (List Int) × Int) → Option (Int × (List (List Int)) × Int × (List Int) × Int)
 | 0, _ => none
 | n + 1, (t0, t3, t4, t6, t8) =>
  if decide (t8 < (t3.length : Int)) then
   if inb t8 t3 then
    (spec_l3Before (gd t3 t8 []) t6).bind fun r4 =>
     if r4 then
      spec_l22Clauses_L14 n (t0, t3, t4, t6, w64 (t8 + 1))
     else
      some (t0, t3, t4, t6, t8)
   else none
  else
   some (t0, t3, t4, t6, t8)
def spec_l22Clauses_L3 : Nat → (Int × (List (List Int)) × Int) → Option ((List (List Int)))
 | 0, _ => none
 | n + 1, (t0, t3, t4) =>
  (spec_l2Pow 3 t0).bind fun r1 =>
   if decide (t4 < r1) then
    (spec_l2Args 3 t0 t4).bind fun r2 =>
     (spec_l22Clauses_L7 fuel (t0, t3, t4, r2, [], 0)).bind fun s3 =>
      (spec_l22Clauses_L14 fuel (s3.1, s3.2.1, s3.2.2.1, s3.2.2.2, 0)).bind fun s4 =>
       if (0 : Int) ≤ 0 ∧ 0 ≤ s4.2.2.2.2 ∧ s4.2.2.2.2 ≤ (s4.2.1.length : Int) then
        if ([] : List (List Int)).length + ((s4.2.1.take (Int.toNat s4.2.2.2.2)).drop (Int.toNat 0)).length ≤ lim then
         if ([] ++ ((s4.2.1.take (Int.toNat s4.2.2.2.2)).drop (Int.toNat 0))).length + [s4.2.2.2.1].length ≤ lim then
          if (0 : Int) ≤ s4.2.2.2.2 ∧ s4.2.2.2.2 ≤ (s4.2.1.length : Int) ∧ (s4.2.1.length : Int) ≤ (s4.2.1.length : Int) then
           if (([] ++ ((s4.2.1.take (Int.toNat s4.2.2.2.2)).drop (Int.toNat 0))) ++ [s4.2.2.2.1]).length + ((s4.2.1.take (Int.toNat (s4.2.1.length : Int))).drop (Int.toNat s4.2.2.2.2)).length ≤ lim then
            spec_l22Clauses_L3 n (s4.1, (([] ++ ((s4.2.1.take (Int.toNat s4.2.2.2.2)).drop (Int.toNat 0))) ++ [s4.2.2.2.1]) ++ ((s4.2.1.take (Int.toNat (s4.2.1.length : Int))).drop (Int.toNat s4.2.2.2.2)), w64 (s4.2.2.1 + 1))
           else none
          else none
         else none
        else none
       else none
   else
    some t3
def spec_l22Clauses (t0 : Int) : Option ((List (List Int))) :=
 (spec_l22Clauses_L3 fuel (t0, [], 0)).bind fun s1 =>
  some s1
def spec_l22All_L2 : Nat → ((List Int) × (Int × (List (List Int))) × Int) → Option ((Unit) ⊕ (Bool))
 | 0, _ => none
 | n + 1, (clause, r, i) =>
  if decide (i < (r.2.length : Int)) then
   if inb i r.2 then
    (spec_l22Obeys (gd r.2 i []) clause).bind fun r1 =>
     if !r1 then
      some (.inr false)
     else
      spec_l22All_L2 n (clause, (r.1, r.2), w64 (i + 1))
   else none
  else
   some (.inl ())
def spec_l22All (r : Int × (List (List Int))) (clause : List Int) : Option (Bool) :=
 (spec_l22All_L2 fuel (clause, (r.1, r.2), 0)).bind fun s1 =>
  match s1 with
  | .inl s2 =>
   some true
  | .inr s3 =>
   some s3
def spec_l22Prime_L7 : Nat → ((Int × (List (List Int))) × (List (List Int)) × (List (List Int)) × Int × Bool × Int) → Option ((Int × (List (List Int))) × (List (List Int)) × (List (List Int)) × Int × Bool)
 | 0, _ => none
 | n + 1, (r, out, all, i, prime, k) =>
  if inb i all then
   if decide (k < ((gd all i []).length : Int)) then
    if prime then
     if inb i all then
      if (0 : Int) ≤ 0 ∧ 0 ≤ k ∧ k ≤ ((gd all i []).length : Int) then
       (spec_l1Own (((gd all i []).take (Int.toNat k)).drop (Int.toNat 0))).bind fun r3 =>
        if inb i all then
         if (0 : Int) ≤ (w64 (k + 1)) ∧ (w64 (k + 1)) ≤ ((gd all i []).length : Int) ∧ ((gd all i []).length : Int) ≤ ((gd all i []).length : Int) then
          if r3.length + (((gd all i []).take (Int.toNat ((gd all i []).length : Int))).drop (Int.toNat (w64 (k + 1)))).length ≤ lim then
           (spec_l22All (r.1, r.2) (r3 ++ (((gd all i []).take (Int.toNat ((gd all i []).length : Int))).drop (Int.toNat (w64 (k + 1)))))).bind fun r4 =>
            spec_l22Prime_L7 n ((r.1, r.2), out, all, i, !r4, w64 (k + 1))
          else none
         else none
        else none
      else none
     else none
    else
     some ((r.1, r.2), out, all, i, prime)
   else
    some ((r.1, r.2), out, all, i, prime)
  else none
def spec_l22Prime_L3 : Nat → ((Int × (List (List Int))) × (List (List Int)) × (List (List Int)) × Int) → Option ((List (List Int)))
 | 0, _ => none
 | n + 1, (r, out, all, i) =>
  if decide (i < (all.length : Int)) then
   if inb i all then
    (spec_l22All (r.1, r.2) (gd all i [])).bind fun r2 =>
     (spec_l22Prime_L7 fuel ((r.1, r.2), out, all, i, r2, 0)).bind fun s3 =>
      if s3.2.2.2.2 then
       if inb s3.2.2.2.1 s3.2.2.1 then
        if s3.2.1.length + [gd s3.2.2.1 s3.2.2.2.1 []].length ≤ lim then
         spec_l22Prime_L3 n ((s3.1.1, s3.1.2), s3.2.1 ++ [gd s3.2.2.1 s3.2.2.2.1 []], s3.2.2.1, w64 (s3.2.2.2.1 + 1))
        else none
       else none
      else
       spec_l22Prime_L3 n ((s3.1.1, s3.1.2), s3.2.1, s3.2.2.1, w64 (s3.2.2.2.1 + 1))
   else none
  else
   some out
def spec_l22Prime (r : Int × (List (List Int))) : Option ((List (List Int))) :=
 (spec_l22Clauses r.1).bind fun r1 =>
  (spec_l22Prime_L3 fuel ((r.1, r.2), [], r1, 0)).bind fun s2 =>
   some s2
def impl_sortRows_impl_compareTerms (a0 : List (List Int)) (a1 : Unit) : Option (List (List Int)) :=
 if List.length a0 ≤ lim ∧ List.all a0 (fun x => decide (List.length x ≤ lim)) = true then some (sortL cmpT a0) else none
def impl_allClauses_L7 : Nat → (Int × (List (List Int)) × Int × (List Int) × (List Int) × Int × Int) → Option (Int × (List (List Int)) × Int × (List Int))
 | 0, _ => none
 | n + 1, (arity, list, i, clause, t18, t19, t20) =>
  if decide (t20 < t19) then
   if inb t20 t18 then
    if decide ((gd t18 t20 0) > 0) then
     if clause.length + [w64 ((w64 (t20 + 1)) * (w64 ((w64 (2 * (gd t18 t20 0))) - 3)))].length ≤ lim then
      impl_allClauses_L7 n (arity, list, i, clause ++ [w64 ((w64 (t20 + 1)) * (w64 ((w64 (2 * (gd t18 t20 0))) - 3)))], t18, t19, w64 (t20 + 1))
     else none
    else
     impl_allClauses_L7 n (arity, list, i, clause, t18, t19, w64 (t20 + 1))
   else none
  else
   some (arity, list, i, clause)
def impl_allClauses_L3 : Nat → (Int × (List (List Int)) × Int) → Option ((List (List Int)))
 | 0, _ => none
 | n + 1, (arity, list, i) =>
  (impl_power 3 arity).bind fun r1 =>
   if decide (i < r1) then
    (impl_argsAt i arity 3).bind fun r2 =>
     (impl_allClauses_L7 fuel (arity, list, i, [], r2, (r2.length : Int), 0)).bind fun s3 =>
      if s3.2.1.length + [s3.2.2.2].length ≤ lim then
       impl_allClauses_L3 n (s3.1, s3.2.1 ++ [s3.2.2.2], w64 (s3.2.2.1 + 1))
      else none
   else
    some list
def impl_allClauses (arity : Int) : Option ((List (List Int))) :=
 (impl_allClauses_L3 fuel (arity, [], 0)).bind fun s1 =>
  (impl_sortRows_impl_compareTerms s1 ()).bind fun r2 =>
   some r2
def impl_allObey_L2 : Nat → ((List Int) × (List (List Int)) × Int × Int) → Option ((Unit) ⊕ (Bool))
 | 0, _ => none
 | n + 1, (clause, t7, t8, t9) =>
  if decide (t9 < t8) then
   if inb t9 t7 then
    (impl_obeysClause (gd t7 t9 []) clause).bind fun r1 =>
     if !r1 then
      some (.inr false)
     else
      impl_allObey_L2 n (clause, t7, t8, w64 (t9 + 1))
   else none
  else
   some (.inl ())
def impl_allObey (tuples : List (List Int)) (clause : List Int) : Option (Bool) :=
 (impl_allObey_L2 fuel (clause, tuples, (tuples.length : Int), 0)).bind fun s1 =>
  match s1 with
  | .inl s2 =>
   some true
  | .inr s3 =>
   some s3
def impl_without (list : List Int) (at_ : Int) : Option ((List Int)) :=
 if (0 : Int) ≤ 0 ∧ 0 ≤ at_ ∧ at_ ≤ (list.length : Int) then
  (impl_clone ((list.take (Int.toNat at_)).drop (Int.toNat 0))).bind fun r1 =>
   if (0 : Int) ≤ (w64 (at_ + 1)) ∧ (w64 (at_ + 1)) ≤ (list.length : Int) ∧ (list.length : Int) ≤ (list.length : Int) then
    if r1.length + ((list.take (Int.toNat (list.length : Int))).drop (Int.toNat (w64 (at_ + 1)))).length ≤ lim then
     some (r1 ++ ((list.take (Int.toNat (list.length : Int))).drop (Int.toNat (w64 (at_ + 1)))))
    else none
   else none
 else none
def impl_primeClauses_L7 : Nat → ((Int × (List (List Int))) × (List (List Int)) × (List Int) × Bool × (List (List Int)) × Int × Int × Int × Int) → Option ((Int × (List (List Int))) × (List (List Int)) × (List Int) × Bool × (List (List Int)) × Int × Int)
 | 0, _ => none
 | n + 1, (r, list, clause, prime, t11, t12, t13, t22, t23) =>
  if decide (t23 < t22) then
   if prime then
    (impl_without clause t23).bind fun r3 =>
     (impl_allObey r.2 r3).bind fun r4 =>
      impl_primeClauses_L7 n ((r.1, r.2), list, clause, !r4, t11, t12, t13, t22, w64 (t23 + 1))
   else
    impl_primeClauses_L7 n ((r.1, r.2), list, clause, false, t11, t12, t13, t22, w64 (t23 + 1))
  else
   some ((r.1, r.2), list, clause, prime, t11, t12, t13)
def impl_primeClauses_L3 : Nat → ((Int × (List (List Int))) × (List (List Int)) × (List (List Int)) × Int × Int) → Option ((List (List Int)))
 | 0, _ => none
 | n + 1, (r, list, t11, t12, t13) =>
  if decide (t13 < t12) then
   if inb t13 t11 then
    (impl_allObey r.2 (gd t11 t13 [])).bind fun r2 =>
     (impl_primeClauses_L7 fuel ((r.1, r.2), list, gd t11 t13 [], r2, t11, t12, t13, ((gd t11 t13 []).length : Int), 0)).bind fun s3 =>
      if s3.2.2.2.1 then
       if s3.2.1.length + [s3.2.2.1].length ≤ lim then
        impl_primeClauses_L3 n ((s3.1.1, s3.1.2), s3.2.1 ++ [s3.2.2.1], s3.2.2.2.2.1, s3.2.2.2.2.2.1, w64 (s3.2.2.2.2.2.2 + 1))
       else none
      else
       impl_primeClauses_L3 n ((s3.1.1, s3.1.2), s3.2.1, s3.2.2.2.2.1, s3.2.2.2.2.2.1, w64 (s3.2.2.2.2.2.2 + 1))
   else none
  else
   some list
def impl_primeClauses (r : Int × (List (List Int))) : Option ((List (List Int))) :=
 (impl_allClauses r.1).bind fun r1 =>
  (impl_primeClauses_L3 fuel ((r.1, r.2), [], r1, (r1.length : Int), 0)).bind fun s2 =>
   some s2
end T
open Go Go.Va
namespace T
def clT1 : List (List Int) := [[], [(-1)], [1]]
def clT2 : List (List Int) := [[], [(-2)], [(-1)], [1], [2], [(-1), (-2)], [(-1), 2], [1, (-2)], [1, 2]]
def clT3 : List (List Int) := [[], [(-3)], [(-2)], [(-1)], [1], [2], [3], [(-2), (-3)], [(-2), 3], [(-1), (-3)], [(-1), (-2)], [(-1), 2], [(-1), 3], [1, (-3)], [1, (-2)], [1, 2], [1, 3], [2, (-3)], [2, 3], [(-1), (-2), (-3)], [(-1), (-2), 3], [(-1), 2, (-3)], [(-1), 2, 3], [1, (-2), (-3)], [1, (-2), 3], [1, 2, (-3)], [1, 2, 3]]
theorem spec_cl1 : spec_l22Clauses 1 = some clT1 := by kernel_rfl
theorem spec_cl2 : spec_l22Clauses 2 = some clT2 := by kernel_rfl
theorem spec_cl3 : spec_l22Clauses 3 = some clT3 := by kernel_rfl
end T
open Go Go.Va
namespace T
theorem sortT_of {out l : List (List Int)} (hi : out.Pairwise (fun a b => cmpT a b < 0)) (hp : out.Perm l) : sortL cmpT l = out := by
 have hs : (sortL cmpT l).Pairwise fun x y => (!decide (cmpT y x < 0)) = true := by
  unfold sortL
  refine List.pairwise_mergeSort (fun a b c h1 h2 => ?_) (fun a b => ?_) l
  ·simp only [Bool.not_eq_true', decide_eq_false_iff_not] at *
   intro h3
   have q1 := cmpT_symm a b
   have q2 := cmpT_symm b c
   by_cases e : cmpT a b = 0
   ·rw [cmpT_eq e] at h3; exact h2 h3
   ·exact h2 (cmpT_trans h3 (by omega))
  ·simp only [Bool.or_eq_true, Bool.not_eq_true', decide_eq_false_iff_not]
   have q1 := cmpT_symm a b
   omega
 have ho : out.Pairwise fun x y => (!decide (cmpT y x < 0)) = true := by
  refine hi.imp ?_
  intro a b h
  simp only [Bool.not_eq_true', decide_eq_false_iff_not]
  have q1 := cmpT_symm a b
  omega
 have hpp : (sortL cmpT l).Perm out := (List.mergeSort_perm l _).trans hp.symm
 refine List.Perm.eq_of_pairwise (fun a b _ _ h1 h2 => ?_) hs ho hpp
 simp only [Bool.not_eq_true', decide_eq_false_iff_not] at h1 h2
 have := cmpT_symm a b
 exact cmpT_eq (by omega)
def clT (a : Nat) : List (List Int) := if a = 1 then clT1 else if a = 2 then clT2 else clT3
theorem all_of {raw T : List (List Int)} {a : Int} (h1 : impl_allClauses_L3 fuel (a, [], 0) = some raw) (h2 : (decide (List.length raw ≤ lim) && raw.all fun x => decide (List.length x ≤ lim)) = true) (h3 : T.Pairwise (fun a b => cmpT a b < 0)) (h4 : T.isPerm raw = true) : impl_allClauses a = some T := by
 unfold impl_allClauses
 rw [h1]
 simp only [Bool.and_eq_true, decide_eq_true_iff] at h2
 simp only [Option.bind_some, impl_sortRows_impl_compareTerms]
 rw [if_pos h2, sortT_of h3 (List.isPerm_iff.1 h4)]
 rfl
def rawT (a : Nat) : List (List Int) := (List.range (3 ^ a)).map fun i => ((List.range a).filterMap fun (k : Nat) => let d : Nat := (i / 3 ^ (a - 1 - k)) % 3; if d = 0 then none else some (((k : Int) + 1) * (2 * (d : Int) - 3)))
theorem impl_raw1 : impl_allClauses_L3 fuel (1, [], 0) = some (rawT 1) := by kernel_rfl
theorem impl_raw2 : impl_allClauses_L3 fuel (2, [], 0) = some (rawT 2) := by kernel_rfl
theorem impl_raw3 : impl_allClauses_L3 fuel (3, [], 0) = some (rawT 3) := by kernel_rfl
theorem impl_cl1 : impl_allClauses 1 = some clT1 := all_of impl_raw1 (by decide +kernel) (by decide +kernel) (by decide +kernel)
theorem impl_cl2 : impl_allClauses 2 = some clT2 := all_of impl_raw2 (by decide +kernel) (by decide +kernel) (by decide +kernel)
theorem impl_cl3 : impl_allClauses 3 = some clT3 := all_of impl_raw3 (by decide +kernel) (by decide +kernel) (by decide +kernel)
theorem cl_tab : ∀ a : Fin 4, 1 ≤ a.val → (clT a.val).length ≤ 27 ∧ ∀ c ∈ clT a.val, c.length ≤ 3 ∧ ∀ x ∈ c, -(a.val : Int) ≤ x ∧ x ≤ (a.val : Int) ∧ x ≠ 0 := by decide +kernel
end T
open Go Go.Va
namespace T
section
variable {a : Nat} {ts : List (List Int)} {c : List Int} {q : Int}
def allO (ts : List (List Int)) (c : List Int) : Bool := ts.all fun t => c.any (litB t)
def wo (c : List Int) (k : Nat) : List Int := c.take k ++ c.drop (k + 1)
def pk (ts : List (List Int)) (c : List Int) (k : Nat) : Bool := allO ts c && (List.range k).all fun i => !allO ts (wo c i)
def litOk (a : Nat) (c : List Int) : Prop := c.length ≤ 3 ∧ ∀ x ∈ c, -(a : Int) ≤ x ∧ x ≤ (a : Int) ∧ x ≠ 0
structure TsOk (a : Nat) (ts : List (List Int)) : Prop where
 ha : 1 ≤ a ∧ a ≤ 3
 tl : ∀ t ∈ ts, t.length = a
 n : ts.length ≤ 1048576
theorem wo_ok (h : litOk a c) (k : Nat) : litOk a (wo c k) := by
 refine ⟨?_, fun x hx => ?_⟩
 ·unfold wo; rw [List.length_append, List.length_take, List.length_drop]; have := h.1; omega
 ·rcases List.mem_append.1 hx with hx | hx
  ·exact h.2 x (List.mem_of_mem_take hx)
  ·exact h.2 x (List.mem_of_mem_drop hx)
theorem impl_allO (h : TsOk a ts) (hc : litOk a c) : impl_allObey ts c = some (allO ts c) := by
 have hn := h.n
 have hc1 := hc.1
 have ha := h.ha
 unfold impl_allObey
 have key := allX ts (fun m i => impl_allObey_L2 m (c, ts, (ts.length : Int), i)) (fun t => c.any (litB t)) (.inr false) (.inl ()) (fun m k hk => ?_) (fun m => ?_) (n := fuel) (by unfold fuel; omega)
 ·rw [key]; unfold allO
  cases ts.all fun t => c.any (litB t) <;> rfl
 ·have ho := impl_obey (ar := (a : Int)) (c := c) (t := ts[k]) (by omega) (by rw [h.tl _ (List.getElem_mem hk)]) hc.2 (by omega)
  simp only [impl_allObey_L2, inb_nat, hk, gd_nat hk, ho, Option.bind_some, if_true, w64_succ (show k < 4611686018427387904 by omega)]
  rw [if_pos (by simp; omega)]
  cases c.any (litB ts[k]) <;> simp
 ·simp only [impl_allObey_L2]
  rw [if_neg (by simp)]
theorem spec_allO (h : TsOk a ts) (hc : litOk a c) : spec_l22All (q, ts) c = some (allO ts c) := by
 have hn := h.n
 have hc1 := hc.1
 have ha := h.ha
 unfold spec_l22All
 have key := allX ts (fun m i => spec_l22All_L2 m (c, (q, ts), i)) (fun t => c.any (litB t)) (.inr false) (.inl ()) (fun m k hk => ?_) (fun m => ?_) (n := fuel) (by unfold fuel; omega)
 ·rw [key]; unfold allO
  cases ts.all fun t => c.any (litB t) <;> rfl
 ·have ho := spec_obey (ar := (a : Int)) (c := c) (t := ts[k]) (by omega) (by rw [h.tl _ (List.getElem_mem hk)]) hc.2 (by omega)
  simp only [spec_l22All_L2, inb_nat, hk, gd_nat hk, ho, Option.bind_some, if_true, w64_succ (show k < 4611686018427387904 by omega)]
  rw [if_pos (by simp; omega)]
  cases c.any (litB ts[k]) <;> simp
 ·simp only [spec_l22All_L2]
  rw [if_neg (by simp)]
theorem without_ok (hc : c.length ≤ 3) {k : Nat} (hk : k < c.length) : impl_without c (k : Int) = some (wo c k) := by
 have hlim : lim = 1099511627776 := rfl
 unfold impl_without impl_clone
 have e1 : (c.take (Int.toNat (k : Int))).drop (Int.toNat 0) = c.take k := by simp
 have e2 : (c.take (Int.toNat (c.length : Int))).drop (Int.toNat (w64 ((k : Int) + 1))) = c.drop (k + 1) := by
  rw [w64_succ (show k < 4611686018427387904 by omega), Int.toNat_natCast, Int.toNat_natCast, List.take_length]
 have t1 : (c.take k).length = k := by rw [List.length_take]; omega
 rw [e1, e2, if_pos (by omega), if_pos (by simp; omega)]
 simp only [Option.bind_some, w64_succ (show k < 4611686018427387904 by omega)]
 rw [if_pos (by omega), if_pos (by simp; omega)]
 rfl
theorem pk_succ (k : Nat) : pk ts c (k + 1) = (pk ts c k && !allO ts (wo c k)) := by
 unfold pk; rw [List.range_succ, List.all_append, ← Bool.and_assoc]; simp
theorem pk_stop (k m : Nat) (hkm : k ≤ m) (h : pk ts c k = false) : pk ts c m = false := by
  induction m with
  | zero => have : k = 0 := by omega
            subst this; exact h
  | succ m ih =>
    rw [pk_succ]
    by_cases e : k = m + 1
    · subst e; rw [pk_succ] at h; exact h
    · rw [ih (by omega)]; rfl
theorem spec_clL7 (h : TsOk a ts) {T : List (List Int)} {j : Nat} (hj : j < T.length) (hTj : T[j] = c) (hc : litOk a c) (out : List (List Int)) : spec_l22Prime_L7 fuel ((q, ts), out, T, (j : Int), allO ts c, 0) = some ((q, ts), out, T, (j : Int), pk ts c c.length) := by
 have hc1 := hc.1
 have hlim : lim = 1099511627776 := rfl
 have := forA c.length (fun m (b : Bool) i => spec_l22Prime_L7 m ((q, ts), out, T, (j : Int), b, i)) (fun k => pk ts c k) (fun k => pk ts c k) (r := some ((q, ts), out, T, (j : Int), false)) (e := some ((q, ts), out, T, (j : Int), pk ts c c.length)) (fun m k hk => ?_) (fun m => ?_) (n := fuel) (by unfold fuel; omega)
 ·have e : pk ts c 0 = allO ts c := by simp [pk]
  rw [e] at this; rw [this]
  by_cases ha : (List.range c.length).all (fun k => pk ts c k) = true
  ·rw [if_pos ha]
  ·rw [if_neg ha]
   have hf : ∃ k, k < c.length ∧ pk ts c k = false := by
    rw [Bool.not_eq_true, List.all_eq_false] at ha
    obtain ⟨k, hk, h2⟩ := ha
    exact ⟨k, List.mem_range.1 hk, by simpa using h2⟩
   obtain ⟨k, hk, h2⟩ := hf
   rw [pk_stop k c.length (by omega) h2]
 ·simp only [spec_l22Prime_L7, inb_nat, hj, gd_nat hj, hTj, if_true]
  rw [if_pos (by simp; omega)]
  cases hp : pk ts c k with
  | true =>
   rw [if_pos rfl, if_pos rfl]
   have e1 : (c.take (Int.toNat (k : Int))).drop (Int.toNat 0) = c.take k := by simp
   have e2 : (c.take (Int.toNat (c.length : Int))).drop (Int.toNat (w64 ((k : Int) + 1))) = c.drop (k + 1) := by
    rw [w64_succ (show k < 4611686018427387904 by omega), Int.toNat_natCast, Int.toNat_natCast, List.take_length]
   have t1 : (c.take k).length = k := by rw [List.length_take]; omega
   rw [e1, e2, spec_l1Own_ok (by omega)]
   simp only [Option.bind_some, w64_succ (show k < 4611686018427387904 by omega)]
   rw [if_pos (by omega), if_pos (by omega), if_pos (by simp; omega)]
   have := spec_allO (q := q) h (wo_ok hc k)
   unfold wo at this
   rw [this]
   simp only [Option.bind_some, pk_succ, hp, Bool.true_and, wo]
  | false => rw [if_neg (by simp), if_neg (by simp)]
 ·simp only [spec_l22Prime_L7, inb_nat, hj, gd_nat hj, hTj, if_true]
  rw [if_neg (by simp)]
end
end T
open Go Go.Va
namespace T
section
variable {a : Nat} {ts : List (List Int)} {c : List Int} {q : Int}
def primes (T ts : List (List Int)) : List (List Int) := T.filter fun c => pk ts c c.length
theorem primes_succ {T : List (List Int)} {k : Nat} (hk : k < T.length) : (T.take (k + 1)).filter (fun c => pk ts c c.length) = (T.take k).filter (fun c => pk ts c c.length) ++ (if pk ts T[k] T[k].length then [T[k]] else []) := by
 rw [List.take_succ_eq_append_getElem hk, List.filter_append]
 congr 1
 cases h : pk ts T[k] T[k].length <;> simp [h]
theorem spec_primes (h : TsOk a ts) {T : List (List Int)} (hT : T.length ≤ 27) (hc : ∀ c ∈ T, litOk a c) : spec_l22Prime_L3 fuel ((q, ts), [], T, 0) = some (primes T ts) := by
 have hlim : lim = 1099511627776 := rfl
 have := forS T.length (fun m o i => spec_l22Prime_L3 m ((q, ts), o, T, i)) (fun k => (T.take k).filter fun c => pk ts c c.length) (r := some (primes T ts)) (fun m k hk => ?_) (fun m => ?_) (n := fuel) (by unfold fuel; omega)
 ·exact this
 ·have hck := hc _ (List.getElem_mem hk)
  have hl : ((T.take k).filter fun c => pk ts c c.length).length ≤ 27 := Nat.le_trans (List.length_filter_le _ _) (by rw [List.length_take]; omega)
  simp only [spec_l22Prime_L3, inb_nat, hk, gd_nat hk, spec_allO h hck, Option.bind_some, spec_clL7 h hk rfl hck, if_true, w64_succ (show k < 4611686018427387904 by omega), primes_succ hk]
  rw [if_pos (by simp; omega)]
  cases pk ts T[k] T[k].length with
  | true => rw [if_pos rfl, if_pos (by simp; omega), if_pos rfl]
  | false => rw [if_neg (by simp), if_neg (by simp), List.append_nil]
 ·simp only [spec_l22Prime_L3, List.take_length]
  rw [if_neg (by simp)]; rfl
end
end T
open Go Go.Va
namespace T
section
variable {r : RelT}
theorem szRelation1_ok (ha : r.2.length ≤ 9223372036854775807) (hr : ∀ t ∈ r.2, t.length ≤ 9223372036854775807) : laws_szRelation r 1048576 = some (szR (totSS r.2) 1048576) := by
 unfold laws_szRelation
 rw [szIntSS_ok (by omega) (by omega) ha hr]
 unfold szR
 split
 ·simp only [Option.bind_some]; rw [if_neg (by simp; omega)]
 ·rfl
theorem markRelation1_ok (h : rowsS r.2) (ht : totSS r.2 ≤ 1048576) : ∃ b k, laws_markRelation r 1 = some (b, k) ∧ 0 ≤ k := by
 unfold laws_markRelation
 have hs : ((r.2.map List.length).sum : Nat) ≤ 1048576 := by unfold totSS at ht; omega
 rw [markIntSS_ok h.1 h.2 (by omega) (by unfold BM; omega)]
 refine ⟨_, _, rfl, ?_⟩
 show 0 ≤ (mIntSS r.2 1).2
 rw [mIntSS_far]; omega
end
end T
set_option linter.unusedVariables false
open Go Go.Va
namespace T
def spec_PrimeClauses (r : Int × (List (List Int))) : Option ((List (List Int)) × Bool) :=
 (spec_l13Good 2 (r.1, r.2)).bind fun r1 =>
  if !r1 then
   some ([], false)
  else
   (spec_l22Prime (r.1, r.2)).bind fun r2 =>
    some (r2, true)
def impl_primeClauses_b_L7 : Nat → ((Int × (List (List Int))) × (List (List Int)) × (List Int) × Bool × ((List (List Int)) × Int) × Int × Int × Int × Int) → Option ((Int × (List (List Int))) × (List (List Int)) × (List Int) × Bool × ((List (List Int)) × Int) × Int × Int)
 | 0, _ => none
 | n + 1, (r, list, clause, prime, t11, t12, t13, t22, t23) =>
  if decide (t23 < t22) then
   if prime then
    (impl_without clause t23).bind fun r3 =>
     (impl_allObey r.2 r3).bind fun r4 =>
      impl_primeClauses_b_L7 n ((r.1, r.2), list, clause, !r4, (t11.1, -1 - (-1 - t11.2)), t12, t13, t22, w64 (t23 + 1))
   else
    impl_primeClauses_b_L7 n ((r.1, r.2), list, clause, false, (t11.1, -1 - (-1 - t11.2)), t12, t13, t22, w64 (t23 + 1))
  else
   some ((r.1, r.2), list, clause, prime, (t11.1, -1 - (-1 - t11.2)), t12, t13)
def impl_primeClauses_b_L3 : Nat → ((Int × (List (List Int))) × (List (List Int)) × ((List (List Int)) × Int) × Int × Int) → Option ((List (List Int)))
 | 0, _ => none
 | n + 1, (r, list, t11, t12, t13) =>
  if decide (t13 < t12) then
   if inb t13 t11.1 then
    if (-1 - t11.2) < 0 ∧ -1 - (-1 - t11.2) ≤ t13 then
     (impl_allObey r.2 (gd t11.1 t13 [])).bind fun r2 =>
      (impl_primeClauses_b_L7 fuel ((r.1, r.2), list, gd t11.1 t13 [], r2, (t11.1, -1 - (-1 - (t13 + 1))), t12, t13, ((gd t11.1 t13 []).length : Int), 0)).bind fun s3 =>
       if s3.2.2.2.1 then
        if s3.2.1.length + [s3.2.2.1].length ≤ lim then
         impl_primeClauses_b_L3 n ((s3.1.1, s3.1.2), s3.2.1 ++ [s3.2.2.1], (s3.2.2.2.2.1.1, -1 - (-1 - s3.2.2.2.2.1.2)), s3.2.2.2.2.2.1, w64 (s3.2.2.2.2.2.2 + 1))
        else none
       else
        impl_primeClauses_b_L3 n ((s3.1.1, s3.1.2), s3.2.1, (s3.2.2.2.2.1.1, -1 - (-1 - s3.2.2.2.2.1.2)), s3.2.2.2.2.2.1, w64 (s3.2.2.2.2.2.2 + 1))
    else none
   else none
  else
   some list
def impl_primeClauses_b (r : Int × (List (List Int))) : Option ((List (List Int))) :=
 (impl_allClauses r.1).bind fun r1 =>
  (impl_primeClauses_b_L3 fuel ((r.1, r.2), [], (r1, 0), (r1.length : Int), 0)).bind fun s2 =>
   some s2
def impl_PrimeClauses (r : Int × (List (List Int))) : Option ((List (List Int)) × Bool) :=
 (impl_isRelation 2 (r.1, r.2)).bind fun r1 =>
  if !r1 then
   some ([], false)
  else
   (impl_primeClauses_b (r.1, r.2)).bind fun r2 =>
    some (r2, true)
def laws_FnExactPrimeClauses (t0 : Int × (List (List Int))) : Option (Bool) :=
 (laws_szRelation (t0.1, t0.2) 1048576).bind fun r1 =>
  if decide (r1 < 0) then
   some true
  else
   (laws_toRelation (t0.1, t0.2)).bind fun r2 =>
    (spec_PrimeClauses (r2.1, r2.2)).bind fun r3 =>
     (laws_toRelation (t0.1, t0.2)).bind fun r4 =>
      (impl_PrimeClauses (r4.1, r4.2)).bind fun r5 =>
       (laws_eqIntSS r5.1 r3.1).bind fun r6 =>
        if !r6 then
         some false
        else
         if r5.2 != r3.2 then
          some false
         else
          (laws_toRelation (t0.1, t0.2)).bind fun r7 =>
           (laws_eqRelation (r4.1, r4.2) (r7.1, r7.2)).bind fun r8 =>
            if !r8 then
             some false
            else
             (laws_markRelation (r4.1, r4.2) 1).bind fun r9 =>
              if decide (r9.2 < 0) then
               some false
              else
               (laws_eqIntSS r5.1 r3.1).bind fun r10 =>
                if !r10 then
                 some false
                else
                 if r5.2 != r3.2 then
                  some false
                 else
                  (laws_markIntSS r5.1 1).bind fun r11 =>
                   (laws_heldIntSS r11.1 1).bind fun r12 =>
                    if decide (r12 < 0) then
                     some false
                    else
                     if r12 != r11.2 then
                      some false
                     else
                      (laws_toRelation (t0.1, t0.2)).bind fun r13 =>
                       (impl_PrimeClauses (r13.1, r13.2)).bind fun r14 =>
                        (laws_eqIntSS r14.1 r3.1).bind fun r15 =>
                         if !r15 then
                          some false
                         else
                          if r14.2 != r3.2 then
                           some false
                          else
                           (laws_heldIntSS r11.1 1).bind fun r16 =>
                            if decide (r16 < 0) then
                             some false
                            else
                             if r16 != r11.2 then
                              some false
                             else
                              some true
end T
open Go Go.Va
namespace T
section
variable {a : Nat} {ts : List (List Int)} {c : List Int} {q : Int} {r : RelT}
theorem nn1 (x : Int) : -1 - (-1 - x) = x := by omega
theorem impl_clL7b (h : TsOk a ts) (hc : litOk a c) (out T : List (List Int)) (g t12 t13 : Int) : impl_primeClauses_b_L7 fuel ((q, ts), out, c, allO ts c, (T, g), t12, t13, (c.length : Int), 0) = some ((q, ts), out, c, pk ts c c.length, (T, g), t12, t13) := by
 have hc1 := hc.1
 have := forS c.length (fun m (b : Bool) i => impl_primeClauses_b_L7 m ((q, ts), out, c, b, (T, g), t12, t13, (c.length : Int), i)) (fun k => pk ts c k) (r := some ((q, ts), out, c, pk ts c c.length, (T, g), t12, t13)) (fun m k hk => ?_) (fun m => ?_) (n := fuel) (by unfold fuel; omega)
 ·have e : pk ts c 0 = allO ts c := by simp [pk]
  rw [e] at this; exact this
 ·simp only [impl_primeClauses_b_L7, nn1, pk_succ, w64_succ (show k < 4611686018427387904 by omega)]
  rw [if_pos (by simp; omega)]
  cases pk ts c k with
  | true => rw [if_pos rfl, without_ok hc1 hk]; simp only [Option.bind_some, impl_allO h (wo_ok hc k), Bool.true_and]
  | false => rw [if_neg (by simp), Bool.false_and]
 ·simp only [impl_primeClauses_b_L7, nn1]
  rw [if_neg (by simp)]
theorem impl_primesb (h : TsOk a ts) {T : List (List Int)} (hT : T.length ≤ 27) (hc : ∀ c ∈ T, litOk a c) : impl_primeClauses_b_L3 fuel ((q, ts), [], (T, 0), (T.length : Int), 0) = some (primes T ts) := by
 have hlim : lim = 1099511627776 := rfl
 have := forS T.length (fun m (o : List (List Int) × Int) i => impl_primeClauses_b_L3 m ((q, ts), o.1, (T, o.2), (T.length : Int), i)) (fun k => ((T.take k).filter (fun c => pk ts c c.length), (k : Int))) (r := some (primes T ts)) (fun m k hk => ?_) (fun m => ?_) (n := fuel) (by unfold fuel; omega)
 ·exact this
 ·have hck := hc _ (List.getElem_mem hk)
  have hl : ((T.take k).filter fun c => pk ts c c.length).length ≤ 27 := Nat.le_trans (List.length_filter_le _ _) (by rw [List.length_take]; omega)
  simp only [impl_primeClauses_b_L3, nn1, inb_nat, hk, gd_nat hk, impl_allO h hck, Option.bind_some, impl_clL7b h hck, if_true, w64_succ (show k < 4611686018427387904 by omega), primes_succ hk]
  rw [if_pos (by simp; omega), if_pos (by omega)]
  cases pk ts T[k] T[k].length with
  | true => rw [if_pos rfl, if_pos (by simp; omega), if_pos rfl]; rfl
  | false => rw [if_neg (by simp), if_neg (by simp), List.append_nil]; rfl
 ·simp only [impl_primeClauses_b_L3, List.take_length]
  rw [if_neg (by simp)]; rfl
theorem impl_prime_okb {m : Nat} (h : ROk 2 m r) (hn : r.2.length ≤ 1048576) : ∃ P, impl_primeClauses_b r = some P ∧ spec_l22Prime r = some P ∧ P.length ≤ 27 ∧ ∀ c ∈ P, c.length ≤ 3 := by
 obtain ⟨q, ts⟩ := r
 have har := h.ar
 have hm := h.hm
 dsimp only at har
 subst har
 have hts : TsOk m ts := ⟨hm, h.tl, hn⟩
 have hT := cl_tab ⟨m, by omega⟩ hm.1
 have hT1 : (clT m).length ≤ 27 := hT.1
 have hT2 : ∀ c ∈ clT m, litOk m c := fun c hc => hT.2 c hc
 have e1 : impl_allClauses (m : Int) = some (clT m) := by
  have h3 : m = 1 ∨ m = 2 ∨ m = 3 := by omega
  rcases h3 with rfl | rfl | rfl
  ·exact impl_cl1
  ·exact impl_cl2
  ·exact impl_cl3
 have e2 : spec_l22Clauses (m : Int) = some (clT m) := by
  have h3 : m = 1 ∨ m = 2 ∨ m = 3 := by omega
  rcases h3 with rfl | rfl | rfl
  ·exact spec_cl1
  ·exact spec_cl2
  ·exact spec_cl3
 refine ⟨primes (clT m) ts, ?_, ?_, Nat.le_trans (List.length_filter_le _ _) hT1, fun c hc => (hT2 c (List.mem_filter.1 hc).1).1⟩
 ·unfold impl_primeClauses_b
  simp only [e1, Option.bind_some, impl_primesb hts hT1 hT2]
 ·unfold spec_l22Prime
  simp only [e2, Option.bind_some, spec_primes hts hT1 hT2]
theorem PrimeClauses_ok (h : rowsS r.2) : ∃ R : List (List Int) × Bool, impl_PrimeClauses r = some R ∧ spec_PrimeClauses r = some R ∧ R.1.length ≤ 27 ∧ ∀ c ∈ R.1, c.length ≤ 16 := by
 have g1 : impl_isRelation 2 (r.1, r.2) = _ := impl_isRelation_ok (n := 2) h
 have g2 : spec_l13Good 2 (r.1, r.2) = _ := spec_l13Good_ok (n := 2) h (by omega)
 unfold impl_PrimeClauses spec_PrimeClauses
 rw [g1, g2]
 simp only [Option.bind_some]
 cases hg : relB 2 r with
 | false => exact ⟨_, rfl, rfl, by simp, by simp⟩
 | true =>
  have hr := rok_of (n := 2) (r := r) (by omega) hg
  obtain ⟨P, p1, p2, p3, p4⟩ := impl_prime_okb hr h.1
  have p1 : impl_primeClauses_b (r.1, r.2) = _ := p1
  have p2 : spec_l22Prime (r.1, r.2) = _ := p2
  simp only [p1, p2, Option.bind_some, Bool.not_true, Bool.false_eq_true, if_false]
  exact ⟨_, rfl, rfl, p3, fun c hc => by have := p4 c hc; omega⟩
theorem FnExactPrimeClauses_law (h : wfT (.pair .int (.slice (.slice .int))) r) : laws_FnExactPrimeClauses r = some true := by
 unfold laws_FnExactPrimeClauses
 rw [szRelation1_ok (r := (r.1, r.2)) h.2.1 fun t ht => (h.2.2 t ht).1]
 simp only [Option.bind_some]
 by_cases hz : szR (totSS r.2) 1048576 < 0
 ·rw [if_pos (by simpa using hz)]
 ·have hs : rowsS r.2 := szR_small hz
  rw [if_neg (by simpa using hz)]
  obtain ⟨R, e1, e2, hl, hR2⟩ := PrimeClauses_ok hs
  have e1 : impl_PrimeClauses (r.1, r.2) = _ := e1
  have e2 : spec_PrimeClauses (r.1, r.2) = _ := e2
  have et : laws_toRelation (r.1, r.2) = some r := toRelation_ok hs
  have eq : laws_eqRelation (r.1, r.2) (r.1, r.2) = some (decide (r = r)) := eqRelation_ok hs
  obtain ⟨b, k, hm, hk0⟩ := markRelation1_ok hs (tot_le hz)
  have hm : laws_markRelation (r.1, r.2) 1 = _ := hm
  have hR3 : ∀ t ∈ R.1, t.length ≤ 1048576 := fun t ht => by have := hR2 t ht; omega
  have hsum := sum_le16 hR2
  have e3 := mIntSS_far R.1 1
  have e4 : ¬ (mIntSS R.1 1).2 < 0 := by omega
  simp only [et, e1, e2, eq, hm, Option.bind_some, eqIntSS_ok (a := R.1) (b := R.1) (by omega) (fun t ht => by have := hR2 t ht; omega), markIntSS_ok (l := R.1) (k := 1) (by omega) hR3 (by omega) (by unfold BM; omega), heldIntSS_ok (l := R.1) (k := 1) (by omega) hR3 (by omega) (by unfold BM; omega)]
  simp [e4, show ¬ k < 0 by omega]
end
end T
