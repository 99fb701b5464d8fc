/- Plain lemmas on the typed functions of the program, and the plain law of FnExactSolutionRelation; no conditions. -/
import Derived.Test.YtdjeihpjpaaoeaaV1
import Derived.Test.YtdjeihpjpaaoeaaV5
import Derived.KernelRfl
set_option linter.all false
namespace Go.Va
theorem w64_def (x : Int) : w64 x = (x + 9223372036854775808) % 18446744073709551616 - 9223372036854775808 := by
 simp [w64, IntKind.wrap, IntKind.bits, IntKind.signed]
 split <;> omega
theorem w64_id {x : Int} (h1 : -9223372036854775808 ≤ x) (h2 : x ≤ 9223372036854775807) : w64 x = x := by
 rw [w64_def]; omega
theorem w64_succ {k : Nat} (h : k < 4611686018427387904) : w64 ((k : Int) + 1) = ((k + 1 : Nat) : Int) := by
 rw [w64_id (by omega) (by omega)]; rfl
theorem inb_nat {α : Type} {k : Nat} {xs : List α} : inb (k : Int) xs ↔ k < xs.length := by
 unfold inb; omega
theorem gd_nat {α : Type} {k : Nat} {xs : List α} {d : α} (h : k < xs.length) : gd xs (k : Int) d = xs[k] := by
 unfold gd; simp [h]
theorem stt_nat {α : Type} {k : Nat} {xs : List α} {x : α} : stt xs (k : Int) x = xs.set k x := by
 unfold stt; simp
def runX {α σ β : Type} (step : σ → α → Option (σ ⊕ β)) (fin : σ → Option β) : List α → σ → Option β
 | [], s => fin s
 | a :: l, s => match step s a with | some (.inl s') => runX step fin l s' | some (.inr r) => some r | none => none
theorem loopX {α σ β : Type} (xs : List α) (L : Nat → σ → Int → Option β) (step : σ → α → Option (σ ⊕ β)) (fin : σ → Option β)
    (hs : ∀ n s (k : Nat) (hk : k < xs.length), L (n + 1) s k = match step s xs[k] with | some (.inl s') => L n s' ((k + 1 : Nat) : Int) | some (.inr r) => some r | none => none)
    (he : ∀ n s, L (n + 1) s (xs.length : Nat) = fin s) : ∀ (n k : Nat) (s : σ), k ≤ xs.length → xs.length - k < n → L n s k = runX step fin (xs.drop k) s := by
  intro n
  induction n with
  | zero => intro k s _ h; omega
  | succ n ih =>
    intro k s hk hn
    rcases Nat.lt_or_ge k xs.length with hlt | hge
    · rw [hs n s k hlt, List.drop_eq_getElem_cons hlt]
      simp only [runX]
      cases step s xs[k] with
      | none => rfl
      | some q =>
        cases q with
        | inl s' => exact ih (k + 1) s' hlt (by omega)
        | inr r => rfl
    · have : k = xs.length := by omega
      subst this
      rw [he, List.drop_length]; rfl
theorem loopX0 {α σ β : Type} (xs : List α) (L : Nat → σ → Int → Option β) (step : σ → α → Option (σ ⊕ β)) (fin : σ → Option β)
    (hs : ∀ n s (k : Nat) (hk : k < xs.length), L (n + 1) s k = match step s xs[k] with | some (.inl s') => L n s' ((k + 1 : Nat) : Int) | some (.inr r) => some r | none => none)
    (he : ∀ n s, L (n + 1) s (xs.length : Nat) = fin s) {n : Nat} (hn : xs.length < n) (s : σ) : L n s 0 = runX step fin xs s := by
  have := loopX xs L step fin hs he n 0 s (Nat.zero_le _) (by omega)
  simpa using this
theorem runX_all {α β : Type} {p : α → Bool} {step : Unit → α → Option (Unit ⊕ β)} {fin : Unit → Option β} {r : β} : ∀ {l : List α}, (∀ a ∈ l, step () a = if p a then some (.inl ()) else some (.inr r)) → runX step fin l () = if l.all p then fin () else some r
 | [], _ => rfl
 | a :: l, h => by
  simp only [runX]
  rw [h a (by simp)]
  cases hp : p a with
  | true => simp only [if_true, List.all_cons, hp, Bool.true_and]; exact runX_all fun b hb => h b (List.mem_cons_of_mem _ hb)
  | false => simp [List.all_cons, hp]
theorem fillX {α β γ : Type} (xs : List α) (L : Nat → List β → Int → Option γ) (g : α → β) (fin : List β → Option γ)
    (hs : ∀ n (out : List β) (k : Nat) (hk : k < xs.length), out.length = xs.length → L (n + 1) out k = L n (out.set k (g xs[k])) ((k + 1 : Nat) : Int))
    (he : ∀ n out, out.length = xs.length → L (n + 1) out (xs.length : Nat) = fin out) : ∀ (n k : Nat) (out : List β), out.length = xs.length → k ≤ xs.length → xs.length - k < n → L n out k = fin (out.take k ++ (xs.drop k).map g) := by
  intro n
  induction n with
  | zero => intro k out _ _ h; omega
  | succ n ih =>
    intro k out hl hk hn
    rcases Nat.lt_or_ge k xs.length with hlt | hge
    · have : (out.set k (g xs[k])).take (k + 1) = out.take k ++ [g xs[k]] := by
        rw [List.take_succ_eq_append_getElem (by simp; omega), List.take_set_of_le (Nat.le_refl _), List.getElem_set_self]
      rw [hs n out k hlt hl, ih (k + 1) _ (by simpa using hl) hlt (by omega), List.drop_eq_getElem_cons hlt, this, List.map_cons, List.append_assoc, List.singleton_append]
    · have : k = xs.length := by omega
      subst this
      rw [he _ _ hl, List.drop_length, List.take_of_length_le (by omega)]; simp
theorem fillX0 {α β γ : Type} (xs : List α) (L : Nat → List β → Int → Option γ) (g : α → β) (fin : List β → Option γ)
    (hs : ∀ n (out : List β) (k : Nat) (hk : k < xs.length), out.length = xs.length → L (n + 1) out k = L n (out.set k (g xs[k])) ((k + 1 : Nat) : Int))
    (he : ∀ n out, out.length = xs.length → L (n + 1) out (xs.length : Nat) = fin out) {n : Nat} {out : List β} (hl : out.length = xs.length) (hn : xs.length < n) : L n out 0 = fin (xs.map g) := by
  have := fillX xs L g fin hs he n 0 out hl (Nat.zero_le _) (by omega)
  simpa using this
theorem eqX {α : Type} [DecidableEq α] (a b : List α) (hl : a.length = b.length) (L : Nat → Int → Option (Unit ⊕ Bool))
    (hs : ∀ n (k : Nat) (h1 : k < a.length) (h2 : k < b.length), L (n + 1) k = if a[k] = b[k] then L n ((k + 1 : Nat) : Int) else some (.inr false)) (he : ∀ n, L (n + 1) (a.length : Nat) = some (.inl ())) {n : Nat} (hn : a.length < n) :
    L n 0 = some (if a = b then .inl () else .inr false) := by
  have key : ∀ (n k : Nat), k ≤ a.length → a.length - k < n → L n k = some (if a.drop k = b.drop k then .inl () else .inr false) := by
    intro n
    induction n with
    | zero => intro k _ h; omega
    | succ n ih =>
      intro k hk hn
      rcases Nat.lt_or_ge k a.length with hlt | hge
      · have h2 : k < b.length := by omega
        have e : (a.drop k = b.drop k) ↔ (a[k] = b[k] ∧ a.drop (k + 1) = b.drop (k + 1)) := by
          rw [List.drop_eq_getElem_cons hlt, List.drop_eq_getElem_cons h2]; exact List.cons_eq_cons
        rw [hs n k hlt h2]
        by_cases h : a[k] = b[k]
        · rw [if_pos h, ih (k + 1) hlt (by omega)]
          by_cases h3 : a.drop (k + 1) = b.drop (k + 1)
          · rw [if_pos h3, if_pos (e.2 ⟨h, h3⟩)]
          · rw [if_neg h3, if_neg fun h' => h3 (e.1 h').2]
        · rw [if_neg h, if_neg fun h' => h (e.1 h').1]
      · have : k = a.length := by omega
        subst this
        rw [he, List.drop_length, hl, List.drop_length]; rfl
  have := key n 0 (Nat.zero_le _) (by omega)
  simpa using this
theorem allX {α β : Type} (xs : List α) (L : Nat → Int → Option β) (p : α → Bool) (r e : β)
    (hs : ∀ n (k : Nat) (hk : k < xs.length), L (n + 1) k = if p xs[k] then L n ((k + 1 : Nat) : Int) else some r) (he : ∀ n, L (n + 1) (xs.length : Nat) = some e) {n : Nat} (hn : xs.length < n) :
    L n 0 = some (if xs.all p then e else r) := by
  have := loopX0 xs (fun n (_ : Unit) i => L n i) (fun _ a => if p a then some (.inl ()) else some (.inr r)) (fun _ => some e) (fun n s k hk => by rw [hs n k hk]; cases p xs[k] <;> simp) (fun n s => he n) hn ()
  rw [this, runX_all (p := p) (r := r) fun a _ => by cases p a <;> simp]
  cases xs.all p <;> simp
theorem forS {σ β : Type} (N : Nat) (L : Nat → σ → Int → Option β) (S : Nat → σ) {r : Option β}
    (hs : ∀ n (k : Nat), k < N → L (n + 1) (S k) k = L n (S (k + 1)) ((k + 1 : Nat) : Int)) (he : ∀ n, L (n + 1) (S N) (N : Nat) = r) {n : Nat} (hn : N < n) : L n (S 0) 0 = r := by
  have key : ∀ (n k : Nat), k ≤ N → N - k < n → L n (S k) k = r := by
    intro n
    induction n with
    | zero => intro k _ h; omega
    | succ n ih =>
      intro k hk hn
      rcases Nat.lt_or_ge k N with hlt | hge
      · rw [hs n k hlt]; exact ih (k + 1) hlt (by omega)
      · have : k = N := by omega
        subst this; exact he n
  exact key n 0 (Nat.zero_le _) (by omega)
theorem forA {σ β : Type} (N : Nat) (L : Nat → σ → Int → Option β) (S : Nat → σ) (p : Nat → Bool) {r e : Option β}
    (hs : ∀ n (k : Nat), k < N → L (n + 1) (S k) k = if p k then L n (S (k + 1)) ((k + 1 : Nat) : Int) else r) (he : ∀ n, L (n + 1) (S N) (N : Nat) = e) {n : Nat} (hn : N < n) :
    L n (S 0) 0 = if (List.range N).all p then e else r := by
  have key : ∀ (n k : Nat), k ≤ N → N - k < n → L n (S k) k = if (List.range' k (N - k)).all p then e else r := by
    intro n
    induction n with
    | zero => intro k _ h; omega
    | succ n ih =>
      intro k hk hn
      rcases Nat.lt_or_ge k N with hlt | hge
      · rw [hs n k hlt, show N - k = (N - (k + 1)) + 1 by omega, List.range'_succ, List.all_cons]
        cases hp : p k with
        | false => simp
        | true => simp only [if_true, Bool.true_and]; exact ih (k + 1) hlt (by omega)
      · have : k = N := by omega
        subst this; rw [he]; simp
  have := key n 0 (Nat.zero_le _) (by omega)
  rw [List.range_eq_range']
  simpa using this
theorem forB {σ β : Type} (N : Nat) (L : Nat → σ → Int → Option β) (S : Nat → σ) (p : Nat → Bool) {r e : Option β}
    (hs : ∀ n (k : Nat), k < N → (∀ j, j < k → p j = true) → L (n + 1) (S k) k = if p k then L n (S (k + 1)) ((k + 1 : Nat) : Int) else r) (he : ∀ n, (∀ j, j < N → p j = true) → L (n + 1) (S N) (N : Nat) = e) {n : Nat} (hn : N < n) :
    L n (S 0) 0 = if (List.range N).all p then e else r := by
  have key : ∀ (n k : Nat), k ≤ N → N - k < n → (∀ j, j < k → p j = true) → L n (S k) k = if (List.range' k (N - k)).all p then e else r := by
    intro n
    induction n with
    | zero => intro k _ h; omega
    | succ n ih =>
      intro k hk hn hb
      rcases Nat.lt_or_ge k N with hlt | hge
      · rw [hs n k hlt hb, show N - k = (N - (k + 1)) + 1 by omega, List.range'_succ, List.all_cons]
        cases hp : p k with
        | false => simp
        | true =>
          simp only [if_true, Bool.true_and]
          refine ih (k + 1) hlt (by omega) fun j hj => ?_
          rcases Nat.lt_or_ge j k with h | h
          · exact hb j h
          · have : j = k := by omega
            rw [this]; exact hp
      · have : k = N := by omega
        subst this; rw [he n hb]; simp
  have := key n 0 (Nat.zero_le _) (by omega) (fun j h => by omega)
  rw [List.range_eq_range']
  simpa using this
def szR (t : Nat) (left : Int) : Int := if (t : Int) ≤ left then left - t else -1
end Go.Va
set_option linter.unusedVariables false
open Go Go.Va
namespace T
def fuel : Nat := 1099511627776
def laws_szIntS (a : List Int) (left : Int) : Option (Int) :=
 if decide ((w64 (left - (a.length : Int))) < 0) then
  some (-1)
 else
  some (w64 (left - (a.length : Int)))
def laws_szIntSS_L5 : Nat → ((List (List Int)) × Int × Int) → Option ((Int) ⊕ (Int))
 | 0, _ => none
 | n + 1, (a, left, i) =>
  if decide (i < (a.length : Int)) then
   if inb i a then
    (laws_szIntS (gd a i []) left).bind fun r1 =>
     if decide (r1 < 0) then
      some (.inr (-1))
     else
      laws_szIntSS_L5 n (a, r1, w64 (i + 1))
   else none
  else
   some (.inl left)
def laws_szIntSS (a : List (List Int)) (left : Int) : Option (Int) :=
 if decide ((w64 (left - (a.length : Int))) < 0) then
  some (-1)
 else
  (laws_szIntSS_L5 fuel (a, w64 (left - (a.length : Int)), 0)).bind fun s1 =>
   match s1 with
   | .inl s2 =>
    some s2
   | .inr s3 =>
    some s3
def laws_toIntS_L3 : Nat → ((List Int) × (List Int) × Int) → Option ((List Int))
 | 0, _ => none
 | n + 1, (a, out, i) =>
  if decide (i < (a.length : Int)) then
   if inb i a then
    if inb i out then
     laws_toIntS_L3 n (a, stt out i (gd a i 0), w64 (i + 1))
    else none
   else none
  else
   some out
def laws_toIntS (a : List Int) : Option ((List Int)) :=
 if 0 ≤ (a.length : Int) ∧ (a.length : Int) ≤ (a.length : Int) ∧ (a.length : Int) ≤ lim then
  (laws_toIntS_L3 fuel (a, List.replicate (Int.toNat (a.length : Int)) (0 : Int), 0)).bind fun s1 =>
   some s1
 else none
def laws_toIntSS_L3 : Nat → ((List (List Int)) × (List (List Int)) × Int) → Option ((List (List Int)))
 | 0, _ => none
 | n + 1, (a, out, i) =>
  if decide (i < (a.length : Int)) then
   if inb i a then
    (laws_toIntS (gd a i [])).bind fun r1 =>
     if inb i out then
      laws_toIntSS_L3 n (a, stt out i r1, w64 (i + 1))
     else none
   else none
  else
   some out
def laws_toIntSS (a : List (List Int)) : Option ((List (List Int))) :=
 if 0 ≤ (a.length : Int) ∧ (a.length : Int) ≤ (a.length : Int) ∧ (a.length : Int) ≤ lim then
  (laws_toIntSS_L3 fuel (a, List.replicate (Int.toNat (a.length : Int)) ([] : List Int), 0)).bind fun s1 =>
   some s1
 else none
def spec_l1In (x : Int) (a : Int) (b : Int) : Option (Bool) :=
 if decide (x ≥ a) then
  some (decide (x ≤ b))
 else
  some false
def spec_l2Elements_L2 : Nat → (Int × (List Int) × Int) → Option ((Unit) ⊕ (Bool))
 | 0, _ => none
 | n + 1, (n_, list, i) =>
  if decide (i < (list.length : Int)) then
   if inb i list then
    (spec_l1In (gd list i 0) 0 (w64 (n_ - 1))).bind fun r1 =>
     if !r1 then
      some (.inr false)
     else
      spec_l2Elements_L2 n (n_, list, w64 (i + 1))
   else none
  else
   some (.inl ())
def spec_l2Elements (n_ : Int) (list : List Int) : Option (Bool) :=
 (spec_l2Elements_L2 fuel (n_, list, 0)).bind fun s1 =>
  match s1 with
  | .inl s2 =>
   some true
  | .inr s3 =>
   some s3
def spec_l8Tuple (n_ : Int) (k : Int) (t : List Int) : Option (Bool) :=
 if (t.length : Int) == k then
  (spec_l2Elements n_ t).bind fun r1 =>
   some r1
 else
  some false
def impl_inSize_L2 : Nat → (Int × (List Int) × Int × Int) → Option ((Unit) ⊕ (Bool))
 | 0, _ => none
 | n + 1, (n_, t7, t8, t9) =>
  if decide (t9 < t8) then
   if inb t9 t7 then
    if decide ((gd t7 t9 0) < 0) then
     some (.inr false)
    else
     if decide ((gd t7 t9 0) ≥ n_) then
      some (.inr false)
     else
      impl_inSize_L2 n (n_, t7, t8, w64 (t9 + 1))
   else none
  else
   some (.inl ())
def impl_inSize (list : List Int) (n_ : Int) : Option (Bool) :=
 (impl_inSize_L2 fuel (n_, list, (list.length : Int), 0)).bind fun s1 =>
  match s1 with
  | .inl s2 =>
   some true
  | .inr s3 =>
   some s3
def laws_eqIntS_L4 : Nat → ((List Int) × (List Int) × Int) → Option ((Unit) ⊕ (Bool))
 | 0, _ => none
 | n + 1, (a, b, i) =>
  if decide (i < (a.length : Int)) then
   if inb i a then
    if inb i b then
     if (gd a i 0) != (gd b i 0) then
      some (.inr false)
     else
      laws_eqIntS_L4 n (a, b, w64 (i + 1))
    else none
   else none
  else
   some (.inl ())
def laws_eqIntS (a : List Int) (b : List Int) : Option (Bool) :=
 if (a.length : Int) != (b.length : Int) then
  some false
 else
  (laws_eqIntS_L4 fuel (a, b, 0)).bind fun s1 =>
   match s1 with
   | .inl s2 =>
    some true
   | .inr s3 =>
    some s3
def laws_eqIntSS_L4 : Nat → ((List (List Int)) × (List (List Int)) × Int) → Option ((Unit) ⊕ (Bool))
 | 0, _ => none
 | n + 1, (a, b, i) =>
  if decide (i < (a.length : Int)) then
   if inb i a then
    if inb i b then
     (laws_eqIntS (gd a i []) (gd b i [])).bind fun r1 =>
      if !r1 then
       some (.inr false)
      else
       laws_eqIntSS_L4 n (a, b, w64 (i + 1))
    else none
   else none
  else
   some (.inl ())
def laws_eqIntSS (a : List (List Int)) (b : List (List Int)) : Option (Bool) :=
 if (a.length : Int) != (b.length : Int) then
  some false
 else
  (laws_eqIntSS_L4 fuel (a, b, 0)).bind fun s1 =>
   match s1 with
   | .inl s2 =>
    some true
   | .inr s3 =>
    some s3
def spec_l2Pow_L2 : Nat → (Int × Int × Int) → Option (Int)
 | 0, _ => none
 | n + 1, (n_, k, out) =>
  if decide (k > 0) then
   spec_l2Pow_L2 n (n_, w64 (k - 1), w64 (out * n_))
  else
   some out
def spec_l2Pow (n_ : Int) (k : Int) : Option (Int) :=
 (spec_l2Pow_L2 fuel (n_, k, 1)).bind fun s1 =>
  some s1
def spec_l3Less_L2 : Nat → ((List Int) × (List Int) × Int) → Option ((Unit) ⊕ (Bool))
 | 0, _ => none
 | n + 1, (a, b, i) =>
  if decide (i < (a.length : Int)) then
   if inb i a then
    if inb i b then
     if (gd a i 0) != (gd b i 0) then
      if inb i a then
       if inb i b then
        some (.inr (decide ((gd a i 0) < (gd b i 0))))
       else none
      else none
     else
      spec_l3Less_L2 n (a, b, w64 (i + 1))
    else none
   else none
  else
   some (.inl ())
def spec_l3Less (a : List Int) (b : List Int) : Option (Bool) :=
 (spec_l3Less_L2 fuel (a, b, 0)).bind fun s1 =>
  match s1 with
  | .inl s2 =>
   some false
  | .inr s3 =>
   some s3
def spec_l1Same_L4 : Nat → ((List Int) × (List Int) × Int) → Option ((Unit) ⊕ (Bool))
 | 0, _ => none
 | n + 1, (a, b, i) =>
  if decide (i < (a.length : Int)) then
   if inb i a then
    if inb i b then
     if (gd a i 0) != (gd b i 0) then
      some (.inr false)
     else
      spec_l1Same_L4 n (a, b, w64 (i + 1))
    else none
   else none
  else
   some (.inl ())
def spec_l1Same (a : List Int) (b : List Int) : Option (Bool) :=
 if (a.length : Int) != (b.length : Int) then
  some false
 else
  (spec_l1Same_L4 fuel (a, b, 0)).bind fun s1 =>
   match s1 with
   | .inl s2 =>
    some true
   | .inr s3 =>
    some s3
def spec_l8Find_L2 : Nat → ((List (List Int)) × (List Int) × Int × Int) → Option ((List (List Int)) × (List Int) × Int)
 | 0, _ => none
 | n + 1, (list, t, from_, to) =>
  if decide (from_ < to) then
   if (2 : Int) ≠ 0 then
    if inb (w64 (Int.tdiv (w64 (from_ + to)) 2)) list then
     (spec_l3Less (gd list (w64 (Int.tdiv (w64 (from_ + to)) 2)) []) t).bind fun r1 =>
      if r1 then
       spec_l8Find_L2 n (list, t, w64 ((w64 (Int.tdiv (w64 (from_ + to)) 2)) + 1), to)
      else
       spec_l8Find_L2 n (list, t, from_, w64 (Int.tdiv (w64 (from_ + to)) 2))
    else none
   else none
  else
   some (list, t, from_)
def spec_l8Find (list : List (List Int)) (t : List Int) : Option (Int × Bool) :=
 (spec_l8Find_L2 fuel (list, t, 0, (list.length : Int))).bind fun s1 =>
  if decide (s1.2.2 < (s1.1.length : Int)) then
   if inb s1.2.2 s1.1 then
    (spec_l1Same (gd s1.1 s1.2.2 []) s1.2.1).bind fun r2 =>
     some (s1.2.2, r2)
   else none
  else
   some (s1.2.2, false)
def impl_compareLists_L2 : Nat → ((List Int) × (List Int) × Int) → Option (((List Int) × (List Int)) ⊕ (Int))
 | 0, _ => none
 | n + 1, (s, t, i) =>
  if decide (i < (s.length : Int)) then
   if decide (i < (t.length : Int)) then
    if inb i s then
     if inb i t then
      if (gd s i 0) != (gd t i 0) then
       if inb i s then
        if inb i t then
         if decide ((gd s i 0) < (gd t i 0)) then
          some (.inr (-1))
         else
          some (.inr 1)
        else none
       else none
      else
       impl_compareLists_L2 n (s, t, w64 (i + 1))
     else none
    else none
   else
    some (.inl (s, t))
  else
   some (.inl (s, t))
def impl_compareLists (s : List Int) (t : List Int) : Option (Int) :=
 (impl_compareLists_L2 fuel (s, t, 0)).bind fun s1 =>
  match s1 with
  | .inl s2 =>
   if decide ((s2.1.length : Int) < (s2.2.length : Int)) then
    some (-1)
   else
    if decide ((s2.1.length : Int) > (s2.2.length : Int)) then
     some 1
    else
     some 0
  | .inr s3 =>
   some s3
end T
open Go Go.Va
namespace T
theorem szIntS_ok {a : List Int} {left : Int} (h0 : 0 ≤ left) (h1 : left ≤ 4611686018427387904) (ha : a.length ≤ 9223372036854775807) : laws_szIntS a left = some (szR a.length left) := by
 unfold laws_szIntS szR
 rw [w64_id (by omega) (by omega)]
 by_cases h : (a.length : Int) ≤ left
 ·rw [if_neg (by simp; omega), if_pos h]
 ·rw [if_pos (by simp; omega), if_neg h]
def totSS (a : List (List Int)) : Nat := a.length + (a.map List.length).sum
theorem szIntSS_ok {a : List (List Int)} {left : Int} (h0 : 0 ≤ left) (h1 : left ≤ 1099511627775) (ha : a.length ≤ 9223372036854775807) (hr : ∀ r ∈ a, r.length ≤ 9223372036854775807) : laws_szIntSS a left = some (szR (totSS a) left) := by
  unfold laws_szIntSS
  rw [w64_id (by omega) (by omega)]
  by_cases h : (a.length : Int) ≤ left
  · rw [if_neg (by simp; omega)]
    have key := loopX0 a (fun n s i => laws_szIntSS_L5 n (a, s, i)) (fun s r => (laws_szIntS r s).bind fun q => if q < 0 then some (.inr (.inr (-1))) else some (.inl q)) (fun s => some (.inl s)) ?_ ?_ (n := fuel) (by unfold fuel; omega) (left - a.length)
    · rw [key]
      have run : ∀ (l : List (List Int)) (s : Int), 0 ≤ s → s ≤ 1099511627775 → (∀ r ∈ l, r.length ≤ 9223372036854775807) →
          runX (fun s r => (laws_szIntS r s).bind fun q => if q < 0 then some (.inr (.inr (-1))) else some (.inl q)) (fun s => some (.inl s)) l s = some (if ((l.map List.length).sum : Int) ≤ s then (.inl (s - (l.map List.length).sum) : Int ⊕ Int) else .inr (-1)) := by
        intro l
        induction l with
        | nil => intro s h0 _ _; simp [runX, h0]
        | cons r l ih =>
          intro s h0 h1 hr
          simp only [runX]
          rw [szIntS_ok h0 (by omega) (hr r (by simp))]
          unfold szR
          by_cases h : (r.length : Int) ≤ s
          · rw [if_pos h]
            simp only [Option.bind_some]
            rw [if_neg (by omega)]
            dsimp only
            rw [ih (s - r.length) (by omega) (by omega) fun r hr' => hr r (List.mem_cons_of_mem _ hr')]
            simp only [List.map_cons, List.sum_cons]
            congr 1
            by_cases h2 : (((l.map List.length).sum : Nat) : Int) ≤ s - r.length
            · rw [if_pos h2, if_pos (by omega)]; congr 1; omega
            · rw [if_neg h2, if_neg (by omega)]
          · rw [if_neg h]
            simp only [List.map_cons, List.sum_cons]
            rw [if_neg (by omega)]
            rfl
      rw [run a _ (by omega) (by omega) hr]
      unfold szR totSS
      by_cases h2 : (((a.map List.length).sum : Nat) : Int) ≤ left - a.length
      · rw [if_pos h2, if_pos (by omega)]
        simp only [Option.bind_some, Option.some.injEq]; omega
      · rw [if_neg h2, if_neg (by omega)]; rfl
    · intro n s k hk
      simp only [laws_szIntSS_L5, inb_nat, gd_nat hk, w64_succ (show k < 4611686018427387904 by omega)]
      simp [hk]
      cases laws_szIntS a[k] s with
      | none => rfl
      | some q => by_cases hq : q < 0 <;> simp [hq]
    · intro n s
      simp [laws_szIntSS_L5]
  · rw [if_pos (by simp; omega)]
    unfold szR totSS
    rw [if_neg (by omega)]
theorem toIntS_ok {a : List Int} (ha : a.length ≤ 1099511627775) : laws_toIntS a = some a := by
 unfold laws_toIntS
 rw [if_pos (by unfold lim; omega)]
 have key := fillX0 a (fun n out i => laws_toIntS_L3 n (a, out, i)) id some ?_ ?_ (n := fuel) (out := List.replicate (Int.toNat (a.length : Int)) (0 : Int)) (by simp) (by unfold fuel; omega)
 ·rw [key]; simp
 ·intro n out k hk hl
  simp only [laws_toIntS_L3, inb_nat, gd_nat hk, stt_nat, w64_succ (show k < 4611686018427387904 by omega)]
  simp [hk, hl]
 ·intro n out hl
  simp [laws_toIntS_L3]
theorem toIntSS_ok {a : List (List Int)} (ha : a.length ≤ 1099511627775) (hr : ∀ r ∈ a, r.length ≤ 1099511627775) : laws_toIntSS a = some a := by
 unfold laws_toIntSS
 rw [if_pos (by unfold lim; omega)]
 have key := fillX0 a (fun n out i => laws_toIntSS_L3 n (a, out, i)) id some ?_ ?_ (n := fuel) (out := List.replicate (Int.toNat (a.length : Int)) ([] : List Int)) (by simp) (by unfold fuel; omega)
 ·rw [key]; simp
 ·intro n out k hk hl
  simp only [laws_toIntSS_L3, inb_nat, gd_nat hk, stt_nat, w64_succ (show k < 4611686018427387904 by omega)]
  simp [hk, hl, toIntS_ok (hr _ (List.getElem_mem hk))]
 ·intro n out hl
  simp [laws_toIntSS_L3]
theorem eqIntS_ok {a b : List Int} (ha : a.length ≤ 1099511627775) : laws_eqIntS a b = some (decide (a = b)) := by
 unfold laws_eqIntS
 by_cases hl : a.length = b.length
 ·rw [if_neg (by simp [hl]), eqX a b hl (fun n i => laws_eqIntS_L4 n (a, b, i)) ?_ ?_ (by unfold fuel; omega)]
  ·by_cases h : a = b <;> simp [h]
  ·intro n k h1 h2
   simp only [laws_eqIntS_L4, inb_nat, gd_nat h1, gd_nat h2, w64_succ (show k < 4611686018427387904 by omega)]
   by_cases h : a[k] = b[k] <;> simp [h1, h2, h]
  ·intro n
   simp [laws_eqIntS_L4]
 ·rw [if_pos (by simp; omega), decide_eq_false (fun e => hl (by rw [e]))]
theorem eqIntSS_ok {a b : List (List Int)} (ha : a.length ≤ 1099511627775) (hr : ∀ r ∈ a, r.length ≤ 1099511627775) : laws_eqIntSS a b = some (decide (a = b)) := by
 unfold laws_eqIntSS
 by_cases hl : a.length = b.length
 ·rw [if_neg (by simp [hl]), eqX a b hl (fun n i => laws_eqIntSS_L4 n (a, b, i)) ?_ ?_ (by unfold fuel; omega)]
  ·by_cases h : a = b <;> simp [h]
  ·intro n k h1 h2
   simp only [laws_eqIntSS_L4, inb_nat, gd_nat h1, gd_nat h2, w64_succ (show k < 4611686018427387904 by omega), eqIntS_ok (hr _ (List.getElem_mem h1))]
   by_cases h : a[k] = b[k] <;> simp [h1, h2, h]
  ·intro n
   simp [laws_eqIntSS_L4]
 ·rw [if_pos (by simp; omega), decide_eq_false (fun e => hl (by rw [e]))]
abbrev Lin := Int × Int × List (List Int)
theorem mem_sum {l : List (List Int)} : ∀ {r : List Int}, r ∈ l → r.length ≤ (l.map List.length).sum := by
 induction l with
 | nil => intro r h; cases h
 | cons x l ih =>
  intro r h
  rw [List.map_cons, List.sum_cons]
  rcases List.mem_cons.1 h with rfl | h
  ·omega
  ·have := ih h; omega
theorem spec_l1In_ok (x a b : Int) : spec_l1In x a b = some (decide (a ≤ x ∧ x ≤ b)) := by
 unfold spec_l1In
 by_cases h : a ≤ x <;> simp [h]
def belowB (n : Int) (l : List Int) : Bool := l.all fun x => decide (0 ≤ x ∧ x < n)
theorem impl_inSize_ok {l : List Int} (n : Int) (hl : l.length ≤ 1099511627775) : impl_inSize l n = some (belowB n l) := by
 unfold impl_inSize
 rw [allX l (fun m i => impl_inSize_L2 m (n, l, (l.length : Int), i)) (fun x => decide (0 ≤ x ∧ x < n)) (.inr false) (.inl ()) ?_ ?_ (by unfold fuel; omega)]
 ·unfold belowB; cases l.all (fun x => decide (0 ≤ x ∧ x < n)) <;> simp
 ·intro m k hk
  simp only [impl_inSize_L2, inb_nat, gd_nat hk, w64_succ (show k < 4611686018427387904 by omega)]
  by_cases h1 : l[k] < 0
  ·simp [hk, h1, show ¬ 0 ≤ l[k] by omega]
  ·by_cases h2 : n ≤ l[k]
   ·simp [hk, h1, h2, show ¬ l[k] < n by omega]
   ·simp [hk, h1, h2, show 0 ≤ l[k] ∧ l[k] < n by omega]
 ·intro m
  simp [impl_inSize_L2]
theorem spec_l2Elements_ok {l : List Int} {n : Int} (hn : -9223372036854775808 < n) (hn' : n ≤ 9223372036854775807) (hl : l.length ≤ 1099511627775) : spec_l2Elements n l = some (belowB n l) := by
 unfold spec_l2Elements
 rw [allX l (fun m i => spec_l2Elements_L2 m (n, l, i)) (fun x => decide (0 ≤ x ∧ x < n)) (.inr false) (.inl ()) ?_ ?_ (by unfold fuel; omega)]
 ·unfold belowB; cases l.all (fun x => decide (0 ≤ x ∧ x < n)) <;> simp
 ·intro m k hk
  simp only [spec_l2Elements_L2, inb_nat, gd_nat hk, w64_succ (show k < 4611686018427387904 by omega), spec_l1In_ok, w64_id (show -9223372036854775808 ≤ n - 1 by omega) (show n - 1 ≤ 9223372036854775807 by omega)]
  by_cases h1 : 0 ≤ l[k] ∧ l[k] < n
  ·simp [hk, h1, show l[k] ≤ n - 1 by omega]
  ·have : ¬ (0 ≤ l[k] ∧ l[k] ≤ n - 1) := by omega
   simp [hk, h1, this]
 ·intro m
  simp [spec_l2Elements_L2]
theorem spec_l8Tuple_ok {l : List Int} {n : Int} (k : Int) (hn : -9223372036854775808 < n) (hn' : n ≤ 9223372036854775807) (hl : l.length ≤ 1099511627775) : spec_l8Tuple n k l = some (decide ((l.length : Int) = k) && belowB n l) := by
 unfold spec_l8Tuple
 rw [spec_l2Elements_ok hn hn' hl]
 by_cases h : (l.length : Int) = k <;> simp [h]
end T
open Go Go.Va
namespace T
theorem belowB_get {n : Int} {l : List Int} (h : belowB n l = true) (k : Nat) (hk : k < l.length) : 0 ≤ l[k] ∧ l[k] < n := by
 have := (List.all_eq_true.1 h) l[k] (List.getElem_mem hk)
 simpa using this
section
variable {p v : Int} {rows : List (List Int)} {y : List Int}
end
end T
open Go Go.Va
namespace T
def cmpL : List Int → List Int → Int
 | [], [] => 0
 | [], _ :: _ => -1
 | _ :: _, [] => 1
 | a :: s, b :: t => if a = b then cmpL s t else if a < b then -1 else 1
theorem compare_L2 {s t : List Int} (hs : s.length ≤ 1099511627775) : ∀ (n k : Nat), k ≤ s.length → k ≤ t.length → s.length - k < n →
    (impl_compareLists_L2 n (s, t, (k : Int))).bind (fun s1 => match s1 with
      | .inl s2 => if decide ((s2.1.length : Int) < (s2.2.length : Int)) then some (-1) else if decide ((s2.1.length : Int) > (s2.2.length : Int)) then some 1 else some 0
      | .inr s3 => some s3) = some (cmpL (s.drop k) (t.drop k)) := by
  intro n
  induction n with
  | zero => intro k _ _ h; omega
  | succ n ih =>
    intro k h1 h2 hn
    by_cases k1 : k < s.length
    · by_cases k2 : k < t.length
      · rw [List.drop_eq_getElem_cons k1, List.drop_eq_getElem_cons k2]
        simp only [impl_compareLists_L2, inb_nat, gd_nat k1, gd_nat k2, w64_succ (show k < 4611686018427387904 by omega), cmpL]
        by_cases he : s[k] = t[k]
        · have := ih (k + 1) k1 k2 (by omega)
          simp [k1, k2, he]
          simpa using this
        · by_cases hl : s[k] < t[k] <;> simp [k1, k2, he, hl]
      · rw [List.drop_eq_getElem_cons k1, List.drop_of_length_le (show t.length ≤ k by omega)]
        have e : k = t.length := by omega
        simp only [impl_compareLists_L2, cmpL]
        simp [k1, k2, show ¬ s.length < t.length by omega, show t.length < s.length by omega]
    · rw [List.drop_of_length_le (show s.length ≤ k by omega)]
      simp only [impl_compareLists_L2]
      by_cases k2 : k < t.length
      · rw [List.drop_eq_getElem_cons k2]
        simp [k1, cmpL, show s.length < t.length by omega]
      · rw [List.drop_of_length_le (show t.length ≤ k by omega)]
        simp [k1, cmpL, show ¬ s.length < t.length by omega, show ¬ t.length < s.length by omega]
theorem impl_compareLists_ok {s t : List Int} (hs : s.length ≤ 1099511627775) : impl_compareLists s t = some (cmpL s t) := by
 have := compare_L2 (t := t) hs fuel 0 (Nat.zero_le _) (Nat.zero_le _) (by unfold fuel; omega)
 rw [List.drop_zero, List.drop_zero] at this
 exact this
theorem spec_l3Less_ok {s t : List Int} (hs : s.length ≤ 1099511627775) (hl : s.length = t.length) : spec_l3Less s t = some (decide (cmpL s t < 0)) := by
 have key : ∀ (n k : Nat), k ≤ s.length → s.length - k < n → (spec_l3Less_L2 n (s, t, (k : Int))).bind (fun s1 => match s1 with | .inl _ => some false | .inr s3 => some s3) = some (decide (cmpL (s.drop k) (t.drop k) < 0)) := by
  intro n
  induction n with
  | zero => intro k _ h; omega
  | succ n ih =>
   intro k h1 hn
   by_cases k1 : k < s.length
   ·have k2 : k < t.length := by omega
    rw [List.drop_eq_getElem_cons k1, List.drop_eq_getElem_cons k2]
    simp only [spec_l3Less_L2, inb_nat, gd_nat k1, gd_nat k2, w64_succ (show k < 4611686018427387904 by omega), cmpL]
    by_cases he : s[k] = t[k]
    ·have := ih (k + 1) k1 (by omega)
     simp [k1, k2, he]
     simpa using this
    ·by_cases hl : s[k] < t[k] <;> simp [k1, k2, he, hl]
   ·rw [List.drop_of_length_le (show s.length ≤ k by omega), List.drop_of_length_le (show t.length ≤ k by omega)]
    simp [spec_l3Less_L2, k1, cmpL]
 have := key fuel 0 (Nat.zero_le _) (by unfold fuel; omega)
 rw [List.drop_zero, List.drop_zero] at this
 exact this
theorem spec_l1Same_ok {a b : List Int} (ha : a.length ≤ 1099511627775) : spec_l1Same a b = some (decide (a = b)) := by
 unfold spec_l1Same
 by_cases hl : a.length = b.length
 ·rw [if_neg (by simp [hl]), eqX a b hl (fun n i => spec_l1Same_L4 n (a, b, i)) ?_ ?_ (by unfold fuel; omega)]
  ·by_cases h : a = b <;> simp [h]
  ·intro n k h1 h2
   simp only [spec_l1Same_L4, inb_nat, gd_nat h1, gd_nat h2, w64_succ (show k < 4611686018427387904 by omega)]
   by_cases h : a[k] = b[k] <;> simp [h1, h2, h]
  ·intro n
   simp [spec_l1Same_L4]
 ·rw [if_pos (by simp; omega), decide_eq_false (fun e => hl (by rw [e]))]
theorem cmpL_refl : ∀ s, cmpL s s = 0
 | [] => rfl
 | a :: s => by simp [cmpL, cmpL_refl s]
theorem cmpL_eq : ∀ {s t}, cmpL s t = 0 ↔ s = t
 | [], [] => by simp [cmpL]
 | [], _ :: _ => by simp [cmpL]
 | _ :: _, [] => by simp [cmpL]
 | a :: s, b :: t => by
  simp only [cmpL]
  by_cases h : a = b
  ·rw [if_pos h, cmpL_eq]; simp [h]
  ·rw [if_neg h]; split <;> simp [h]
theorem cmpL_symm : ∀ s t, cmpL t s = - cmpL s t
 | [], [] => by simp [cmpL]
 | [], _ :: _ => by simp [cmpL]
 | _ :: _, [] => by simp [cmpL]
 | a :: s, b :: t => by
  simp only [cmpL]
  by_cases h : a = b
  ·rw [if_pos h, if_pos h.symm, cmpL_symm s t]
  ·rw [if_neg h, if_neg (Ne.symm h)]
   by_cases h2 : a < b
   ·rw [if_pos h2, if_neg (by omega)]; rfl
   ·rw [if_neg h2, if_pos (by omega)]
theorem cmpL_trans : ∀ {s t u}, cmpL s t < 0 → cmpL t u < 0 → cmpL s u < 0
 | [], [], _, h, _ => by simp [cmpL] at h
 | [], _ :: _, [], _, h => by simp [cmpL] at h
 | [], _ :: _, _ :: _, _, _ => by simp [cmpL]
 | _ :: _, [], _, h, _ => by simp [cmpL] at h
 | _ :: _, _ :: _, [], _, h => by simp [cmpL] at h
 | a :: s, b :: t, c :: u, h1, h2 => by
  simp only [cmpL] at *
  by_cases e1 : a = b
  ·rw [if_pos e1] at h1
   by_cases e2 : b = c
   ·rw [if_pos e2] at h2; rw [if_pos (e1.trans e2)]; exact cmpL_trans h1 h2
   ·rw [if_neg e2] at h2; rw [e1, if_neg e2]; exact h2
  ·rw [if_neg e1] at h1
   have l1 : a < b := by
    by_cases h : a < b
    ·exact h
    ·rw [if_neg h] at h1; omega
   by_cases e2 : b = c
   ·rw [← e2, if_neg e1, if_pos l1]; omega
   ·rw [if_neg e2] at h2
    have l2 : b < c := by
     by_cases h : b < c
     ·exact h
     ·rw [if_neg h] at h2; omega
    rw [if_neg (by omega), if_pos (by omega)]; omega
def incB : List (List Int) → Bool
 | a :: b :: l => decide (cmpL a b < 0) && incB (b :: l)
 | _ => true
theorem incB_tail {a : List Int} {l : List (List Int)} (h : incB (a :: l) = true) : incB l = true := by
 cases l with
 | nil => rfl
 | cons b l => simp only [incB, Bool.and_eq_true] at h; exact h.2
theorem incB_head : ∀ {a : List Int} {l : List (List Int)}, incB (a :: l) = true → ∀ b ∈ l, cmpL a b < 0
 | a, [], _, b, hb => by cases hb
 | a, c :: l, h, b, hb => by
  simp only [incB, Bool.and_eq_true, decide_eq_true_eq] at h
  rcases List.mem_cons.1 hb with rfl | hb
  ·exact h.1
  ·exact cmpL_trans h.1 (incB_head h.2 b hb)
theorem incB_lt : ∀ {l : List (List Int)}, incB l = true → ∀ (i j : Nat) (hi : i < j) (hj : j < l.length), cmpL (l[i]'(by omega)) l[j] < 0
 | [], _, i, j, _, hj => by simp at hj
 | a :: l, h, 0, j + 1, _, hj => by
  simp only [List.getElem_cons_zero, List.getElem_cons_succ]
  exact incB_head h _ (List.getElem_mem _)
 | a :: l, h, i + 1, j + 1, hi, hj => by
  simp only [List.getElem_cons_succ]
  exact incB_lt (incB_tail h) i j (by omega) (by simpa using hj)
theorem incB_iff {l : List (List Int)} : incB l = true ↔ ∀ (i : Nat) (hi : i + 1 < l.length), cmpL (l[i]'(by omega)) l[i + 1] < 0 := by
 constructor
 ·exact fun h i hi => incB_lt h i (i + 1) (by omega) hi
 ·induction l with
  | nil => intro _; rfl
  | cons a l ih =>
   intro h
   cases l with
   | nil => rfl
   | cons b l =>
    simp only [incB, Bool.and_eq_true, decide_eq_true_eq]
    exact ⟨h 0 (by simp), ih fun i hi => by have := h (i + 1) (by simpa using hi); simpa using this⟩
end T
open Go Go.Va
namespace T
theorem pow_le_of {n : Int} (h0 : 0 ≤ n) (h8 : n ≤ 8) : ∀ k : Nat, 0 ≤ n ^ k ∧ n ^ k ≤ 8 ^ k
 | 0 => by simp
 | k + 1 => by
  obtain ⟨h1, h2⟩ := pow_le_of h0 h8 k
  rw [Int.pow_succ, Int.pow_succ]
  exact ⟨Int.mul_nonneg h1 h0, Int.mul_le_mul h2 h8 h0 (by have : (0 : Int) ≤ 8 ^ k := Int.le_trans h1 h2; exact this)⟩
theorem pow8_le : ∀ k : Nat, k ≤ 20 → (8 : Int) ^ k ≤ 8 ^ 20 := by
 intro k hk
 have : ((8 ^ k : Nat) : Int) ≤ ((8 ^ 20 : Nat) : Int) := Int.ofNat_le.2 (Nat.pow_le_pow_right (by omega) hk)
 simpa using this
theorem pow_bd {n : Int} (h0 : 0 ≤ n) (h8 : n ≤ 8) {k : Nat} (hk : k ≤ 20) : 0 ≤ n ^ k ∧ n ^ k ≤ 1152921504606846976 := by
  obtain ⟨h1, h2⟩ := pow_le_of h0 h8 k
  have := pow8_le k hk
  exact ⟨h1, by have e : (8 : Int) ^ 20 = 1152921504606846976 := by decide
                omega⟩
theorem l2Pow_L2 {n : Int} (h0 : 0 ≤ n) (h8 : n ≤ 8) : ∀ (m k j : Nat), j + k ≤ 20 → k < m → spec_l2Pow_L2 m (n, (k : Int), n ^ j) = some (n ^ (j + k)) := by
 intro m
 induction m with
 | zero => intro k j _ h; omega
 | succ m ih =>
  intro k j hj hk
  simp only [spec_l2Pow_L2]
  cases k with
  | zero => simp
  | succ k =>
   have e : w64 (((k + 1 : Nat) : Int) - 1) = (k : Int) := by rw [w64_id (by omega) (by omega)]; omega
   have hb := pow_bd h0 h8 (k := j + 1) (by omega)
   rw [Int.pow_succ] at hb
   rw [e, w64_id (by omega) (by omega), ← Int.pow_succ, if_pos (by simp), ih k (j + 1) (by omega) (by omega)]
   congr 2 <;> omega
theorem spec_l2Pow_ok {n : Int} (h0 : 0 ≤ n) (h8 : n ≤ 8) {k : Nat} (hk : k ≤ 20) : spec_l2Pow n (k : Int) = some (n ^ k) := by
 unfold spec_l2Pow
 have := l2Pow_L2 h0 h8 fuel k 0 (by omega) (by unfold fuel; omega)
 rw [Int.pow_zero] at this
 rw [this]; simp
def idxA (n : Int) : Int → List Int → Int
 | i, [] => i
 | i, a :: l => idxA n (i * n + a) l
def idx (n : Int) (l : List Int) : Int := idxA n 0 l
theorem idxA_eq (n : Int) : ∀ (l : List Int) (i : Int), idxA n i l = i * n ^ l.length + idxA n 0 l
 | [], i => by simp [idxA]
 | a :: l, i => by
  simp only [idxA, List.length_cons]
  rw [idxA_eq n l (i * n + a), idxA_eq n l (0 * n + a), Int.pow_succ]
  simp only [Int.zero_mul, Int.zero_add]
  rw [Int.add_mul, Int.mul_assoc, Int.mul_comm n (n ^ l.length)]
  omega
theorem idx_cons (n a : Int) (l : List Int) : idx n (a :: l) = a * n ^ l.length + idx n l := by
 unfold idx
 simp only [idxA]
 rw [idxA_eq]; simp
theorem belowB_cons {n a : Int} {l : List Int} : belowB n (a :: l) = true ↔ (0 ≤ a ∧ a < n) ∧ belowB n l = true := by
 unfold belowB; simp [List.all_cons]
theorem idx_bd {n : Int} : ∀ {l : List Int}, belowB n l = true → 0 ≤ idx n l ∧ idx n l < n ^ l.length
 | [], _ => by simp [idx, idxA]
 | a :: l, h => by
  obtain ⟨h1, h2⟩ := belowB_cons.1 h
  obtain ⟨h3, h4⟩ := idx_bd h2
  rw [idx_cons, List.length_cons, Int.pow_succ]
  have hp : 0 ≤ n ^ l.length := by omega
  have k1 := Int.mul_nonneg h1.1 hp
  have k2 := Int.mul_le_mul_of_nonneg_right (show a + 1 ≤ n by omega) hp
  rw [Int.add_mul, Int.one_mul, Int.mul_comm n] at k2
  exact ⟨by omega, by omega⟩
theorem idx_cmp {n : Int} : ∀ {s t : List Int}, belowB n s = true → belowB n t = true → s.length = t.length → (cmpL s t < 0 ↔ idx n s < idx n t) ∧ (cmpL s t = 0 ↔ idx n s = idx n t)
 | [], [], _, _, _ => by simp [cmpL, idx, idxA]
 | [], _ :: _, _, _, h => by simp at h
 | _ :: _, [], _, _, h => by simp at h
 | a :: s, b :: t, hs, ht, hl => by
  obtain ⟨s1, s2⟩ := belowB_cons.1 hs
  obtain ⟨t1, t2⟩ := belowB_cons.1 ht
  have hl' : s.length = t.length := by simpa using hl
  have ih := idx_cmp s2 t2 hl'
  obtain ⟨b1, b2⟩ := idx_bd s2
  obtain ⟨c1, c2⟩ := idx_bd t2
  rw [idx_cons, idx_cons, hl']
  rw [hl'] at b2
  simp only [cmpL]
  have hp : 0 ≤ n ^ t.length := by omega
  rcases Int.lt_trichotomy a b with h | h | h
  ·have := Int.mul_le_mul_of_nonneg_right (show a + 1 ≤ b by omega) hp
   rw [Int.add_mul, Int.one_mul] at this
   rw [if_neg (by omega), if_pos h]
   exact ⟨by constructor <;> intro <;> omega, by constructor <;> intro <;> omega⟩
  ·subst h
   rw [if_pos rfl]
   exact ⟨by rw [ih.1]; constructor <;> intro <;> omega, by rw [ih.2]; constructor <;> intro <;> omega⟩
  ·have := Int.mul_le_mul_of_nonneg_right (show b + 1 ≤ a by omega) hp
   rw [Int.add_mul, Int.one_mul] at this
   rw [if_neg (by omega), if_neg (by omega)]
   exact ⟨by constructor <;> intro <;> omega, by constructor <;> intro <;> omega⟩
theorem inc_count {n : Int} {k : Nat} {l : List (List Int)} (hi : incB l = true) (hv : ∀ t ∈ l, t.length = k ∧ belowB n t = true) : (l.length : Int) ≤ n ^ k ∨ l = [] := by
 have key : ∀ (i : Nat) (h : i < l.length), (i : Int) ≤ idx n l[i] := by
  intro i
  induction i with
  | zero => intro h; exact (idx_bd (hv _ (List.getElem_mem h)).2).1
  | succ i ih =>
   intro h
   have h1 := ih (by omega)
   obtain ⟨l1, b1⟩ := hv _ (List.getElem_mem (show i < l.length by omega))
   obtain ⟨l2, b2⟩ := hv _ (List.getElem_mem h)
   have := (idx_cmp b1 b2 (l1.trans l2.symm)).1.1 (incB_lt hi i (i + 1) (by omega) h)
   omega
 cases hn : l.length with
 | zero => exact .inr (List.length_eq_zero_iff.1 hn)
 | succ m =>
  left
  have h := key m (by omega)
  obtain ⟨l1, b1⟩ := hv _ (List.getElem_mem (show m < l.length by omega))
  have := (idx_bd b1).2
  rw [l1] at this
  omega
theorem find_L2 {list : List (List Int)} {t : List Int} {k : Nat} (hl : list.length ≤ 1099511627775) (hk : k ≤ 1099511627775) (hv : ∀ u ∈ list, u.length = k) (ht : t.length = k) (hi : incB list = true) : ∀ (m a b : Nat), a ≤ b → b ≤ list.length → b - a < m →
    (∀ i (h : i < list.length), i < a → cmpL list[i] t < 0) → (∀ i (h : i < list.length), b ≤ i → ¬ cmpL list[i] t < 0) →
    ∃ c : Nat, spec_l8Find_L2 m (list, t, (a : Int), (b : Int)) = some (list, t, (c : Int)) ∧ c ≤ list.length ∧ (∀ i (h : i < list.length), i < c → cmpL list[i] t < 0) ∧ (∀ i (h : i < list.length), c ≤ i → ¬ cmpL list[i] t < 0) := by
  intro m
  induction m with
  | zero => intro a b _ _ h; omega
  | succ m ih =>
    intro a b hab hb hm h1 h2
    simp only [spec_l8Find_L2]
    by_cases hlt : a < b
    · have emid : w64 (Int.tdiv (w64 ((a : Int) + b)) 2) = (((a + b) / 2 : Nat) : Int) := by
        rw [w64_id (x := (a : Int) + b) (by omega) (by omega), Int.tdiv_eq_ediv_of_nonneg (by omega), w64_id (by omega) (by omega)]; omega
      have hmid : (a + b) / 2 < list.length := by omega
      rw [emid]
      have hless := spec_l3Less_ok (s := list[(a + b) / 2]) (t := t) (by rw [hv _ (List.getElem_mem hmid)]; omega) (by rw [hv _ (List.getElem_mem hmid), ht])
      simp only [inb_nat, gd_nat hmid, hless, Option.bind_some, w64_succ (show (a + b) / 2 < 4611686018427387904 by omega)]
      by_cases hc : cmpL list[(a + b) / 2] t < 0
      · obtain ⟨c, e, k1, k2, k3⟩ := ih ((a + b) / 2 + 1) b (by omega) hb (by omega) (fun i h hi' => by
          rcases Nat.lt_or_ge i ((a + b) / 2) with h' | h'
          · exact cmpL_trans (incB_lt hi i ((a + b) / 2) h' hmid) hc
          · have : i = (a + b) / 2 := by omega
            subst this; exact hc) h2
        exact ⟨c, by simpa [hlt, hmid, hc] using e, k1, k2, k3⟩
      · obtain ⟨c, e, k1, k2, k3⟩ := ih a ((a + b) / 2) (by omega) (by omega) (by omega) h1 (fun i h hi' hneg => by
          rcases Nat.lt_or_ge ((a + b) / 2) i with h' | h'
          · exact hc (cmpL_trans (incB_lt hi ((a + b) / 2) i h' h) hneg)
          · have : i = (a + b) / 2 := by omega
            subst this; exact hc hneg)
        exact ⟨c, by simpa [hlt, hmid, hc] using e, k1, k2, k3⟩
    · have : a = b := by omega
      subst this
      exact ⟨a, by simp, hb, h1, h2⟩
theorem spec_l8Find_ok {list : List (List Int)} {t : List Int} {k : Nat} (hl : list.length ≤ 1099511627774) (hk : k ≤ 1099511627775) (hv : ∀ u ∈ list, u.length = k) (ht : t.length = k) (hi : incB list = true) :
    ∃ c : Nat, spec_l8Find list t = some ((c : Int), decide (t ∈ list)) ∧ c ≤ list.length ∧ (∀ i (h : i < list.length), i < c → cmpL list[i] t < 0) ∧ (∀ i (h : i < list.length), c ≤ i → ¬ cmpL list[i] t < 0) := by
  obtain ⟨c, e, k1, k2, k3⟩ := find_L2 (by omega) hk hv ht hi fuel 0 list.length (Nat.zero_le _) (Nat.le_refl _) (by unfold fuel; omega) (fun i _ h => by omega) (fun i h h' => by omega)
  refine ⟨c, ?_, k1, k2, k3⟩
  unfold spec_l8Find
  have e' : spec_l8Find_L2 fuel (list, t, 0, (list.length : Int)) = some (list, t, (c : Int)) := e
  rw [e']
  simp only [Option.bind_some]
  by_cases hc : c < list.length
  · have hs := spec_l1Same_ok (a := list[c]) (b := t) (by rw [hv _ (List.getElem_mem hc)]; omega)
    simp only [inb_nat, gd_nat hc, hs, Option.bind_some]
    have : decide (list[c] = t) = decide (t ∈ list) := by
      by_cases h : list[c] = t
      · rw [decide_eq_true h, decide_eq_true (h ▸ List.getElem_mem hc)]
      · rw [decide_eq_false h]
        symm; rw [decide_eq_false_iff_not]
        intro hm
        obtain ⟨j, hj, rfl⟩ := List.mem_iff_getElem.1 hm
        have hne : j ≠ c := fun e => h (by subst e; rfl)
        rcases Nat.lt_or_ge j c with hlt | hge
        · have := k2 j hj hlt; rw [cmpL_refl] at this; omega
        · exact k3 c hc (Nat.le_refl _) (incB_lt hi c j (by omega) hj)
    simp [hc, this]
  · have : decide (t ∈ list) = false := by
      rw [decide_eq_false_iff_not]
      intro hm
      obtain ⟨j, hj, rfl⟩ := List.mem_iff_getElem.1 hm
      have := k2 j hj (by omega); rw [cmpL_refl] at this; omega
    rw [if_neg (by simp; omega), this]
end T
open Go Go.Va
namespace T
section
variable {p : Int} {k : Nat} {ts : List (List Int)}
theorem idxA_snoc (n : Int) : ∀ (l : List Int) (i a : Int), idxA n i (l ++ [a]) = idxA n i l * n + a
 | [], i, a => by simp [idxA]
 | b :: l, i, a => by simp only [List.cons_append, idxA]; exact idxA_snoc n l _ _
end
end T
set_option linter.unusedVariables false
open Go Go.Va
namespace T
def laws_szRelation (a : Int × (List (List Int))) (left : Int) : Option (Int) :=
 (laws_szIntSS a.2 left).bind fun r1 =>
  if decide (r1 < 0) then
   some (-1)
  else
   some r1
def laws_szConstraint (a : (List Int) × Int × (List (List Int))) (left : Int) : Option (Int) :=
 (laws_szIntS a.1 left).bind fun r1 =>
  if decide (r1 < 0) then
   some (-1)
  else
   (laws_szRelation (a.2.1, a.2.2) r1).bind fun r2 =>
    if decide (r2 < 0) then
     some (-1)
    else
     some r2
def laws_szConstraintS_L5 : Nat → ((List ((List Int) × Int × (List (List Int)))) × Int × Int) → Option ((Int) ⊕ (Int))
 | 0, _ => none
 | n + 1, (a, left, i) =>
  if decide (i < (a.length : Int)) then
   if inb i a then
    (laws_szConstraint (gd a i ([], (0, []))) left).bind fun r1 =>
     if decide (r1 < 0) then
      some (.inr (-1))
     else
      laws_szConstraintS_L5 n (a, r1, w64 (i + 1))
   else none
  else
   some (.inl left)
def laws_szConstraintS (a : List ((List Int) × Int × (List (List Int)))) (left : Int) : Option (Int) :=
 if decide ((w64 (left - (a.length : Int))) < 0) then
  some (-1)
 else
  (laws_szConstraintS_L5 fuel (a, w64 (left - (a.length : Int)), 0)).bind fun s1 =>
   match s1 with
   | .inl s2 =>
    some s2
   | .inr s3 =>
    some s3
def laws_szNetwork (a : Int × Int × (List ((List Int) × Int × (List (List Int))))) (left : Int) : Option (Int) :=
 (laws_szConstraintS a.2.2 left).bind fun r1 =>
  if decide (r1 < 0) then
   some (-1)
  else
   some r1
def laws_toRelation (a : Int × (List (List Int))) : Option ((Int × (List (List Int)))) :=
 (laws_toIntSS a.2).bind fun r1 =>
  some (a.1, r1)
def laws_toConstraint (a : (List Int) × Int × (List (List Int))) : Option (((List Int) × (Int × (List (List Int))))) :=
 (laws_toIntS a.1).bind fun r1 =>
  (laws_toRelation (a.2.1, a.2.2)).bind fun r2 =>
   some (r1, (r2.1, r2.2))
def laws_toConstraintS_L3 : Nat → ((List ((List Int) × Int × (List (List Int)))) × (List ((List Int) × Int × (List (List Int)))) × Int) → Option ((List ((List Int) × Int × (List (List Int)))))
 | 0, _ => none
 | n + 1, (a, out, i) =>
  if decide (i < (a.length : Int)) then
   if inb i a then
    (laws_toConstraint (gd a i ([], (0, [])))).bind fun r1 =>
     if inb i out then
      laws_toConstraintS_L3 n (a, stt out i (r1.1, (r1.2.1, r1.2.2)), w64 (i + 1))
     else none
   else none
  else
   some out
def laws_toConstraintS (a : List ((List Int) × Int × (List (List Int)))) : Option ((List ((List Int) × Int × (List (List Int))))) :=
 if 0 ≤ (a.length : Int) ∧ (a.length : Int) ≤ (a.length : Int) ∧ (a.length : Int) ≤ lim then
  (laws_toConstraintS_L3 fuel (a, List.replicate (Int.toNat (a.length : Int)) (([], (0, [])) : (List Int) × Int × (List (List Int))), 0)).bind fun s1 =>
   some s1
 else none
def laws_toNetwork (a : Int × Int × (List ((List Int) × Int × (List (List Int))))) : Option ((Int × (Int × (List ((List Int) × Int × (List (List Int))))))) :=
 (laws_toConstraintS a.2.2).bind fun r1 =>
  some (a.1, (a.2.1, r1))
def spec_l13Good_L4 : Nat → (Int × (Int × (List (List Int))) × Int) → Option ((Unit) ⊕ (Bool))
 | 0, _ => none
 | n + 1, (n_, r, i) =>
  if decide (i < (r.2.length : Int)) then
   if inb i r.2 then
    (spec_l8Tuple n_ r.1 (gd r.2 i [])).bind fun r3 =>
     if !r3 then
      some (.inr false)
     else
      if decide (i > 0) then
       if inb (w64 (i - 1)) r.2 then
        if inb i r.2 then
         (spec_l3Less (gd r.2 (w64 (i - 1)) []) (gd r.2 i [])).bind fun r4 =>
          if !r4 then
           some (.inr false)
          else
           spec_l13Good_L4 n (n_, (r.1, r.2), w64 (i + 1))
        else none
       else none
      else
       spec_l13Good_L4 n (n_, (r.1, r.2), w64 (i + 1))
   else none
  else
   some (.inl ())
def spec_l13Good (n_ : Int) (r : Int × (List (List Int))) : Option (Bool) :=
 (spec_l1In r.1 1 3).bind fun r1 =>
  if !r1 then
   some false
  else
   (spec_l2Pow n_ r.1).bind fun r2 =>
    if decide ((r.2.length : Int) > r2) then
     some false
    else
     (spec_l13Good_L4 fuel (n_, (r.1, r.2), 0)).bind fun s3 =>
      match s3 with
      | .inl s4 =>
       some true
      | .inr s5 =>
       some s5
def spec_l19Is (vars : Int) (size : Int) (c : (List Int) × Int × (List (List Int))) : Option (Bool) :=
 (spec_l13Good size (c.2.1, c.2.2)).bind fun r1 =>
  if r1 then
   if (c.1.length : Int) == c.2.1 then
    (spec_l2Elements vars c.1).bind fun r2 =>
     some r2
   else
    some false
  else
   some false
def spec_l19Good_L4 : Nat → ((Int × Int × (List ((List Int) × Int × (List (List Int))))) × Int) → Option ((Unit) ⊕ (Bool))
 | 0, _ => none
 | n + 1, (net, i) =>
  if decide (i < (net.2.2.length : Int)) then
   if inb i net.2.2 then
    (spec_l19Is net.1 net.2.1 (gd net.2.2 i ([], (0, [])))).bind fun r3 =>
     if !r3 then
      some (.inr false)
     else
      spec_l19Good_L4 n ((net.1, (net.2.1, net.2.2)), w64 (i + 1))
   else none
  else
   some (.inl ())
def spec_l19Good (net : Int × Int × (List ((List Int) × Int × (List (List Int))))) : Option (Bool) :=
 (spec_l1In net.1 0 9).bind fun r1 =>
  if !r1 then
   some false
  else
   (spec_l1In net.2.1 1 4).bind fun r2 =>
    if !r2 then
     some false
    else
     if decide ((net.2.2.length : Int) > 40) then
      some false
     else
      (spec_l19Good_L4 fuel ((net.1, (net.2.1, net.2.2)), 0)).bind fun s3 =>
       match s3 with
       | .inl s4 =>
        some true
       | .inr s5 =>
        some s5
def spec_l1Own (l : List Int) : Option ((List Int)) :=
 if ([] : List Int).length + l.length ≤ lim then
  some ([] ++ l)
 else none
def impl_isTemplateSize (n_ : Int) : Option (Bool) :=
 if decide (n_ ≥ 1) then
  some (decide (n_ ≤ 4))
 else
  some false
def impl_isRelation_L4 : Nat → (Int × (Int × (List (List Int))) × (List (List Int)) × Int × Int) → Option ((Unit) ⊕ (Bool))
 | 0, _ => none
 | n + 1, (n_, r, t16, t17, t18) =>
  if decide (t18 < t17) then
   if inb t18 t16 then
    if ((gd t16 t18 []).length : Int) != r.1 then
     some (.inr false)
    else
     (impl_inSize (gd t16 t18 []) n_).bind fun r1 =>
      if !r1 then
       some (.inr false)
      else
       if decide (t18 > 0) then
        if inb (w64 (t18 - 1)) r.2 then
         (impl_compareLists (gd r.2 (w64 (t18 - 1)) []) (gd t16 t18 [])).bind fun r2 =>
          if decide (r2 ≥ 0) then
           some (.inr false)
          else
           impl_isRelation_L4 n (n_, (r.1, r.2), t16, t17, w64 (t18 + 1))
        else none
       else
        impl_isRelation_L4 n (n_, (r.1, r.2), t16, t17, w64 (t18 + 1))
   else none
  else
   some (.inl ())
def impl_isRelation (n_ : Int) (r : Int × (List (List Int))) : Option (Bool) :=
 if decide (r.1 < 1) then
  some false
 else
  if decide (r.1 > 3) then
   some false
  else
   (impl_isRelation_L4 fuel (n_, (r.1, r.2), r.2, (r.2.length : Int), 0)).bind fun s1 =>
    match s1 with
    | .inl s2 =>
     some true
    | .inr s3 =>
     some s3
def impl_isConstraint (vars : Int) (size : Int) (c : (List Int) × Int × (List (List Int))) : Option (Bool) :=
 (impl_isRelation size (c.2.1, c.2.2)).bind fun r1 =>
  if r1 then
   if (c.1.length : Int) == c.2.1 then
    (impl_inSize c.1 vars).bind fun r2 =>
     some r2
   else
    some false
  else
   some false
def impl_IsNetwork_L4 : Nat → ((Int × Int × (List ((List Int) × Int × (List (List Int))))) × (List ((List Int) × Int × (List (List Int)))) × Int × Int) → Option ((Unit) ⊕ (Bool))
 | 0, _ => none
 | n + 1, (net, t26, t27, t28) =>
  if decide (t28 < t27) then
   if inb t28 t26 then
    (impl_isConstraint net.1 net.2.1 ((gd t26 t28 ([], (0, []))).1, (((gd t26 t28 ([], (0, []))).2).1, ((gd t26 t28 ([], (0, []))).2).2))).bind fun r2 =>
     if !r2 then
      some (.inr false)
     else
      impl_IsNetwork_L4 n ((net.1, (net.2.1, net.2.2)), t26, t27, w64 (t28 + 1))
   else none
  else
   some (.inl ())
def impl_IsNetwork (net : Int × Int × (List ((List Int) × Int × (List (List Int))))) : Option (Bool) :=
 if decide (net.1 < 0) then
  some false
 else
  if decide (net.1 > 9) then
   some false
  else
   (impl_isTemplateSize net.2.1).bind fun r1 =>
    if !r1 then
     some false
    else
     if decide ((net.2.2.length : Int) > 40) then
      some false
     else
      (impl_IsNetwork_L4 fuel ((net.1, (net.2.1, net.2.2)), net.2.2, (net.2.2.length : Int), 0)).bind fun s2 =>
       match s2 with
       | .inl s3 =>
        some true
       | .inr s4 =>
        some s4
def laws_eqRelation (a : Int × (List (List Int))) (b : Int × (List (List Int))) : Option (Bool) :=
 if a.1 != b.1 then
  some false
 else
  (laws_eqIntSS a.2 b.2).bind fun r1 =>
   if !r1 then
    some false
   else
    some true
def laws_eqConstraint (a : (List Int) × Int × (List (List Int))) (b : (List Int) × Int × (List (List Int))) : Option (Bool) :=
 (laws_eqIntS a.1 b.1).bind fun r1 =>
  if !r1 then
   some false
  else
   (laws_eqRelation (a.2.1, a.2.2) (b.2.1, b.2.2)).bind fun r2 =>
    if !r2 then
     some false
    else
     some true
def laws_eqConstraintS_L4 : Nat → ((List ((List Int) × Int × (List (List Int)))) × (List ((List Int) × Int × (List (List Int)))) × Int) → Option ((Unit) ⊕ (Bool))
 | 0, _ => none
 | n + 1, (a, b, i) =>
  if decide (i < (a.length : Int)) then
   if inb i a then
    if inb i b then
     (laws_eqConstraint (gd a i ([], (0, []))) (gd b i ([], (0, [])))).bind fun r1 =>
      if !r1 then
       some (.inr false)
      else
       laws_eqConstraintS_L4 n (a, b, w64 (i + 1))
    else none
   else none
  else
   some (.inl ())
def laws_eqConstraintS (a : List ((List Int) × Int × (List (List Int)))) (b : List ((List Int) × Int × (List (List Int)))) : Option (Bool) :=
 if (a.length : Int) != (b.length : Int) then
  some false
 else
  (laws_eqConstraintS_L4 fuel (a, b, 0)).bind fun s1 =>
   match s1 with
   | .inl s2 =>
    some true
   | .inr s3 =>
    some s3
def laws_eqNetwork (a : Int × Int × (List ((List Int) × Int × (List (List Int))))) (b : Int × Int × (List ((List Int) × Int × (List (List Int))))) : Option (Bool) :=
 if a.1 != b.1 then
  some false
 else
  if a.2.1 != b.2.1 then
   some false
  else
   (laws_eqConstraintS a.2.2 b.2.2).bind fun r1 =>
    if !r1 then
     some false
    else
     some true
def laws_markIntS_L2 : Nat → ((List Int) × Int × Int) → Option ((List Int) × Int)
 | 0, _ => none
 | n + 1, (a, k, i) =>
  if decide (i < (a.length : Int)) then
   if inb i a then
    laws_markIntS_L2 n (stt a i k, w64 (k + 1), w64 (i + 1))
   else none
  else
   some (a, k)
def laws_markIntS (a : List Int) (k : Int) : Option ((List Int) × Int) :=
 (laws_markIntS_L2 fuel (a, k, 0)).bind fun s1 =>
  some (s1.1, s1.2)
def laws_markIntSS_L2 : Nat → ((List (List Int)) × Int × Int) → Option ((List (List Int)) × Int)
 | 0, _ => none
 | n + 1, (a, k, i) =>
  if decide (i < (a.length : Int)) then
   if inb i a then
    (laws_markIntS (gd a i []) k).bind fun r1 =>
     laws_markIntSS_L2 n (stt a i r1.1, r1.2, w64 (i + 1))
   else none
  else
   some (a, k)
def laws_markIntSS (a : List (List Int)) (k : Int) : Option ((List (List Int)) × Int) :=
 (laws_markIntSS_L2 fuel (a, k, 0)).bind fun s1 =>
  some (s1.1, s1.2)
def laws_markConstraintS_L2 : Nat → ((List ((List Int) × Int × (List (List Int)))) × Int × Int) → Option ((List ((List Int) × Int × (List (List Int)))) × Int)
 | 0, _ => none
 | n + 1, (a, k, i) =>
  if decide (i < (a.length : Int)) then
   if inb i a then
    (laws_markIntS ((gd a i ([], (0, []))).1) k).bind fun r1 =>
     if inb i (stt a i (r1.1, (gd a i ([], (0, []))).2)) then
      if inb i (stt (stt a i (r1.1, (gd a i ([], (0, []))).2)) i ((gd (stt a i (r1.1, (gd a i ([], (0, []))).2)) i ([], (0, []))).1, (r1.2, ((gd (stt a i (r1.1, (gd a i ([], (0, []))).2)) i ([], (0, []))).2).2))) then
       (laws_markIntSS (((gd (stt (stt a i (r1.1, (gd a i ([], (0, []))).2)) i ((gd (stt a i (r1.1, (gd a i ([], (0, []))).2)) i ([], (0, []))).1, (r1.2, ((gd (stt a i (r1.1, (gd a i ([], (0, []))).2)) i ([], (0, []))).2).2))) i ([], (0, []))).2).2) (w64 (r1.2 + 1))).bind fun r2 =>
        laws_markConstraintS_L2 n (stt (stt (stt a i (r1.1, (gd a i ([], (0, []))).2)) i ((gd (stt a i (r1.1, (gd a i ([], (0, []))).2)) i ([], (0, []))).1, (r1.2, ((gd (stt a i (r1.1, (gd a i ([], (0, []))).2)) i ([], (0, []))).2).2))) i ((gd (stt (stt a i (r1.1, (gd a i ([], (0, []))).2)) i ((gd (stt a i (r1.1, (gd a i ([], (0, []))).2)) i ([], (0, []))).1, (r1.2, ((gd (stt a i (r1.1, (gd a i ([], (0, []))).2)) i ([], (0, []))).2).2))) i ([], (0, []))).1, (((gd (stt (stt a i (r1.1, (gd a i ([], (0, []))).2)) i ((gd (stt a i (r1.1, (gd a i ([], (0, []))).2)) i ([], (0, []))).1, (r1.2, ((gd (stt a i (r1.1, (gd a i ([], (0, []))).2)) i ([], (0, []))).2).2))) i ([], (0, []))).2).1, r2.1)), r2.2, w64 (i + 1))
      else none
     else none
   else none
  else
   some (a, k)
def laws_markConstraintS (a : List ((List Int) × Int × (List (List Int)))) (k : Int) : Option ((List ((List Int) × Int × (List (List Int)))) × Int) :=
 (laws_markConstraintS_L2 fuel (a, k, 0)).bind fun s1 =>
  some (s1.1, s1.2)
def laws_markNetwork (a : Int × (Int × (List ((List Int) × Int × (List (List Int)))))) (k : Int) : Option ((Unit × (Unit × (List ((List Int) × Int × (List (List Int)))))) × Int) :=
 (laws_markConstraintS a.2.2 k).bind fun r1 =>
  some (((), ((), r1.1)), r1.2)
def laws_heldIntS_L2 : Nat → ((List Int) × Int × Int) → Option ((Int) ⊕ (Int))
 | 0, _ => none
 | n + 1, (a, k, i) =>
  if decide (i < (a.length : Int)) then
   if inb i a then
    if (gd a i 0) != k then
     some (.inr (-1))
    else
     laws_heldIntS_L2 n (a, w64 (k + 1), w64 (i + 1))
   else none
  else
   some (.inl k)
def laws_heldIntS (a : List Int) (k : Int) : Option (Int) :=
 (laws_heldIntS_L2 fuel (a, k, 0)).bind fun s1 =>
  match s1 with
  | .inl s2 =>
   some s2
  | .inr s3 =>
   some s3
def laws_heldIntSS_L2 : Nat → ((List (List Int)) × Int × Int) → Option ((Int) ⊕ (Int))
 | 0, _ => none
 | n + 1, (a, k, i) =>
  if decide (i < (a.length : Int)) then
   if inb i a then
    (laws_heldIntS (gd a i []) k).bind fun r1 =>
     if decide (r1 < 0) then
      some (.inr (-1))
     else
      laws_heldIntSS_L2 n (a, r1, w64 (i + 1))
   else none
  else
   some (.inl k)
def laws_heldIntSS (a : List (List Int)) (k : Int) : Option (Int) :=
 (laws_heldIntSS_L2 fuel (a, k, 0)).bind fun s1 =>
  match s1 with
  | .inl s2 =>
   some s2
  | .inr s3 =>
   some s3
end T
open Go Go.Va
namespace T
theorem szX {α : Type} (xs : List α) (f : α → Int → Option Int) (tot : α → Nat) (L : Nat → Int → Int → Option (Int ⊕ Int))
    (hf : ∀ a ∈ xs, ∀ s, 0 ≤ s → s ≤ 1099511627775 → f a s = some (szR (tot a) s))
    (hs : ∀ n s (k : Nat) (hk : k < xs.length), L (n + 1) s k = (f xs[k] s).bind fun q => if q < 0 then some (.inr (-1)) else L n q ((k + 1 : Nat) : Int))
    (he : ∀ n s, L (n + 1) s (xs.length : Nat) = some (.inl s)) : ∀ (n k : Nat) (s : Int), k ≤ xs.length → xs.length - k < n → 0 ≤ s → s ≤ 1099511627775 →
      L n s k = some (if (((xs.drop k).map tot).sum : Int) ≤ s then .inl (s - ((xs.drop k).map tot).sum) else .inr (-1)) := by
  intro n
  induction n with
  | zero => intro k s _ h; omega
  | succ n ih =>
    intro k s hk hn h0 h1
    rcases Nat.lt_or_ge k xs.length with hlt | hge
    · rw [hs n s k hlt, hf _ (List.getElem_mem hlt) s h0 h1, List.drop_eq_getElem_cons hlt, List.map_cons, List.sum_cons]
      unfold szR
      simp only [Option.bind_some]
      by_cases h : (tot xs[k] : Int) ≤ s
      · rw [if_pos h, if_neg (by omega), ih (k + 1) _ hlt (by omega) (by omega) (by omega)]
        congr 1
        by_cases h2 : ((((xs.drop (k + 1)).map tot).sum : Nat) : Int) ≤ s - tot xs[k]
        · rw [if_pos h2, if_pos (by omega)]; congr 1; omega
        · rw [if_neg h2, if_neg (by omega)]
      · rw [if_neg h, if_pos (by omega), if_neg (by omega)]
    · have : k = xs.length := by omega
      subst this
      rw [he, List.drop_length]; simp [h0]
theorem szX0 {α : Type} (xs : List α) (f : α → Int → Option Int) (tot : α → Nat) (L : Nat → Int → Int → Option (Int ⊕ Int)) (g : Option Int) {left : Int} (h0 : 0 ≤ left) (h1 : left ≤ 1099511627775)
    (hf : ∀ a ∈ xs, ∀ s, 0 ≤ s → s ≤ 1099511627775 → f a s = some (szR (tot a) s)) (hx : xs.length ≤ 9223372036854775807)
    (hs : ∀ n s (k : Nat) (hk : k < xs.length), k < 4611686018427387904 → L (n + 1) s k = (f xs[k] s).bind fun q => if q < 0 then some (.inr (-1)) else L n q ((k + 1 : Nat) : Int))
    (he : ∀ n s, L (n + 1) s (xs.length : Nat) = some (.inl s))
    (hg : g = if decide (w64 (left - (xs.length : Int)) < 0) then some (-1) else (L fuel (w64 (left - (xs.length : Int))) 0).bind fun s1 => match s1 with | .inl s2 => some s2 | .inr s3 => some s3) :
    g = some (szR (xs.length + (xs.map tot).sum) left) := by
  rw [hg, w64_id (by omega) (by omega)]
  by_cases h : (xs.length : Int) ≤ left
  · rw [if_neg (by simp; omega)]
    have := szX xs f tot L hf (fun n s k hk => hs n s k hk (by omega)) he fuel 0 (left - xs.length) (by omega) (by unfold fuel; omega) (by omega) (by omega)
    rw [show ((0 : Nat) : Int) = 0 from rfl, List.drop_zero] at this
    rw [this]
    unfold szR
    by_cases h2 : (((xs.map tot).sum : Nat) : Int) ≤ left - xs.length
    · rw [if_pos h2, if_pos (by omega)]
      simp only [Option.bind_some, Option.some.injEq]; omega
    · rw [if_neg h2, if_neg (by omega)]; rfl
  · rw [if_pos (by simp; omega)]
    unfold szR
    rw [if_neg (by omega)]
theorem sum_mem {α : Type} (tot : α → Nat) : ∀ {l : List α} {a : α}, a ∈ l → tot a ≤ (l.map tot).sum
 | x :: l, a, h => by
  rw [List.map_cons, List.sum_cons]
  rcases List.mem_cons.1 h with rfl | h
  ·omega
  ·have := sum_mem tot h; omega
theorem toX {α : Type} (xs : List α) (f : α → Option α) (d : α) (L : Nat → List α → Int → Option (List α)) (g : Option (List α)) (hx : xs.length ≤ 1048576) (hf : ∀ a ∈ xs, f a = some a)
    (hs : ∀ n (out : List α) (k : Nat) (hk : k < xs.length), out.length = xs.length → k < 4611686018427387904 → L (n + 1) out k = (f xs[k]).bind fun r => L n (out.set k r) ((k + 1 : Nat) : Int))
    (he : ∀ n out, out.length = xs.length → L (n + 1) out (xs.length : Nat) = some out)
    (hg : g = if 0 ≤ (xs.length : Int) ∧ (xs.length : Int) ≤ (xs.length : Int) ∧ (xs.length : Int) ≤ lim then (L fuel (List.replicate (Int.toNat (xs.length : Int)) d) 0).bind some else none) : g = some xs := by
  rw [hg, if_pos (by unfold lim; omega)]
  have key := fillX0 xs L id some (fun n out k hk hl => by rw [hs n out k hk hl (by omega), hf _ (List.getElem_mem hk)]; rfl) he (n := fuel) (out := List.replicate (Int.toNat (xs.length : Int)) d) (by simp) (by unfold fuel; omega)
  rw [key]; simp
theorem eqXX {α : Type} [DecidableEq α] (a b : List α) (f : α → α → Option Bool) (L : Nat → Int → Option (Unit ⊕ Bool)) (g : Option Bool) (hx : a.length ≤ 1048576) (hf : ∀ x ∈ a, ∀ y, f x y = some (decide (x = y)))
    (hs : ∀ n (k : Nat) (h1 : k < a.length) (h2 : k < b.length), k < 4611686018427387904 → L (n + 1) k = (f a[k] b[k]).bind fun r => if !r then some (.inr false) else L n ((k + 1 : Nat) : Int))
    (he : ∀ n, L (n + 1) (a.length : Nat) = some (.inl ()))
    (hg : g = if (a.length : Int) != (b.length : Int) then some false else (L fuel 0).bind fun s1 => match s1 with | .inl _ => some true | .inr s3 => some s3) : g = some (decide (a = b)) := by
  rw [hg]
  by_cases hl : a.length = b.length
  · rw [if_neg (by simp [hl]), eqX a b hl L (fun n k h1 h2 => ?_) he (by unfold fuel; omega)]
    · by_cases h : a = b <;> simp [h]
    · rw [hs n k h1 h2 (by omega), hf _ (List.getElem_mem h1)]
      by_cases h : a[k] = b[k] <;> simp [h]
  · rw [if_pos (by simp; omega), decide_eq_false (fun e => hl (by rw [e]))]
abbrev Con := List Int × Int × List (List Int)
abbrev Net := Int × Int × List Con
def rowsS (a : List (List Int)) : Prop := a.length ≤ 1048576 ∧ ∀ r ∈ a, r.length ≤ 1048576
def conS (c : Con) : Prop := c.1.length ≤ 1048576 ∧ rowsS c.2.2
def netS (a : Net) : Prop := a.2.2.length ≤ 1048576 ∧ ∀ c ∈ a.2.2, conS c
abbrev netT : Ty := .pair .int (.pair .int (.slice (.pair (.slice .int) (.pair .int (.slice (.slice .int))))))
def totC (c : Con) : Nat := c.1.length + totSS c.2.2
def totN (a : Net) : Nat := a.2.2.length + (a.2.2.map totC).sum
theorem szConstraint_ok {c : Con} {s : Int} (h0 : 0 ≤ s) (h1 : s ≤ 1099511627775) (h : c.1.length ≤ 9223372036854775807) (h2 : c.2.2.length ≤ 9223372036854775807) (hr : ∀ r ∈ c.2.2, r.length ≤ 9223372036854775807) :
    laws_szConstraint c s = some (szR (totC c) s) := by
  unfold laws_szConstraint
  rw [szIntS_ok h0 (by omega) h]
  unfold szR totC
  simp only [Option.bind_some]
  by_cases hc : (c.1.length : Int) ≤ s
  · rw [if_pos hc, if_neg (by simp; omega)]
    unfold laws_szRelation
    rw [szIntSS_ok (by omega) (by omega) h2 hr]
    unfold szR
    by_cases hd : (totSS c.2.2 : Int) ≤ s - c.1.length
    · rw [if_pos hd, if_pos (by omega)]
      simp only [Option.bind_some]
      rw [if_neg (by simp; omega)]
      simp only [Option.bind_some]
      rw [if_neg (by simp; omega)]
      congr 1; omega
    · rw [if_neg hd, if_neg (show ¬ ((c.1.length + totSS c.2.2 : Nat) : Int) ≤ s by push_cast; omega)]; rfl
  · rw [if_neg hc, if_neg (show ¬ ((c.1.length + totSS c.2.2 : Nat) : Int) ≤ s by push_cast; omega)]; rfl
theorem szNetwork_ok {a : Net} (h : wfT netT a) : laws_szNetwork a 1048576 = some (szR (totN a) 1048576) := by
 unfold laws_szNetwork
 have hc : ∀ c ∈ a.2.2, c.1.length ≤ 9223372036854775807 ∧ c.2.2.length ≤ 9223372036854775807 ∧ ∀ r ∈ c.2.2, r.length ≤ 9223372036854775807 := fun c hc => by
  have := h.2.2.2 c hc
  exact ⟨this.1.1, this.2.2.1, fun r hr => (this.2.2.2 r hr).1⟩
 have key : laws_szConstraintS a.2.2 1048576 = some (szR (totN a) 1048576) := by
  refine szX0 a.2.2 laws_szConstraint totC (fun n s i => laws_szConstraintS_L5 n (a.2.2, s, i)) _ (by omega) (by omega) (fun c hm s h0 h1 => szConstraint_ok h0 h1 (hc c hm).1 (hc c hm).2.1 (hc c hm).2.2) h.2.2.1 (fun n s k hk hk4 => ?_) (fun n s => ?_) rfl
  ·simp only [laws_szConstraintS_L5, inb_nat, gd_nat hk, w64_succ hk4]
   simp [hk]
  ·simp [laws_szConstraintS_L5]
 rw [key]
 unfold szR
 split
 ·simp only [Option.bind_some]; rw [if_neg (by simp; omega)]
 ·rfl
theorem szNetwork_small {a : Net} (h : ¬ szR (totN a) 1048576 < 0) : netS a ∧ totN a ≤ 1048576 := by
 unfold szR at h
 split at h
 ·refine ⟨⟨by unfold totN at *; omega, fun c hc => ?_⟩, by omega⟩
  have h1 := sum_mem totC hc
  have h2 : totC c ≤ 1048576 := by unfold totN at *; omega
  unfold totC totSS at h2
  exact ⟨by omega, by omega, fun r hr => by have := mem_sum hr; omega⟩
 ·omega
theorem toConstraint_ok {c : Con} (h : conS c) : laws_toConstraint c = some c := by
 unfold laws_toConstraint laws_toRelation
 rw [toIntS_ok (by have := h.1; omega)]
 dsimp only
 rw [toIntSS_ok (by have := h.2.1; omega) fun r hr => by have := h.2.2 r hr; omega]
 rfl
theorem toNetwork_ok {a : Net} (h : netS a) : laws_toNetwork a = some a := by
 unfold laws_toNetwork
 have key : laws_toConstraintS a.2.2 = some a.2.2 := by
  refine toX a.2.2 laws_toConstraint ([], (0, [])) (fun n out i => laws_toConstraintS_L3 n (a.2.2, out, i)) _ h.1 (fun c hc => toConstraint_ok (h.2 c hc)) (fun n out k hk hl hk4 => ?_) (fun n out hl => ?_) rfl
  ·simp only [laws_toConstraintS_L3, inb_nat, gd_nat hk, stt_nat, w64_succ hk4]
   simp [hk, hl]
  ·simp [laws_toConstraintS_L3]
 rw [key]; rfl
theorem eqConstraint_ok {a b : Con} (h : conS a) : laws_eqConstraint a b = some (decide (a = b)) := by
 unfold laws_eqConstraint laws_eqRelation
 rw [eqIntS_ok (by have := h.1; omega)]
 dsimp only
 rw [eqIntSS_ok (by have := h.2.1; omega) fun r hr => by have := h.2.2 r hr; omega]
 obtain ⟨a1, a2, a3⟩ := a
 obtain ⟨b1, b2, b3⟩ := b
 by_cases h1 : a1 = b1
 ·by_cases h2 : a2 = b2
  ·by_cases h3 : a3 = b3 <;> simp [h1, h2, h3]
  ·simp [h1, h2]
 ·simp [h1]
theorem eqNetwork_ok {a b : Net} (h : netS a) : laws_eqNetwork a b = some (decide (a = b)) := by
 unfold laws_eqNetwork
 have key : laws_eqConstraintS a.2.2 b.2.2 = some (decide (a.2.2 = b.2.2)) := by
  refine eqXX a.2.2 b.2.2 laws_eqConstraint (fun n i => laws_eqConstraintS_L4 n (a.2.2, b.2.2, i)) _ h.1 (fun c hc y => eqConstraint_ok (h.2 c hc)) (fun n k h1 h2 hk4 => ?_) (fun n => ?_) rfl
  ·simp only [laws_eqConstraintS_L4, inb_nat, gd_nat h1, gd_nat h2, w64_succ hk4]
   simp [h1, h2]
  ·simp [laws_eqConstraintS_L4]
 rw [key]
 obtain ⟨a1, a2, a3⟩ := a
 obtain ⟨b1, b2, b3⟩ := b
 by_cases h1 : a1 = b1
 ·by_cases h2 : a2 = b2
  ·by_cases h3 : a3 = b3 <;> simp [h1, h2, h3]
  ·simp [h1, h2]
 ·simp [h1]
def relB (n : Int) (r : Int × List (List Int)) : Bool := decide (1 ≤ r.1 ∧ r.1 ≤ 3) && (r.2.all fun t => decide ((t.length : Int) = r.1) && belowB n t) && incB r.2
def tupAt (n : Int) (r : Int × List (List Int)) (k : Nat) : Bool := decide (((r.2.getD k []).length : Int) = r.1) && belowB n (r.2.getD k []) && (decide (k = 0) || decide (cmpL (r.2.getD (k - 1) []) (r.2.getD k []) < 0))
theorem getD_of {α : Type} {l : List α} {k : Nat} {d : α} (h : k < l.length) : l.getD k d = l[k] := by simp [List.getD_eq_getElem?_getD, h]
theorem tupAt_all {n ar : Int} {ts : List (List Int)} : (List.range ts.length).all (tupAt n (ar, ts)) = ((ts.all fun t => decide ((t.length : Int) = ar) && belowB n t) && incB ts) := by
 rw [Bool.eq_iff_iff, Bool.and_eq_true, List.all_eq_true, List.all_eq_true, incB_iff]
 unfold tupAt
 constructor
 ·intro h
  refine ⟨fun t ht => ?_, fun i hi => ?_⟩
  ·obtain ⟨k, hk, rfl⟩ := List.getElem_of_mem ht
   have := h k (List.mem_range.2 hk)
   rw [getD_of hk] at this
   simp only [Bool.and_eq_true] at this
   rw [Bool.and_eq_true]; exact this.1
  ·have := h (i + 1) (List.mem_range.2 hi)
   rw [getD_of hi, Nat.add_sub_cancel, getD_of (show i < ts.length by omega)] at this
   simp at this
   exact this.2
 ·rintro ⟨h1, h2⟩ k hk
  have hk := List.mem_range.1 hk
  have e := h1 _ (List.getElem_mem hk)
  rw [getD_of hk]
  rw [Bool.and_eq_true] at e
  rw [Bool.and_eq_true, Bool.and_eq_true]
  refine ⟨e, ?_⟩
  cases k with
  | zero => simp
  | succ i =>
   have := h2 i hk
   rw [Nat.add_sub_cancel, getD_of (show i < ts.length by omega)]
   simp [this]
theorem impl_isRelation_ok {n : Int} {r : Int × List (List Int)} (h : rowsS r.2) : impl_isRelation n r = some (relB n r) := by
 obtain ⟨ar, ts⟩ := r
 unfold impl_isRelation relB
 by_cases h1 : ar < 1
 ·simp [h1, show ¬ 1 ≤ ar by omega]
 ·by_cases h2 : ar > 3
  ·simp [h1, h2, show ¬ ar ≤ 3 by omega]
  ·rw [if_neg (by simpa using h1), if_neg (by simpa using h2)]
   have key := forA ts.length (fun m (_ : Unit) i => impl_isRelation_L4 m (n, (ar, ts), ts, (ts.length : Int), i)) (fun _ => ()) (tupAt n (ar, ts)) (r := some (.inr false)) (e := some (.inl ())) (fun m k hk => ?_) (fun m => ?_) (n := fuel) (by unfold fuel; have := h.1; simp at this; omega)
   ·rw [key, tupAt_all]
    simp only [show (1 ≤ ar ∧ ar ≤ 3) = True by simp; omega, decide_true, Bool.true_and]
    cases (ts.all fun t => decide ((t.length : Int) = ar) && belowB n t) && incB ts <;> simp
   ·have hx := h.2 ts[k] (List.getElem_mem hk)
    have hk' := h.1
    simp only at hk'
    simp only [impl_isRelation_L4, inb_nat, gd_nat hk, w64_succ (show k < 4611686018427387904 by omega), impl_inSize_ok n (show ts[k].length ≤ 1099511627775 by omega), tupAt, getD_of hk]
    by_cases hl : (ts[k].length : Int) = ar
    ·cases hb : belowB n ts[k] with
     | false => simp [hk, hl]
     | true =>
      cases k with
      | zero => simp [hk, hl]
      | succ i =>
       have hi : i < ts.length := by omega
       have hx2 := h.2 ts[i] (List.getElem_mem hi)
       have e : w64 (((i + 1 : Nat) : Int) - 1) = (i : Int) := by rw [w64_id (by omega) (by omega)]; omega
       simp only [e, inb_nat, gd_nat hi, Nat.add_sub_cancel, getD_of hi, impl_compareLists_ok (show ts[i].length ≤ 1099511627775 by omega)]
       by_cases hc : cmpL ts[i] ts[i + 1] < 0
       ·simp [hk, hl, hi, hc, show ¬ cmpL ts[i] ts[i + 1] ≥ 0 by omega]; omega
       ·simp [hk, hl, hi, hc, show cmpL ts[i] ts[i + 1] ≥ 0 by omega]; omega
    ·simp [hk, hl]
   ·simp [impl_isRelation_L4]
theorem spec_l13Good_ok {n : Int} {r : Int × List (List Int)} (h : rowsS r.2) (hn : 1 ≤ n ∧ n ≤ 8) : spec_l13Good n r = some (relB n r) := by
 obtain ⟨ar, ts⟩ := r
 unfold spec_l13Good relB
 rw [spec_l1In_ok]
 by_cases h1 : 1 ≤ ar ∧ ar ≤ 3
 ·simp only [h1, and_self, decide_true, Option.bind_some, Bool.not_true, Bool.false_eq_true, if_false, Bool.true_and]
  obtain ⟨m, rfl⟩ : ∃ m : Nat, ar = m := ⟨ar.toNat, by omega⟩
  rw [spec_l2Pow_ok (by omega) (by omega) (by omega)]
  simp only [Option.bind_some]
  have key := forB ts.length (fun m' (_ : Unit) i => spec_l13Good_L4 m' (n, ((m : Int), ts), i)) (fun _ => ()) (tupAt n ((m : Int), ts)) (r := some (.inr false)) (e := some (.inl ())) (fun m' k hk hb0 => ?_) (fun m' _ => ?_) (n := fuel) (by unfold fuel; have := h.1; simp at this; omega)
  ·by_cases hc : (ts.length : Int) > n ^ m
   ·rw [if_pos (by simpa using hc)]
    by_cases hv : ((ts.all fun t => decide ((t.length : Int) = m) && belowB n t) && incB ts) = true
    ·rw [Bool.and_eq_true, List.all_eq_true] at hv
     rcases inc_count (k := m) hv.2 fun t ht => by have := hv.1 t ht; simp at this; exact ⟨by omega, this.2⟩ with h2 | h2
     ·omega
     ·subst h2
      have := pow_bd (n := n) (by omega) (by omega) (k := m) (by omega)
      simp at hc; omega
    ·simp only [Bool.not_eq_true] at hv; rw [hv]
   ·rw [if_neg (by simpa using hc), key, tupAt_all]
    cases (ts.all fun t => decide ((t.length : Int) = m) && belowB n t) && incB ts <;> simp
  ·have hx := h.2 ts[k] (List.getElem_mem hk)
   have hk' := h.1
   simp only at hk'
   simp only [spec_l13Good_L4, inb_nat, gd_nat hk, w64_succ (show k < 4611686018427387904 by omega), spec_l8Tuple_ok (n := n) _ (by omega) (by omega) (show ts[k].length ≤ 1099511627775 by omega), tupAt, getD_of hk]
   by_cases hl : (ts[k].length : Int) = m
   ·cases hb : belowB n ts[k] with
    | false => simp [hk, hl]
    | true =>
     cases k with
     | zero => simp [hk, hl]
     | succ i =>
      have hi : i < ts.length := by omega
      have hx2 := h.2 ts[i] (List.getElem_mem hi)
      have e : w64 (((i + 1 : Nat) : Int) - 1) = (i : Int) := by rw [w64_id (by omega) (by omega)]; omega
      simp only [e, inb_nat, gd_nat hi, Nat.add_sub_cancel, getD_of hi]
      have hb1 := hb0 i (by omega)
      simp only [tupAt, getD_of hi, Bool.and_eq_true, decide_eq_true_eq] at hb1
      rw [spec_l3Less_ok (s := ts[i]) (t := ts[i + 1]) (by omega) (by have := hb1.1.1; omega)]
      by_cases hc : cmpL ts[i] ts[i + 1] < 0
      ·simp [hk, hl, hi, hc]; omega
      ·simp [hk, hl, hi, hc]; omega
   ·simp [hk, hl]
  ·simp [spec_l13Good_L4]
 ·have : ¬ (1 ≤ ar ∧ ar ≤ 3) := h1
  simp [this]
end T
open Go Go.Va
namespace T
def conB (v n : Int) (c : Con) : Bool := relB n (c.2.1, c.2.2) && decide ((c.1.length : Int) = c.2.1) && belowB v c.1
def netB (a : Net) : Bool := decide (0 ≤ a.1 ∧ a.1 ≤ 9) && decide (1 ≤ a.2.1 ∧ a.2.1 ≤ 4) && decide (a.2.2.length ≤ 40) && a.2.2.all (conB a.1 a.2.1)
theorem impl_isConstraint_ok {v n : Int} {c : Con} (h : conS c) : impl_isConstraint v n c = some (conB v n c) := by
 unfold impl_isConstraint conB
 rw [impl_isRelation_ok (r := (c.2.1, c.2.2)) h.2]
 cases relB n (c.2.1, c.2.2) with
 | false => simp
 | true =>
  by_cases hl : (c.1.length : Int) = c.2.1
  ·simp [hl, impl_inSize_ok v (show c.1.length ≤ 1099511627775 by have := h.1; omega)]
  ·simp [hl]
theorem spec_l19Is_ok {v n : Int} {c : Con} (h : conS c) (hv : 0 ≤ v ∧ v ≤ 9) (hn : 1 ≤ n ∧ n ≤ 8) : spec_l19Is v n c = some (conB v n c) := by
 unfold spec_l19Is conB
 rw [spec_l13Good_ok (r := (c.2.1, c.2.2)) h.2 hn]
 cases relB n (c.2.1, c.2.2) with
 | false => simp
 | true =>
  by_cases hl : (c.1.length : Int) = c.2.1
  ·simp [hl, spec_l2Elements_ok (l := c.1) (n := v) (by omega) (by omega) (show c.1.length ≤ 1099511627775 by have := h.1; omega)]
  ·simp [hl]
theorem impl_IsNetwork_ok {a : Net} (h : netS a) : impl_IsNetwork a = some (netB a) := by
 obtain ⟨v, n, cs⟩ := a
 unfold impl_IsNetwork netB
 by_cases h1 : v < 0
 ·simp [h1, show ¬ 0 ≤ v by omega]
 ·by_cases h2 : v > 9
  ·simp [h1, h2, show ¬ v ≤ 9 by omega]
  ·rw [if_neg (by simpa using h1), if_neg (by simpa using h2)]
   unfold impl_isTemplateSize
   by_cases h3 : 1 ≤ n ∧ n ≤ 4
   ·by_cases h4 : cs.length > 40
    ·simp [h3, show ¬ cs.length ≤ 40 by omega]; omega
    ·have key := allX cs (fun m i => impl_IsNetwork_L4 m ((v, (n, cs)), cs, (cs.length : Int), i)) (conB v n) (.inr false) (.inl ()) ?_ ?_ (n := fuel) (by unfold fuel; omega)
     ·simp only [h3, ge_iff_le, decide_true, if_true, Option.bind_some, Bool.not_true, Bool.false_eq_true, if_false]
      rw [if_neg (by simp; omega), key]
      cases cs.all (conB v n) <;> simp <;> omega
     ·intro m k hk
      simp only [impl_IsNetwork_L4, inb_nat, gd_nat hk, w64_succ (show k < 4611686018427387904 by omega), impl_isConstraint_ok (c := cs[k]) (h.2 _ (List.getElem_mem hk))]
      cases hb : conB v n cs[k] <;> simp [hk, hb]
     ·intro m
      simp [impl_IsNetwork_L4]
   ·by_cases h5 : n ≥ 1
    ·simp [h5, show ¬ n ≤ 4 by omega]
    ·simp [h5, show ¬ 1 ≤ n by omega]
theorem spec_l19Good_ok {a : Net} (h : netS a) : spec_l19Good a = some (netB a) := by
 obtain ⟨v, n, cs⟩ := a
 unfold spec_l19Good netB
 rw [spec_l1In_ok, spec_l1In_ok]
 by_cases h1 : 0 ≤ v ∧ v ≤ 9
 ·by_cases h3 : 1 ≤ n ∧ n ≤ 4
  ·by_cases h4 : cs.length > 40
   ·simp [h1, h3, show ¬ cs.length ≤ 40 by omega]; omega
   ·have key := allX cs (fun m i => spec_l19Good_L4 m ((v, (n, cs)), i)) (conB v n) (.inr false) (.inl ()) ?_ ?_ (n := fuel) (by unfold fuel; omega)
    ·simp only [h1, h3, and_self, decide_true, Option.bind_some, Bool.not_true, Bool.false_eq_true, if_false]
     rw [if_neg (by simp; omega), key]
     cases cs.all (conB v n) <;> simp <;> omega
    ·intro m k hk
     simp only [spec_l19Good_L4, inb_nat, gd_nat hk, w64_succ (show k < 4611686018427387904 by omega), spec_l19Is_ok (c := cs[k]) (h.2 _ (List.getElem_mem hk)) h1 (show 1 ≤ n ∧ n ≤ 8 by omega)]
     cases hb : conB v n cs[k] <;> simp [hk, hb]
    ·intro m
     simp [spec_l19Good_L4]
  ·simp [h1, h3]
 ·simp [h1]
structure ConOk (v n : Int) (c : Con) : Prop where
 ar : 1 ≤ c.2.1 ∧ c.2.1 ≤ 3
 sl : (c.1.length : Int) = c.2.1
 sv : ∀ (i : Nat) (hi : i < c.1.length), 0 ≤ c.1[i] ∧ c.1[i] < v
 tl : ∀ t ∈ c.2.2, t.length = c.1.length
 tv : ∀ t ∈ c.2.2, ∀ (i : Nat) (hi : i < t.length), 0 ≤ t[i] ∧ t[i] < n
 inc : incB c.2.2 = true
 many : c.2.2.length ≤ 64
structure NetOk (a : Net) : Prop where
 hv : 0 ≤ a.1 ∧ a.1 ≤ 9
 hn : 1 ≤ a.2.1 ∧ a.2.1 ≤ 4
 hc : a.2.2.length ≤ 40
 con : ∀ c ∈ a.2.2, ConOk a.1 a.2.1 c
theorem con_of {v n : Int} {c : Con} (hn : 1 ≤ n ∧ n ≤ 4) (h : conB v n c = true) : ConOk v n c := by
 unfold conB relB at h
 simp only [Bool.and_eq_true, decide_eq_true_eq, List.all_eq_true] at h
 obtain ⟨⟨⟨⟨h1, h2⟩, h3⟩, h4⟩, h5⟩ := h
 refine ⟨h1, h4, fun i hi => belowB_get h5 i hi, fun t ht => by have := (h2 t ht).1; omega, fun t ht i hi => belowB_get (h2 t ht).2 i hi, h3, ?_⟩
 rcases inc_count (n := n) (k := c.2.1.toNat) h3 fun t ht => ⟨by have := (h2 t ht).1; omega, (h2 t ht).2⟩ with h6 | h6
 ·have : n ^ c.2.1.toNat ≤ 64 := by
   have h7 : c.2.1.toNat = 1 ∨ c.2.1.toNat = 2 ∨ c.2.1.toNat = 3 := by omega
   have h8 : n = 1 ∨ n = 2 ∨ n = 3 ∨ n = 4 := by omega
   rcases h7 with h7 | h7 | h7 <;> rcases h8 with h8 | h8 | h8 | h8 <;> rw [h7, h8] <;> decide
  omega
 ·rw [h6]; simp
theorem net_of {a : Net} (h : netB a = true) : NetOk a := by
 unfold netB at h
 simp only [Bool.and_eq_true, decide_eq_true_eq, List.all_eq_true] at h
 obtain ⟨⟨⟨h1, h2⟩, h3⟩, h4⟩ := h
 exact ⟨h1, h2, h3, fun c hc => con_of h2 (h4 c hc)⟩
end T
open Go Go.Va
namespace T
section
variable {v n up : Int} {c : Con} {vals : List Int}
theorem spec_l1Own_ok {l : List Int} (h : l.length ≤ 1099511627775) : spec_l1Own l = some l := by
 unfold spec_l1Own
 rw [if_pos (by unfold lim; simp; omega)]; simp
end
end T
open Go Go.Va
namespace T
theorem getD_set_of {α : Type} {l : List α} {i j : Nat} {y d : α} : (l.set i y).getD j d = if i = j ∧ j < l.length then y else l.getD j d := by
 simp only [List.getD_eq_getElem?_getD, List.getElem?_set]
 by_cases h : i = j
 ·subst h
  by_cases h2 : i < l.length
  ·simp [h2]
  ·simp [h2]
 ·simp [h]
end T
open Go Go.Va
namespace T
def mkL {α : Type} (f : α → Int → α × Int) : List α → Int → List α × Int
 | [], k => ([], k)
 | x :: l, k => ((f x k).1 :: (mkL f l (f x k).2).1, (mkL f l (f x k).2).2)
theorem mkL_snoc {α : Type} (f : α → Int → α × Int) : ∀ (l : List α) (x : α) (k : Int), mkL f (l ++ [x]) k = ((mkL f l k).1 ++ [(f x (mkL f l k).2).1], (f x (mkL f l k).2).2)
 | [], x, k => by simp [mkL]
 | y :: l, x, k => by
  simp only [List.cons_append, mkL]
  rw [mkL_snoc f l x]
theorem mkL_len {α : Type} (f : α → Int → α × Int) : ∀ (l : List α) (k : Int), (mkL f l k).1.length = l.length
 | [], _ => rfl
 | x :: l, k => by simp [mkL, mkL_len f l]
theorem mkL_far {α : Type} {f : α → Int → α × Int} {w : α → Nat} : ∀ (l : List α) (k : Int), (∀ x ∈ l, ∀ k, (f x k).2 = k + w x) → (mkL f l k).2 = k + ((l.map w).sum : Nat)
 | [], k, _ => by simp [mkL]
 | x :: l, k, h => by
  simp only [mkL, List.map_cons, List.sum_cons]
  rw [mkL_far l _ fun y hy => h y (List.mem_cons_of_mem _ hy), h x (by simp)]; push_cast; omega
theorem markX {α β : Type} (N : Nat) (L : Nat → List α → Int → Int → Option β) (f : α → Int → α × Int) (w : α → Nat) (B : Int) (fin : List α → Int → Option β) (xs : List α) (k0 : Int) (hN : xs.length = N) (hw : ∀ x ∈ xs, ∀ k, (f x k).2 = k + w x)
    (h0 : 0 ≤ k0) (hB : k0 + ((xs.map w).sum : Nat) ≤ B)
    (hs : ∀ n (a : List α) (k : Int) (i : Nat) (hi : i < N) (hl : a.length = N), a[i]'(by omega) ∈ xs → 0 ≤ k → k + w (a[i]'(by omega)) ≤ B → L (n + 1) a k i = L n (a.set i (f (a[i]'(by omega)) k).1) (f (a[i]'(by omega)) k).2 ((i + 1 : Nat) : Int))
    (he : ∀ n a k, a.length = N → L (n + 1) a k (N : Nat) = fin a k) {n : Nat} (hn : N < n) : L n xs k0 0 = fin (mkL f xs k0).1 (mkL f xs k0).2 := by
  have far : ∀ i, i ≤ N → (mkL f (xs.take i) k0).2 = k0 + (((xs.take i).map w).sum : Nat) := fun i _ => mkL_far _ _ fun x hx => hw x (List.mem_of_mem_take hx)
  have := forS N (fun n (s : List α × Int) i => L n s.1 s.2 i) (fun i => ((mkL f (xs.take i) k0).1 ++ xs.drop i, (mkL f (xs.take i) k0).2)) (r := fin (mkL f xs k0).1 (mkL f xs k0).2) (fun n i hi => ?_) (fun n => ?_) hn
  · simpa [mkL] using this
  · have hix : i < xs.length := by omega
    have hlen : (mkL f (xs.take i) k0).1.length = i := by rw [mkL_len]; simp; omega
    have hl2 : ((mkL f (xs.take i) k0).1 ++ xs.drop i).length = N := by simp [hlen]; omega
    have hget : ((mkL f (xs.take i) k0).1 ++ xs.drop i)[i]'(by omega) = xs[i] := by
      rw [List.getElem_append_right (by omega)]; simp [hlen]
    have hsum : (((xs.take i).map w).sum : Nat) + w xs[i] ≤ (xs.map w).sum := by
      have h1 : xs = xs.take i ++ xs[i] :: xs.drop (i + 1) := by rw [← List.drop_eq_getElem_cons hix, List.take_append_drop]
      have h2 : (xs.map w).sum = ((xs.take i).map w).sum + (w xs[i] + ((xs.drop (i + 1)).map w).sum) := by
        conv => lhs; rw [h1]
        rw [List.map_append, List.sum_append, List.map_cons, List.sum_cons]
      omega
    have hf := far i (by omega)
    dsimp only
    rw [hs n _ _ i hi hl2 (by rw [hget]; exact List.getElem_mem hix) (by omega) (by rw [hget, hf]; omega), hget, List.take_succ_eq_append_getElem hix, mkL_snoc]
    congr 1
    rw [List.set_append_right _ _ (by omega), hlen, Nat.sub_self, List.drop_eq_getElem_cons hix, List.set_cons_zero, List.append_assoc]; rfl
  · dsimp only
    rw [List.take_of_length_le (by omega), List.drop_of_length_le (by omega), List.append_nil]
    exact he n _ _ (by rw [mkL_len]; exact hN)
theorem heldX {α : Type} (f : α → Int → α × Int) (h : α → Int → Option Int) (w : α → Nat) (B : Int) : ∀ (xs : List α) (k0 : Int) (L : Nat → Int → Int → Option (Int ⊕ Int)) (j : Nat), (∀ x ∈ xs, ∀ k, (f x k).2 = k + w x) → 0 ≤ k0 → k0 + ((xs.map w).sum : Nat) ≤ B →
    (∀ x ∈ xs, ∀ k, 0 ≤ k → k + w x ≤ B → h (f x k).1 k = some (f x k).2) →
    (∀ n k (i : Nat) (hi : i < xs.length), 0 ≤ k → k + w xs[i] ≤ B → L (n + 1) k ((j + i : Nat) : Int) = (h ((mkL f xs k0).1[i]'(by rw [mkL_len]; exact hi)) k).bind fun q => if q < 0 then some (.inr (-1)) else L n q ((j + i + 1 : Nat) : Int)) →
    (∀ n k, L (n + 1) k ((j + xs.length : Nat) : Int) = some (.inl k)) → ∀ n, xs.length < n → L n k0 (j : Int) = some (.inl (mkL f xs k0).2)
  | [], k0, L, j, _, _, _, _, _, he, n, hn => by
    obtain ⟨n, rfl⟩ : ∃ m, n = m + 1 := ⟨n - 1, by simp at hn; omega⟩
    have := he n k0
    simpa [mkL] using this
  | x :: xs, k0, L, j, hw, h0, hB, hh, hs, he, n, hn => by
    obtain ⟨n, rfl⟩ : ∃ m, n = m + 1 := ⟨n - 1, by simp at hn; omega⟩
    rw [List.map_cons, List.sum_cons] at hB
    have hx := hw x (by simp) k0
    have h1 := hs n k0 0 (by simp) h0 (by simp only [List.getElem_cons_zero]; omega)
    simp only [Nat.add_zero, mkL, List.getElem_cons_zero] at h1
    rw [h1, hh x (by simp) k0 h0 (by omega)]
    simp only [Option.bind_some]
    rw [if_neg (by omega)]
    have := heldX f h w B xs (f x k0).2 L (j + 1) (fun y hy => hw y (List.mem_cons_of_mem _ hy)) (by omega) (by rw [hx]; omega) (fun y hy => hh y (List.mem_cons_of_mem _ hy))
      (fun n k i hi hk0 hkB => by
        have := hs n k (i + 1) (by simpa using hi) hk0 (by simpa using hkB)
        simp only [mkL, List.getElem_cons_succ] at this
        rw [show j + 1 + i = j + (i + 1) by omega]; exact this)
      (fun n k => by have := he n k; rw [List.length_cons] at this; rw [show j + 1 + xs.length = j + (xs.length + 1) by omega]; exact this) n (by simp at hn; omega)
    exact this
abbrev BM : Int := 1152921504606846976
def mInt (_ : Int) (k : Int) : Int × Int := (k, k + 1)
def mIntS (l : List Int) (k : Int) : List Int × Int := mkL mInt l k
def mIntSS (l : List (List Int)) (k : Int) : List (List Int) × Int := mkL mIntS l k
theorem sum_one {α : Type} : ∀ (l : List α), (l.map fun _ => 1).sum = l.length
 | [] => rfl
 | _ :: l => by rw [List.map_cons, List.sum_cons, sum_one l, List.length_cons]; omega
theorem mIntS_far (l : List Int) (k : Int) : (mIntS l k).2 = k + (l.length : Nat) := by
 unfold mIntS
 rw [mkL_far (w := fun _ => 1) l k fun _ _ _ => rfl, sum_one]
theorem mIntSS_far (l : List (List Int)) (k : Int) : (mIntSS l k).2 = k + ((l.map List.length).sum : Nat) := by
 unfold mIntSS
 rw [mkL_far (w := List.length) l k fun x _ k => mIntS_far x k]
theorem markIntS_ok {l : List Int} {k : Int} (hl : l.length ≤ 1048576) (h0 : 0 ≤ k) (hB : k + l.length ≤ BM) : laws_markIntS l k = some (mIntS l k) := by
 unfold laws_markIntS
 have := markX l.length (fun n a k i => laws_markIntS_L2 n (a, k, i)) mInt (fun _ => 1) BM (fun a k => some (a, k)) l k rfl (fun _ _ _ => rfl) h0 (by rw [sum_one]; exact hB) (fun n a k i hi hl' _ hk0 hkB => ?_) (fun n a k hl' => ?_) (n := fuel) (by unfold fuel; omega)
 ·rw [this]; rfl
 ·have hk1 : w64 (k + 1) = k + 1 := w64_id (by omega) (by unfold BM at hkB; omega)
  simp only [laws_markIntS_L2, inb_nat, stt_nat, w64_succ (show i < 4611686018427387904 by omega), hk1, mInt]
  simp [hl', hi]
 ·simp [laws_markIntS_L2, hl']
theorem heldIntS_ok {l : List Int} {k : Int} (hl : l.length ≤ 1048576) (h0 : 0 ≤ k) (hB : k + l.length ≤ BM) : laws_heldIntS (mIntS l k).1 k = some (mIntS l k).2 := by
 unfold laws_heldIntS
 have hlen : (mIntS l k).1.length = l.length := mkL_len _ _ _
 have := heldX mInt (fun x k => if x = k then some (k + 1) else some (-1)) (fun _ => 1) BM l k (fun n k' i => laws_heldIntS_L2 n ((mIntS l k).1, k', i)) 0 (fun _ _ _ => rfl) h0 (by rw [sum_one]; exact hB) (fun x _ k' _ _ => by simp [mInt])
  (fun n k' i hi hk0 hkB => by
   have hi' : i < (mIntS l k).1.length := by omega
   have hk1 : w64 (k' + 1) = k' + 1 := w64_id (by omega) (by unfold BM at hkB; omega)
   rw [Nat.zero_add]
   simp only [laws_heldIntS_L2, inb_nat, gd_nat hi', w64_succ (show i < 4611686018427387904 by omega), hk1]
   have e : (mkL mInt l k).1[i]'(by rw [mkL_len]; exact hi) = (mIntS l k).1[i] := rfl
   rw [e]
   by_cases h : (mIntS l k).1[i] = k'
   ·simp [hi', hi, h, hlen, show ¬ k' + 1 < 0 by omega]
   ·simp [hi', hi, h, hlen])
  (fun n k' => by rw [Nat.zero_add]; simp [laws_heldIntS_L2, hlen]) fuel (by unfold fuel; omega)
 rw [show ((0 : Nat) : Int) = 0 from rfl] at this
 rw [this]; rfl
theorem markIntSS_ok {l : List (List Int)} {k : Int} (hl : l.length ≤ 1048576) (hr : ∀ r ∈ l, r.length ≤ 1048576) (h0 : 0 ≤ k) (hB : k + ((l.map List.length).sum : Nat) ≤ BM) : laws_markIntSS l k = some (mIntSS l k) := by
 unfold laws_markIntSS
 have := markX l.length (fun n a k i => laws_markIntSS_L2 n (a, k, i)) mIntS List.length BM (fun a k => some (a, k)) l k rfl (fun x _ k => mIntS_far x k) h0 hB (fun n a k i hi hl' hm hk0 hkB => ?_) (fun n a k hl' => ?_) (n := fuel) (by unfold fuel; omega)
 ·rw [this]; rfl
 ·have hia : i < a.length := by omega
  simp only [laws_markIntSS_L2, inb_nat, stt_nat, gd_nat hia, w64_succ (show i < 4611686018427387904 by omega), markIntS_ok (hr _ hm) hk0 hkB, Option.bind_some]
  simp [hl', hi]
 ·simp [laws_markIntSS_L2, hl']
theorem heldIntSS_ok {l : List (List Int)} {k : Int} (hl : l.length ≤ 1048576) (hr : ∀ r ∈ l, r.length ≤ 1048576) (h0 : 0 ≤ k) (hB : k + ((l.map List.length).sum : Nat) ≤ BM) : laws_heldIntSS (mIntSS l k).1 k = some (mIntSS l k).2 := by
 unfold laws_heldIntSS
 have hlen : (mIntSS l k).1.length = l.length := mkL_len _ _ _
 have := heldX mIntS laws_heldIntS List.length BM l k (fun n k' i => laws_heldIntSS_L2 n ((mIntSS l k).1, k', i)) 0 (fun x _ k => mIntS_far x k) h0 hB (fun x hx k' hk0 hkB => heldIntS_ok (hr x hx) hk0 hkB)
  (fun n k' i hi hk0 hkB => by
   have hi' : i < (mIntSS l k).1.length := by omega
   rw [Nat.zero_add]
   simp only [laws_heldIntSS_L2, inb_nat, gd_nat hi', w64_succ (show i < 4611686018427387904 by omega)]
   have e : (mkL mIntS l k).1[i]'(by rw [mkL_len]; exact hi) = (mIntSS l k).1[i] := rfl
   rw [e]
   simp [hlen, hi])
  (fun n k' => by rw [Nat.zero_add]; simp [laws_heldIntSS_L2, hlen]) fuel (by unfold fuel; omega)
 rw [show ((0 : Nat) : Int) = 0 from rfl] at this
 rw [this]; rfl
def wC (c : Con) : Nat := c.1.length + 1 + (c.2.2.map List.length).sum
def mCon (c : Con) (k : Int) : Con × Int :=
 (((mIntS c.1 k).1, (mIntS c.1 k).2, (mIntSS c.2.2 ((mIntS c.1 k).2 + 1)).1), (mIntSS c.2.2 ((mIntS c.1 k).2 + 1)).2)
theorem mCon_far (c : Con) (k : Int) : (mCon c k).2 = k + wC c := by
 unfold mCon wC; dsimp only
 rw [mIntSS_far, mIntS_far]; push_cast; omega
theorem markConstraintS_ok {l : List Con} {k : Int} (hl : l.length ≤ 1048576) (hr : ∀ c ∈ l, conS c) (h0 : 0 ≤ k) (hB : k + ((l.map wC).sum : Nat) ≤ BM) : laws_markConstraintS l k = some (mkL mCon l k) := by
 unfold laws_markConstraintS
 have := markX l.length (fun n a k i => laws_markConstraintS_L2 n (a, k, i)) mCon wC BM (fun a k => some (a, k)) l k rfl (fun x _ k => mCon_far x k) h0 hB (fun n a k i hi hl' hm hk0 hkB => ?_) (fun n a k hl' => ?_) (n := fuel) (by unfold fuel; omega)
 ·rw [this]; rfl
 ·have hia : i < a.length := by omega
  have hc := hr _ hm
  have hkB' : k + (a[i].1.length : Int) + 1 + ((a[i].2.2.map List.length).sum : Nat) ≤ BM := by unfold wC at hkB; push_cast at hkB; omega
  have e1 := mIntS_far a[i].1 k
  have hk1 : w64 ((mIntS a[i].1 k).2 + 1) = (mIntS a[i].1 k).2 + 1 := w64_id (by omega) (by unfold BM at hkB'; omega)
  have hia1 : ∀ y, i < (a.set i y).length := fun y => by simpa using hia
  simp only [laws_markConstraintS_L2, inb_nat, stt_nat, gd_nat hia, w64_succ (show i < 4611686018427387904 by omega), markIntS_ok hc.1 hk0 (show k + (a[i].1.length : Int) ≤ BM by omega), Option.bind_some, gd_nat (hia1 _), List.getElem_set_self, List.set_set, hk1,
   markIntSS_ok hc.2.1 hc.2.2 (show 0 ≤ (mIntS a[i].1 k).2 + 1 by omega) (show (mIntS a[i].1 k).2 + 1 + ((a[i].2.2.map List.length).sum : Nat) ≤ BM by omega)]
  simp [hl', hi, mCon]
 ·simp [laws_markConstraintS_L2, hl']
theorem sum_wC {a : Net} : (a.2.2.map wC).sum ≤ 2 * totN a := by
 unfold totN
 have : ∀ l : List Con, (l.map wC).sum ≤ l.length + (l.map totC).sum := by
  intro l
  induction l with
  | nil => simp
  | cons c l ih =>
   simp only [List.map_cons, List.sum_cons, List.length_cons]
   have : wC c ≤ 1 + totC c := by unfold wC totC totSS; omega
   omega
 have := this a.2.2; omega
theorem markNetwork_ok {a : Net} (h : netS a) (ht : totN a ≤ 1048576) : ∃ b k, laws_markNetwork a 1 = some (b, k) ∧ 0 ≤ k ∧ k ≤ 2097153 := by
 unfold laws_markNetwork
 have h1 := @sum_wC a
 rw [markConstraintS_ok h.1 h.2 (by omega) (by unfold BM; omega)]
 refine ⟨_, _, rfl, ?_, ?_⟩
 ·rw [mkL_far (w := wC) _ _ fun c _ k => mCon_far c k]; omega
 ·rw [mkL_far (w := wC) _ _ fun c _ k => mCon_far c k]; omega
end T
open Go Go.Va
namespace T
theorem w2 : w64 2 = 2 := by rw [w64_def]; rfl
section
variable {a : Net}
end
end T
open Go Go.Va
namespace T
abbrev Opn := Int × List Int
section
variable {n : Int} {f : Opn}
variable {a : Net}
end
end T
set_option linter.unusedVariables false
open Go Go.Va
namespace T
def spec_l13Has (r : Int × (List (List Int))) (t : List Int) : Option (Bool) :=
 if (t.length : Int) != r.1 then
  some false
 else
  (spec_l8Find r.2 t).bind fun r1 =>
   some r1.2
def spec_l19Satisfies_L3 : Nat → ((List Int) × ((List Int) × Int × (List (List Int))) × (List Int) × Int) → Option (((List Int) × Int × (List (List Int))) × (List Int))
 | 0, _ => none
 | n + 1, (values, c, t, i) =>
  if decide (i < (c.1.length : Int)) then
   if inb i c.1 then
    if inb (gd c.1 i 0) values then
     if t.length + [gd values (gd c.1 i 0) 0].length ≤ lim then
      spec_l19Satisfies_L3 n (values, (c.1, (c.2.1, c.2.2)), t ++ [gd values (gd c.1 i 0) 0], w64 (i + 1))
     else none
    else none
   else none
  else
   some ((c.1, (c.2.1, c.2.2)), t)
def spec_l19Satisfies (c : (List Int) × Int × (List (List Int))) (values : List Int) : Option (Bool) :=
 (spec_l19Satisfies_L3 fuel (values, (c.1, (c.2.1, c.2.2)), [], 0)).bind fun s1 =>
  (spec_l13Has (s1.1.2.1, s1.1.2.2) s1.2).bind fun r2 =>
   some r2
def impl_compose_L3 : Nat → ((List Int) × (List Int) × (List Int) × Int × Int) → Option ((List Int))
 | 0, _ => none
 | n + 1, (g, h, t11, t12, t13) =>
  if decide (t13 < t12) then
   if inb t13 t11 then
    if inb (gd t11 t13 0) g then
     if inb t13 h then
      impl_compose_L3 n (g, stt h t13 (gd g (gd t11 t13 0) 0), t11, t12, w64 (t13 + 1))
     else none
    else none
   else none
  else
   some h
def impl_compose (f : List Int) (g : List Int) : Option ((List Int)) :=
 if 0 ≤ (f.length : Int) ∧ (f.length : Int) ≤ (f.length : Int) ∧ (f.length : Int) ≤ lim then
  (impl_compose_L3 fuel (g, List.replicate (Int.toNat (f.length : Int)) (0 : Int), f, (f.length : Int), 0)).bind fun s1 =>
   some s1
 else none
def impl_sameList_L4 : Nat → ((List Int) × (List Int) × Int × Int) → Option ((Unit) ⊕ (Bool))
 | 0, _ => none
 | n + 1, (b, t12, t13, t14) =>
  if decide (t14 < t13) then
   if inb t14 t12 then
    if inb t14 b then
     if (gd b t14 0) != (gd t12 t14 0) then
      some (.inr false)
     else
      impl_sameList_L4 n (b, t12, t13, w64 (t14 + 1))
    else none
   else none
  else
   some (.inl ())
def impl_sameList (a : List Int) (b : List Int) : Option (Bool) :=
 if (a.length : Int) != (b.length : Int) then
  some false
 else
  (impl_sameList_L4 fuel (b, a, (a.length : Int), 0)).bind fun s1 =>
   match s1 with
   | .inl s2 =>
    some true
   | .inr s3 =>
    some s3
end T
open Go Go.Va
namespace T
def valI (vs : List Int) (v : Int) : Int := vs.getD v.toNat 0
def conH (vs : List Int) (c : Con) : Bool := decide (c.1.map (valI vs) ∈ c.2.2)
def satB (l : List Con) (vs : List Int) : Bool := l.all (conH vs)
def insB (vars : List Int) (c : Con) : Bool := c.1.all fun v => decide (v ∈ vars)
def insL (a : Net) (vars : List Int) : List Con := a.2.2.filter (insB vars)
section
variable {a : Net}
theorem impl_compose_ok {f g : List Int} (hf : f.length ≤ 1048576) (hg : ∀ v ∈ f, 0 ≤ v ∧ v < g.length) : impl_compose f g = some (f.map (valI g)) := by
 unfold impl_compose
 rw [if_pos (by unfold lim; omega)]
 have := fillX0 f (fun n o i => impl_compose_L3 n (g, o, f, (f.length : Int), i)) (valI g) some (fun n o k hk hlo => ?_) (fun n o hlo => ?_) (n := fuel) (out := List.replicate (Int.toNat (f.length : Int)) (0 : Int)) (by simp) (by unfold fuel; omega)
 ·simp only [this, Option.bind_some]
 ·have hko : k < o.length := by omega
  have hv := hg _ (List.getElem_mem hk)
  have e : gd g f[k] 0 = valI g f[k] := rfl
  simp only [impl_compose_L3, inb_nat, gd_nat hk, stt_nat, w64_succ (show k < 4611686018427387904 by omega), e]
  rw [if_pos (by simp; omega), if_pos hk, if_pos (show inb f[k] g from hv), if_pos hko]
 ·simp [impl_compose_L3]
theorem spec_l19Satisfies_ok {v n : Int} {c : Con} (h : ConOk v n c) {vs : List Int} (hv : (vs.length : Int) = v) : spec_l19Satisfies c vs = some (conH vs c) := by
 unfold spec_l19Satisfies
 have hsl := h.sl
 have har := h.ar
 have hm := h.many
 have := forS c.1.length (fun n (o : List Int) i => spec_l19Satisfies_L3 n (vs, (c.1, (c.2.1, c.2.2)), o, i)) (fun k => (c.1.take k).map (valI vs)) (r := some ((c.1, (c.2.1, c.2.2)), c.1.map (valI vs))) (fun n k hk => ?_) (fun n => ?_) (n := fuel) (by unfold fuel; omega)
 ·simp only [List.take_zero, List.map_nil] at this
  simp only [this, Option.bind_some]
  unfold spec_l13Has
  have hl : ((c.1.map (valI vs)).length : Int) = c.2.1 := by rw [List.length_map]; exact hsl
  rw [if_neg (by simpa using hsl)]
  obtain ⟨q, e, _⟩ := spec_l8Find_ok (list := c.2.2) (t := c.1.map (valI vs)) (k := c.1.length) (by omega) (by omega) h.tl (by simp) h.inc
  simp only [e, Option.bind_some]; rfl
 ·have hvk := h.sv k hk
  have e : gd vs c.1[k] 0 = valI vs c.1[k] := rfl
  have hi : inb c.1[k] vs := by unfold inb; omega
  simp only [spec_l19Satisfies_L3, inb_nat, gd_nat hk, e, w64_succ (show k < 4611686018427387904 by omega)]
  rw [List.take_succ_eq_append_getElem hk, List.map_append]
  rw [if_pos (by simp; omega), if_pos hk, if_pos hi, if_pos (by unfold lim; simp; omega)]; rfl
 ·simp only [spec_l19Satisfies_L3, List.take_length]
  rw [if_neg (by simp)]
end
end T
open Go Go.Va
namespace T
abbrev T3 := List (List (List Bool))
abbrev T4 := List (List (List (List Bool)))
def Cell4 (s : Nat) (c : List (List Bool)) : Prop := c.length = s ∧ ∀ x, x < s → (c.getD x []).length = s
def Row4 (n s : Nat) (r : T3) : Prop := r.length = n ∧ ∀ j, j < n → Cell4 s (r.getD j [])
def Ok4 (n s : Nat) (t : T4) : Prop := t.length = n ∧ ∀ i, i < n → Row4 n s (t.getD i [])
def r4 (t : T4) (i j x y : Nat) : Bool := (((t.getD i []).getD j []).getD x []).getD y false
def s4 (t : T4) (i j x y : Nat) (b : Bool) : T4 := t.set i ((t.getD i []).set j (((t.getD i []).getD j []).set x ((((t.getD i []).getD j []).getD x []).set y b)))
def Ok3 (n m : Nat) (u : T3) : Prop := u.length = n ∧ ∀ i, i < n → (u.getD i []).length = n ∧ ∀ j, j < n → ((u.getD i []).getD j []).length = m
def r3 (u : T3) (i j p : Nat) : Bool := ((u.getD i []).getD j []).getD p false
def s3 (u : T3) (i j p : Nat) (b : Bool) : T3 := u.set i ((u.getD i []).set j (((u.getD i []).getD j []).set p b))
section
variable {n s m : Nat} {t : T4} {u : T3}
theorem Ok4.at (h : Ok4 n s t) {i j x : Nat} (hi : i < n) (hj : j < n) (hx : x < s) : i < t.length ∧ j < (t.getD i []).length ∧ x < ((t.getD i []).getD j []).length ∧ (((t.getD i []).getD j []).getD x []).length = s :=
 ⟨by rw [h.1]; exact hi, by rw [(h.2 i hi).1]; exact hj, by rw [((h.2 i hi).2 j hj).1]; exact hx, ((h.2 i hi).2 j hj).2 x hx⟩
theorem Ok3.at (h : Ok3 n m u) {i j : Nat} (hi : i < n) (hj : j < n) : i < u.length ∧ j < (u.getD i []).length ∧ ((u.getD i []).getD j []).length = m :=
 ⟨by rw [h.1]; exact hi, by rw [(h.2 i hi).1]; exact hj, (h.2 i hi).2 j hj⟩
theorem s4_ok (h : Ok4 n s t) {i j x y : Nat} {b : Bool} : Ok4 n s (s4 t i j x y b) := by
 unfold s4
 refine ⟨by rw [List.length_set]; exact h.1, fun i' hi' => ?_⟩
 rw [getD_set_of]
 split
 ·rename_i hc
  obtain ⟨rfl, _⟩ := hc
  have hr := h.2 i hi'
  refine ⟨by rw [List.length_set]; exact hr.1, fun j' hj' => ?_⟩
  rw [getD_set_of]
  split
  ·rename_i hc
   obtain ⟨rfl, _⟩ := hc
   have hcl := hr.2 j hj'
   refine ⟨by rw [List.length_set]; exact hcl.1, fun x' hx' => ?_⟩
   rw [getD_set_of]
   split
   ·rename_i hc
    obtain ⟨rfl, _⟩ := hc
    rw [List.length_set]; exact hcl.2 x hx'
   ·exact hcl.2 x' hx'
  ·exact hr.2 j' hj'
 ·exact h.2 i' hi'
theorem s3_ok (h : Ok3 n m u) {i j p : Nat} {b : Bool} : Ok3 n m (s3 u i j p b) := by
 unfold s3
 refine ⟨by rw [List.length_set]; exact h.1, fun i' hi' => ?_⟩
 rw [getD_set_of]
 split
 ·rename_i hc
  obtain ⟨rfl, _⟩ := hc
  have hr := h.2 i hi'
  refine ⟨by rw [List.length_set]; exact hr.1, fun j' hj' => ?_⟩
  rw [getD_set_of]
  split
  ·rename_i hc
   obtain ⟨rfl, _⟩ := hc
   rw [List.length_set]; exact hr.2 j hj'
  ·exact hr.2 j' hj'
 ·exact h.2 i' hi'
theorem r4_s4 (h : Ok4 n s t) {i j x y : Nat} {b : Bool} (hi : i < n) (hj : j < n) (hx : x < s) (hy : y < s) (i' j' x' y' : Nat) :
    r4 (s4 t i j x y b) i' j' x' y' = if i = i' ∧ j = j' ∧ x = x' ∧ y = y' then b else r4 t i' j' x' y' := by
  obtain ⟨h1, h2, h3, h4⟩ := h.at hi hj hx
  unfold r4 s4
  rw [getD_set_of]
  by_cases e1 : i = i'
  · subst e1
    rw [if_pos ⟨rfl, h1⟩, getD_set_of]
    by_cases e2 : j = j'
    · subst e2
      rw [if_pos ⟨rfl, h2⟩, getD_set_of]
      by_cases e3 : x = x'
      · subst e3
        rw [if_pos ⟨rfl, h3⟩, getD_set_of]
        by_cases e4 : y = y'
        · subst e4; rw [if_pos ⟨rfl, by omega⟩, if_pos ⟨rfl, rfl, rfl, rfl⟩]
        · rw [if_neg (by omega), if_neg (by omega)]
      · rw [if_neg (by omega), if_neg (by omega)]
    · rw [if_neg (by omega), if_neg (by omega)]
  · rw [if_neg (by omega), if_neg (by omega)]
theorem r3_s3 (h : Ok3 n m u) {i j p : Nat} {b : Bool} (hi : i < n) (hj : j < n) (hp : p < m) (i' j' p' : Nat) :
    r3 (s3 u i j p b) i' j' p' = if i = i' ∧ j = j' ∧ p = p' then b else r3 u i' j' p' := by
  obtain ⟨h1, h2, h3⟩ := h.at hi hj
  unfold r3 s3
  rw [getD_set_of]
  by_cases e1 : i = i'
  · subst e1
    rw [if_pos ⟨rfl, h1⟩, getD_set_of]
    by_cases e2 : j = j'
    · subst e2
      rw [if_pos ⟨rfl, h2⟩, getD_set_of]
      by_cases e3 : p = p'
      · subst e3; rw [if_pos ⟨rfl, by omega⟩, if_pos ⟨rfl, rfl, rfl⟩]
      · rw [if_neg (by omega), if_neg (by omega)]
    · rw [if_neg (by omega), if_neg (by omega)]
  · rw [if_neg (by omega), if_neg (by omega)]
end
structure Rel34 (n s : Nat) (t : T4) (u : T3) : Prop where
 o4 : Ok4 n s t
 o3 : Ok3 n (s * s) u
 eq : ∀ i j x y, i < j → j < n → x < s → y < s → r4 t i j x y = r3 u i j (x * s + y) ∧ r4 t j i y x = r3 u i j (x * s + y)
theorem cell_lt {s x y : Nat} (hx : x < s) (hy : y < s) : x * s + y < s * s := by
 have : (x + 1) * s ≤ s * s := Nat.mul_le_mul_right _ hx
 rw [Nat.succ_mul] at this; omega
theorem cell_inj {s x y x' y' : Nat} (hy : y < s) (hy' : y' < s) (h : x * s + y = x' * s + y') : x = x' ∧ y = y' := by
 have h1 : (x * s + y) / s = x := by rw [Nat.mul_comm, Nat.mul_add_div (by omega), Nat.div_eq_of_lt hy]; omega
 have h2 : (x' * s + y') / s = x' := by rw [Nat.mul_comm, Nat.mul_add_div (by omega), Nat.div_eq_of_lt hy']; omega
 have : x = x' := by rw [← h1, ← h2, h]
 subst this
 exact ⟨rfl, by omega⟩
theorem Rel34.drop {n s : Nat} {t : T4} {u : T3} (h : Rel34 n s t u) {i j x y : Nat} (hij : i < j) (hj : j < n) (hx : x < s) (hy : y < s) :
    Rel34 n s (s4 (s4 t i j x y false) j i y x false) (s3 u i j (x * s + y) false) := by
  refine ⟨s4_ok (s4_ok h.o4), s3_ok h.o3, fun i' j' x' y' h1 h2 h3 h4 => ?_⟩
  have hi : i < n := by omega
  rw [r4_s4 (s4_ok h.o4) hj hi hy hx, r4_s4 h.o4 hi hj hx hy, r4_s4 (s4_ok h.o4) hj hi hy hx, r4_s4 h.o4 hi hj hx hy, r3_s3 h.o3 hi hj (cell_lt hx hy)]
  obtain ⟨e1, e2⟩ := h.eq i' j' x' y' h1 h2 h3 h4
  by_cases e : i = i' ∧ j = j' ∧ x = x' ∧ y = y'
  · obtain ⟨rfl, rfl, rfl, rfl⟩ := e
    simp
  · have e3 : ¬ (i = i' ∧ j = j' ∧ x * s + y = x' * s + y') := fun ⟨q1, q2, q3⟩ => by
      have := cell_inj hy h4 q3
      exact e ⟨q1, q2, this.1, this.2⟩
    have e4 : ¬ (j = i' ∧ i = j' ∧ y = x' ∧ x = y') := by omega
    have e5 : ¬ (i = j' ∧ j = i' ∧ x = y' ∧ y = x') := by omega
    have e6 : ¬ (j = j' ∧ i = i' ∧ y = y' ∧ x = x') := by omega
    simp only [if_neg e, if_neg e3, if_neg e4, if_neg e5, if_neg e6]
    exact ⟨e1, e2⟩
end T
open Go Go.Va
namespace T
def V3 (n i j k x y z : Nat) : List Int := (((List.replicate n (0 : Int)).set i (x : Int)).set j (y : Int)).set k (z : Int)
section
variable {a : Net} {n s : Nat} {t : T4} {u : T3}
def hP (a : Net) (n : Nat) (t : T4) (i j k x y z : Nat) : Bool := r4 t i k x z && r4 t j k y z && satB (insL a [(i : Int), (j : Int), (k : Int)]) (V3 n i j k x y z)
end
end T
open Go Go.Va
namespace T
section
variable {a : Net} {n s : Nat} {t : T4} {u : T3}
def PA (n s i : Nat) (t : T4) : Prop := t.length = n ∧ ∀ i', i' < i → Row4 n s (t.getD i' [])
def PB (n s i j : Nat) (t : T4) : Prop := PA n s i t ∧ (t.getD i []).length = n ∧ ∀ j', j' < j → Cell4 s ((t.getD i []).getD j' [])
theorem PA.set {i : Nat} (h : PA n s i t) (r : T3) : PA n s i (t.set i r) := by
 refine ⟨by rw [List.length_set]; exact h.1, fun i' hi' => ?_⟩
 rw [getD_set_of, if_neg (by omega)]; exact h.2 i' hi'
theorem PB.set {i j : Nat} (h : PB n s i j t) (hi : i < n) (c : List (List Bool)) : PB n s i j (t.set i ((t.getD i []).set j c)) := by
 have hl := h.1.1
 refine ⟨h.1.set _, ?_, fun j' hj' => ?_⟩
 ·rw [getD_set_of, if_pos ⟨rfl, by omega⟩, List.length_set]; exact h.2.1
 ·rw [getD_set_of, if_pos ⟨rfl, by omega⟩, getD_set_of, if_neg (by omega)]; exact h.2.2 j' hj'
end
end T
open Go Go.Va
namespace T
section
variable {a : Net} {n s : Nat} {t : T4} {u : T3}
def cI (o : List Nat) : List Int := o.map fun x : Nat => (x : Int)
end
end T
set_option linter.unusedVariables false
open Go Go.Va
namespace T
def impl_keyOf_L3 : Nat → ((List Int) × (List Int) × Int × Int) → Option ((List Int))
 | 0, _ => none
 | n + 1, (b, t10, t11, t12) =>
  if decide (t12 < t11) then
   if inb t12 t10 then
    if (0 : Int) ≤ 8 then
     if b.length + [IntKind.wrap .u8 (shrI .i64 (gd t10 t12 0) 8), IntKind.wrap .u8 (gd t10 t12 0)].length ≤ lim then
      impl_keyOf_L3 n (b ++ [IntKind.wrap .u8 (shrI .i64 (gd t10 t12 0) 8), IntKind.wrap .u8 (gd t10 t12 0)], t10, t11, w64 (t12 + 1))
     else none
    else none
   else none
  else
   some b
def impl_keyOf (list : List Int) : Option (ByteArray) :=
 if (0 : Int) ≤ 0 ∧ (0 : Int) ≤ (w64 (2 * (list.length : Int))) ∧ (w64 (2 * (list.length : Int))) ≤ lim then
  (impl_keyOf_L3 fuel (List.replicate (Int.toNat 0) (0 : Int), list, (list.length : Int), 0)).bind fun s1 =>
   some (bytesOf s1)
 else none
def impl_tupleSet_L3 : Nat → ((List ByteArray) × (List (List Int)) × Int × Int) → Option ((List ByteArray))
 | 0, _ => none
 | n + 1, (set, t8, t9, t10) =>
  if decide (t10 < t9) then
   if inb t10 t8 then
    (impl_keyOf (gd t8 t10 [])).bind fun r1 =>
     impl_tupleSet_L3 n (mput set r1, t8, t9, w64 (t10 + 1))
   else none
  else
   some set
def impl_tupleSet (r : Int × (List (List Int))) : Option ((List ByteArray)) :=
 (impl_tupleSet_L3 fuel ([], r.2, (r.2.length : Int), 0)).bind fun s1 =>
  some s1
end T
open Go Go.Va
namespace T
def kb (l : List Int) : List Int := l.flatMap fun x => [0, x]
def keyB (l : List Int) : ByteArray := bytesOf (kb l)
theorem u8_small {x : Int} (h0 : 0 ≤ x) (h1 : x < 256) : IntKind.wrap .u8 x = x := by
 simp [IntKind.wrap, IntKind.bits, IntKind.signed]
 omega
theorem shr_small {x : Int} (h0 : 0 ≤ x) (h1 : x < 256) : shrI .i64 x 8 = 0 := by
 unfold shrI
 have : (min (8 : Int).toNat IntKind.i64.bits) = 8 := by decide
 rw [this, Int.fdiv_eq_ediv_of_nonneg _ (by decide)]
 have : (2 : Int) ^ 8 = 256 := by decide
 rw [this]; omega
theorem impl_keyOf_ok {l : List Int} (hl : l.length ≤ 1048576) (hv : ∀ x ∈ l, 0 ≤ x ∧ x < 256) : impl_keyOf l = some (keyB l) := by
 unfold impl_keyOf
 have e2 : w64 (2 * (l.length : Int)) = 2 * (l.length : Int) := w64_id (by omega) (by omega)
 rw [e2, if_pos (by unfold lim; omega)]
 have kbl : ∀ k, k ≤ l.length → (kb (l.take k)).length = 2 * k := by
  intro k hk
  have : ∀ l : List Int, (kb l).length = 2 * l.length := by
   intro l
   induction l with
   | nil => rfl
   | cons x l ih => unfold kb at ih ⊢; simp only [List.flatMap_cons, List.length_append, ih, List.length_cons, List.length_nil]; omega
  rw [this]; simp; omega
 have := forS l.length (fun m o i => impl_keyOf_L3 m (o, l, (l.length : Int), i)) (fun k => kb (l.take k)) (r := some (kb l)) (fun m k hk => ?_) (fun m => ?_) (n := fuel) (by unfold fuel; omega)
 ·have e0 : kb (l.take 0) = [] := rfl
  rw [e0] at this
  have : impl_keyOf_L3 fuel (List.replicate (Int.toNat 0) (0 : Int), l, (l.length : Int), 0) = some (kb l) := this
  rw [this]; rfl
 ·have hx := hv _ (List.getElem_mem hk)
  have hlen := kbl k (by omega)
  have e : kb (l.take (k + 1)) = kb (l.take k) ++ [0, l[k]] := by
   unfold kb; rw [List.take_succ_eq_append_getElem hk, List.flatMap_append]; simp
  simp only [impl_keyOf_L3, inb_nat, gd_nat hk, w64_succ (show k < 4611686018427387904 by omega), u8_small hx.1 hx.2, shr_small hx.1 hx.2, u8_small (show (0 : Int) ≤ 0 by omega) (show (0 : Int) < 256 by omega), e]
  rw [if_pos (by simp; omega), if_pos hk, if_pos (by omega), if_pos (by unfold lim; simp; omega)]
 ·simp only [impl_keyOf_L3, List.take_length]
  rw [if_neg (by simp)]
theorem bytes_data : ∀ (xs : List Int) (s : ByteArray), (xs.foldl (fun s n => s.push (UInt8.ofNat n.toNat)) s).data = s.data ++ (xs.map fun n => UInt8.ofNat n.toNat).toArray
 | [], s => by simp
 | x :: xs, s => by
  rw [List.foldl_cons, bytes_data xs]
  apply Array.ext'
  simp [ByteArray.push]
theorem kb_inj : ∀ (l l' : List Int), (∀ x ∈ l, 0 ≤ x ∧ x < 256) → (∀ x ∈ l', 0 ≤ x ∧ x < 256) → (kb l).map (fun n => UInt8.ofNat n.toNat) = (kb l').map (fun n => UInt8.ofNat n.toNat) → l = l'
 | [], [], _, _, _ => rfl
 | [], y :: l', _, _, h => by simp [kb] at h
 | x :: l, [], _, _, h => by simp [kb] at h
 | x :: l, y :: l', hv, hv', h => by
  simp only [kb, List.flatMap_cons, List.map_append, List.map_cons, List.map_nil, List.cons_append, List.nil_append, List.cons.injEq, true_and] at h
  obtain ⟨h1, h2⟩ := h
  have hx := hv x (by simp)
  have hy := hv' y (by simp)
  have h1 := congrArg UInt8.toNat h1
  simp only [UInt8.toNat_ofNat'] at h1
  have : x = y := by omega
  rw [this, kb_inj l l' (fun z hz => hv z (List.mem_cons_of_mem _ hz)) (fun z hz => hv' z (List.mem_cons_of_mem _ hz)) h2]
theorem keyB_inj {l l' : List Int} (hv : ∀ x ∈ l, 0 ≤ x ∧ x < 256) (hv' : ∀ x ∈ l', 0 ≤ x ∧ x < 256) (h : keyB l = keyB l') : l = l' := by
 have h := congrArg ByteArray.data h
 unfold keyB bytesOf at h
 rw [bytes_data, bytes_data] at h
 have h := congrArg Array.toList h
 simp only [Array.toList_append] at h
 exact kb_inj l l' hv hv' (List.append_cancel_left h)
theorem ba_eq' {a b : ByteArray} : (a == b) = decide (a = b) := by
 show (a.data == b.data) = _
 rw [Bool.eq_iff_iff, beq_iff_eq, decide_eq_true_eq]
 exact ⟨fun h => ByteArray.ext h, fun h => congrArg ByteArray.data h⟩
theorem mhas_mem {ks : List ByteArray} {s : ByteArray} : mhas ks s = true ↔ s ∈ ks := by
 unfold mhas
 rw [List.any_eq_true]
 constructor
 ·rintro ⟨k, h1, h2⟩; rw [ba_eq', decide_eq_true_eq] at h2; subst h2; exact h1
 ·intro h; exact ⟨s, h, by rw [ba_eq']; simp⟩
theorem mput_mem {ks : List ByteArray} {s t : ByteArray} : t ∈ mput ks s ↔ t ∈ ks ∨ t = s := by
 unfold mput
 by_cases h : mhas ks s = true
 ·rw [if_pos h]
  exact ⟨.inl, fun h' => h'.elim id fun e => e ▸ mhas_mem.1 h⟩
 ·rw [if_neg h]; simp
def keys (l : List (List Int)) : List ByteArray := l.foldl (fun ks t => mput ks (keyB t)) []
theorem keys_mem {l : List (List Int)} {s : ByteArray} : s ∈ keys l ↔ ∃ t ∈ l, s = keyB t := by
 have key : ∀ (l : List (List Int)) (ks : List ByteArray), s ∈ l.foldl (fun ks t => mput ks (keyB t)) ks ↔ s ∈ ks ∨ ∃ t ∈ l, s = keyB t := by
  intro l
  induction l with
  | nil => intro ks; simp
  | cons t l ih =>
   intro ks
   rw [List.foldl_cons, ih, mput_mem]
   simp only [List.mem_cons, exists_eq_or_imp, or_assoc]
 unfold keys; rw [key]; simp
theorem impl_tupleSet_ok {r : Int × List (List Int)} (hl : r.2.length ≤ 1048576) (hv : ∀ t ∈ r.2, t.length ≤ 1048576 ∧ ∀ x ∈ t, 0 ≤ x ∧ x < 256) : impl_tupleSet r = some (keys r.2) := by
 unfold impl_tupleSet
 have := forS r.2.length (fun m o i => impl_tupleSet_L3 m (o, r.2, (r.2.length : Int), i)) (fun k => keys (r.2.take k)) (r := some (keys r.2)) (fun m k hk => ?_) (fun m => ?_) (n := fuel) (by unfold fuel; omega)
 ·have e0 : keys (r.2.take 0) = [] := rfl
  rw [e0] at this
  simp only [this, Option.bind_some]
 ·obtain ⟨h1, h2⟩ := hv _ (List.getElem_mem hk)
  have e : keys (r.2.take (k + 1)) = mput (keys (r.2.take k)) (keyB r.2[k]) := by
   unfold keys; rw [List.take_succ_eq_append_getElem hk, List.foldl_append]; rfl
  simp only [impl_tupleSet_L3, inb_nat, gd_nat hk, w64_succ (show k < 4611686018427387904 by omega), impl_keyOf_ok h1 h2, Option.bind_some, e]
  rw [if_pos (by simp; omega), if_pos hk]
 ·simp only [impl_tupleSet_L3, List.take_length]
  rw [if_neg (by simp)]
theorem mhas_keys {l : List (List Int)} {t : List Int} (hl : ∀ t ∈ l, ∀ x ∈ t, 0 ≤ x ∧ x < 256) (ht : ∀ x ∈ t, 0 ≤ x ∧ x < 256) : mhas (keys l) (keyB t) = decide (t ∈ l) := by
 rw [Bool.eq_iff_iff, mhas_mem, decide_eq_true_eq, keys_mem]
 constructor
 ·rintro ⟨u, h1, h2⟩; rw [keyB_inj ht (hl u h1) h2]; exact h1
 ·intro h; exact ⟨t, h, rfl⟩
def dg (b : Nat) : Nat → Nat → List Nat
 | 0, _ => []
 | k + 1, i => dg b k (i / b) ++ [i % b]
theorem dg_len {b : Nat} : ∀ {k i : Nat}, (dg b k i).length = k
 | 0, _ => rfl
 | k + 1, i => by simp [dg, dg_len (k := k)]
theorem dg_lt {b : Nat} (hb : 0 < b) : ∀ {k i : Nat}, ∀ x ∈ dg b k i, x < b
 | 0, _, x, h => by simp [dg] at h
 | k + 1, i, x, h => by
  simp only [dg] at h
  rcases List.mem_append.1 h with h | h
  ·exact dg_lt hb x h
  ·simp at h; subst h; exact Nat.mod_lt _ hb
theorem cI_len {o : List Nat} : (cI o).length = o.length := by unfold cI; simp
theorem cI_append {o p : List Nat} : cI (o ++ p) = cI o ++ cI p := by unfold cI; simp
end T
open Go Go.Va
namespace T
theorem pow64 {b k : Nat} (hb : b ≤ 64) (hk : k ≤ 3) : b ^ k ≤ 262144 := by
 have h1 : b ^ k ≤ 64 ^ k := Nat.pow_le_pow_left hb k
 have h2 : 64 ^ k ≤ 64 ^ 3 := Nat.pow_le_pow_right (by omega) hk
 have : (64 : Nat) ^ 3 = 262144 := by decide
 omega
theorem pow_step {b j : Nat} (hb : b ≤ 64) (hj : j + 1 ≤ 3) : w64 (((b ^ j : Nat) : Int) * (b : Int)) = ((b ^ (j + 1) : Nat) : Int) := by
 have h := pow64 hb hj
 rw [Nat.pow_succ] at h ⊢
 rw [← Int.natCast_mul]
 exact w64_id (by omega) (by omega)
section
variable {n k m : Nat} {op : Opn} {r : Int × List (List Int)}
end
end T
set_option linter.unusedVariables false
open Go Go.Va
namespace T
def spec_l14Free_L3 : Nat → (Int × (List Int) × Int) → Option ((List Int))
 | 0, _ => none
 | n + 1, (size, out, i) =>
  if decide (i < size) then
   if out.length + [(-1)].length ≤ lim then
    spec_l14Free_L3 n (size, out ++ [(-1)], w64 (i + 1))
   else none
  else
   some out
def spec_l14Free (size : Int) : Option ((List Int)) :=
 (spec_l14Free_L3 fuel (size, [], 0)).bind fun s1 =>
  some s1
def spec_l2Args_L3 : Nat → (Int × Int × (List Int) × Int) → Option ((List Int))
 | 0, _ => none
 | n + 1, (n_, at_, out, i) =>
  if decide (i ≥ 0) then
   if n_ ≠ 0 then
    if inb i out then
     if n_ ≠ 0 then
      spec_l2Args_L3 n (n_, w64 (Int.tdiv at_ n_), stt out i (Int.tmod at_ n_), w64 (i - 1))
     else none
    else none
   else none
  else
   some out
def spec_l2Args (n_ : Int) (arity : Int) (at_ : Int) : Option ((List Int)) :=
 if 0 ≤ arity ∧ arity ≤ arity ∧ arity ≤ lim then
  (spec_l2Args_L3 fuel (n_, at_, List.replicate (Int.toNat arity) (0 : Int), w64 (arity - 1))).bind fun s1 =>
   some s1
 else none
def spec_l1Most (a : Int) (b : Int) : Option (Int) :=
 if decide (a > b) then
  some a
 else
  some b
def impl_freeTable_L3 : Nat → ((List Int) × Int × Int) → Option ((List Int))
 | 0, _ => none
 | n + 1, (list, t8, t9) =>
  if decide (t9 < t8) then
   if inb t9 list then
    impl_freeTable_L3 n (stt list t9 (-1), t8, w64 (t9 + 1))
   else none
  else
   some list
def impl_freeTable (many : Int) : Option ((List Int)) :=
 if 0 ≤ many ∧ many ≤ many ∧ many ≤ lim then
  (impl_freeTable_L3 fuel (List.replicate (Int.toNat many) (0 : Int), ((List.replicate (Int.toNat many) (0 : Int)).length : Int), 0)).bind fun s1 =>
   some s1
 else none
def impl_clone (list : List Int) : Option ((List Int)) :=
 if ([] : List Int).length + list.length ≤ lim then
  some ([] ++ list)
 else none
end T
open Go Go.Va
namespace T
theorem tdivN {a b : Nat} (ha : a < 4611686018427387904) : w64 (Int.tdiv (a : Int) (b : Int)) = ((a / b : Nat) : Int) := by
 rw [Int.tdiv_eq_ediv_of_nonneg (by omega), ← Int.natCast_ediv]
 have := Nat.div_le_self a b
 generalize a / b = q at this
 exact w64_id (by omega) (by omega)
theorem tmodN {a b : Nat} : Int.tmod (a : Int) (b : Int) = ((a % b : Nat) : Int) := by
 rw [Int.tmod_eq_emod_of_nonneg (by omega), ← Int.natCast_emod]
section
variable {n : Nat}
end
end T
open Go Go.Va
namespace T
abbrev RelT := Int × List (List Int)
theorem pow64_L2 {b : Nat} (hb : b ≤ 64) : ∀ (m k j : Nat), j + k ≤ 3 → k < m → spec_l2Pow_L2 m ((b : Int), (k : Int), ((b ^ j : Nat) : Int)) = some (((b ^ (j + k) : Nat) : Int)) := by
 intro m
 induction m with
 | zero => intro k j _ h; omega
 | succ m ih =>
  intro k j hj hk
  simp only [spec_l2Pow_L2]
  cases k with
  | zero => simp
  | succ k =>
   have e : w64 (((k + 1 : Nat) : Int) - 1) = (k : Int) := by rw [w64_id (by omega) (by omega)]; omega
   rw [e, pow_step hb (by omega), if_pos (by simp), ih k (j + 1) (by omega) (by omega)]
   congr 3; omega
theorem spec_pow64 {b k : Nat} (hb : b ≤ 64) (hk : k ≤ 3) : spec_l2Pow (b : Int) (k : Int) = some (((b ^ k : Nat) : Int)) := by
 unfold spec_l2Pow
 have := pow64_L2 hb fuel k 0 (by omega) (by unfold fuel; omega)
 have this : spec_l2Pow_L2 fuel ((b : Int), (k : Int), 1) = _ := this
 rw [this]; simp
theorem cI_set {l : List Nat} {s : List Nat} {x y : Nat} : (cI (l ++ x :: s)).set l.length (y : Int) = cI (l ++ y :: s) := by
 unfold cI
 rw [List.map_append, List.map_append, List.map_cons, List.map_cons, List.set_append_right _ _ (by simp)]
 simp
theorem l2Args_L3 {b : Nat} (hb : 0 < b) : ∀ (j i f : Nat) (s : List Nat), j < f → i < 4611686018427387904 → j ≤ 1000 →
    spec_l2Args_L3 f ((b : Int), (i : Int), cI (List.replicate j 0 ++ s), (j : Int) - 1) = some (cI (dg b j i ++ s)) := by
  intro j
  induction j with
  | zero =>
    intro i f s hf hi hj
    obtain ⟨f, rfl⟩ : ∃ z, f = z + 1 := ⟨f - 1, by omega⟩
    simp only [spec_l2Args_L3]
    rw [if_neg (by simp)]; rfl
  | succ j ih =>
    intro i f s hf hi hj
    obtain ⟨f, rfl⟩ : ∃ z, f = z + 1 := ⟨f - 1, by omega⟩
    have e1 : ((j + 1 : Nat) : Int) - 1 = (j : Int) := by omega
    have hz : List.replicate (j + 1) 0 ++ s = List.replicate j 0 ++ 0 :: s := by rw [List.replicate_succ']; simp
    have hlen : j < (cI (List.replicate j 0 ++ 0 :: s)).length := by rw [cI_len]; simp
    have hset := cI_set (l := List.replicate j 0) (s := s) (x := 0) (y := i % b)
    rw [List.length_replicate] at hset
    have w2 : w64 ((j : Int) - 1) = (j : Int) - 1 := w64_id (by omega) (by omega)
    have hle := Nat.div_le_self i b
    rw [e1, hz]
    simp only [spec_l2Args_L3, tdivN hi, tmodN, inb_nat, hlen, stt_nat, hset, w2]
    rw [if_pos (by simp), if_pos (by omega), if_pos trivial, if_pos (by omega), ih (i / b) f _ (by omega) (by omega) (by omega)]
    simp [dg]
theorem spec_l2Args_ok {b k i : Nat} (hb : 0 < b) (hk : k ≤ 1000) (hi : i < 4611686018427387904) : spec_l2Args (b : Int) (k : Int) (i : Int) = some (cI (dg b k i)) := by
 have h := l2Args_L3 hb k i fuel [] (by unfold fuel; omega) hi hk
 have e : cI (List.replicate k 0 ++ []) = List.replicate (Int.toNat (k : Int)) (0 : Int) := by unfold cI; simp
 rw [e, List.append_nil] at h
 unfold spec_l2Args
 rw [w64_id (x := (k : Int) - 1) (by omega) (by omega), h, if_pos (by unfold lim; omega)]; rfl
section
variable {n k m : Nat} {r : RelT}
end
end T
open Go Go.Va
namespace T
section
variable {n k m : Nat} {r : RelT} {rels : List RelT}
theorem spec_l1Most_nat (a b : Nat) : spec_l1Most (a : Int) (b : Int) = some ((max a b : Nat) : Int) := by
 unfold spec_l1Most
 by_cases h : (a : Int) > (b : Int)
 ·rw [if_pos (by simpa using h)]; congr 2; omega
 ·rw [if_neg (by simpa using h)]; congr 2; omega
end
end T
open Go Go.Va
namespace T
def foldU {σ : Type} (cb : List Int → σ → Option (σ × Bool)) : List (List Int) → σ → Option (σ × Bool)
 | [], s => some (s, true)
 | t :: l, s => match cb t s with | some (s', true) => foldU cb l s' | some (s', false) => some (s', false) | none => none
theorem foldU_append {σ : Type} {cb : List Int → σ → Option (σ × Bool)} : ∀ (l l' : List (List Int)) (s : σ), foldU cb (l ++ l') s = match foldU cb l s with | some (s', true) => foldU cb l' s' | some (s', false) => some (s', false) | none => none
 | [], l', s => rfl
 | t :: l, l', s => by
  simp only [List.cons_append, foldU]
  cases hc : cb t s with
  | none => rfl
  | some q =>
   obtain ⟨s', b⟩ := q
   cases b with
   | false => rfl
   | true => exact foldU_append l l' s'
def mstB (given : List Int) (at' x : Nat) : Bool := !(decide (given.getD at' 0 ≥ 0) && given.getD at' 0 != (x : Int))
def extL (n : Nat) (given : List Int) (ok : List Int → Bool) : Nat → List Int → List (List Int)
 | 0, pre => [pre]
 | m + 1, pre => (List.range n).flatMap fun x => if mstB given pre.length x && ok (pre ++ [(x : Int)]) then extL n given ok m (pre ++ [(x : Int)]) else []
section
variable {n k : Nat} {rels : List RelT} {given : List Int}
end
end T
open Go Go.Va
namespace T
section
variable {n k : Nat} {rels : List RelT} {given : List Int}
theorem ext_len {ok : List Int → Bool} : ∀ (m : Nat) (pre : List Int), (extL n given ok m pre).length ≤ n ^ m
 | 0, pre => by simp [extL]
 | m + 1, pre => by
  simp only [extL]
  have key : ∀ (l : List Nat), (l.flatMap fun x => if mstB given pre.length x && ok (pre ++ [(x : Int)]) then extL n given ok m (pre ++ [(x : Int)]) else []).length ≤ l.length * n ^ m := by
   intro l
   induction l with
   | nil => simp
   | cons x l ih =>
    rw [List.flatMap_cons, List.length_append, List.length_cons, Nat.succ_mul]
    have : (if mstB given pre.length x && ok (pre ++ [(x : Int)]) then extL n given ok m (pre ++ [(x : Int)]) else []).length ≤ n ^ m := by
     split
     ·exact ext_len m _
     ·simp
    omega
  have := key (List.range n)
  rw [List.length_range] at this
  rw [Nat.pow_succ, Nat.mul_comm]
  exact this
end
end T
open Go Go.Va
namespace T
theorem eqRelation_ok {a b : RelT} (h : rowsS a.2) : laws_eqRelation a b = some (decide (a = b)) := by
 unfold laws_eqRelation
 rw [eqIntSS_ok (by have := h.1; omega) fun r hr => by have := h.2 r hr; omega]
 obtain ⟨a1, a2⟩ := a
 obtain ⟨b1, b2⟩ := b
 by_cases h1 : a1 = b1
 ·by_cases h2 : a2 = b2 <;> simp [h1, h2]
 ·simp [h1]
theorem freeI_ok {N : Nat} (h : N ≤ 1000) : impl_freeTable (N : Int) = some (List.replicate N (-1)) := by
 unfold impl_freeTable
 rw [Int.toNat_natCast, if_pos (by unfold lim; omega)]
 have := forS N (fun f o i => impl_freeTable_L3 f (o, ((List.replicate N (0 : Int)).length : Int), i)) (fun j => List.replicate j (-1) ++ List.replicate (N - j) (0 : Int)) (r := some (List.replicate N (-1))) (fun f j hj => ?_) (fun f => ?_) (n := fuel) (by unfold fuel; omega)
 ·have this : impl_freeTable_L3 fuel (List.replicate N (0 : Int), ((List.replicate N (0 : Int)).length : Int), 0) = _ := this
  rw [this]; rfl
 ·have hin : j < (List.replicate j (-1) ++ List.replicate (N - j) (0 : Int)).length := by simp; omega
  have e : (List.replicate j (-1) ++ List.replicate (N - j) (0 : Int)).set j (-1) = List.replicate (j + 1) (-1) ++ List.replicate (N - (j + 1)) (0 : Int) := by
   rw [show N - j = (N - (j + 1)) + 1 by omega, List.replicate_succ, List.set_append_right _ _ (by simp), List.replicate_succ']
   simp
  simp only [impl_freeTable_L3, inb_nat, hin, stt_nat, e, if_true, w64_succ (show j < 4611686018427387904 by omega)]
  rw [if_pos (by simp; omega)]
 ·simp only [impl_freeTable_L3]
  rw [if_neg (by simp)]; simp
theorem freeS_ok {N : Nat} (h : N ≤ 1000) : spec_l14Free (N : Int) = some (List.replicate N (-1)) := by
 unfold spec_l14Free
 have := forS N (fun f o i => spec_l14Free_L3 f ((N : Int), o, i)) (fun j => List.replicate j (-1)) (r := some (List.replicate N (-1))) (fun f j hj => ?_) (fun f => ?_) (n := fuel) (by unfold fuel; omega)
 ·have this : spec_l14Free_L3 fuel ((N : Int), [], 0) = _ := this
  rw [this]; rfl
 ·simp only [spec_l14Free_L3, List.replicate_succ', w64_succ (show j < 4611686018427387904 by omega)]
  rw [if_pos (by simp; omega), if_pos (by simp; unfold lim; omega)]
 ·simp only [spec_l14Free_L3]
  rw [if_neg (by simp)]
end T
set_option linter.unusedVariables false
open Go Go.Va
namespace T
def impl_cloneRows_L3 : Nat → ((List (List Int)) × (List (List Int)) × Int × Int) → Option ((List (List Int)))
 | 0, _ => none
 | n + 1, (list, t7, t8, t9) =>
  if decide (t9 < t8) then
   if inb t9 t7 then
    (impl_clone (gd t7 t9 [])).bind fun r1 =>
     if list.length + [r1].length ≤ lim then
      impl_cloneRows_L3 n (list ++ [r1], t7, t8, w64 (t9 + 1))
     else none
   else none
  else
   some list
def impl_cloneRows (rows : List (List Int)) : Option ((List (List Int))) :=
 (impl_cloneRows_L3 fuel ([], rows, (rows.length : Int), 0)).bind fun s1 =>
  some s1
end T
open Go Go.Va
namespace T
section
variable {α : Type} {nw old : Nat → α} {N i : Nat}
end
section
variable {p : Int} {W : Nat} {r row : List Int}
end
abbrev ES := List (List Int) × List Int × List (List Int)
section
variable {p : Int} {W N : Nat}
end
end T
open Go Go.Va
namespace T
section
variable {p : Int} {W N V : Nat}
theorem cloneRows_ok {rows : List (List Int)} (hN : rows.length ≤ 100000) (hr : ∀ r ∈ rows, r.length ≤ 100000) : impl_cloneRows rows = some rows := by
 unfold impl_cloneRows
 have := forS rows.length (fun f o i => impl_cloneRows_L3 f (o, rows, (rows.length : Int), i)) (fun k => rows.take k) (r := some rows) (fun f k hk => by
  have hl := hr _ (List.getElem_mem hk)
  have hcl : impl_clone rows[k] = some rows[k] := by
   unfold impl_clone
   rw [if_pos (by simp; unfold lim; omega)]; simp
  simp only [impl_cloneRows_L3, inb_nat, hk, gd_nat hk, hcl, Option.bind_some, List.take_succ_eq_append_getElem hk, if_true, w64_succ (show k < 4611686018427387904 by omega)]
  rw [if_pos (by simp; omega), if_pos (by simp; unfold lim; omega)]) (fun f => by
  simp only [impl_cloneRows_L3, List.take_length]
  rw [if_neg (by simp)]) (n := fuel) (by unfold fuel; omega)
 have this : impl_cloneRows_L3 fuel ([], rows, (rows.length : Int), 0) = _ := this
 rw [this]; rfl
end
end T
open Go Go.Va
namespace T
section
variable {a : Lin} {p : Int} {W N V : Nat}
theorem sum_le16 : ∀ {l : List (List Int)}, (∀ r ∈ l, r.length ≤ 16) → (l.map List.length).sum ≤ 16 * l.length
 | [], _ => by simp
 | r :: l, h => by
  have := sum_le16 (l := l) fun q hq => h q (List.mem_cons_of_mem _ hq)
  have := h r (by simp)
  rw [List.map_cons, List.sum_cons, List.length_cons]; omega
end
end T
open Go Go.Va
namespace T
def cg (p a b : Int) : Prop := ∃ k, a = b + p * k
section
variable {p a b c d : Int}
end
inductive Sp (p : Int) (V : Nat) (A : List (List Int)) : (Nat → Int) → Prop
 | zero : Sp p V A fun _ => 0
 | add {f : Nat → Int} (r : List Int) (c : Int) : r ∈ A → Sp p V A f → Sp p V A fun i => f i + c * r.getD i 0
 | cgr {f g : Nat → Int} : Sp p V A f → (∀ i, i < V → cg p (g i) (f i)) → Sp p V A g
section
variable {p : Int} {V W N : Nat} {A B : List (List Int)} {f g : Nat → Int}
def eqSp (p : Int) (V : Nat) (A B : List (List Int)) : Prop := ∀ f, Sp p V A f ↔ Sp p V B f
end
end T
open Go Go.Va
namespace T
section
variable {p : Int} {V W N : Nat} {A B : List (List Int)} {f g : Nat → Int}
theorem getD_mem {α : Type} {l : List α} {i : Nat} {d : α} (hi : i < l.length) : l.getD i d ∈ l := by rw [getD_of hi]; exact List.getElem_mem hi
end
end T
open Go Go.Va
namespace T
section
variable {p : Int} {V W N : Nat} {A B C D : List (List Int)} {f g : Nat → Int}
theorem eqSp.symm (h : eqSp p V A B) : eqSp p V B A := fun f => (h f).symm
theorem eqSp.trans (h : eqSp p V A B) (g : eqSp p V B C) : eqSp p V A C := fun f => (h f).trans (g f)
end
end T
set_option linter.unusedVariables false
open Go Go.Va
namespace T
def laws_markRelation (a : Int × (List (List Int))) (k : Int) : Option ((Unit × (List (List Int))) × Int) :=
 (laws_markIntSS a.2 k).bind fun r1 =>
  some (((), r1.1), r1.2)
def laws_heldRelation (a : Int × (List (List Int))) (k : Int) : Option (Int) :=
 (laws_heldIntSS a.2 k).bind fun r1 =>
  if decide (r1 < 0) then
   some (-1)
  else
   some r1
end T
open Go Go.Va
namespace T
def i64 (x : Int) : Prop := -9223372036854775808 ≤ x ∧ x ≤ 9223372036854775807
section
variable {c : List Int} {ar : Int}
end
end T
set_option linter.unusedVariables false
open Go Go.Va
namespace T
def spec_l19Most_L7 : Nat → ((List ((List Int) × Int × (List (List Int)))) × (List (List ((List Int) × Int × (List (List Int))))) × Int × Int × Int) → Option ((List ((List Int) × Int × (List (List Int)))) × (List (List ((List Int) × Int × (List (List Int))))) × Int × Int)
 | 0, _ => none
 | n + 1, (list, out, i, most, k) =>
  if inb i list then
   if decide (k < (((gd list i ([], (0, []))).1).length : Int)) then
    if inb i list then
     if inb k ((gd list i ([], (0, []))).1) then
      (spec_l1Most most (gd ((gd list i ([], (0, []))).1) k 0)).bind fun r1 =>
       spec_l19Most_L7 n (list, out, i, r1, w64 (k + 1))
     else none
    else none
   else
    some (list, out, i, most)
  else none
def spec_l19Most_L3 : Nat → ((List ((List Int) × Int × (List (List Int)))) × (List (List ((List Int) × Int × (List (List Int))))) × Int) → Option ((List (List ((List Int) × Int × (List (List Int))))))
 | 0, _ => none
 | n + 1, (list, out, i) =>
  if decide (i < (list.length : Int)) then
   (spec_l19Most_L7 fuel (list, out, i, 0, 0)).bind fun s1 =>
    if inb s1.2.2.2 s1.2.1 then
     if inb s1.2.2.1 s1.1 then
      if (gd s1.2.1 s1.2.2.2 []).length + [gd s1.1 s1.2.2.1 ([], (0, []))].length ≤ lim then
       if inb s1.2.2.2 s1.2.1 then
        if s1.2.2.2 = s1.2.2.2 then
         spec_l19Most_L3 n (s1.1, stt s1.2.1 s1.2.2.2 ((gd s1.2.1 s1.2.2.2 []) ++ [gd s1.1 s1.2.2.1 ([], (0, []))]), w64 (s1.2.2.1 + 1))
        else none
       else none
      else none
     else none
    else none
  else
   some out
def spec_l19Most (vars : Int) (list : List ((List Int) × Int × (List (List Int)))) : Option ((List (List ((List Int) × Int × (List (List Int)))))) :=
 if 0 ≤ vars ∧ vars ≤ vars ∧ vars ≤ lim then
  (spec_l19Most_L3 fuel (list, List.replicate (Int.toNat vars) ([] : List ((List Int) × Int × (List (List Int)))), 0)).bind fun s1 =>
   some s1
 else none
def spec_l19Go_L14 (rec : (Int × (List (List ((List Int) × Int × (List (List Int))))) × (List Int) × (List Int) × ((List (List Int)) × (Int × Int × Bool))) → Option (((List (List Int)) × (Int × Int × Bool)))) : Nat → (Int × (List (List ((List Int) × Int × (List (List Int))))) × (List Int) × (List Int) × ((List (List Int)) × (Int × Int × Bool)) × ((List (List Int)) × (Int × Int × Bool)) × Int × Int × (List Int) × Bool × Int) → Option (Int × (List (List ((List Int) × Int × (List (List Int))))) × (List Int) × (List Int) × ((List (List Int)) × (Int × Int × Bool)) × ((List (List Int)) × (Int × Int × Bool)) × Int × Int × (List Int) × Bool)
 | 0, _ => none
 | n + 1, (t0, t1, t2, t3, t9, t10, t11, t12, t13, t14, t15) =>
  if inb t11 t1 then
   if decide (t15 < ((gd t1 t11 []).length : Int)) then
    if t14 then
     if inb t11 t1 then
      if inb t15 (gd t1 t11 []) then
       (spec_l19Satisfies (gd (gd t1 t11 []) t15 ([], (0, []))) t13).bind fun r3 =>
        spec_l19Go_L14 rec n (t0, t1, t2, t3, (t9.1, (t9.2.1, (t9.2.2.1, t9.2.2.2))), (t10.1, (t10.2.1, (t10.2.2.1, t10.2.2.2))), t11, t12, t13, r3, w64 (t15 + 1))
      else none
     else none
    else
     some (t0, t1, t2, t3, (t9.1, (t9.2.1, (t9.2.2.1, t9.2.2.2))), (t10.1, (t10.2.1, (t10.2.2.1, t10.2.2.2))), t11, t12, t13, t14)
   else
    some (t0, t1, t2, t3, (t9.1, (t9.2.1, (t9.2.2.1, t9.2.2.2))), (t10.1, (t10.2.1, (t10.2.2.1, t10.2.2.2))), t11, t12, t13, t14)
  else none
def spec_l19Go_L8 (rec : (Int × (List (List ((List Int) × Int × (List (List Int))))) × (List Int) × (List Int) × ((List (List Int)) × (Int × Int × Bool))) → Option (((List (List Int)) × (Int × Int × Bool)))) : Nat → (Int × (List (List ((List Int) × Int × (List (List Int))))) × (List Int) × (List Int) × ((List (List Int)) × (Int × Int × Bool)) × ((List (List Int)) × (Int × Int × Bool)) × Int × Int) → Option (((List (List Int)) × (Int × Int × Bool)) × ((List (List Int)) × (Int × Int × Bool)))
 | 0, _ => none
 | n + 1, (t0, t1, t2, t3, t9, t10, t11, t12) =>
  if decide (t12 < t0) then
   if t9.2.2.2 then
    if !(decide (t9.2.1 > 0)) then
     if inb t11 t2 then
      if decide ((gd t2 t11 0) ≥ 0) then
       if inb t11 t2 then
        if (gd t2 t11 0) != t12 then
         spec_l19Go_L8 rec n (t0, t1, t2, t3, (t9.1, (t9.2.1, (t9.2.2.1, t9.2.2.2))), (t10.1, (t10.2.1, (t10.2.2.1, t10.2.2.2))), t11, w64 (t12 + 1))
        else
         (spec_l1Own t3).bind fun r2 =>
          if r2.length + [t12].length ≤ lim then
           (spec_l19Go_L14 rec fuel (t0, t1, t2, t3, (t9.1, (t9.2.1, (t9.2.2.1, t9.2.2.2))), (t10.1, (t10.2.1, (t10.2.2.1, t10.2.2.2))), t11, t12, r2 ++ [t12], true, 0)).bind fun s3 =>
            if s3.2.2.2.2.2.2.2.2.2 then
             (rec (s3.1, s3.2.1, s3.2.2.1, s3.2.2.2.2.2.2.2.2.1, (s3.2.2.2.2.1.1, (s3.2.2.2.2.1.2.1, (s3.2.2.2.2.1.2.2.1, s3.2.2.2.2.1.2.2.2))))).bind fun r4 =>
              spec_l19Go_L8 rec n (s3.1, s3.2.1, s3.2.2.1, s3.2.2.2.1, (r4.1, (r4.2.1, (r4.2.2.1, r4.2.2.2))), (s3.2.2.2.2.2.1.1, (s3.2.2.2.2.2.1.2.1, (s3.2.2.2.2.2.1.2.2.1, s3.2.2.2.2.2.1.2.2.2))), s3.2.2.2.2.2.2.1, w64 (s3.2.2.2.2.2.2.2.1 + 1))
            else
             spec_l19Go_L8 rec n (s3.1, s3.2.1, s3.2.2.1, s3.2.2.2.1, (s3.2.2.2.2.1.1, (s3.2.2.2.2.1.2.1, (s3.2.2.2.2.1.2.2.1, s3.2.2.2.2.1.2.2.2))), (s3.2.2.2.2.2.1.1, (s3.2.2.2.2.2.1.2.1, (s3.2.2.2.2.2.1.2.2.1, s3.2.2.2.2.2.1.2.2.2))), s3.2.2.2.2.2.2.1, w64 (s3.2.2.2.2.2.2.2.1 + 1))
          else none
       else none
      else
       (spec_l1Own t3).bind fun r5 =>
        if r5.length + [t12].length ≤ lim then
         (spec_l19Go_L14 rec fuel (t0, t1, t2, t3, (t9.1, (t9.2.1, (t9.2.2.1, t9.2.2.2))), (t10.1, (t10.2.1, (t10.2.2.1, t10.2.2.2))), t11, t12, r5 ++ [t12], true, 0)).bind fun s6 =>
          if s6.2.2.2.2.2.2.2.2.2 then
           (rec (s6.1, s6.2.1, s6.2.2.1, s6.2.2.2.2.2.2.2.2.1, (s6.2.2.2.2.1.1, (s6.2.2.2.2.1.2.1, (s6.2.2.2.2.1.2.2.1, s6.2.2.2.2.1.2.2.2))))).bind fun r7 =>
            spec_l19Go_L8 rec n (s6.1, s6.2.1, s6.2.2.1, s6.2.2.2.1, (r7.1, (r7.2.1, (r7.2.2.1, r7.2.2.2))), (s6.2.2.2.2.2.1.1, (s6.2.2.2.2.2.1.2.1, (s6.2.2.2.2.2.1.2.2.1, s6.2.2.2.2.2.1.2.2.2))), s6.2.2.2.2.2.2.1, w64 (s6.2.2.2.2.2.2.2.1 + 1))
          else
           spec_l19Go_L8 rec n (s6.1, s6.2.1, s6.2.2.1, s6.2.2.2.1, (s6.2.2.2.2.1.1, (s6.2.2.2.2.1.2.1, (s6.2.2.2.2.1.2.2.1, s6.2.2.2.2.1.2.2.2))), (s6.2.2.2.2.2.1.1, (s6.2.2.2.2.2.1.2.1, (s6.2.2.2.2.2.1.2.2.1, s6.2.2.2.2.2.1.2.2.2))), s6.2.2.2.2.2.2.1, w64 (s6.2.2.2.2.2.2.2.1 + 1))
        else none
     else none
    else
     some ((t9.1, (t9.2.1, (t9.2.2.1, t9.2.2.2))), (t10.1, (t10.2.1, (t10.2.2.1, t10.2.2.2))))
   else
    if !false then
     if inb t11 t2 then
      if decide ((gd t2 t11 0) ≥ 0) then
       if inb t11 t2 then
        if (gd t2 t11 0) != t12 then
         spec_l19Go_L8 rec n (t0, t1, t2, t3, (t9.1, (t9.2.1, (t9.2.2.1, t9.2.2.2))), (t10.1, (t10.2.1, (t10.2.2.1, t10.2.2.2))), t11, w64 (t12 + 1))
        else
         (spec_l1Own t3).bind fun r8 =>
          if r8.length + [t12].length ≤ lim then
           (spec_l19Go_L14 rec fuel (t0, t1, t2, t3, (t9.1, (t9.2.1, (t9.2.2.1, t9.2.2.2))), (t10.1, (t10.2.1, (t10.2.2.1, t10.2.2.2))), t11, t12, r8 ++ [t12], true, 0)).bind fun s9 =>
            if s9.2.2.2.2.2.2.2.2.2 then
             (rec (s9.1, s9.2.1, s9.2.2.1, s9.2.2.2.2.2.2.2.2.1, (s9.2.2.2.2.1.1, (s9.2.2.2.2.1.2.1, (s9.2.2.2.2.1.2.2.1, s9.2.2.2.2.1.2.2.2))))).bind fun r10 =>
              spec_l19Go_L8 rec n (s9.1, s9.2.1, s9.2.2.1, s9.2.2.2.1, (r10.1, (r10.2.1, (r10.2.2.1, r10.2.2.2))), (s9.2.2.2.2.2.1.1, (s9.2.2.2.2.2.1.2.1, (s9.2.2.2.2.2.1.2.2.1, s9.2.2.2.2.2.1.2.2.2))), s9.2.2.2.2.2.2.1, w64 (s9.2.2.2.2.2.2.2.1 + 1))
            else
             spec_l19Go_L8 rec n (s9.1, s9.2.1, s9.2.2.1, s9.2.2.2.1, (s9.2.2.2.2.1.1, (s9.2.2.2.2.1.2.1, (s9.2.2.2.2.1.2.2.1, s9.2.2.2.2.1.2.2.2))), (s9.2.2.2.2.2.1.1, (s9.2.2.2.2.2.1.2.1, (s9.2.2.2.2.2.1.2.2.1, s9.2.2.2.2.2.1.2.2.2))), s9.2.2.2.2.2.2.1, w64 (s9.2.2.2.2.2.2.2.1 + 1))
          else none
       else none
      else
       (spec_l1Own t3).bind fun r11 =>
        if r11.length + [t12].length ≤ lim then
         (spec_l19Go_L14 rec fuel (t0, t1, t2, t3, (t9.1, (t9.2.1, (t9.2.2.1, t9.2.2.2))), (t10.1, (t10.2.1, (t10.2.2.1, t10.2.2.2))), t11, t12, r11 ++ [t12], true, 0)).bind fun s12 =>
          if s12.2.2.2.2.2.2.2.2.2 then
           (rec (s12.1, s12.2.1, s12.2.2.1, s12.2.2.2.2.2.2.2.2.1, (s12.2.2.2.2.1.1, (s12.2.2.2.2.1.2.1, (s12.2.2.2.2.1.2.2.1, s12.2.2.2.2.1.2.2.2))))).bind fun r13 =>
            spec_l19Go_L8 rec n (s12.1, s12.2.1, s12.2.2.1, s12.2.2.2.1, (r13.1, (r13.2.1, (r13.2.2.1, r13.2.2.2))), (s12.2.2.2.2.2.1.1, (s12.2.2.2.2.2.1.2.1, (s12.2.2.2.2.2.1.2.2.1, s12.2.2.2.2.2.1.2.2.2))), s12.2.2.2.2.2.2.1, w64 (s12.2.2.2.2.2.2.2.1 + 1))
          else
           spec_l19Go_L8 rec n (s12.1, s12.2.1, s12.2.2.1, s12.2.2.2.1, (s12.2.2.2.2.1.1, (s12.2.2.2.2.1.2.1, (s12.2.2.2.2.1.2.2.1, s12.2.2.2.2.1.2.2.2))), (s12.2.2.2.2.2.1.1, (s12.2.2.2.2.2.1.2.1, (s12.2.2.2.2.2.1.2.2.1, s12.2.2.2.2.2.1.2.2.2))), s12.2.2.2.2.2.2.1, w64 (s12.2.2.2.2.2.2.2.1 + 1))
        else none
     else none
    else
     some ((t9.1, (t9.2.1, (t9.2.2.1, t9.2.2.2))), (t10.1, (t10.2.1, (t10.2.2.1, t10.2.2.2))))
  else
   some ((t9.1, (t9.2.1, (t9.2.2.1, t9.2.2.2))), (t10.1, (t10.2.1, (t10.2.2.1, t10.2.2.2))))
def spec_l19Go_body (rec : (Int × (List (List ((List Int) × Int × (List (List Int))))) × (List Int) × (List Int) × ((List (List Int)) × (Int × Int × Bool))) → Option (((List (List Int)) × (Int × Int × Bool)))) (t0 : Int) (t1 : List (List ((List Int) × Int × (List (List Int))))) (t2 : List Int) (t3 : List Int) (t4 : (List (List Int)) × (Int × Int × Bool)) : Option (((List (List Int)) × (Int × Int × Bool))) :=
 if (t3.length : Int) == (t1.length : Int) then
  if decide ((t4.1.length : Int) < t4.2.2.1) then
   (spec_l1Own t3).bind fun r1 =>
    if t4.1.length + [r1].length ≤ lim then
     some (t4.1 ++ [r1], (w64 (t4.2.1 + 1), (t4.2.2.1, t4.2.2.2)))
    else none
  else
   some (t4.1, (w64 (t4.2.1 + 1), (t4.2.2.1, t4.2.2.2)))
 else
  (spec_l19Go_L8 rec fuel (t0, t1, t2, t3, (t4.1, (t4.2.1, (t4.2.2.1, t4.2.2.2))), ([], (0, (0, false))), (t3.length : Int), 0)).bind fun s2 =>
   some (s2.1.1, (s2.1.2.1, (s2.1.2.2.1, s2.1.2.2.2)))
def spec_l19Go : Nat → (Int × (List (List ((List Int) × Int × (List (List Int))))) × (List Int) × (List Int) × ((List (List Int)) × (Int × Int × Bool))) → Option (((List (List Int)) × (Int × Int × Bool)))
 | 0, _ => none
 | d + 1, x => spec_l19Go_body (spec_l19Go d) x.1 x.2.1 x.2.2.1 x.2.2.2.1 x.2.2.2.2
def spec_l19Find (net : Int × Int × (List ((List Int) × Int × (List (List Int))))) (list : List ((List Int) × Int × (List (List Int)))) (partial_ : List Int) (most : Int) (one : Bool) : Option (((List (List Int)) × (Int × Int × Bool))) :=
 (spec_l19Most net.1 list).bind fun r1 =>
  (spec_l19Go fuel (net.2.1, r1, partial_, [], ([], (0, (most, one))))).bind fun r2 =>
   some (r2.1, (r2.2.1, (r2.2.2.1, r2.2.2.2)))
def impl_newNetSearch_L7 : Nat → ((Int × ((List (List (List Int))) × (List (List (List ByteArray))))) × ((List Int) × Int × (List (List Int))) × Int × (List ((List Int) × Int × (List (List Int)))) × Int × Int × (List Int) × Int × Int) → Option ((Int × ((List (List (List Int))) × (List (List (List ByteArray))))) × ((List Int) × Int × (List (List Int))) × Int × (List ((List Int) × Int × (List (List Int)))) × Int × Int)
 | 0, _ => none
 | n + 1, (t3, t5, t6, t20, t21, t22, t27, t28, t29) =>
  if decide (t29 < t28) then
   if inb t29 t27 then
    impl_newNetSearch_L7 n ((t3.1, (t3.2.1, t3.2.2)), (t5.1, (t5.2.1, t5.2.2)), maxI t6 (gd t27 t29 0), t20, t21, t22, t27, t28, w64 (t29 + 1))
   else none
  else
   some ((t3.1, (t3.2.1, t3.2.2)), (t5.1, (t5.2.1, t5.2.2)), t6, t20, t21, t22)
def impl_newNetSearch_L3 : Nat → ((Int × ((List (List (List Int))) × (List (List (List ByteArray))))) × (List ((List Int) × Int × (List (List Int)))) × Int × Int) → Option ((Int × ((List (List (List Int))) × (List (List (List ByteArray))))))
 | 0, _ => none
 | n + 1, (t3, t20, t21, t22) =>
  if decide (t22 < t21) then
   if inb t22 t20 then
    (impl_newNetSearch_L7 fuel ((t3.1, (t3.2.1, t3.2.2)), ((gd t20 t22 ([], (0, []))).1, (((gd t20 t22 ([], (0, []))).2).1, ((gd t20 t22 ([], (0, []))).2).2)), 0, t20, t21, t22, (gd t20 t22 ([], (0, []))).1, (((gd t20 t22 ([], (0, []))).1).length : Int), 0)).bind fun s1 =>
     if inb s1.2.2.1 s1.1.2.1 then
      if (gd s1.1.2.1 s1.2.2.1 []).length + [s1.2.1.1].length ≤ lim then
       if inb s1.2.2.1 s1.1.2.1 then
        if s1.2.2.1 = s1.2.2.1 then
         if inb s1.2.2.1 s1.1.2.2 then
          (impl_tupleSet (s1.2.1.2.1, s1.2.1.2.2)).bind fun r2 =>
           if (gd s1.1.2.2 s1.2.2.1 []).length + [r2].length ≤ lim then
            if inb s1.2.2.1 s1.1.2.2 then
             if s1.2.2.1 = s1.2.2.1 then
              impl_newNetSearch_L3 n ((s1.1.1, (stt s1.1.2.1 s1.2.2.1 ((gd s1.1.2.1 s1.2.2.1 []) ++ [s1.2.1.1]), stt s1.1.2.2 s1.2.2.1 ((gd s1.1.2.2 s1.2.2.1 []) ++ [r2]))), s1.2.2.2.1, s1.2.2.2.2.1, w64 (s1.2.2.2.2.2 + 1))
             else none
            else none
           else none
         else none
        else none
       else none
      else none
     else none
   else none
  else
   some (t3.1, (t3.2.1, t3.2.2))
def impl_newNetSearch (t0 : Int × Int × (List ((List Int) × Int × (List (List Int))))) : Option ((Bool × Int × (List (List (List Int))) × (List (List (List ByteArray))))) :=
 if 0 ≤ t0.1 ∧ t0.1 ≤ t0.1 ∧ t0.1 ≤ lim then
  if 0 ≤ t0.1 ∧ t0.1 ≤ t0.1 ∧ t0.1 ≤ lim then
   (impl_newNetSearch_L3 fuel ((t0.2.1, (List.replicate (Int.toNat t0.1) ([] : List (List Int)), List.replicate (Int.toNat t0.1) ([] : List (List ByteArray)))), t0.2.2, (t0.2.2.length : Int), 0)).bind fun s1 =>
    some (true, (s1.1, (s1.2.1, s1.2.2)))
  else none
 else none
end T
open Go Go.Va
namespace T
abbrev NS := Bool × Int × List (List (List Int)) × List (List (List ByteArray))
abbrev NIn (σ : Type) := Int × List Int × σ × NS × List Int × Unit
abbrev NOut (σ : Type) := List Int × σ × NS × List Int × Bool
def hM {σ : Type} : Nat → (Int × List Int × σ × NS × List Int × Unit × Int × Bool × List (List Int) × Int × Int) → Option (Int × List Int × σ × NS × List Int × Unit × Int × Bool)
 | 0, _ => none
 | n + 1, (t0, t1, t2, t3, t4, t5, t8, t9, t50, t51, t52) =>
  if decide (t52 < t51) then
   if inb t52 t50 then
    if t9 then
     if t3.1 = true then
      if inb t0 t3.2.2.2 then
       if inb t52 (gd t3.2.2.2 t0 []) then
        (impl_compose (gd t50 t52 []) t1).bind fun r2 =>
         (impl_keyOf r2).bind fun r3 =>
          hM n (t0, t1, t2, t3, t4, (), t8, mhas (gd (gd t3.2.2.2 t0 []) t52 []) r3, t50, t51, w64 (t52 + 1))
       else none
      else none
     else none
    else
     hM n (t0, t1, t2, t3, t4, (), t8, false, t50, t51, w64 (t52 + 1))
   else none
  else
   some (t0, t1, t2, t3, t4, (), t8, t9)
def hL {σ : Type} (rec : NIn σ → Option (NOut σ)) : Nat → (Int × List Int × σ × NS × List Int × Unit × Int) → Option ((List Int × σ × NS × List Int × Unit) ⊕ (List Int × σ × NS × List Int × Unit × Bool))
 | 0, _ => none
 | n + 1, (t0, t1, t2, t3, t4, t5, t8) =>
  if t3.1 = true then
   if decide (t8 < t3.2.1) then
    if inb t0 t4 then
     if decide ((gd t4 t0 0) ≥ 0) then
      if inb t0 t4 then
       if (gd t4 t0 0) != t8 then
        hL rec n (t0, t1, t2, t3, t4, (), w64 (t8 + 1))
       else
        if inb t0 t1 then
         if t3.1 = true then
          if inb t0 t3.2.2.1 then
           (hM fuel (t0, stt t1 t0 t8, t2, t3, t4, (), t8, true, gd t3.2.2.1 t0 [], ((gd t3.2.2.1 t0 []).length : Int), 0)).bind fun s2 =>
            if s2.2.2.2.2.2.2.2 then
             (rec (w64 (s2.1 + 1), s2.2.1, s2.2.2.1, s2.2.2.2.1, s2.2.2.2.2.1, ())).bind fun r3 =>
              if !r3.2.2.2.2 then
               some (.inr (r3.1, r3.2.1, r3.2.2.1, r3.2.2.2.1, (), false))
              else
               hL rec n (s2.1, r3.1, r3.2.1, r3.2.2.1, r3.2.2.2.1, (), w64 (s2.2.2.2.2.2.2.1 + 1))
            else
             hL rec n (s2.1, s2.2.1, s2.2.2.1, s2.2.2.2.1, s2.2.2.2.2.1, (), w64 (s2.2.2.2.2.2.2.1 + 1))
          else none
         else none
        else none
      else none
     else
      if inb t0 t1 then
       if t3.1 = true then
        if inb t0 t3.2.2.1 then
         (hM fuel (t0, stt t1 t0 t8, t2, t3, t4, (), t8, true, gd t3.2.2.1 t0 [], ((gd t3.2.2.1 t0 []).length : Int), 0)).bind fun s4 =>
          if s4.2.2.2.2.2.2.2 then
           (rec (w64 (s4.1 + 1), s4.2.1, s4.2.2.1, s4.2.2.2.1, s4.2.2.2.2.1, ())).bind fun r5 =>
            if !r5.2.2.2.2 then
             some (.inr (r5.1, r5.2.1, r5.2.2.1, r5.2.2.2.1, (), false))
            else
             hL rec n (s4.1, r5.1, r5.2.1, r5.2.2.1, r5.2.2.2.1, (), w64 (s4.2.2.2.2.2.2.1 + 1))
          else
           hL rec n (s4.1, s4.2.1, s4.2.2.1, s4.2.2.2.1, s4.2.2.2.2.1, (), w64 (s4.2.2.2.2.2.2.1 + 1))
        else none
       else none
      else none
    else none
   else
    some (.inl (t1, t2, t3, t4, ()))
  else none
def hBody {σ : Type} (cb : List Int → σ → Option (σ × Bool)) (rec : NIn σ → Option (NOut σ)) (x : NIn σ) : Option (NOut σ) :=
 if x.1 == (x.2.1.length : Int) then
  (cb x.2.1 x.2.2.1).bind fun r1 => some (x.2.1, r1.1, x.2.2.2.1, x.2.2.2.2.1, r1.2)
 else
  (hL rec fuel (x.1, x.2.1, x.2.2.1, x.2.2.2.1, x.2.2.2.2.1, (), 0)).bind fun s2 =>
   match s2 with
   | .inl s3 => some (s3.1, s3.2.1, s3.2.2.1, s3.2.2.2.1, true)
   | .inr s4 => some (s4.1, s4.2.1, s4.2.2.1, s4.2.2.2.1, s4.2.2.2.2.2)
def hF {σ : Type} (cb : List Int → σ → Option (σ × Bool)) : Nat → NIn σ → Option (NOut σ)
 | 0, _ => none
 | d + 1, x => hBody cb (hF cb d) x
def mostC (c : Con) : Nat := c.1.foldl (fun m v => max m v.toNat) 0
def conAt (cs : List Con) (v : Nat) : List Con := cs.filter fun c => mostC c == v
def scopesN (cs : List Con) (V : Nat) : List (List (List Int)) := (List.range V).map fun v => (conAt cs v).map (·.1)
def setsN (cs : List Con) (V : Nat) : List (List (List ByteArray)) := (List.range V).map fun v => (conAt cs v).map fun c => keys c.2.2
def okN (cs : List Con) (pre : List Int) : Bool := (conAt cs (pre.length - 1)).all (conH pre)
theorem max_fold : ∀ (l : List Int) (m : Nat), m ≤ l.foldl (fun m v => max m v.toNat) m ∧ (∀ v ∈ l, v.toNat ≤ l.foldl (fun m v => max m v.toNat) m) ∧ ∀ B, m ≤ B → (∀ v ∈ l, v.toNat ≤ B) → l.foldl (fun m v => max m v.toNat) m ≤ B
 | [], m => ⟨Nat.le_refl _, by simp, fun B h _ => h⟩
 | v :: l, m => by
  obtain ⟨h1, h2, h3⟩ := max_fold l (max m v.toNat)
  simp only [List.foldl_cons]
  refine ⟨by omega, fun w hw => ?_, fun B h h' => h3 B (by have := h' v (List.mem_cons_self ..); omega) fun w hw => h' w (List.mem_cons_of_mem _ hw)⟩
  rcases List.mem_cons.1 hw with rfl | hw
  ·omega
  ·exact h2 w hw
section
variable {V n : Nat} {cs : List Con} {given : List Int}
structure SrchOk (V n : Nat) (cs : List Con) : Prop where
 hv : V ≤ 9
 hn : 1 ≤ n ∧ n ≤ 4
 hc : cs.length ≤ 40
 con : ∀ c ∈ cs, ConOk (V : Int) (n : Int) c
theorem mem_conAt {c : Con} {v : Nat} : c ∈ conAt cs v ↔ c ∈ cs ∧ mostC c = v := by simp [conAt]
theorem conAt_ok (h : SrchOk V n cs) {v : Nat} {c : Con} (hc : c ∈ conAt cs v) : ConOk ((v + 1 : Nat) : Int) (n : Int) c ∧ v < V := by
 obtain ⟨h1, h2⟩ := mem_conAt.1 hc
 have hk := h.con c h1
 obtain ⟨_, g2, g3⟩ := max_fold c.1 0
 have hv : v < V := by
  have hm := hk.ar
  have hsl := hk.sl
  have h0 := hk.sv 0 (by omega)
  have := g3 (V - 1) (by omega) fun w hw => by
   obtain ⟨i, hi, rfl⟩ := List.mem_iff_getElem.1 hw
   have := hk.sv i hi
   omega
  have : mostC c ≤ V - 1 := this
  omega
 refine ⟨⟨hk.ar, hk.sl, fun i hi => ?_, hk.tl, hk.tv, hk.inc, hk.many⟩, hv⟩
 have h3 := hk.sv i hi
 have h4 := g2 _ (List.getElem_mem hi)
 have h4 : (c.1[i]).toNat ≤ mostC c := h4
 omega
theorem conH_take (h : SrchOk V n cs) {v : Nat} {c : Con} (hc : c ∈ conAt cs v) (tab : List Int) : conH (tab.take (v + 1)) c = conH tab c := by
 have hk := (conAt_ok h hc).1
 unfold conH
 have : c.1.map (valI (tab.take (v + 1))) = c.1.map (valI tab) := List.map_congr_left fun x hx => by
  obtain ⟨i, hi, rfl⟩ := List.mem_iff_getElem.1 hx
  have := hk.sv i hi
  unfold valI
  rw [List.getD_eq_getElem?_getD, List.getD_eq_getElem?_getD, List.getElem?_take, if_pos (by omega)]
 rw [this]
theorem okN_take (h : SrchOk V n cs) {v : Nat} {tab : List Int} (hv : v < tab.length) : okN cs (tab.take (v + 1)) = (conAt cs v).all (conH tab) := by
 unfold okN
 rw [List.length_take, show min (v + 1) tab.length - 1 = v by omega, Bool.eq_iff_iff, List.all_eq_true, List.all_eq_true]
 exact ⟨fun g c hc => by rw [← conH_take h hc]; exact g c hc, fun g c hc => by rw [conH_take h hc]; exact g c hc⟩
theorem scopesN_get {v : Nat} (hv : v < V) : (scopesN cs V).length = V ∧ (scopesN cs V).getD v [] = (conAt cs v).map (·.1) := by
 refine ⟨by simp [scopesN], ?_⟩
 rw [getD_of (by simp [scopesN]; exact hv)]; simp [scopesN]
theorem setsN_get {v : Nat} (hv : v < V) : (setsN cs V).length = V ∧ (setsN cs V).getD v [] = (conAt cs v).map fun c => keys c.2.2 := by
 refine ⟨by simp [setsN], ?_⟩
 rw [getD_of (by simp [setsN]; exact hv)]; simp [setsN]
theorem hM_ok (h : SrchOk V n cs) {v : Nat} (hv : v < V) {tab : List Int} (ht : tab.length = V) (htv : ∀ x ∈ tab, 0 ≤ x ∧ x < 256) {σ : Type} (s : σ) (x : Int) :
    hM fuel ((v : Int), tab, s, (true, ((n : Int), (scopesN cs V, setsN cs V))), given, (), x, true, gd (scopesN cs V) (v : Int) [], ((gd (scopesN cs V) (v : Int) []).length : Int), 0) =
      some ((v : Int), tab, s, (true, ((n : Int), (scopesN cs V, setsN cs V))), given, (), x, okN cs (tab.take (v + 1))) := by
  obtain ⟨l1, e1⟩ := scopesN_get (cs := cs) hv
  obtain ⟨l2, e2⟩ := setsN_get (cs := cs) hv
  have hn := h.hn
  have hg1 : gd (scopesN cs V) (v : Int) [] = (conAt cs v).map (·.1) := e1
  have hg2 : gd (setsN cs V) (v : Int) [] = (conAt cs v).map fun c => keys c.2.2 := e2
  rw [okN_take h (by omega), hg1]
  have hlen : (conAt cs v).length ≤ 40 := Nat.le_trans (List.length_filter_le _ _) h.hc
  have := forS (conAt cs v).length (fun f (o : Bool) i => hM f ((v : Int), tab, s, (true, ((n : Int), (scopesN cs V, setsN cs V))), given, (), x, o, (conAt cs v).map (·.1), (((conAt cs v).map (·.1)).length : Int), i)) (fun k => ((conAt cs v).take k).all (conH tab)) (r := some ((v : Int), tab, s, (true, ((n : Int), (scopesN cs V, setsN cs V))), given, (), x, (conAt cs v).all (conH tab))) (fun f k hk => ?_) (fun f => ?_) (n := fuel) (by unfold fuel; omega)
  · exact this
  · have hmem := List.getElem_mem hk
    have hcon := (conAt_ok h hmem).1
    have hsl := hcon.sl
    have har := hcon.ar
    have hmany := hcon.many
    have hin : inb (k : Int) ((conAt cs v).map (·.1)) := by unfold inb; rw [List.length_map]; omega
    have hgk : gd ((conAt cs v).map (·.1)) (k : Int) [] = (conAt cs v)[k].1 := by
      have := gd_nat (xs := (conAt cs v).map (·.1)) (d := []) (k := k) (by simpa using hk)
      rw [this]; simp
    have hin2 : inb (k : Int) ((conAt cs v).map fun c => keys c.2.2) := by unfold inb; rw [List.length_map]; omega
    have hgk2 : gd ((conAt cs v).map fun c => keys c.2.2) (k : Int) [] = keys (conAt cs v)[k].2.2 := by
      have := gd_nat (xs := (conAt cs v).map fun c => keys c.2.2) (d := []) (k := k) (by simpa using hk)
      rw [this]; simp
    have hsc : ∀ y ∈ (conAt cs v)[k].1, 0 ≤ y ∧ y < tab.length := fun y hy => by
      obtain ⟨i, hi, rfl⟩ := List.mem_iff_getElem.1 hy
      have := hcon.sv i hi
      omega
    have hc := impl_compose_ok (f := (conAt cs v)[k].1) (g := tab) (by omega) hsc
    have hval : ∀ y ∈ (conAt cs v)[k].1.map (valI tab), 0 ≤ y ∧ y < 256 := fun y hy => by
      obtain ⟨z, hz, rfl⟩ := List.mem_map.1 hy
      have := hsc z hz
      exact htv _ (getD_mem (by omega))
    have hk2 := impl_keyOf_ok (l := (conAt cs v)[k].1.map (valI tab)) (by rw [List.length_map]; omega) hval
    have hmk := mhas_keys (l := (conAt cs v)[k].2.2) (t := (conAt cs v)[k].1.map (valI tab)) (fun t ht y hy => by
      obtain ⟨i, hi, rfl⟩ := List.mem_iff_getElem.1 hy
      have := hcon.tv t ht i hi
      omega) hval
    have hiv : inb (v : Int) (setsN cs V) := by unfold inb; omega
    have htk : ((conAt cs v).take (k + 1)).all (conH tab) = (((conAt cs v).take k).all (conH tab) && conH tab (conAt cs v)[k]) := by
      rw [List.take_succ_eq_append_getElem hk, List.all_append]; simp
    simp only [hM, hin, hgk, hc, hk2, hiv, hg2, hin2, hgk2, hmk, Option.bind_some, w64_succ (show k < 4611686018427387904 by omega), htk, if_true]
    rw [if_pos (by simp; omega)]
    cases ((conAt cs v).take k).all (conH tab) with
    | false => simp
    | true => simp [conH]
  · simp only [hM, List.take_length]
    rw [if_neg (by simp)]
end
end T
open Go Go.Va
namespace T
section
variable {V n : Nat} {cs : List Con} {given : List Int}
abbrev nsOf (V n : Nat) (cs : List Con) : NS := (true, ((n : Int), (scopesN cs V, setsN cs V)))
theorem hF_ok (h : SrchOk V n cs) (hg : given.length = V) {σ : Type} (cb : List Int → σ → Option (σ × Bool)) : ∀ (m d at' : Nat) (tab : List Int) (s : σ), at' + m = V → m < d → tab.length = V → (∀ x ∈ tab, 0 ≤ x ∧ x < 256) →
    ∀ s' b, foldU cb (extL n given (okN cs) m (tab.take at')) s = some (s', b) →
    ∃ tab' : List Int, tab'.length = V ∧ (∀ x ∈ tab', 0 ≤ x ∧ x < 256) ∧ tab'.take at' = tab.take at' ∧ hF cb d ((at' : Int), tab, s, nsOf V n cs, given, ()) = some (tab', s', nsOf V n cs, given, b) := by
  have hn := h.hn
  have hV := h.hv
  intro m
  induction m with
  | zero =>
    intro d a tab s ha hd ht hv s' b hf
    obtain ⟨d, rfl⟩ : ∃ z, d = z + 1 := ⟨d - 1, by omega⟩
    have e : tab.take a = tab := List.take_of_length_le (by omega)
    rw [e] at hf
    simp only [extL, foldU] at hf
    refine ⟨tab, ht, hv, rfl, ?_⟩
    simp only [hF, hBody]
    rw [if_pos (by simp; omega)]
    cases hc : cb tab s with
    | none => rw [hc] at hf; exact absurd hf (by simp)
    | some q =>
      obtain ⟨s1, b1⟩ := q
      rw [hc] at hf
      have : s1 = s' ∧ b1 = b := by cases b1 <;> simpa using hf
      obtain ⟨rfl, rfl⟩ := this
      rfl
  | succ m ih =>
    intro d a tab s ha hd ht hv s' b hf
    obtain ⟨d, rfl⟩ : ∃ z, d = z + 1 := ⟨d - 1, by omega⟩
    have hat : a < V := by omega
    have key : ∀ (c x f : Nat) (tab1 : List Int) (s1 : σ), x + c = n → c < f → tab1.length = V → (∀ x ∈ tab1, 0 ≤ x ∧ x < 256) → tab1.take a = tab.take a → ∀ s' b,
        foldU cb ((List.range' x c).flatMap fun x => if mstB given (tab.take a).length x && okN cs (tab.take a ++ [(x : Int)]) then extL n given (okN cs) m (tab.take a ++ [(x : Int)]) else []) s1 = some (s', b) →
        ∃ tab' : List Int, tab'.length = V ∧ (∀ x ∈ tab', 0 ≤ x ∧ x < 256) ∧ tab'.take a = tab.take a ∧ hL (hF cb d) f ((a : Int), tab1, s1, nsOf V n cs, given, (), (x : Int)) = some (if b then .inl (tab', s', nsOf V n cs, given, ()) else .inr (tab', s', nsOf V n cs, given, (), false)) := by
      intro c
      induction c with
      | zero =>
        intro x f tab1 s1 hx hf1 ht1 hv1 htk s' b hf2
        obtain ⟨f, rfl⟩ : ∃ z, f = z + 1 := ⟨f - 1, by omega⟩
        have : s1 = s' ∧ true = b := by simpa [foldU] using hf2
        obtain ⟨rfl, rfl⟩ := this
        refine ⟨tab1, ht1, hv1, htk, ?_⟩
        simp only [hL]
        rw [if_pos trivial, if_neg (by simp; omega)]; rfl
      | succ c ihc =>
        intro x f tab1 s1 hx hf1 ht1 hv1 htk s' b hf2
        obtain ⟨f, rfl⟩ : ∃ z, f = z + 1 := ⟨f - 1, by omega⟩
        have hlen : (tab.take a).length = a := by rw [List.length_take]; omega
        have hag : a < given.length := by omega
        have hat1 : a < tab1.length := by omega
        have hsc : a < (scopesN cs V).length := by rw [(scopesN_get (cs := cs) hat).1]; exact hat
        rw [List.range'_succ, List.flatMap_cons, foldU_append, hlen] at hf2
        rw [hlen] at ihc
        have hset : (tab1.set a (x : Int)).take (a + 1) = tab.take a ++ [(x : Int)] := by
          rw [List.take_succ_eq_append_getElem (by simp; omega), List.take_set_of_le (Nat.le_refl _), List.getElem_set_self, htk]
        have hsl : (tab1.set a (x : Int)).length = V := by simp [ht1]
        have hsv : ∀ y ∈ tab1.set a (x : Int), 0 ≤ y ∧ y < 256 := fun y hy => by
          rcases List.mem_or_eq_of_mem_set hy with h1 | h1
          · exact hv1 y h1
          · subst h1; omega
        have hst : (tab1.set a (x : Int)).take a = tab.take a := by rw [List.take_set_of_le (Nat.le_refl _), htk]
        have hfit := hM_ok (given := given) h hat hsl hsv s1 (x : Int)
        rw [hset] at hfit
        have hw : w64 ((x : Int) + 1) = ((x + 1 : Nat) : Int) := w64_succ (by omega)
        have hwa : w64 ((a : Int) + 1) = ((a + 1 : Nat) : Int) := w64_succ (by omega)
        have step : mstB given a x = true → ∀ R, R = (hM fuel ((a : Int), tab1.set a (x : Int), s1, nsOf V n cs, given, (), (x : Int), true, gd (scopesN cs V) (a : Int) [], ((gd (scopesN cs V) (a : Int) []).length : Int), 0)).bind (fun s4 =>
                if s4.2.2.2.2.2.2.2 then
                  (hF cb d (w64 (s4.1 + 1), s4.2.1, s4.2.2.1, s4.2.2.2.1, s4.2.2.2.2.1, ())).bind fun r5 =>
                    if !r5.2.2.2.2 then
                      some (.inr (r5.1, r5.2.1, r5.2.2.1, r5.2.2.2.1, (), false))
                    else
                      hL (hF cb d) f (s4.1, r5.1, r5.2.1, r5.2.2.1, r5.2.2.2.1, (), w64 (s4.2.2.2.2.2.2.1 + 1))
                else
                  hL (hF cb d) f (s4.1, s4.2.1, s4.2.2.1, s4.2.2.2.1, s4.2.2.2.2.1, (), w64 (s4.2.2.2.2.2.2.1 + 1))) →
            ∃ tab' : List Int, tab'.length = V ∧ (∀ x ∈ tab', 0 ≤ x ∧ x < 256) ∧ tab'.take a = tab.take a ∧ R = some (if b then .inl (tab', s', nsOf V n cs, given, ()) else .inr (tab', s', nsOf V n cs, given, (), false)) := by
          intro hm R hR
          rw [hfit] at hR
          simp only [Option.bind_some] at hR
          rw [hm] at hf2
          cases hfi : okN cs (tab.take a ++ [(x : Int)]) with
          | false =>
            rw [hfi] at hf2 hR
            simp only [Bool.and_false, Bool.false_eq_true, if_false, foldU] at hf2 hR
            rw [hw] at hR
            rw [hR]
            exact ihc (x + 1) f _ s1 (by omega) (by omega) hsl hsv hst s' b hf2
          | true =>
            rw [hfi] at hf2 hR
            simp only [Bool.and_true, if_true] at hf2 hR
            rw [hwa] at hR
            cases hq : foldU cb (extL n given (okN cs) m (tab.take a ++ [(x : Int)])) s1 with
            | none => rw [hq] at hf2; exact absurd hf2 (by simp)
            | some q =>
              obtain ⟨s2, b2⟩ := q
              rw [hq] at hf2
              rw [← hset] at hq
              obtain ⟨tab2, h1, h2, h3, h4⟩ := ih d (a + 1) _ s1 (by omega) (by omega) hsl hsv s2 b2 hq
              have h3' : tab2.take a = tab.take a := by
                have := congrArg (List.take a) h3
                rw [List.take_take, List.take_take, Nat.min_eq_left (by omega)] at this
                rw [this, hst]
              rw [h4] at hR
              simp only [Option.bind_some] at hR
              cases b2 with
              | false =>
                have : s2 = s' ∧ false = b := by simpa using hf2
                obtain ⟨rfl, rfl⟩ := this
                refine ⟨tab2, h1, h2, h3', ?_⟩
                rw [hR]; rfl
              | true =>
                simp only [Bool.not_true, Bool.false_eq_true, if_false, hw] at hR
                rw [hR]
                exact ihc (x + 1) f tab2 s2 (by omega) (by omega) h1 h2 h3' s' b hf2
        simp only [hL, stt_nat, inb_nat, hag, hat1, hsc, if_true]
        rw [if_pos (by simp; omega)]
        by_cases hc1 : gd given (a : Int) 0 ≥ 0
        · rw [if_pos (decide_eq_true hc1)]
          by_cases hc2 : gd given (a : Int) 0 = (x : Int)
          · rw [if_neg (by simpa using hc2)]
            exact step (by unfold mstB; rw [show given.getD a 0 = (x : Int) from hc2]; simp) _ rfl
          · rw [if_pos (by simpa using hc2), hw]
            have hm : mstB given a x = false := by
              unfold mstB
              rw [decide_eq_true (show given.getD a 0 ≥ 0 from hc1)]
              simp only [Bool.true_and, Bool.not_eq_false', bne_iff_ne]; exact hc2
            rw [hm] at hf2
            simp only [Bool.false_and, Bool.false_eq_true, if_false, foldU] at hf2
            exact ihc (x + 1) f tab1 s1 (by omega) (by omega) ht1 hv1 htk s' b hf2
        · rw [if_neg (by simpa using hc1)]
          exact step (by unfold mstB; rw [decide_eq_false (show ¬ given.getD a 0 ≥ 0 from hc1)]; rfl) _ rfl
    simp only [extL] at hf
    rw [List.range_eq_range'] at hf
    obtain ⟨tab', h1, h2, h3, h4⟩ := key n 0 fuel tab s (by omega) (by unfold fuel; omega) ht hv rfl s' b hf
    refine ⟨tab', h1, h2, h3, ?_⟩
    simp only [hF, hBody]
    rw [if_neg (by simp; omega)]
    have h4 : hL (hF cb d) fuel ((a : Int), tab, s, nsOf V n cs, given, (), 0) = _ := h4
    rw [h4]
    cases b <;> rfl
def solsN (V n : Nat) (cs : List Con) (given : List Int) : List (List Int) := extL n given (okN cs) V []
theorem maxI_of {a b : Nat} {x : Int} (hx : x = (b : Int)) : maxI (a : Int) x = ((max a b : Nat) : Int) := by
 subst hx; unfold maxI; split <;> omega
theorem newNet_ok (h : SrchOk V n cs) : impl_newNetSearch ((V : Int), ((n : Int), cs)) = some (nsOf V n cs) := by
 have hV := h.hv
 have hc := h.hc
 unfold impl_newNetSearch
 have h3 := forS cs.length (fun f (o : Int × (List (List (List Int)) × List (List (List ByteArray)))) i => impl_newNetSearch_L3 f (o, cs, (cs.length : Int), i)) (fun k => ((n : Int), (scopesN (cs.take k) V, setsN (cs.take k) V))) (r := some ((n : Int), (scopesN cs V, setsN cs V))) (fun f k hk => ?_) (fun f => ?_) (n := fuel) (by unfold fuel; omega)
 ·have e1 : scopesN (cs.take 0) V = List.replicate V [] := by
   unfold scopesN conAt; simp [List.map_const']
  have e2 : setsN (cs.take 0) V = List.replicate V [] := by
   unfold setsN conAt; simp [List.map_const']
  rw [e1, e2] at h3
  have h3 : impl_newNetSearch_L3 fuel (((n : Int), (List.replicate (Int.toNat (V : Int)) ([] : List (List Int)), List.replicate (Int.toNat (V : Int)) ([] : List (List ByteArray)))), cs, (cs.length : Int), 0) = _ := h3
  rw [if_pos (by unfold lim; omega), if_pos (by unfold lim; omega), h3]; rfl
 ·have hcon := h.con _ (List.getElem_mem hk)
  have hsl := hcon.sl
  have har := hcon.ar
  have hmany := hcon.many
  have h7 := forS cs[k].1.length (fun f (o : Int) i => impl_newNetSearch_L7 f (((n : Int), (scopesN (cs.take k) V, setsN (cs.take k) V)), cs[k], o, cs, (cs.length : Int), (k : Int), cs[k].1, (cs[k].1.length : Int), i)) (fun j => (((cs[k].1.take j).foldl (fun m v => max m v.toNat) 0 : Nat) : Int)) (r := some (((n : Int), (scopesN (cs.take k) V, setsN (cs.take k) V)), cs[k], (mostC cs[k] : Int), cs, (cs.length : Int), (k : Int))) (fun f j hj => ?_) (fun f => ?_) (n := fuel) (by unfold fuel; omega)
  ·have hm : mostC cs[k] < V := (conAt_ok h (mem_conAt.2 ⟨List.getElem_mem hk, rfl⟩)).2
   have h7 : impl_newNetSearch_L7 fuel (((n : Int), (scopesN (cs.take k) V, setsN (cs.take k) V)), (cs[k].1, (cs[k].2.1, cs[k].2.2)), 0, cs, (cs.length : Int), (k : Int), cs[k].1, (cs[k].1.length : Int), 0) = _ := h7
   obtain ⟨l1, e1⟩ := scopesN_get (cs := cs.take k) hm
   obtain ⟨l2, e2⟩ := setsN_get (cs := cs.take k) hm
   have hi1 : inb (mostC cs[k] : Int) (scopesN (cs.take k) V) := by unfold inb; omega
   have hi2 : inb (mostC cs[k] : Int) (setsN (cs.take k) V) := by unfold inb; omega
   have g1 : gd (scopesN (cs.take k) V) (mostC cs[k] : Int) [] = (conAt (cs.take k) (mostC cs[k])).map (·.1) := e1
   have g2 : gd (setsN (cs.take k) V) (mostC cs[k] : Int) [] = (conAt (cs.take k) (mostC cs[k])).map fun c => keys c.2.2 := e2
   have hts := impl_tupleSet_ok (r := (cs[k].2.1, cs[k].2.2)) (show cs[k].2.2.length ≤ 1048576 by omega) (fun t ht => ⟨by have := hcon.tl t ht; omega, fun y hy => by
    obtain ⟨i, hi, rfl⟩ := List.mem_iff_getElem.1 hy
    have := hcon.tv t ht i hi
    have := h.hn
    omega⟩)
   have hcl : (conAt (cs.take k) (mostC cs[k])).length ≤ 40 := Nat.le_trans (List.length_filter_le _ _) (by rw [List.length_take]; omega)
   have hca : ∀ v, conAt (cs.take (k + 1)) v = conAt (cs.take k) v ++ (if mostC cs[k] = v then [cs[k]] else []) := fun v => by
    unfold conAt
    rw [List.take_succ_eq_append_getElem hk, List.filter_append]
    congr 1
    by_cases e : mostC cs[k] = v <;> simp [e]
   have s1 : (scopesN (cs.take k) V).set (mostC cs[k]) ((conAt (cs.take k) (mostC cs[k])).map (·.1) ++ [cs[k].1]) = scopesN (cs.take (k + 1)) V := by
    apply List.ext_getElem
    ·simp [scopesN]
    ·intro v h1 h2
     rw [List.getElem_set]
     simp only [scopesN, List.getElem_map, List.getElem_range, hca, List.map_append]
     by_cases e : mostC cs[k] = v
     ·rw [if_pos e, if_pos e, ← e]; rfl
     ·rw [if_neg e, if_neg e]; simp
   have s2 : (setsN (cs.take k) V).set (mostC cs[k]) ((conAt (cs.take k) (mostC cs[k])).map (fun c => keys c.2.2) ++ [keys cs[k].2.2]) = setsN (cs.take (k + 1)) V := by
    apply List.ext_getElem
    ·simp [setsN]
    ·intro v h1 h2
     rw [List.getElem_set]
     simp only [setsN, List.getElem_map, List.getElem_range, hca, List.map_append]
     by_cases e : mostC cs[k] = v
     ·rw [if_pos e, if_pos e, ← e]; rfl
     ·rw [if_neg e, if_neg e]; simp
   simp only [impl_newNetSearch_L3, inb_nat, hk, gd_nat hk, h7, Option.bind_some, if_true, inb_nat.1 hi1, inb_nat.1 hi2, g1, g2, hts, stt_nat, s1, s2, w64_succ (show k < 4611686018427387904 by omega)]
   rw [if_pos (by simp; omega), if_pos (by simp; unfold lim; omega), if_pos (by simp; unfold lim; omega)]
  ·have hj' := hcon.sv j hj
   have e := maxI_of (a := (cs[k].1.take j).foldl (fun m v => max m v.toNat) 0) (b := (cs[k].1[j]).toNat) (x := cs[k].1[j]) (by omega)
   have e2 : (cs[k].1.take (j + 1)).foldl (fun m v => max m v.toNat) 0 = max ((cs[k].1.take j).foldl (fun m v => max m v.toNat) 0) (cs[k].1[j]).toNat := by
    rw [List.take_succ_eq_append_getElem hj, List.foldl_append]; rfl
   simp only [impl_newNetSearch_L7, inb_nat, hj, gd_nat hj, e, e2, if_true, w64_succ (show j < 4611686018427387904 by omega)]
   rw [if_pos (by simp; omega)]
  ·simp only [impl_newNetSearch_L7, List.take_length]
   rw [if_neg (by simp)]; rfl
 ·simp only [impl_newNetSearch_L3, List.take_length]
  rw [if_neg (by simp)]
end
end T
open Go Go.Va
namespace T
abbrev S19 := List (List Int) × Int × Int × Bool
def stopN (s : S19) : Bool := s.2.2.2 && decide (s.2.1 > 0)
def sCbN (t : List Int) (s : S19) : Option (S19 × Bool) :=
 let s' : S19 := (if decide ((s.1.length : Int) < s.2.2.1) then s.1 ++ [t] else s.1, s.2.1 + 1, s.2.2.1, s.2.2.2)
 some (s', !stopN s')
theorem foldN_cnt : ∀ (l : List (List Int)) (s s' : S19) (b : Bool), foldU sCbN l s = some (s', b) → s.2.1 ≤ s'.2.1 ∧ s'.2.1 ≤ s.2.1 + l.length ∧ s'.1.length ≤ s.1.length + l.length ∧ s'.2.2 = s.2.2 ∧ (stopN s = false → b = !stopN s')
 | [], s, s', b, h => by
  have : s = s' ∧ true = b := by simpa [foldU] using h
  obtain ⟨rfl, rfl⟩ := this
  exact ⟨by omega, by simp, by simp, rfl, fun h => by simp [h]⟩
 | t :: l, s, s', b, h => by
  simp only [foldU, sCbN] at h
  generalize hs1 : ((if decide ((s.1.length : Int) < s.2.2.1) then s.1 ++ [t] else s.1, s.2.1 + 1, s.2.2.1, s.2.2.2) : S19) = s1 at h
  have h1 : s1.2.1 = s.2.1 + 1 := by rw [← hs1]
  have h2 : s1.1.length ≤ s.1.length + 1 := by
   rw [← hs1]
   show (if decide ((s.1.length : Int) < s.2.2.1) then s.1 ++ [t] else s.1).length ≤ _
   split <;> simp
  have h3 : s1.2.2 = s.2.2 := by rw [← hs1]
  cases hb : stopN s1 with
  | true =>
   rw [hb] at h
   have : s1 = s' ∧ false = b := by simpa using h
   obtain ⟨rfl, rfl⟩ := this
   rw [List.length_cons]
   exact ⟨by omega, by omega, by omega, h3, fun _ => by rw [hb]; rfl⟩
  | false =>
   rw [hb] at h
   obtain ⟨g1, g2, g3, g4, g5⟩ := foldN_cnt l s1 s' b h
   rw [List.length_cons]
   exact ⟨by omega, by push_cast; omega, by omega, g4.trans h3, fun _ => g5 hb⟩
theorem foldN_tot : ∀ (l : List (List Int)) (s : S19), ∃ q, foldU sCbN l s = some q
 | [], s => ⟨_, rfl⟩
 | t :: l, s => by
  simp only [foldU, sCbN]
  generalize ((if decide ((s.1.length : Int) < s.2.2.1) then s.1 ++ [t] else s.1, s.2.1 + 1, s.2.2.1, s.2.2.2) : S19) = s1
  cases hb : stopN s1 with
  | true => exact ⟨_, rfl⟩
  | false => exact foldN_tot l s1
section
variable {V n : Nat} {cs : List Con} {given : List Int}
def atN (cs : List Con) (V : Nat) : List (List Con) := (List.range V).map (conAt cs)
theorem atN_get {v : Nat} (hv : v < V) : (atN cs V).length = V ∧ (atN cs V).getD v [] = conAt cs v := by
 refine ⟨by simp [atN], ?_⟩
 rw [getD_of (by simp [atN]; exact hv)]; simp [atN]
theorem most_ok (h : SrchOk V n cs) : spec_l19Most (V : Int) cs = some (atN cs V) := by
 have hV := h.hv
 have hc := h.hc
 unfold spec_l19Most
 rw [if_pos (by unfold lim; omega)]
 have h3 := forS cs.length (fun f (o : List (List Con)) i => spec_l19Most_L3 f (cs, o, i)) (fun k => atN (cs.take k) V) (r := some (atN cs V)) (fun f k hk => ?_) (fun f => ?_) (n := fuel) (by unfold fuel; omega)
 ·have e1 : atN (cs.take 0) V = List.replicate V [] := by
   unfold atN
   have : conAt (cs.take 0) = fun _ => [] := by funext v; simp [conAt]
   rw [this]; simp [List.map_const']
  rw [e1] at h3
  have h3 : spec_l19Most_L3 fuel (cs, List.replicate (Int.toNat (V : Int)) ([] : List Con), 0) = _ := h3
  rw [h3]; rfl
 ·have hcon := h.con _ (List.getElem_mem hk)
  have hsl := hcon.sl
  have har := hcon.ar
  have h7 := forS cs[k].1.length (fun f (o : Int) i => spec_l19Most_L7 f (cs, atN (cs.take k) V, (k : Int), o, i)) (fun j => (((cs[k].1.take j).foldl (fun m v => max m v.toNat) 0 : Nat) : Int)) (r := some (cs, atN (cs.take k) V, (k : Int), (mostC cs[k] : Int))) (fun f j hj => ?_) (fun f => ?_) (n := fuel) (by unfold fuel; omega)
  ·have hm : mostC cs[k] < V := (conAt_ok h (mem_conAt.2 ⟨List.getElem_mem hk, rfl⟩)).2
   have h7 : spec_l19Most_L7 fuel (cs, atN (cs.take k) V, (k : Int), 0, 0) = _ := h7
   obtain ⟨l1, e1⟩ := atN_get (cs := cs.take k) hm
   have hi1 : inb (mostC cs[k] : Int) (atN (cs.take k) V) := by unfold inb; omega
   have g1 : gd (atN (cs.take k) V) (mostC cs[k] : Int) [] = conAt (cs.take k) (mostC cs[k]) := e1
   have hcl : (conAt (cs.take k) (mostC cs[k])).length ≤ 40 := Nat.le_trans (List.length_filter_le _ _) (by rw [List.length_take]; omega)
   have hca : ∀ v, conAt (cs.take (k + 1)) v = conAt (cs.take k) v ++ (if mostC cs[k] = v then [cs[k]] else []) := fun v => by
    unfold conAt
    rw [List.take_succ_eq_append_getElem hk, List.filter_append]
    congr 1
    by_cases e : mostC cs[k] = v <;> simp [e]
   have s1 : (atN (cs.take k) V).set (mostC cs[k]) (conAt (cs.take k) (mostC cs[k]) ++ [cs[k]]) = atN (cs.take (k + 1)) V := by
    apply List.ext_getElem
    ·simp [atN]
    ·intro v h1 h2
     rw [List.getElem_set]
     simp only [atN, List.getElem_map, List.getElem_range, hca]
     by_cases e : mostC cs[k] = v
     ·rw [if_pos e, if_pos e, ← e]
     ·rw [if_neg e, if_neg e]; simp
   simp only [spec_l19Most_L3, inb_nat, hk, gd_nat hk, h7, Option.bind_some, if_true, inb_nat.1 hi1, g1, stt_nat, s1, w64_succ (show k < 4611686018427387904 by omega)]
   rw [if_pos (by simp; omega), if_pos (by simp; unfold lim; omega)]
  ·have hj' := hcon.sv j hj
   have hjx : cs[k].1[j] = (((cs[k].1[j]).toNat : Nat) : Int) := by omega
   have e2 : (cs[k].1.take (j + 1)).foldl (fun m v => max m v.toNat) 0 = max ((cs[k].1.take j).foldl (fun m v => max m v.toNat) 0) (cs[k].1[j]).toNat := by
    rw [List.take_succ_eq_append_getElem hj, List.foldl_append]; rfl
   have e : spec_l1Most (((cs[k].1.take j).foldl (fun m v => max m v.toNat) 0 : Nat) : Int) cs[k].1[j] = some ((max ((cs[k].1.take j).foldl (fun m v => max m v.toNat) 0) (cs[k].1[j]).toNat : Nat) : Int) := by
    rw [hjx]; exact spec_l1Most_nat _ _
   simp only [spec_l19Most_L7, inb_nat, hk, gd_nat hk, hj, gd_nat hj, e, e2, if_true, Option.bind_some, w64_succ (show j < 4611686018427387904 by omega)]
   rw [if_pos (by simp; omega)]
  ·simp only [spec_l19Most_L7, inb_nat, hk, gd_nat hk, List.take_length, if_true]
   rw [if_neg (by simp)]; rfl
 ·simp only [spec_l19Most_L3, List.take_length]
  rw [if_neg (by simp)]
theorem good_ok (h : SrchOk V n cs) (rec : Int × List (List Con) × List Int × List Int × S19 → Option S19) {v : Nat} (hv : v < V) {next : List Int} (hl : next.length = v + 1) {pre : List Int} {s s0 : S19} {x : Int} :
    spec_l19Go_L14 rec fuel ((n : Int), atN cs V, given, pre, s, s0, (v : Int), x, next, true, 0) = some ((n : Int), atN cs V, given, pre, s, s0, (v : Int), x, next, okN cs next) := by
  obtain ⟨l1, e1⟩ := atN_get (cs := cs) hv
  have hiv : inb (v : Int) (atN cs V) := by unfold inb; omega
  have hg : gd (atN cs V) (v : Int) [] = conAt cs v := e1
  have hcl : (conAt cs v).length ≤ 40 := Nat.le_trans (List.length_filter_le _ _) h.hc
  have key : ∀ (d k f : Nat) (g : Bool), k + d = (conAt cs v).length → d < f → spec_l19Go_L14 rec f ((n : Int), atN cs V, given, pre, s, s0, (v : Int), x, next, g, (k : Int)) = some ((n : Int), atN cs V, given, pre, s, s0, (v : Int), x, next, g && ((conAt cs v).drop k).all (conH next)) := by
    intro d
    induction d with
    | zero =>
      intro k f g hk hf
      obtain ⟨f, rfl⟩ : ∃ z, f = z + 1 := ⟨f - 1, by omega⟩
      have : k = (conAt cs v).length := by omega
      subst this
      simp only [spec_l19Go_L14, hiv, hg, if_true, List.drop_length]
      rw [if_neg (by simp)]; simp
    | succ d ih =>
      intro k f g hk hf
      obtain ⟨f, rfl⟩ : ∃ z, f = z + 1 := ⟨f - 1, by omega⟩
      have hkl : k < (conAt cs v).length := by omega
      simp only [spec_l19Go_L14, hiv, hg, if_true]
      rw [if_pos (by simp; omega)]
      cases g with
      | false => simp
      | true =>
        have hcon := (conAt_ok h (List.getElem_mem hkl)).1
        have hs := spec_l19Satisfies_ok hcon (vs := next) (by omega)
        rw [List.drop_eq_getElem_cons hkl, List.all_cons]
        simp only [if_true, inb_nat, hkl, gd_nat hkl, hs, Option.bind_some, w64_succ (show k < 4611686018427387904 by omega)]
        rw [ih (k + 1) f _ (by omega) (by omega), Bool.true_and]
  have := key (conAt cs v).length 0 fuel true (by omega) (by unfold fuel; omega)
  have e2 : okN cs next = (conAt cs v).all (conH next) := by unfold okN; rw [hl]; rfl
  rw [e2]
  simpa using this
theorem go19_ok (h : SrchOk V n cs) (hg : given.length = V) : ∀ (m d : Nat) (pre : List Int) (s : S19), pre.length + m = V → m < d → stopN s = false → 0 ≤ s.2.1 → s.2.2.1 ≤ 1000000 → s.2.1 + (extL n given (okN cs) m pre).length ≤ 4611686018427387904 →
    ∀ s' b, foldU sCbN (extL n given (okN cs) m pre) s = some (s', b) → spec_l19Go d ((n : Int), atN cs V, given, pre, s) = some s' := by
  have hn := h.hn
  have hV := h.hv
  intro m
  induction m with
  | zero =>
    intro d pre s hpre hd hst h0 hr1 hr2 s' b hf
    obtain ⟨d, rfl⟩ : ∃ z, d = z + 1 := ⟨d - 1, by omega⟩
    have hlN : (atN cs V).length = V := by simp [atN]
    simp only [extL, foldU, sCbN] at hf
    simp only [spec_l19Go, spec_l19Go_body]
    simp only [extL, List.length_singleton] at hr2
    have hs' : s' = (if decide ((s.1.length : Int) < s.2.2.1) then s.1 ++ [pre] else s.1, s.2.1 + 1, s.2.2.1, s.2.2.2) := by
      cases hb : stopN ((if decide ((s.1.length : Int) < s.2.2.1) then s.1 ++ [pre] else s.1, s.2.1 + 1, s.2.2.1, s.2.2.2) : S19) <;> rw [hb] at hf <;> simp at hf <;> rw [← hf.1] <;> simp
    have hw : w64 (s.2.1 + 1) = s.2.1 + 1 := w64_id (by omega) (by omega)
    rw [if_pos (by simp; omega), hs', hw, spec_l1Own_ok (by omega)]
    by_cases hc : (s.1.length : Int) < s.2.2.1
    · rw [if_pos (decide_eq_true hc), if_pos (decide_eq_true hc)]
      simp only [Option.bind_some]
      rw [if_pos (by rw [List.length_singleton]; unfold lim; omega)]
    · rw [if_neg (by simpa using hc), if_neg (by simpa using hc)]
  | succ m ih =>
    intro d pre s hpre hd hst h0 hr1 hr2 s' b hf
    obtain ⟨d, rfl⟩ : ∃ z, d = z + 1 := ⟨d - 1, by omega⟩
    have hat : pre.length < V := by omega
    have key : ∀ (c x f : Nat) (s1 : S19), x + c = n → c < f → stopN s1 = false → 0 ≤ s1.2.1 →
        s1.2.2.1 ≤ 1000000 →
        s1.2.1 + ((List.range' x c).flatMap fun x => if mstB given pre.length x && okN cs (pre ++ [(x : Int)]) then extL n given (okN cs) m (pre ++ [(x : Int)]) else []).length ≤ 4611686018427387904 → ∀ s' b,
        foldU sCbN ((List.range' x c).flatMap fun x => if mstB given pre.length x && okN cs (pre ++ [(x : Int)]) then extL n given (okN cs) m (pre ++ [(x : Int)]) else []) s1 = some (s', b) →
        spec_l19Go_L8 (spec_l19Go d) f ((n : Int), atN cs V, given, pre, s1, ([], (0, (0, false))), (pre.length : Int), (x : Int)) = some (s', ([], (0, (0, false)))) := by
      intro c
      induction c with
      | zero =>
        intro x f s1 hx hf1 hst1 h01 hr1 hr2 s' b hf2
        obtain ⟨f, rfl⟩ : ∃ z, f = z + 1 := ⟨f - 1, by omega⟩
        have : s1 = s' ∧ true = b := by simpa [foldU] using hf2
        obtain ⟨rfl, rfl⟩ := this
        simp only [spec_l19Go_L8]
        rw [if_neg (by simp; omega)]
      | succ c ihc =>
        intro x f s1 hx hf1 hst1 h01 hr1 hr2 s' b hf2
        obtain ⟨f, rfl⟩ : ∃ z, f = z + 1 := ⟨f - 1, by omega⟩
        have hag : pre.length < given.length := by omega
        rw [List.range'_succ, List.flatMap_cons, foldU_append] at hf2
        rw [List.range'_succ, List.flatMap_cons, List.length_append] at hr2
        have hol := good_ok (given := given) (pre := pre) (s := s1) (s0 := ([], (0, (0, false)))) (x := (x : Int)) h (spec_l19Go d) hat (next := pre ++ [(x : Int)]) (by simp)
        have hw : w64 ((x : Int) + 1) = ((x + 1 : Nat) : Int) := w64_succ (by omega)
        have hover : ∀ (z : S19) (f' y : Nat), 0 < f' → stopN z = true → spec_l19Go_L8 (spec_l19Go d) f' ((n : Int), atN cs V, given, pre, z, ([], (0, (0, false))), (pre.length : Int), (y : Int)) = some (z, ([], (0, (0, false)))) := fun z f' y hf' hz => by
          obtain ⟨f', rfl⟩ : ∃ q, f' = q + 1 := ⟨f' - 1, by omega⟩
          unfold stopN at hz
          rw [Bool.and_eq_true] at hz
          simp only [spec_l19Go_L8, hz.1, hz.2, if_true, Bool.not_true, Bool.false_eq_true, if_false]
          split <;> (obtain ⟨z1, z2, z3, z4⟩ := z; dsimp only at hz ⊢; rw [hz.1])
        have step : mstB given pre.length x = true → ∀ R, R = (spec_l19Go_L14 (spec_l19Go d) fuel ((n : Int), atN cs V, given, pre, (s1.1, (s1.2.1, (s1.2.2.1, s1.2.2.2))), ([], (0, (0, false))), (pre.length : Int), (x : Int), pre ++ [(x : Int)], true, 0)).bind (fun s6 =>
                  if s6.2.2.2.2.2.2.2.2.2 then
                    (spec_l19Go d (s6.1, s6.2.1, s6.2.2.1, s6.2.2.2.2.2.2.2.2.1, (s6.2.2.2.2.1.1, (s6.2.2.2.2.1.2.1, (s6.2.2.2.2.1.2.2.1, s6.2.2.2.2.1.2.2.2))))).bind fun r7 =>
                      spec_l19Go_L8 (spec_l19Go d) f (s6.1, s6.2.1, s6.2.2.1, s6.2.2.2.1, (r7.1, (r7.2.1, (r7.2.2.1, r7.2.2.2))), (s6.2.2.2.2.2.1.1, (s6.2.2.2.2.2.1.2.1, (s6.2.2.2.2.2.1.2.2.1, s6.2.2.2.2.2.1.2.2.2))), s6.2.2.2.2.2.2.1, w64 (s6.2.2.2.2.2.2.2.1 + 1))
                  else
                    spec_l19Go_L8 (spec_l19Go d) f (s6.1, s6.2.1, s6.2.2.1, s6.2.2.2.1, (s6.2.2.2.2.1.1, (s6.2.2.2.2.1.2.1, (s6.2.2.2.2.1.2.2.1, s6.2.2.2.2.1.2.2.2))), (s6.2.2.2.2.2.1.1, (s6.2.2.2.2.2.1.2.1, (s6.2.2.2.2.2.1.2.2.1, s6.2.2.2.2.2.1.2.2.2))), s6.2.2.2.2.2.2.1, w64 (s6.2.2.2.2.2.2.2.1 + 1))) →
            R = some (s', ([], (0, (0, false)))) := by
          intro hm R hR
          have hol : spec_l19Go_L14 (spec_l19Go d) fuel ((n : Int), atN cs V, given, pre, (s1.1, (s1.2.1, (s1.2.2.1, s1.2.2.2))), ([], (0, (0, false))), (pre.length : Int), (x : Int), pre ++ [(x : Int)], true, 0) = _ := hol
          rw [hol] at hR
          simp only [Option.bind_some, hw] at hR
          rw [hm] at hf2 hr2
          cases hfi : okN cs (pre ++ [(x : Int)]) with
          | false =>
            rw [hfi] at hf2 hr2 hR
            simp only [Bool.and_false, Bool.false_eq_true, if_false, foldU, List.length_nil, Nat.zero_add] at hf2 hr2 hR
            rw [hR]
            exact ihc (x + 1) f s1 (by omega) (by omega) hst1 h01 hr1 hr2 s' b hf2
          | true =>
            rw [hfi] at hf2 hr2 hR
            simp only [Bool.and_true, if_true] at hf2 hr2 hR
            obtain ⟨⟨s2, b2⟩, hq⟩ := foldN_tot (extL n given (okN cs) m (pre ++ [(x : Int)])) s1
            obtain ⟨g1, g2, g3, g4, g5⟩ := foldN_cnt _ _ _ _ hq
            have g5 := g5 hst1
            rw [hq] at hf2
            have hrec := ih d (pre ++ [(x : Int)]) s1 (by simp; omega) (by omega) hst1 h01 (by omega) (by push_cast at hr2; omega) s2 b2 hq
            have hrec : spec_l19Go d ((n : Int), atN cs V, given, pre ++ [(x : Int)], (s1.1, (s1.2.1, (s1.2.2.1, s1.2.2.2)))) = some s2 := hrec
            rw [hrec] at hR
            simp only [Option.bind_some] at hR
            cases hb2 : stopN s2 with
            | true =>
              rw [hb2] at g5
              subst g5
              have : s2 = s' ∧ false = b := by simpa using hf2
              obtain ⟨rfl, rfl⟩ := this
              rw [hR]
              exact hover s2 f (x + 1) (by omega) hb2
            | false =>
              rw [hb2] at g5
              subst g5
              rw [hR]
              exact ihc (x + 1) f s2 (by omega) (by omega) hb2 (by omega) (by rw [g4]; exact hr1) (by push_cast at hr2; omega) s' b hf2
        have hlim : pre.length + [(x : Int)].length ≤ lim := by rw [List.length_singleton]; unfold lim; omega
        have body : ∀ R, R = (if inb (pre.length : Int) given then
            if decide ((gd given (pre.length : Int) 0) ≥ 0) then
              if inb (pre.length : Int) given then
                if (gd given (pre.length : Int) 0) != (x : Int) then
                  spec_l19Go_L8 (spec_l19Go d) f ((n : Int), atN cs V, given, pre, (s1.1, (s1.2.1, (s1.2.2.1, s1.2.2.2))), ([], (0, (0, false))), (pre.length : Int), w64 ((x : Int) + 1))
                else
                  (spec_l1Own pre).bind fun r2 =>
                    if r2.length + [(x : Int)].length ≤ lim then
                      (spec_l19Go_L14 (spec_l19Go d) fuel ((n : Int), atN cs V, given, pre, (s1.1, (s1.2.1, (s1.2.2.1, s1.2.2.2))), ([], (0, (0, false))), (pre.length : Int), (x : Int), r2 ++ [(x : Int)], true, 0)).bind (fun s6 =>
                        if s6.2.2.2.2.2.2.2.2.2 then
                          (spec_l19Go d (s6.1, s6.2.1, s6.2.2.1, s6.2.2.2.2.2.2.2.2.1, (s6.2.2.2.2.1.1, (s6.2.2.2.2.1.2.1, (s6.2.2.2.2.1.2.2.1, s6.2.2.2.2.1.2.2.2))))).bind fun r7 =>
                            spec_l19Go_L8 (spec_l19Go d) f (s6.1, s6.2.1, s6.2.2.1, s6.2.2.2.1, (r7.1, (r7.2.1, (r7.2.2.1, r7.2.2.2))), (s6.2.2.2.2.2.1.1, (s6.2.2.2.2.2.1.2.1, (s6.2.2.2.2.2.1.2.2.1, s6.2.2.2.2.2.1.2.2.2))), s6.2.2.2.2.2.2.1, w64 (s6.2.2.2.2.2.2.2.1 + 1))
                        else
                          spec_l19Go_L8 (spec_l19Go d) f (s6.1, s6.2.1, s6.2.2.1, s6.2.2.2.1, (s6.2.2.2.2.1.1, (s6.2.2.2.2.1.2.1, (s6.2.2.2.2.1.2.2.1, s6.2.2.2.2.1.2.2.2))), (s6.2.2.2.2.2.1.1, (s6.2.2.2.2.2.1.2.1, (s6.2.2.2.2.2.1.2.2.1, s6.2.2.2.2.2.1.2.2.2))), s6.2.2.2.2.2.2.1, w64 (s6.2.2.2.2.2.2.2.1 + 1)))
                    else none
              else none
            else
              (spec_l1Own pre).bind fun r2 =>
                if r2.length + [(x : Int)].length ≤ lim then
                  (spec_l19Go_L14 (spec_l19Go d) fuel ((n : Int), atN cs V, given, pre, (s1.1, (s1.2.1, (s1.2.2.1, s1.2.2.2))), ([], (0, (0, false))), (pre.length : Int), (x : Int), r2 ++ [(x : Int)], true, 0)).bind (fun s6 =>
                    if s6.2.2.2.2.2.2.2.2.2 then
                      (spec_l19Go d (s6.1, s6.2.1, s6.2.2.1, s6.2.2.2.2.2.2.2.2.1, (s6.2.2.2.2.1.1, (s6.2.2.2.2.1.2.1, (s6.2.2.2.2.1.2.2.1, s6.2.2.2.2.1.2.2.2))))).bind fun r7 =>
                        spec_l19Go_L8 (spec_l19Go d) f (s6.1, s6.2.1, s6.2.2.1, s6.2.2.2.1, (r7.1, (r7.2.1, (r7.2.2.1, r7.2.2.2))), (s6.2.2.2.2.2.1.1, (s6.2.2.2.2.2.1.2.1, (s6.2.2.2.2.2.1.2.2.1, s6.2.2.2.2.2.1.2.2.2))), s6.2.2.2.2.2.2.1, w64 (s6.2.2.2.2.2.2.2.1 + 1))
                    else
                      spec_l19Go_L8 (spec_l19Go d) f (s6.1, s6.2.1, s6.2.2.1, s6.2.2.2.1, (s6.2.2.2.2.1.1, (s6.2.2.2.2.1.2.1, (s6.2.2.2.2.1.2.2.1, s6.2.2.2.2.1.2.2.2))), (s6.2.2.2.2.2.1.1, (s6.2.2.2.2.2.1.2.1, (s6.2.2.2.2.2.1.2.2.1, s6.2.2.2.2.2.1.2.2.2))), s6.2.2.2.2.2.2.1, w64 (s6.2.2.2.2.2.2.2.1 + 1)))
                else none
          else none) → R = some (s', ([], (0, (0, false)))) := by
          intro R hR
          rw [spec_l1Own_ok (show pre.length ≤ 1099511627775 by omega)] at hR
          simp only [inb_nat, hag, if_true, Option.bind_some] at hR
          rw [if_pos hlim] at hR
          by_cases hc1 : gd given (pre.length : Int) 0 ≥ 0
          · rw [if_pos (decide_eq_true hc1)] at hR
            by_cases hc2 : gd given (pre.length : Int) 0 = (x : Int)
            · rw [if_neg (by simpa using hc2)] at hR
              exact step (by unfold mstB; rw [show given.getD pre.length 0 = (x : Int) from hc2]; simp) R hR
            · rw [if_pos (by simpa using hc2), hw] at hR
              have hm : mstB given pre.length x = false := by
                unfold mstB
                rw [decide_eq_true (show given.getD pre.length 0 ≥ 0 from hc1)]
                simp only [Bool.true_and, Bool.not_eq_false', bne_iff_ne]; exact hc2
              rw [hm] at hf2 hr2
              simp only [Bool.false_and, Bool.false_eq_true, if_false, foldU, List.length_nil, Nat.zero_add] at hf2 hr2
              rw [hR]
              exact ihc (x + 1) f s1 (by omega) (by omega) hst1 h01 hr1 hr2 s' b hf2
          · rw [if_neg (by simpa using hc1)] at hR
            exact step (by unfold mstB; rw [decide_eq_false (show ¬ given.getD pre.length 0 ≥ 0 from hc1)]; rfl) R hR
        simp only [spec_l19Go_L8]
        rw [if_pos (by simp; omega)]
        cases hone : s1.2.2.2 with
        | true =>
          have hcnt : decide (s1.2.1 > 0) = false := by unfold stopN at hst1; rw [hone] at hst1; simpa using hst1
          rw [hcnt]
          simp only [if_true, Bool.not_false]
          refine body _ ?_
          rw [hone]
        | false =>
          simp only [Bool.false_eq_true, if_false, Bool.not_false, if_true]
          refine body _ ?_
          rw [hone]
    simp only [extL] at hf hr2
    rw [List.range_eq_range'] at hf hr2
    have h4 := key n 0 fuel s (by omega) (by unfold fuel; omega) hst h0 hr1 hr2 s' b hf
    have hlN : (atN cs V).length = V := by simp [atN]
    simp only [spec_l19Go, spec_l19Go_body]
    rw [if_neg (by simp; omega)]
    have h4 : spec_l19Go_L8 (spec_l19Go d) fuel ((n : Int), atN cs V, given, pre, (s.1, (s.2.1, (s.2.2.1, s.2.2.2))), ([], (0, (0, false))), (pre.length : Int), 0) = _ := h4
    rw [h4]; rfl
theorem find19_ok (h : SrchOk V n cs) (hg : given.length = V) {cs0 : List Con} {most : Int} {one : Bool} (hm : most ≤ 1000000) {s' : S19} {b : Bool} (hf : foldU sCbN (solsN V n cs given) ([], 0, most, one) = some (s', b)) :
    spec_l19Find ((V : Int), ((n : Int), cs0)) cs given most one = some s' := by
  have hV := h.hv
  have hn := h.hn
  unfold spec_l19Find
  have hl : (solsN V n cs given).length ≤ 4 ^ 9 := by
    refine Nat.le_trans (ext_len (n := n) (given := given) V []) ?_
    exact Nat.le_trans (Nat.pow_le_pow_left hn.2 V) (Nat.pow_le_pow_right (by omega) hV)
  have := go19_ok h hg V fuel [] ([], 0, most, one) (by simp) (by unfold fuel; omega) (by simp [stopN]) (by simp) hm (by
    have : (4 : Nat) ^ 9 = 262144 := by decide
    rw [this] at hl
    have : (extL n given (okN cs) V []).length = (solsN V n cs given).length := rfl
    dsimp only; omega) s' b hf
  simp only [most_ok h, Option.bind_some, this]
end
end T
open Go Go.Va
namespace T
def sortL (cmp : List Int → List Int → Int) (rows : List (List Int)) : List (List Int) := rows.mergeSort (fun x y => !decide (cmp y x < 0))
def cmpT (s t : List Int) : Int := if s.length < t.length then -1 else if t.length < s.length then 1 else cmpL s t
theorem cmpT_refl (s : List Int) : cmpT s s = 0 := by unfold cmpT; rw [if_neg (by omega), if_neg (by omega), cmpL_refl]
theorem cmpT_symm (s t : List Int) : cmpT t s = - cmpT s t := by
 unfold cmpT
 by_cases h1 : s.length < t.length
 ·rw [if_neg (by omega), if_pos h1, if_pos h1]; rfl
 ·by_cases h2 : t.length < s.length
  ·rw [if_pos h2, if_neg h1, if_pos h2]
  ·rw [if_neg h2, if_neg h1, if_neg h1, if_neg h2, cmpL_symm]
theorem cmpT_eq {s t : List Int} (h : cmpT s t = 0) : s = t := by
 unfold cmpT at h
 by_cases h1 : s.length < t.length
 ·rw [if_pos h1] at h; exact absurd h (by decide)
 ·rw [if_neg h1] at h
  by_cases h2 : t.length < s.length
  ·rw [if_pos h2] at h; exact absurd h (by decide)
  ·rw [if_neg h2] at h; exact cmpL_eq.1 h
theorem cmpT_trans {s t u : List Int} (h1 : cmpT s t < 0) (h2 : cmpT t u < 0) : cmpT s u < 0 := by
 unfold cmpT at *
 by_cases a1 : s.length < u.length
 ·rw [if_pos a1]; decide
 ·rw [if_neg a1]
  by_cases b1 : s.length < t.length
  ·have b2 : u.length < t.length := by omega
   rw [if_neg (by omega), if_pos b2] at h2; exact absurd h2 (by decide)
  ·rw [if_neg b1] at h1
   by_cases b3 : t.length < s.length
   ·rw [if_pos b3] at h1; exact absurd h1 (by decide)
   ·rw [if_neg b3] at h1
    by_cases c1 : t.length < u.length
    ·omega
    ·rw [if_neg c1] at h2
     by_cases c2 : u.length < t.length
     ·rw [if_pos c2] at h2; exact absurd h2 (by decide)
     ·rw [if_neg c2] at h2
      rw [if_neg (by omega)]
      exact cmpL_trans h1 h2
end T
open Go Go.Va
namespace T
theorem incB_pair {l : List (List Int)} : incB l = true ↔ l.Pairwise (fun a b => cmpL a b < 0) := by
 constructor
 ·intro h
  rw [List.pairwise_iff_getElem]
  exact fun i j hi hj hij => incB_lt h i j hij hj
 ·intro h
  rw [incB_iff]
  rw [List.pairwise_iff_getElem] at h
  exact fun i hi => h i (i + 1) (by omega) hi (by omega)
theorem cmpL_anti {x y : List Int} (h1 : ¬ cmpL y x < 0) (h2 : ¬ cmpL x y < 0) : x = y := by
 have := cmpL_symm x y
 exact cmpL_eq.1 (by omega)
theorem sortL_of {out l : List (List Int)} (hi : incB out = true) (hp : out.Perm l) : sortL cmpL l = out := by
 have hs : (sortL cmpL l).Pairwise fun x y => (!decide (cmpL y x < 0)) = true := by
  unfold sortL
  refine List.pairwise_mergeSort (fun a b c h1 h2 => ?_) (fun a b => ?_) l
  ·simp only [Bool.not_eq_true', decide_eq_false_iff_not] at *
   intro h3
   have q1 := cmpL_symm a b
   have q2 := cmpL_symm b c
   by_cases e : cmpL a b = 0
   ·rw [cmpL_eq.1 e] at h3; exact h2 h3
   ·exact h2 (cmpL_trans h3 (by omega))
  ·simp only [Bool.or_eq_true, Bool.not_eq_true', decide_eq_false_iff_not]
   have q1 := cmpL_symm a b
   omega
 have ho : out.Pairwise fun x y => (!decide (cmpL y x < 0)) = true := by
  refine (incB_pair.1 hi).imp ?_
  intro a b h
  simp only [Bool.not_eq_true', decide_eq_false_iff_not]
  have q1 := cmpL_symm a b
  omega
 have hpp : (sortL cmpL l).Perm out := (List.mergeSort_perm l _).trans hp.symm
 refine List.Perm.eq_of_pairwise (fun a b _ _ h1 h2 => ?_) hs ho hpp
 simp only [Bool.not_eq_true', decide_eq_false_iff_not] at h1 h2
 exact cmpL_anti h1 h2
end T
set_option linter.unusedVariables false
open Go Go.Va
namespace T
def impl_sortRows_impl_compareLists (a0 : List (List Int)) (a1 : Unit) : Option (List (List Int)) :=
 if List.length a0 ≤ lim ∧ List.all a0 (fun x => decide (List.length x ≤ lim)) = true then some (sortL cmpL a0) else none
end T
open Go Go.Va
namespace T
section
variable {a : Lin} {p : Int} {W N V : Nat} {s : ES} {F : List Int}
theorem sortL_perm (l : List (List Int)) : (sortL cmpL l).Perm l := List.mergeSort_perm l _
theorem incB_sortL {l : List (List Int)} (hn : l.Nodup) : incB (sortL cmpL l) = true := by
 rw [incB_pair]
 have hs : (sortL cmpL l).Pairwise fun x y => (!decide (cmpL y x < 0)) = true := by
  unfold sortL
  refine List.pairwise_mergeSort (fun a b c h1 h2 => ?_) (fun a b => ?_) l
  ·simp only [Bool.not_eq_true', decide_eq_false_iff_not] at *
   intro h3
   have q1 := cmpL_symm a b
   have q2 := cmpL_symm b c
   by_cases e : cmpL a b = 0
   ·rw [cmpL_eq.1 e] at h3; exact h2 h3
   ·exact h2 (cmpL_trans h3 (by omega))
  ·simp only [Bool.or_eq_true, Bool.not_eq_true', decide_eq_false_iff_not]
   have q1 := cmpL_symm a b
   omega
 have hn' : (sortL cmpL l).Nodup := (sortL_perm l).nodup_iff.2 hn
 refine (hs.and hn').imp ?_
 intro x y h
 obtain ⟨h1, h2⟩ := h
 simp only [Bool.not_eq_true', decide_eq_false_iff_not] at h1
 have q1 := cmpL_symm x y
 have q2 : cmpL x y ≠ 0 := fun e => h2 (cmpL_eq.1 e)
 omega
end
end T
open Go Go.Va
namespace T
def keepI (xs : List (List Int)) : List Nat := (List.range xs.length).filter fun i => i == 0 || xs.getD (i - 1) [] != xs.getD i []
def diffL (xs : List (List Int)) : List (List Int) := (keepI xs).map fun i => xs.getD i []
def dgP : List Int → List (List Int) → List (List Int)
 | _, [] => []
 | p, x :: l => if p = x then dgP x l else x :: dgP x l
theorem diff_from : ∀ (l pre : List (List Int)) (p : List Int), ((List.range' (pre ++ [p]).length l.length).filter fun i => i == 0 || (pre ++ [p] ++ l).getD (i - 1) [] != (pre ++ [p] ++ l).getD i []).map (fun i => (pre ++ [p] ++ l).getD i []) = dgP p l
 | [], _, _ => rfl
 | x :: l, pre, p => by
  have ih := diff_from l (pre ++ [p]) x
  have e : pre ++ [p] ++ [x] ++ l = pre ++ [p] ++ (x :: l) := by simp
  rw [e] at ih
  have e2 : (pre ++ [p] ++ [x]).length = (pre ++ [p]).length + 1 := by simp
  rw [e2] at ih
  have g1 : (pre ++ [p] ++ (x :: l)).getD ((pre ++ [p]).length - 1) [] = p := by
   rw [List.getD_eq_getElem?_getD, List.getElem?_append_left (by simp), List.length_append, List.length_singleton, Nat.add_sub_cancel, List.getElem?_append_right (Nat.le_refl _), Nat.sub_self]; rfl
  have g2 : (pre ++ [p] ++ (x :: l)).getD (pre ++ [p]).length [] = x := by
   rw [List.getD_eq_getElem?_getD, List.getElem?_append_right (Nat.le_refl _), Nat.sub_self]; rfl
  have g3 : ((pre ++ [p]).length == 0) = false := by simp
  rw [List.length_cons, List.range'_succ, List.filter_cons, g1, g2, g3, dgP]
  by_cases h : p = x
  ·rw [if_neg (by simp [h]), if_pos h]; exact ih
  ·rw [if_pos (by simp [h]), if_neg h, List.map_cons, g2]; exact congrArg _ ih
theorem diffL_cons {x : List Int} {l : List (List Int)} : diffL (x :: l) = x :: dgP x l := by
 have h := diff_from l [] x
 unfold diffL keepI
 rw [List.range_eq_range', List.length_cons, List.range'_succ, List.filter_cons, if_pos (by simp), List.map_cons]
 exact congrArg _ h
theorem dgP_mem : ∀ {l : List (List Int)} {p u : List Int}, (u ∈ dgP p l ∨ u = p) ↔ (u ∈ l ∨ u = p)
 | [], _, _ => Iff.rfl
 | x :: l, p, u => by
  have ih := dgP_mem (l := l) (p := x) (u := u)
  unfold dgP
  by_cases h : p = x
  ·subst h
   rw [if_pos rfl, ih, List.mem_cons]
   exact ⟨fun h => h.elim (fun h => Or.inl (Or.inr h)) Or.inr, fun h => h.elim (fun h => h.elim Or.inr Or.inl) Or.inr⟩
  ·rw [if_neg h, List.mem_cons, List.mem_cons]
   constructor
   ·rintro ((h | h) | h)
    ·exact Or.inl (Or.inl h)
    ·exact Or.inl ((ih.1 (Or.inl h)).elim Or.inr Or.inl)
    ·exact Or.inr h
   ·rintro ((h | h) | h)
    ·exact Or.inl (Or.inl h)
    ·exact Or.inl ((ih.2 (Or.inl h)).elim Or.inr Or.inl)
    ·exact Or.inr h
theorem diffL_mem {l : List (List Int)} {u : List Int} : u ∈ diffL l ↔ u ∈ l := by
 cases l with
 | nil => exact Iff.rfl
 | cons x l =>
  rw [diffL_cons, List.mem_cons, List.mem_cons]
  have := dgP_mem (l := l) (p := x) (u := u)
  exact ⟨fun h => (this.1 h.symm).symm, fun h => (this.2 h.symm).symm⟩
theorem dgP_inc : ∀ {l : List (List Int)} {p : List Int}, (p :: l).Pairwise (fun a b => ¬ cmpL b a < 0) → (p :: dgP p l).Pairwise fun a b => cmpL a b < 0
 | [], _, _ => List.pairwise_singleton _ _
 | x :: l, p, h => by
  have h1 := List.pairwise_cons.1 h
  have ih := dgP_inc (l := l) (p := x) h1.2
  unfold dgP
  by_cases e : p = x
  ·subst e; rw [if_pos rfl]; exact ih
  ·rw [if_neg e]
   refine List.pairwise_cons.2 ⟨fun b hb => ?_, ih⟩
   have hlt : cmpL p x < 0 := by
    have h2 := h1.1 x (List.mem_cons_self ..)
    have h3 := cmpL_symm p x
    have h4 : cmpL p x ≠ 0 := fun h => e (cmpL_eq.1 h)
    omega
   rcases List.mem_cons.1 hb with rfl | hb
   ·exact hlt
   ·exact cmpL_trans hlt ((List.pairwise_cons.1 ih).1 b hb)
theorem sortL_le (l : List (List Int)) : (sortL cmpL l).Pairwise fun a b => ¬ cmpL b a < 0 := by
 have hs : (sortL cmpL l).Pairwise fun x y => (!decide (cmpL y x < 0)) = true := by
  unfold sortL
  refine List.pairwise_mergeSort (fun a b c h1 h2 => ?_) (fun a b => ?_) l
  ·simp only [Bool.not_eq_true', decide_eq_false_iff_not] at *
   intro h3
   have q1 := cmpL_symm a b
   have q2 := cmpL_symm b c
   by_cases e : cmpL a b = 0
   ·rw [cmpL_eq.1 e] at h3; exact h2 h3
   ·exact h2 (cmpL_trans h3 (by omega))
  ·simp only [Bool.or_eq_true, Bool.not_eq_true', decide_eq_false_iff_not]
   have q1 := cmpL_symm a b
   omega
 exact hs.imp fun {a b} h => by simpa using h
def setL (l : List (List Int)) : List (List Int) := diffL (sortL cmpL l)
theorem setL_mem {l : List (List Int)} {u : List Int} : u ∈ setL l ↔ u ∈ l := by
 unfold setL; rw [diffL_mem]; exact (List.mergeSort_perm l _).mem_iff
theorem setL_inc (l : List (List Int)) : incB (setL l) = true := by
 rw [incB_pair]
 unfold setL
 have h := sortL_le l
 generalize sortL cmpL l = s at h
 cases s with
 | nil => exact List.Pairwise.nil
 | cons x s => rw [diffL_cons]; exact dgP_inc h
theorem inc_uniq : ∀ {a b : List (List Int)}, incB a = true → incB b = true → (∀ u, u ∈ a ↔ u ∈ b) → a = b := by
 intro a b ha hb h
 have pa := incB_pair.1 ha
 have pb := incB_pair.1 hb
 have na : a.Nodup := pa.imp fun {x y} h e => by rw [e, cmpL_refl] at h; omega
 have nb : b.Nodup := pb.imp fun {x y} h e => by rw [e, cmpL_refl] at h; omega
 have hp : a.Perm b := (List.perm_ext_iff_of_nodup na nb).2 h
 rw [← sortL_of ha (List.Perm.refl _), ← sortL_of hb (List.Perm.refl _)]
 have h1 := sortL_of ha hp
 have h2 := sortL_of hb (List.Perm.refl b)
 have h3 := sortL_of ha (List.Perm.refl a)
 rw [h2, h3, ← h1, h2]
theorem setL_of {out l : List (List Int)} (hi : incB out = true) (hm : ∀ u, u ∈ out ↔ u ∈ l) : setL l = out :=
 inc_uniq (setL_inc l) hi fun u => setL_mem.trans (hm u).symm
theorem diffL_le (l : List (List Int)) : (diffL l).length ≤ l.length := by
 unfold diffL keepI
 rw [List.length_map]
 exact Nat.le_trans (List.length_filter_le _ _) (by rw [List.length_range]; exact Nat.le_refl _)
theorem setL_le (l : List (List Int)) : (setL l).length ≤ l.length := by
 unfold setL
 have := diffL_le (sortL cmpL l)
 rwa [show (sortL cmpL l).length = l.length from (List.mergeSort_perm l _).length_eq] at this
end T
set_option linter.unusedVariables false
open Go Go.Va
namespace T
def impl_different (a0 : List (List Int)) : Option (List (List Int)) :=
 if List.length a0 ≤ lim ∧ List.all a0 (fun x => decide (List.length x ≤ lim)) = true then some (diffL a0) else none
end T
set_option linter.unusedVariables false
open Go Go.Va
namespace T
def impl_sortedTuples (list : List (List Int)) : Option ((List (List Int))) :=
 (impl_cloneRows list).bind fun r1 =>
  (impl_sortRows_impl_compareLists r1 ()).bind fun r2 =>
   some r2
def impl_makeRelation (arity : Int) (tuples : List (List Int)) : Option ((Int × (List (List Int)))) :=
 (impl_sortedTuples tuples).bind fun r1 =>
  (impl_different r1).bind fun r2 =>
   some (arity, r2)
end T
open Go Go.Va
namespace T
theorem sorted_ok {l : List (List Int)} (hl : l.length ≤ 100000) (hr : ∀ r ∈ l, r.length ≤ 100000) : impl_sortedTuples l = some (sortL cmpL l) := by
 unfold impl_sortedTuples
 rw [cloneRows_ok hl hr]
 have : impl_sortRows_impl_compareLists l () = some (sortL cmpL l) := by
  unfold impl_sortRows_impl_compareLists
  rw [if_pos]
  refine ⟨by unfold lim; omega, ?_⟩
  rw [List.all_eq_true]
  intro r h
  rw [decide_eq_true_iff]
  have := hr r h; unfold lim; omega
 simp only [Option.bind_some, this]
theorem different_ok {l : List (List Int)} (hl : l.length ≤ 100000) (hr : ∀ r ∈ l, r.length ≤ 100000) : impl_different l = some (diffL l) := by
 unfold impl_different
 rw [if_pos]
 refine ⟨by unfold lim; omega, ?_⟩
 rw [List.all_eq_true]
 intro r h
 rw [decide_eq_true_iff]
 have := hr r h; unfold lim; omega
theorem makeRel_ok {ar : Int} {l : List (List Int)} (hl : l.length ≤ 100000) (hr : ∀ r ∈ l, r.length ≤ 100000) : impl_makeRelation ar l = some (ar, setL l) := by
 have hp := sortL_perm l
 unfold impl_makeRelation
 rw [sorted_ok hl hr]
 simp only [Option.bind_some]
 rw [different_ok (by rw [hp.length_eq]; exact hl) fun r h => hr r (hp.mem_iff.1 h)]
 rfl
end T
open Go Go.Va
namespace T
section
variable {a : Net} {f : Opn} {n : Int}
theorem eqNet_self {b : Net} (h : netS b) : laws_eqNetwork b b = some true := by rw [eqNetwork_ok h]; simp
end
end T
open Go Go.Va
namespace T
section
variable {n k m : Nat} {r : RelT} {rels : List RelT} {given t : List Int}
theorem ext_iff {ok : List Int → Bool} : ∀ (m : Nat) (pre t : List Int), t ∈ extL n given ok m pre ↔ t.length = pre.length + m ∧ t.take pre.length = pre ∧
    ∀ q, pre.length ≤ q → q < t.length → (0 ≤ t.getD q 0 ∧ t.getD q 0 < (n : Int)) ∧ mstB given q (t.getD q 0).toNat = true ∧ ok (t.take (q + 1)) = true
  | 0, pre, t => by
    simp only [extL, List.mem_singleton, Nat.add_zero]
    constructor
    · rintro rfl
      exact ⟨rfl, by simp, fun q h1 h2 => by omega⟩
    · rintro ⟨h1, h2, _⟩
      rw [← h2, List.take_of_length_le (by omega)]
  | m + 1, pre, t => by
    simp only [extL, List.mem_flatMap, List.mem_range]
    constructor
    · rintro ⟨x, hx, h⟩
      by_cases hc : (mstB given pre.length x && ok (pre ++ [(x : Int)])) = true
      · rw [if_pos hc] at h
        obtain ⟨h1, h2, h3⟩ := (ext_iff m (pre ++ [(x : Int)]) t).1 h
        rw [Bool.and_eq_true] at hc
        rw [List.length_append, List.length_singleton] at h1 h2 h3
        have hv : t.getD pre.length 0 = (x : Int) := by
          have hl : pre.length < t.length := by omega
          have e : (t.take (pre.length + 1)).getD pre.length 0 = t.getD pre.length 0 := by simp [List.getD_eq_getElem?_getD, List.getElem?_take]
          rw [← e, h2]; simp [List.getD_eq_getElem?_getD]
        refine ⟨by omega, ?_, fun q h4 h5 => ?_⟩
        · have : (t.take (pre.length + 1)).take pre.length = pre := by rw [h2]; simp
          rw [List.take_take] at this
          rwa [Nat.min_eq_left (by omega)] at this
        · by_cases e : q = pre.length
          · subst e
            rw [hv, h2]
            exact ⟨by omega, by rw [Int.toNat_natCast]; exact hc.1, hc.2⟩
          · exact h3 q (by omega) h5
      · rw [if_neg hc] at h; simp at h
    · rintro ⟨h1, h2, h3⟩
      have hl : pre.length < t.length := by omega
      obtain ⟨a1, a2, a3⟩ := h3 pre.length (Nat.le_refl _) hl
      have hx : (((t.getD pre.length 0).toNat : Nat) : Int) = t.getD pre.length 0 := Int.toNat_of_nonneg a1.1
      have ht : t.take (pre.length + 1) = pre ++ [(((t.getD pre.length 0).toNat : Nat) : Int)] := by
        rw [hx, List.take_succ_eq_append_getElem hl, h2, getD_of hl]
      refine ⟨(t.getD pre.length 0).toNat, by omega, ?_⟩
      rw [if_pos (by rw [Bool.and_eq_true]; exact ⟨a2, by rw [← ht]; exact a3⟩)]
      refine (ext_iff m _ t).2 ⟨by simp; omega, by rw [List.length_append, List.length_singleton]; exact ht, fun q h4 h5 => h3 q (by rw [List.length_append, List.length_singleton] at h4; omega) h5⟩
theorem mst_free {N q x : Nat} (hq : q < N) : mstB (List.replicate N (-1)) q x = true := by
 unfold mstB
 rw [getD_of (by simpa using hq)]; simp
theorem dg_onto {b : Nat} : ∀ (k : Nat) (ys : List Nat), ys.length = k → (∀ y ∈ ys, y < b) → ∃ i, i < b ^ k ∧ dg b k i = ys := by
 intro k
 induction k with
 | zero => intro ys hl _; exact ⟨0, by simp, by rw [List.eq_nil_of_length_eq_zero hl]; rfl⟩
 | succ k ih =>
  intro ys hl hy
  obtain ⟨z, y, rfl⟩ : ∃ z y, ys = z ++ [y] := ⟨ys.dropLast, ys.getLast (by intro e; rw [e] at hl; simp at hl), (List.dropLast_concat_getLast _).symm⟩
  have hyb := hy y (by simp)
  obtain ⟨i, h1, h2⟩ := ih z (by simpa using hl) fun x hx => hy x (by simp [hx])
  refine ⟨i * b + y, ?_, ?_⟩
  ·rw [Nat.pow_succ]
   calc i * b + y < i * b + b := by omega
    _ = (i + 1) * b := by rw [Nat.succ_mul]
    _ ≤ b ^ k * b := Nat.mul_le_mul_right _ h1
  ·simp only [dg]
   have e1 : (i * b + y) / b = i := by rw [Nat.mul_comm, Nat.mul_add_div (by omega), Nat.div_eq_of_lt hyb]; omega
   have e2 : (i * b + y) % b = y := by rw [Nat.mul_comm, Nat.mul_add_mod, Nat.mod_eq_of_lt hyb]
   rw [e1, e2, h2]
end
end T
open Go Go.Va
namespace T
section
variable {a : Net}
theorem net_srch2 (hN : NetOk a) : SrchOk a.1.toNat a.2.1.toNat a.2.2 ∧ a = ((a.1.toNat : Int), ((a.2.1.toNat : Int), a.2.2)) := by
 have hv := hN.hv
 have hn := hN.hn
 refine ⟨⟨by omega, by omega, hN.hc, fun c hc => ?_⟩, ?_⟩
 ·rw [Int.toNat_of_nonneg hv.1, Int.toNat_of_nonneg (by omega)]; exact hN.con c hc
 ·rw [Int.toNat_of_nonneg hv.1, Int.toNat_of_nonneg (by omega)]
end
end T
set_option linter.unusedVariables false
open Go Go.Va
namespace T
def spec_SolutionRelation_L10 : Nat → ((List Int) × (Int × Int × (List ((List Int) × Int × (List (List Int))))) × (Int × (List (List Int))) × (Int × (List (List Int))) × Int × (List Int) × (List Int) × Bool × Int) → Option ((List Int) × (Int × Int × (List ((List Int) × Int × (List (List Int))))) × (Int × (List (List Int))) × (Int × (List (List Int))) × Int × (List Int) × (List Int) × Bool)
 | 0, _ => none
 | n + 1, (t1, t2, t4, t6, t7, t8, t9, t10, t11) =>
  if decide (t11 < (t1.length : Int)) then
   if t10 then
    if inb t11 t1 then
     if inb (gd t1 t11 0) t9 then
      if decide ((gd t9 (gd t1 t11 0) 0) < 0) then
       if inb t11 t1 then
        if inb t11 t8 then
         if inb (gd t1 t11 0) t9 then
          spec_SolutionRelation_L10 n (t1, (t2.1, (t2.2.1, t2.2.2)), (t4.1, t4.2), (t6.1, t6.2), t7, t8, stt t9 (gd t1 t11 0) (gd t8 t11 0), true, w64 (t11 + 1))
         else none
        else none
       else none
      else
       if inb t11 t1 then
        if inb (gd t1 t11 0) t9 then
         if inb t11 t8 then
          if inb t11 t1 then
           if inb t11 t8 then
            if inb (gd t1 t11 0) t9 then
             spec_SolutionRelation_L10 n (t1, (t2.1, (t2.2.1, t2.2.2)), (t4.1, t4.2), (t6.1, t6.2), t7, t8, stt t9 (gd t1 t11 0) (gd t8 t11 0), (gd t9 (gd t1 t11 0) 0) == (gd t8 t11 0), w64 (t11 + 1))
            else none
           else none
          else none
         else none
        else none
       else none
     else none
    else none
   else
    if inb t11 t1 then
     if inb t11 t8 then
      if inb (gd t1 t11 0) t9 then
       spec_SolutionRelation_L10 n (t1, (t2.1, (t2.2.1, t2.2.2)), (t4.1, t4.2), (t6.1, t6.2), t7, t8, stt t9 (gd t1 t11 0) (gd t8 t11 0), false, w64 (t11 + 1))
      else none
     else none
    else none
  else
   some (t1, (t2.1, (t2.2.1, t2.2.2)), (t4.1, t4.2), (t6.1, t6.2), t7, t8, t9, t10)
def spec_SolutionRelation_L5 : Nat → ((List Int) × (Int × Int × (List ((List Int) × Int × (List (List Int))))) × (Int × (List (List Int))) × (Int × (List (List Int))) × Int) → Option ((Int × (List (List Int))) × (Int × (List (List Int))))
 | 0, _ => none
 | n + 1, (t1, t2, t4, t6, t7) =>
  (spec_l2Pow t2.2.1 (t1.length : Int)).bind fun r4 =>
   if decide (t7 < r4) then
    (spec_l2Args t2.2.1 (t1.length : Int) t7).bind fun r5 =>
     (spec_l14Free t2.1).bind fun r6 =>
      (spec_SolutionRelation_L10 fuel (t1, (t2.1, (t2.2.1, t2.2.2)), (t4.1, t4.2), (t6.1, t6.2), t7, r5, r6, true, 0)).bind fun s7 =>
       if s7.2.2.2.2.2.2.2 then
        (spec_l19Find (s7.2.1.1, (s7.2.1.2.1, s7.2.1.2.2)) s7.2.1.2.2 s7.2.2.2.2.2.2.1 1 true).bind fun r8 =>
         if decide (r8.2.1 > 0) then
          if s7.2.2.2.1.2.length + [s7.2.2.2.2.2.1].length ≤ lim then
           spec_SolutionRelation_L5 n (s7.1, (s7.2.1.1, (s7.2.1.2.1, s7.2.1.2.2)), (s7.2.2.1.1, s7.2.2.1.2), (s7.2.2.2.1.1, s7.2.2.2.1.2 ++ [s7.2.2.2.2.2.1]), w64 (s7.2.2.2.2.1 + 1))
          else none
         else
          spec_SolutionRelation_L5 n (s7.1, (s7.2.1.1, (s7.2.1.2.1, s7.2.1.2.2)), (s7.2.2.1.1, s7.2.2.1.2), (s7.2.2.2.1.1, s7.2.2.2.1.2), w64 (s7.2.2.2.2.1 + 1))
       else
        spec_SolutionRelation_L5 n (s7.1, (s7.2.1.1, (s7.2.1.2.1, s7.2.1.2.2)), (s7.2.2.1.1, s7.2.2.1.2), (s7.2.2.2.1.1, s7.2.2.2.1.2), w64 (s7.2.2.2.2.1 + 1))
   else
    some ((t4.1, t4.2), (t6.1, t6.2))
def spec_SolutionRelation (t0 : Int × Int × (List ((List Int) × Int × (List (List Int))))) (t1 : List Int) : Option ((Int × (List (List Int))) × Bool) :=
 (spec_l19Good (t0.1, (t0.2.1, t0.2.2))).bind fun r1 =>
  if !r1 then
   some ((0, []), false)
  else
   (spec_l1In (t1.length : Int) 1 3).bind fun r2 =>
    if !r2 then
     some ((0, []), false)
    else
     (spec_l2Elements t0.1 t1).bind fun r3 =>
      if !r3 then
       some ((0, []), false)
      else
       (spec_SolutionRelation_L5 fuel (t1, (t0.1, (t0.2.1, t0.2.2)), (0, []), ((t1.length : Int), []), 0)).bind fun s4 =>
        some ((s4.2.1, s4.2.2), true)
def impl_SolutionRelation_c1 (values : List Int) (t1 : List Int) (t2 : List ByteArray) (t3 : List (List Int)) : Option ((List ByteArray) × (List (List Int)) × Bool) :=
 (impl_compose t1 values).bind fun r1 =>
  (impl_keyOf r1).bind fun r2 =>
   if !(mhas t2 r2) then
    if t3.length + [r1].length ≤ lim then
     some (mput t2 r2, t3 ++ [r1], true)
    else none
   else
    some (t2, t3, true)
def impl_netSearch_each_c1_impl_SolutionRelation_c1_L10 (rec : (Int × (List Int) × ((List Int) × ((List ByteArray) × (List (List Int)))) × (Bool × Int × (List (List (List Int))) × (List (List (List ByteArray)))) × (List Int) × Unit) → Option ((List Int) × (Unit × ((List ByteArray) × (List (List Int)))) × (Bool × Int × (List (List (List Int))) × (List (List (List ByteArray)))) × (List Int) × Bool)) : Nat → (Int × (List Int) × ((List Int) × ((List ByteArray) × (List (List Int)))) × (Bool × Int × (List (List (List Int))) × (List (List (List ByteArray)))) × (List Int) × Unit × Int × Bool × (List (List Int)) × Int × Int) → Option (Int × (List Int) × ((List Int) × ((List ByteArray) × (List (List Int)))) × (Bool × Int × (List (List (List Int))) × (List (List (List ByteArray)))) × (List Int) × Unit × Int × Bool)
 | 0, _ => none
 | n + 1, (t0, t1, t2, t3, t4, t5, t8, t9, t50, t51, t52) =>
  if decide (t52 < t51) then
   if inb t52 t50 then
    if t9 then
     if t3.1 = true then
      if inb t0 t3.2.2.2 then
       if inb t52 (gd t3.2.2.2 t0 []) then
        (impl_compose (gd t50 t52 []) t1).bind fun r2 =>
         (impl_keyOf r2).bind fun r3 =>
          impl_netSearch_each_c1_impl_SolutionRelation_c1_L10 rec n (t0, t1, (t2.1, (t2.2.1, t2.2.2)), t3, t4, (), t8, mhas (gd (gd t3.2.2.2 t0 []) t52 []) r3, t50, t51, w64 (t52 + 1))
       else none
      else none
     else none
    else
     impl_netSearch_each_c1_impl_SolutionRelation_c1_L10 rec n (t0, t1, (t2.1, (t2.2.1, t2.2.2)), t3, t4, (), t8, false, t50, t51, w64 (t52 + 1))
   else none
  else
   some (t0, t1, (t2.1, (t2.2.1, t2.2.2)), t3, t4, (), t8, t9)
def impl_netSearch_each_c1_impl_SolutionRelation_c1_L4 (rec : (Int × (List Int) × ((List Int) × ((List ByteArray) × (List (List Int)))) × (Bool × Int × (List (List (List Int))) × (List (List (List ByteArray)))) × (List Int) × Unit) → Option ((List Int) × (Unit × ((List ByteArray) × (List (List Int)))) × (Bool × Int × (List (List (List Int))) × (List (List (List ByteArray)))) × (List Int) × Bool)) : Nat → (Int × (List Int) × ((List Int) × ((List ByteArray) × (List (List Int)))) × (Bool × Int × (List (List (List Int))) × (List (List (List ByteArray)))) × (List Int) × Unit × Int) → Option (((List Int) × ((List Int) × ((List ByteArray) × (List (List Int)))) × (Bool × Int × (List (List (List Int))) × (List (List (List ByteArray)))) × (List Int) × Unit) ⊕ ((List Int) × ((List Int) × ((List ByteArray) × (List (List Int)))) × (Bool × Int × (List (List (List Int))) × (List (List (List ByteArray)))) × (List Int) × Unit × Bool))
 | 0, _ => none
 | n + 1, (t0, t1, t2, t3, t4, t5, t8) =>
  if t3.1 = true then
   if decide (t8 < t3.2.1) then
    if inb t0 t4 then
     if decide ((gd t4 t0 0) ≥ 0) then
      if inb t0 t4 then
       if (gd t4 t0 0) != t8 then
        impl_netSearch_each_c1_impl_SolutionRelation_c1_L4 rec n (t0, t1, (t2.1, (t2.2.1, t2.2.2)), t3, t4, (), w64 (t8 + 1))
       else
        if inb t0 t1 then
         if t3.1 = true then
          if inb t0 t3.2.2.1 then
           (impl_netSearch_each_c1_impl_SolutionRelation_c1_L10 rec fuel (t0, stt t1 t0 t8, (t2.1, (t2.2.1, t2.2.2)), t3, t4, (), t8, true, gd t3.2.2.1 t0 [], ((gd t3.2.2.1 t0 []).length : Int), 0)).bind fun s2 =>
            if s2.2.2.2.2.2.2.2 then
             (rec (w64 (s2.1 + 1), s2.2.1, (s2.2.2.1.1, (s2.2.2.1.2.1, s2.2.2.1.2.2)), s2.2.2.2.1, s2.2.2.2.2.1, ())).bind fun r3 =>
              if !r3.2.2.2.2 then
               some (.inr (r3.1, (s2.2.2.1.1, (r3.2.1.2.1, r3.2.1.2.2)), r3.2.2.1, r3.2.2.2.1, (), false))
              else
               impl_netSearch_each_c1_impl_SolutionRelation_c1_L4 rec n (s2.1, r3.1, (s2.2.2.1.1, (r3.2.1.2.1, r3.2.1.2.2)), r3.2.2.1, r3.2.2.2.1, (), w64 (s2.2.2.2.2.2.2.1 + 1))
            else
             impl_netSearch_each_c1_impl_SolutionRelation_c1_L4 rec n (s2.1, s2.2.1, (s2.2.2.1.1, (s2.2.2.1.2.1, s2.2.2.1.2.2)), s2.2.2.2.1, s2.2.2.2.2.1, (), w64 (s2.2.2.2.2.2.2.1 + 1))
          else none
         else none
        else none
      else none
     else
      if inb t0 t1 then
       if t3.1 = true then
        if inb t0 t3.2.2.1 then
         (impl_netSearch_each_c1_impl_SolutionRelation_c1_L10 rec fuel (t0, stt t1 t0 t8, (t2.1, (t2.2.1, t2.2.2)), t3, t4, (), t8, true, gd t3.2.2.1 t0 [], ((gd t3.2.2.1 t0 []).length : Int), 0)).bind fun s4 =>
          if s4.2.2.2.2.2.2.2 then
           (rec (w64 (s4.1 + 1), s4.2.1, (s4.2.2.1.1, (s4.2.2.1.2.1, s4.2.2.1.2.2)), s4.2.2.2.1, s4.2.2.2.2.1, ())).bind fun r5 =>
            if !r5.2.2.2.2 then
             some (.inr (r5.1, (s4.2.2.1.1, (r5.2.1.2.1, r5.2.1.2.2)), r5.2.2.1, r5.2.2.2.1, (), false))
            else
             impl_netSearch_each_c1_impl_SolutionRelation_c1_L4 rec n (s4.1, r5.1, (s4.2.2.1.1, (r5.2.1.2.1, r5.2.1.2.2)), r5.2.2.1, r5.2.2.2.1, (), w64 (s4.2.2.2.2.2.2.1 + 1))
          else
           impl_netSearch_each_c1_impl_SolutionRelation_c1_L4 rec n (s4.1, s4.2.1, (s4.2.2.1.1, (s4.2.2.1.2.1, s4.2.2.1.2.2)), s4.2.2.2.1, s4.2.2.2.2.1, (), w64 (s4.2.2.2.2.2.2.1 + 1))
        else none
       else none
      else none
    else none
   else
    some (.inl (t1, (t2.1, (t2.2.1, t2.2.2)), t3, t4, ()))
  else none
def impl_netSearch_each_c1_impl_SolutionRelation_c1_body (rec : (Int × (List Int) × ((List Int) × ((List ByteArray) × (List (List Int)))) × (Bool × Int × (List (List (List Int))) × (List (List (List ByteArray)))) × (List Int) × Unit) → Option ((List Int) × (Unit × ((List ByteArray) × (List (List Int)))) × (Bool × Int × (List (List (List Int))) × (List (List (List ByteArray)))) × (List Int) × Bool)) (t0 : Int) (t1 : List Int) (t2 : (List Int) × ((List ByteArray) × (List (List Int)))) (t3 : Bool × Int × (List (List (List Int))) × (List (List (List ByteArray)))) (t4 : List Int) (t5 : Unit) : Option ((List Int) × (Unit × ((List ByteArray) × (List (List Int)))) × (Bool × Int × (List (List (List Int))) × (List (List (List ByteArray)))) × (List Int) × Bool) :=
 if t0 == (t1.length : Int) then
  (impl_SolutionRelation_c1 t1 t2.1 t2.2.1 t2.2.2).bind fun r1 =>
   some (t1, ((), (r1.1, r1.2.1)), t3, t4, r1.2.2)
 else
  (impl_netSearch_each_c1_impl_SolutionRelation_c1_L4 rec fuel (t0, t1, (t2.1, (t2.2.1, t2.2.2)), t3, t4, (), 0)).bind fun s2 =>
   match s2 with
   | .inl s3 =>
    some (s3.1, ((), (s3.2.1.2.1, s3.2.1.2.2)), s3.2.2.1, s3.2.2.2.1, true)
   | .inr s4 =>
    some (s4.1, ((), (s4.2.1.2.1, s4.2.1.2.2)), s4.2.2.1, s4.2.2.2.1, s4.2.2.2.2.2)
def impl_netSearch_each_c1_impl_SolutionRelation_c1 : Nat → (Int × (List Int) × ((List Int) × ((List ByteArray) × (List (List Int)))) × (Bool × Int × (List (List (List Int))) × (List (List (List ByteArray)))) × (List Int) × Unit) → Option ((List Int) × (Unit × ((List ByteArray) × (List (List Int)))) × (Bool × Int × (List (List (List Int))) × (List (List (List ByteArray)))) × (List Int) × Bool)
 | 0, _ => none
 | d + 1, x => impl_netSearch_each_c1_impl_SolutionRelation_c1_body (impl_netSearch_each_c1_impl_SolutionRelation_c1 d) x.1 x.2.1 x.2.2.1 x.2.2.2.1 x.2.2.2.2.1 x.2.2.2.2.2
def impl_netSearch_each_impl_SolutionRelation_c1 (s : Bool × Int × (List (List (List Int))) × (List (List (List ByteArray)))) (partial_ : List Int) (found : (List Int) × ((List ByteArray) × (List (List Int)))) : Option ((Unit × ((List ByteArray) × (List (List Int))))) :=
 if 0 ≤ (partial_.length : Int) ∧ (partial_.length : Int) ≤ (partial_.length : Int) ∧ (partial_.length : Int) ≤ lim then
  (impl_netSearch_each_c1_impl_SolutionRelation_c1 fuel (0, List.replicate (Int.toNat (partial_.length : Int)) (0 : Int), (found.1, (found.2.1, found.2.2)), s, partial_, ())).bind fun r1 =>
   some ((), (r1.2.1.2.1, r1.2.1.2.2))
 else none
def impl_eachSolution_impl_SolutionRelation_c1 (net : Int × Int × (List ((List Int) × Int × (List (List Int))))) (found : (List Int) × ((List ByteArray) × (List (List Int)))) : Option ((Unit × ((List ByteArray) × (List (List Int))))) :=
 (impl_newNetSearch (net.1, (net.2.1, net.2.2))).bind fun r1 =>
  (impl_freeTable net.1).bind fun r2 =>
   (impl_netSearch_each_impl_SolutionRelation_c1 r1 r2 (found.1, (found.2.1, found.2.2))).bind fun r3 =>
    some ((), (r3.2.1, r3.2.2))
def impl_SolutionRelation (net : Int × Int × (List ((List Int) × Int × (List (List Int))))) (vars : List Int) : Option ((Int × (List (List Int))) × Bool) :=
 (impl_IsNetwork (net.1, (net.2.1, net.2.2))).bind fun r1 =>
  if !r1 then
   some ((0, []), false)
  else
   if decide ((vars.length : Int) < 1) then
    some ((0, []), false)
   else
    if decide ((vars.length : Int) > 3) then
     some ((0, []), false)
    else
     (impl_inSize vars net.1).bind fun r2 =>
      if !r2 then
       some ((0, []), false)
      else
       (impl_eachSolution_impl_SolutionRelation_c1 (net.1, (net.2.1, net.2.2)) (vars, ([], []))).bind fun r3 =>
        (impl_makeRelation (vars.length : Int) r3.2.2).bind fun r4 =>
         some ((r4.1, r4.2), true)
def laws_FnExactSolutionRelation (t0 : Int × Int × (List ((List Int) × Int × (List (List Int))))) (t1 : List Int) : Option (Bool) :=
 if decide ((t1.length : Int) > 1048576) then
  some true
 else
  (laws_szNetwork (t0.1, (t0.2.1, t0.2.2)) 1048576).bind fun r1 =>
   if decide (r1 < 0) then
    some true
   else
    (laws_toNetwork (t0.1, (t0.2.1, t0.2.2))).bind fun r2 =>
     (laws_toIntS t1).bind fun r3 =>
      (spec_SolutionRelation (r2.1, (r2.2.1, r2.2.2)) r3).bind fun r4 =>
       (laws_toNetwork (t0.1, (t0.2.1, t0.2.2))).bind fun r5 =>
        (laws_toIntS t1).bind fun r6 =>
         (impl_SolutionRelation (r5.1, (r5.2.1, r5.2.2)) r6).bind fun r7 =>
          (laws_eqRelation (r7.1.1, r7.1.2) (r4.1.1, r4.1.2)).bind fun r8 =>
           if !r8 then
            some false
           else
            if r7.2 != r4.2 then
             some false
            else
             (laws_toNetwork (t0.1, (t0.2.1, t0.2.2))).bind fun r9 =>
              (laws_eqNetwork (r5.1, (r5.2.1, r5.2.2)) (r9.1, (r9.2.1, r9.2.2))).bind fun r10 =>
               if !r10 then
                some false
               else
                (laws_toIntS t1).bind fun r11 =>
                 (laws_eqIntS r6 r11).bind fun r12 =>
                  if !r12 then
                   some false
                  else
                   (laws_markNetwork (r5.1, (r5.2.1, r5.2.2)) 1).bind fun r13 =>
                    (laws_markIntS r6 r13.2).bind fun r14 =>
                     if decide (r14.2 < 0) then
                      some false
                     else
                      (laws_eqRelation (r7.1.1, r7.1.2) (r4.1.1, r4.1.2)).bind fun r15 =>
                       if !r15 then
                        some false
                       else
                        if r7.2 != r4.2 then
                         some false
                        else
                         (laws_markRelation (r7.1.1, r7.1.2) 1).bind fun r16 =>
                          (laws_heldRelation (r7.1.1, r16.1.2) 1).bind fun r17 =>
                           if decide (r17 < 0) then
                            some false
                           else
                            if r17 != r16.2 then
                             some false
                            else
                             (laws_toNetwork (t0.1, (t0.2.1, t0.2.2))).bind fun r18 =>
                              (laws_toIntS t1).bind fun r19 =>
                               (impl_SolutionRelation (r18.1, (r18.2.1, r18.2.2)) r19).bind fun r20 =>
                                (laws_eqRelation (r20.1.1, r20.1.2) (r4.1.1, r4.1.2)).bind fun r21 =>
                                 if !r21 then
                                  some false
                                 else
                                  if r20.2 != r4.2 then
                                   some false
                                  else
                                   (laws_heldRelation (r7.1.1, r16.1.2) 1).bind fun r22 =>
                                    if decide (r22 < 0) then
                                     some false
                                    else
                                     if r22 != r16.2 then
                                      some false
                                     else
                                      some true
end T
open Go Go.Va
namespace T
abbrev SRs := List ByteArray × List (List Int)
def srCb (vars : List Int) (t : List Int) (s : SRs) : Option (SRs × Bool) := (impl_SolutionRelation_c1 t vars s.1 s.2).bind fun r => some ((r.1, r.2.1), r.2.2)
theorem ite_map {c : Prop} [Decidable c] {α β : Type} {g : α → β} {a b : Option β} {a' b' : Option α} (h1 : a = a'.map g) (h2 : b = b'.map g) : (if c then a else b) = (if c then a' else b').map g := by
 by_cases h : c
 ·rw [if_pos h, if_pos h, h1]
 ·rw [if_neg h, if_neg h, h2]
section
variable {vars : List Int}
theorem eachSR_M (rec) : ∀ f t0 t1 (s : SRs) t3 t4 t5 t8 t9 t50 t51 t52, impl_netSearch_each_c1_impl_SolutionRelation_c1_L10 rec f (t0, t1, (vars, s), t3, t4, t5, t8, t9, t50, t51, t52) = (hM f (t0, t1, s, t3, t4, t5, t8, t9, t50, t51, t52)).map fun y => (y.1, y.2.1, (vars, y.2.2.1), y.2.2.2)
 | 0, _, _, _, _, _, _, _, _, _, _, _ => rfl
 | f + 1, t0, t1, s, t3, t4, t5, t8, t9, t50, t51, t52 => by
  simp only [impl_netSearch_each_c1_impl_SolutionRelation_c1_L10, hM]
  split
  ·split
   ·split
    ·split
     ·split
      ·split
       ·cases impl_compose (gd t50 t52 []) t1 with
        | none => rfl
        | some r2 =>
         simp only [Option.bind_some]
         cases impl_keyOf r2 with
         | none => rfl
         | some r3 => simp only [Option.bind_some]; exact eachSR_M rec f ..
       ·rfl
      ·rfl
     ·rfl
    ·exact eachSR_M rec f ..
   ·rfl
  ·rfl
abbrev SRin := Int × List Int × (List Int × SRs) × NS × List Int × Unit
abbrev SRout := List Int × (Unit × SRs) × NS × List Int × Bool
theorem eachSR_L (rec : SRin → Option SRout) (rec0 : NIn SRs → Option (NOut SRs)) (hrec : ∀ a t (s : SRs) n g u, rec (a, t, (vars, s), n, g, u) = (rec0 (a, t, s, n, g, u)).map fun y => (y.1, ((), y.2.1), y.2.2)) :
    ∀ f t0 t1 (s : SRs) t3 t4 t5 t8, impl_netSearch_each_c1_impl_SolutionRelation_c1_L4 rec f (t0, t1, (vars, s), t3, t4, t5, t8) = (hL rec0 f (t0, t1, s, t3, t4, t5, t8)).map fun y => match y with
      | .inl y => .inl (y.1, (vars, y.2.1), y.2.2)
      | .inr y => .inr (y.1, (vars, y.2.1), y.2.2)
  | 0, _, _, _, _, _, _, _ => rfl
  | f + 1, t0, t1, (p, q), t3, t4, t5, t8 => by
    have ih := eachSR_L rec rec0 hrec f
    have key : (impl_netSearch_each_c1_impl_SolutionRelation_c1_L10 rec fuel (t0, stt t1 t0 t8, (vars, (p, q)), t3, t4, (), t8, true, gd t3.2.2.1 t0 [], ((gd t3.2.2.1 t0 []).length : Int), 0)).bind (fun s2 =>
                        if s2.2.2.2.2.2.2.2 then
                          (rec (w64 (s2.1 + 1), s2.2.1, (s2.2.2.1.1, (s2.2.2.1.2.1, s2.2.2.1.2.2)), s2.2.2.2.1, s2.2.2.2.2.1, ())).bind fun r3 =>
                            if !r3.2.2.2.2 then
                              some (.inr (r3.1, (s2.2.2.1.1, (r3.2.1.2.1, r3.2.1.2.2)), r3.2.2.1, r3.2.2.2.1, (), false))
                            else
                              impl_netSearch_each_c1_impl_SolutionRelation_c1_L4 rec f (s2.1, r3.1, (s2.2.2.1.1, (r3.2.1.2.1, r3.2.1.2.2)), r3.2.2.1, r3.2.2.2.1, (), w64 (s2.2.2.2.2.2.2.1 + 1))
                        else
                          impl_netSearch_each_c1_impl_SolutionRelation_c1_L4 rec f (s2.1, s2.2.1, (s2.2.2.1.1, (s2.2.2.1.2.1, s2.2.2.1.2.2)), s2.2.2.2.1, s2.2.2.2.2.1, (), w64 (s2.2.2.2.2.2.2.1 + 1)))
        = ((hM fuel (t0, stt t1 t0 t8, (p, q), t3, t4, (), t8, true, gd t3.2.2.1 t0 [], ((gd t3.2.2.1 t0 []).length : Int), 0)).bind fun s2 =>
                        if s2.2.2.2.2.2.2.2 then
                          (rec0 (w64 (s2.1 + 1), s2.2.1, s2.2.2.1, s2.2.2.2.1, s2.2.2.2.2.1, ())).bind fun r3 =>
                            if !r3.2.2.2.2 then
                              some (.inr (r3.1, r3.2.1, r3.2.2.1, r3.2.2.2.1, (), false))
                            else
                              hL rec0 f (s2.1, r3.1, r3.2.1, r3.2.2.1, r3.2.2.2.1, (), w64 (s2.2.2.2.2.2.2.1 + 1))
                        else
                          hL rec0 f (s2.1, s2.2.1, s2.2.2.1, s2.2.2.2.1, s2.2.2.2.2.1, (), w64 (s2.2.2.2.2.2.2.1 + 1))).map fun y => match y with
      | .inl y => .inl (y.1, (vars, y.2.1), y.2.2)
      | .inr y => .inr (y.1, (vars, y.2.1), y.2.2) := by
      rw [eachSR_M]
      generalize hM fuel (t0, stt t1 t0 t8, (p, q), t3, t4, (), t8, true, gd t3.2.2.1 t0 [], ((gd t3.2.2.1 t0 []).length : Int), 0) = o
      cases o with
      | none => rfl
      | some y =>
        obtain ⟨y0, y1, ⟨y2, y3⟩, y4, y5, y6, y7, y8⟩ := y
        rw [Option.map_some, Option.bind_some, Option.bind_some]
        dsimp only
        cases y8 with
        | false => exact ih ..
        | true =>
          rw [if_pos rfl, if_pos rfl, hrec]
          generalize rec0 (w64 (y0 + 1), y1, (y2, y3), y4, y5, ()) = o
          cases o with
          | none => rfl
          | some z =>
            obtain ⟨z0, ⟨z1, z2⟩, z3, z4, z5⟩ := z
            rw [Option.map_some, Option.bind_some, Option.bind_some]
            dsimp only
            cases z5 with
            | false => rfl
            | true => exact ih ..
    rw [impl_netSearch_each_c1_impl_SolutionRelation_c1_L4, hL]
    dsimp only
    rw [key]
    exact ite_map (ite_map (ite_map (ite_map (ite_map (ite_map (ih ..) (ite_map (ite_map (ite_map rfl rfl) rfl) rfl)) rfl) (ite_map (ite_map (ite_map rfl rfl) rfl) rfl)) rfl) rfl) rfl
theorem eachSR : ∀ d a t (s : SRs) n g u, impl_netSearch_each_c1_impl_SolutionRelation_c1 d (a, t, (vars, s), n, g, u) = (hF (srCb vars) d (a, t, s, n, g, u)).map fun y => (y.1, ((), y.2.1), y.2.2)
 | 0, _, _, _, _, _, _ => rfl
 | d + 1, a, t, s, n, g, u => by
  have ih := eachSR d
  rw [impl_netSearch_each_c1_impl_SolutionRelation_c1, hF]
  unfold hBody impl_netSearch_each_c1_impl_SolutionRelation_c1_body
  dsimp only
  split
  ·unfold srCb
   cases impl_SolutionRelation_c1 t vars s.1 s.2 <;> rfl
  ·have := eachSR_L _ (hF (srCb vars) d) ih fuel a t s n g () 0
   rw [this]
   cases hL (hF (srCb vars) d) fuel (a, t, s, n, g, (), 0) with
   | none => rfl
   | some z => cases z <;> rfl
def addP (vars : List Int) (acc : List (List Int)) (t : List Int) : List (List Int) := if vars.map (valI t) ∈ acc then acc else acc ++ [vars.map (valI t)]
theorem addP_mem {u : List Int} : ∀ (l acc : List (List Int)), u ∈ l.foldl (addP vars) acc ↔ u ∈ acc ∨ ∃ t ∈ l, u = vars.map (valI t)
 | [], acc => by simp
 | t :: l, acc => by
  rw [List.foldl_cons, addP_mem l]
  unfold addP
  split
  ·rename_i h
   constructor
   ·rintro (h1 | ⟨s, h1, h2⟩)
    ·exact .inl h1
    ·exact .inr ⟨s, List.mem_cons_of_mem _ h1, h2⟩
   ·rintro (h1 | ⟨s, h1, h2⟩)
    ·exact .inl h1
    ·rcases List.mem_cons.1 h1 with rfl | h1
     ·exact .inl (h2 ▸ h)
     ·exact .inr ⟨s, h1, h2⟩
  ·constructor
   ·rintro (h1 | ⟨s, h1, h2⟩)
    ·rcases List.mem_append.1 h1 with h1 | h1
     ·exact .inl h1
     ·rw [List.mem_singleton] at h1; exact .inr ⟨t, List.mem_cons_self .., h1⟩
    ·exact .inr ⟨s, List.mem_cons_of_mem _ h1, h2⟩
   ·rintro (h1 | ⟨s, h1, h2⟩)
    ·exact .inl (List.mem_append_left _ h1)
    ·rcases List.mem_cons.1 h1 with rfl | h1
     ·exact .inl (List.mem_append_right _ (by simp [h2]))
     ·exact .inr ⟨s, h1, h2⟩
theorem keys_snoc {l : List (List Int)} {t : List Int} : keys (l ++ [t]) = mput (keys l) (keyB t) := by unfold keys; rw [List.foldl_append]; rfl
variable {V n : Nat}
theorem fold_sr (hn : n ≤ 4) (hvl : vars.length ≤ 3) (hv : ∀ v ∈ vars, 0 ≤ v ∧ v < (V : Int)) : ∀ (l acc : List (List Int)), (∀ t ∈ l, t.length = V ∧ ∀ u, u < V → 0 ≤ t.getD u 0 ∧ t.getD u 0 < (n : Int)) → (∀ r ∈ acc, ∀ x ∈ r, 0 ≤ x ∧ x < 256) → acc.length + l.length ≤ 1000000 →
    foldU (srCb vars) l (keys acc, acc) = some ((keys (l.foldl (addP vars) acc), l.foldl (addP vars) acc), true)
  | [], acc, _, _, _ => by simp [foldU]
  | t :: l, acc, h, ha, hb => by
    obtain ⟨h1, h2⟩ := h t (List.mem_cons_self ..)
    simp only [List.length_cons] at hb
    have hx : ∀ x ∈ vars.map (valI t), 0 ≤ x ∧ x < 256 := fun x hx => by
      obtain ⟨v, hv', rfl⟩ := List.mem_map.1 hx
      have hv' := hv v hv'
      have := h2 v.toNat (by omega)
      unfold valI; omega
    have e1 := impl_compose_ok (f := vars) (g := t) (by omega) (fun v hv' => by have := hv v hv'; omega)
    have e2 := impl_keyOf_ok (l := vars.map (valI t)) (by simp; omega) hx
    have e3 := mhas_keys (l := acc) (t := vars.map (valI t)) ha hx
    have e : srCb vars t (keys acc, acc) = some ((keys (addP vars acc t), addP vars acc t), true) := by
      unfold srCb impl_SolutionRelation_c1 addP
      simp only [e1, e2, e3, Option.bind_some]
      by_cases hm : vars.map (valI t) ∈ acc
      · rw [decide_eq_true hm, if_pos hm]; rfl
      · rw [decide_eq_false hm, if_neg hm, keys_snoc]
        rw [if_pos (show (!false) = true from rfl), if_pos (by unfold lim; simp only [List.length_singleton]; omega)]; rfl
    simp only [foldU, e, List.foldl_cons]
    refine fold_sr hn hvl hv l _ (fun t ht => h t (List.mem_cons_of_mem _ ht)) (fun r hr => ?_) ?_
    · unfold addP at hr
      split at hr
      · exact ha r hr
      · rcases List.mem_append.1 hr with hr | hr
        · exact ha r hr
        · rw [List.mem_singleton] at hr; subst hr; exact hx
    · have : (addP vars acc t).length ≤ acc.length + 1 := by unfold addP; split <;> simp
      omega
end
end T
open Go Go.Va
namespace T
def tabL (n k : Nat) : List (List Int) := (List.range (n ^ k)).map fun i => cI (dg n k i)
theorem idxA_dg {n : Nat} : ∀ (k i : Nat), i < n ^ k → idxA (n : Int) 0 (cI (dg n k i)) = (i : Int)
 | 0, i, h => by
  have : i = 0 := by simpa using h
  subst this; rfl
 | k + 1, i, h => by
  have hn : 0 < n := by
   rcases Nat.eq_zero_or_pos n with h0 | h0
   ·subst h0; simp at h
   ·exact h0
  have hi : i / n < n ^ k := by rw [Nat.div_lt_iff_lt_mul hn]; rw [Nat.pow_succ] at h; exact h
  simp only [dg, cI_append]
  rw [show cI [i % n] = [((i % n : Nat) : Int)] from rfl, idxA_snoc, idxA_dg k _ hi]
  have := Nat.div_add_mod i n
  have e : ((i / n : Nat) : Int) * (n : Int) = ((n * (i / n) : Nat) : Int) := by rw [Nat.mul_comm]; simp
  rw [e]; omega
theorem cI_dg_len {n k i : Nat} : (cI (dg n k i)).length = k := by rw [cI_len, dg_len]
theorem cI_dg_in {n k i : Nat} (hn : 0 < n) : ∀ x ∈ cI (dg n k i), 0 ≤ x ∧ x < (n : Int) := fun x hx => by
 unfold cI at hx
 obtain ⟨y, hy, rfl⟩ := List.mem_map.1 hx
 have := dg_lt hn y hy
 omega
theorem below_dg {n k i : Nat} (hn : 0 < n) : belowB (n : Int) (cI (dg n k i)) = true := by
 unfold belowB
 rw [List.all_eq_true]
 exact fun x hx => by simpa using cI_dg_in hn x hx
theorem tabL_inc {n k : Nat} (hn : 0 < n) : incB (tabL n k) = true := by
 rw [incB_pair]
 unfold tabL
 rw [List.pairwise_map]
 refine List.Pairwise.imp_of_mem ?_ (List.pairwise_lt_range (n := n ^ k))
 intro i j hi hj hij
 have hi := List.mem_range.1 hi
 have hj := List.mem_range.1 hj
 refine (idx_cmp (below_dg hn) (below_dg hn) (by rw [cI_dg_len, cI_dg_len])).1.2 ?_
 unfold idx
 rw [idxA_dg k i hi, idxA_dg k j hj]; omega
theorem tabL_mem {n k : Nat} {u : List Int} (hl : u.length = k) (hv : ∀ x ∈ u, 0 ≤ x ∧ x < (n : Int)) : u ∈ tabL n k := by
 obtain ⟨i, h1, h2⟩ := dg_onto (b := n) k (u.map Int.toNat) (by simpa using hl) (fun y hy => by
  obtain ⟨x, hx, rfl⟩ := List.mem_map.1 hy
  have := hv x hx; omega)
 refine List.mem_map.2 ⟨i, List.mem_range.2 h1, ?_⟩
 rw [h2]
 unfold cI
 rw [List.map_map]
 have : u.map ((fun x : Nat => (x : Int)) ∘ Int.toNat) = u.map id := List.map_congr_left fun x hx => by
  have := hv x hx
  simp; omega
 rw [this, List.map_id]
section
variable {V n : Nat} {cs : List Con} {P s : List Int} {g : Bool}
def pgS (q : List Int × Bool) (z : Int × Int) : List Int × Bool := (q.1.set z.1.toNat z.2, q.2 && (decide (q.1.getD z.1.toNat 0 < 0) || q.1.getD z.1.toNat 0 == z.2))
def agr (V : Nat) (P s : List Int) : Prop := ∀ q, q < V → P.getD q 0 < 0 ∨ s.getD q 0 = P.getD q 0
theorem pg_len : ∀ (l : List (Int × Int)) (q : List Int × Bool), (l.foldl pgS q).1.length = q.1.length
 | [], _ => rfl
 | z :: l, q => by rw [List.foldl_cons, pg_len l]; simp [pgS]
theorem pg_iff : ∀ (l : List (Int × Int)) (P : List Int) (g : Bool), P.length = V → (∀ z ∈ l, 0 ≤ z.1 ∧ z.1 < (V : Int) ∧ 0 ≤ z.2) →
    ((l.foldl pgS (P, g)).2 = true ∧ agr V (l.foldl pgS (P, g)).1 s ↔ g = true ∧ agr V P s ∧ ∀ z ∈ l, s.getD z.1.toNat 0 = z.2)
  | [], P, g, _, _ => by simp
  | z :: l, P, g, hP, hz => by
    obtain ⟨z1, z2, z3⟩ := hz z (List.mem_cons_self ..)
    rw [List.foldl_cons]
    have := pg_iff l (pgS (P, g) z).1 (pgS (P, g) z).2 (by simp [pgS, hP]) fun y hy => hz y (List.mem_cons_of_mem _ hy)
    rw [this]
    have hset : ∀ q, q < V → (P.set z.1.toNat z.2).getD q 0 = if z.1.toNat = q then z.2 else P.getD q 0 := fun q hq => by
      rw [getD_of (by simpa [hP] using hq), List.getElem_set]
      split
      · rfl
      · rw [getD_of (by rw [hP]; exact hq)]
    simp only [pgS, List.forall_mem_cons, Bool.and_eq_true, Bool.or_eq_true, decide_eq_true_eq, beq_iff_eq]
    constructor
    · rintro ⟨⟨h1, h2⟩, h3, h4⟩
      have hs : s.getD z.1.toNat 0 = z.2 := by
        rcases h3 z.1.toNat (by omega) with h | h
        · rw [hset _ (by omega), if_pos rfl] at h; omega
        · rw [hset _ (by omega), if_pos rfl] at h; exact h
      refine ⟨h1, fun q hq => ?_, hs, h4⟩
      by_cases e : z.1.toNat = q
      · subst e
        rcases h2 with h2 | h2
        · exact .inl h2
        · exact .inr (by rw [hs, h2])
      · have := h3 q hq
        rw [hset q hq, if_neg e] at this; exact this
    · rintro ⟨h1, h2, h3, h4⟩
      refine ⟨⟨h1, ?_⟩, fun q hq => ?_, h4⟩
      · rcases h2 z.1.toNat (by omega) with h | h
        · exact .inl h
        · exact .inr (by rw [← h, h3])
      · rw [hset q hq]
        by_cases e : z.1.toNat = q
        · rw [if_pos e]; subst e; exact .inr h3
        · rw [if_neg e]; exact h2 q hq
theorem sols_agr (hP : P.length = V) {t : List Int} : t ∈ solsN V n cs P ↔ t ∈ solsN V n cs (List.replicate V (-1)) ∧ agr V P t := by
 unfold solsN
 rw [ext_iff, ext_iff]
 simp only [List.length_nil, Nat.zero_add, List.take_zero, true_and, Nat.zero_le, true_implies]
 have hm : ∀ q, q < V → 0 ≤ t.getD q 0 → (mstB P q (t.getD q 0).toNat = true ↔ (P.getD q 0 < 0 ∨ t.getD q 0 = P.getD q 0)) := fun q hq h0 => by
  unfold mstB
  simp only [Bool.not_eq_true', Bool.and_eq_false_iff, decide_eq_false_iff_not, bne_eq_false_iff_eq]
  have e : (((t.getD q 0).toNat : Nat) : Int) = t.getD q 0 := Int.toNat_of_nonneg h0
  rw [e]
  constructor
  ·rintro (h | h)
   ·exact .inl (by omega)
   ·exact .inr h.symm
  ·rintro (h | h)
   ·exact .inl (by omega)
   ·exact .inr h.symm
 constructor
 ·rintro ⟨h1, h2⟩
  exact ⟨⟨h1, fun q hq => ⟨(h2 q hq).1, mst_free (by omega), (h2 q hq).2.2⟩⟩, fun q hq => (hm q hq (h2 q (by omega)).1.1).1 (h2 q (by omega)).2.1⟩
 ·rintro ⟨⟨h1, h2⟩, h3⟩
  exact ⟨h1, fun q hq => ⟨(h2 q hq).1, (hm q (by omega) (h2 q hq).1.1).2 (h3 q (by omega)), (h2 q hq).2.2⟩⟩
theorem find_agr (h : SrchOk V n cs) (hP : P.length = V) : ∃ s : S19, spec_l19Find ((V : Int), ((n : Int), cs)) cs P 1 true = some s ∧ decide (s.2.1 > 0) = !(solsN V n cs P).isEmpty := by
 cases hs : solsN V n cs P with
 | nil =>
  have := find19_ok (cs0 := cs) (given := P) (most := 1) (one := true) h hP (by omega) (s' := ([], 0, 1, true)) (b := true) (by rw [hs]; rfl)
  exact ⟨_, this, rfl⟩
 | cons t l =>
  have := find19_ok (cs0 := cs) (given := P) (most := 1) (one := true) h hP (by omega) (s' := ([t], 1, 1, true)) (b := false) (by rw [hs]; rfl)
  exact ⟨_, this, rfl⟩
variable {vars t : List Int}
def solV1 (V n : Nat) (cs : List Con) (vars : List Int) : List (List Int) := (solsN V n cs (List.replicate V (-1))).map fun t => vars.map (valI t)
theorem part_iff (hvl : vars.length = t.length) (hv : ∀ v ∈ vars, 0 ≤ v ∧ v < (V : Int)) (ht : ∀ x ∈ t, 0 ≤ x) :
    (((vars.zip t).foldl pgS (List.replicate V (-1), true)).2 && !(solsN V n cs ((vars.zip t).foldl pgS (List.replicate V (-1), true)).1).isEmpty) = decide (t ∈ solV1 V n cs vars) := by
  have hlen : ((vars.zip t).foldl pgS (List.replicate V (-1), true)).1.length = V := by rw [pg_len]; simp
  have hz : ∀ z ∈ vars.zip t, 0 ≤ z.1 ∧ z.1 < (V : Int) ∧ 0 ≤ z.2 := fun z hz => by
    obtain ⟨h1, h2⟩ := List.of_mem_zip (show (z.1, z.2) ∈ vars.zip t from hz)
    exact ⟨(hv _ h1).1, (hv _ h1).2, ht _ h2⟩
  have hfr : ∀ s, agr V (List.replicate V (-1)) s := fun s q hq => by
    left; rw [getD_of (by simpa using hq)]; simp
  have hzip : ∀ s : List Int, (∀ z ∈ vars.zip t, s.getD z.1.toNat 0 = z.2) ↔ t = vars.map (valI s) := fun s => by
    constructor
    · intro h
      refine List.ext_getElem (by simp [hvl]) fun i h1 h2 => ?_
      have h3 : i < vars.length := by simpa using h2
      have := h (vars[i], t[i]) (by
        have : (vars.zip t)[i]'(by simp; omega) = (vars[i], t[i]) := List.getElem_zip
        rw [← this]; exact List.getElem_mem _)
      simp only [List.getElem_map, valI]
      exact this.symm
    · intro h z hz
      obtain ⟨i, hi, rfl⟩ := List.mem_iff_getElem.1 hz
      rw [List.getElem_zip]
      dsimp only
      have hi' : i < vars.length ∧ i < t.length := by simpa [Nat.lt_min] using hi
      have : t[i] = (vars.map (valI s))[i]'(by simp; omega) := by simp only [← h]
      rw [this, List.getElem_map]; rfl
  rw [Bool.eq_iff_iff, Bool.and_eq_true, decide_eq_true_eq]
  unfold solV1
  rw [List.mem_map]
  constructor
  · rintro ⟨h1, h2⟩
    cases hl : solsN V n cs ((vars.zip t).foldl pgS (List.replicate V (-1), true)).1 with
    | nil => rw [hl] at h2; simp at h2
    | cons s l =>
      obtain ⟨h3, h4⟩ := (sols_agr hlen).1 (show s ∈ _ by rw [hl]; exact List.mem_cons_self ..)
      have := (pg_iff (s := s) _ _ _ (by simp) hz).1 ⟨h1, h4⟩
      exact ⟨s, h3, ((hzip s).1 this.2.2).symm⟩
  · rintro ⟨s, h1, h2⟩
    have := (pg_iff (s := s) _ _ true (by simp) hz).2 ⟨rfl, hfr s, (hzip s).2 h2.symm⟩
    refine ⟨this.1, ?_⟩
    have hm := (sols_agr (n := n) (cs := cs) hlen).2 ⟨h1, this.2⟩
    cases hl : solsN V n cs ((vars.zip t).foldl pgS (List.replicate V (-1), true)).1 with
    | nil => rw [hl] at hm; simp at hm
    | cons => rfl
theorem sr_L10 (hvl : vars.length = t.length) (hl : vars.length ≤ 3) (hv : ∀ v ∈ vars, 0 ≤ v ∧ v < (V : Int)) (N : Net) (t4 t6 : Int × List (List Int)) (t7 : Int) :
    spec_SolutionRelation_L10 fuel (vars, N, t4, t6, t7, t, List.replicate V (-1), true, 0) = some (vars, N, t4, t6, t7, t, ((vars.zip t).foldl pgS (List.replicate V (-1), true)).1, ((vars.zip t).foldl pgS (List.replicate V (-1), true)).2) := by
  have := forS vars.length (fun f (q : List Int × Bool) i => spec_SolutionRelation_L10 f (vars, N, t4, t6, t7, t, q.1, q.2, i)) (fun k => ((vars.zip t).take k).foldl pgS (List.replicate V (-1), true)) (r := some (vars, N, t4, t6, t7, t, ((vars.zip t).foldl pgS (List.replicate V (-1), true)).1, ((vars.zip t).foldl pgS (List.replicate V (-1), true)).2)) (fun f k hk => ?_) (fun f => ?_) (n := fuel) (by unfold fuel; omega)
  · exact this
  · have hkz : k < (vars.zip t).length := by simp; omega
    have hkt : k < t.length := by omega
    have e : (vars.zip t).take (k + 1) = (vars.zip t).take k ++ [(vars[k], t[k])] := by
      rw [List.take_succ_eq_append_getElem hkz, List.getElem_zip]
    have hlen : (((vars.zip t).take k).foldl pgS (List.replicate V (-1), true)).1.length = V := by rw [pg_len]; simp
    rw [e, List.foldl_append]
    generalize ((vars.zip t).take k).foldl pgS (List.replicate V (-1), true) = q at *
    obtain ⟨P, g⟩ := q
    have hlen : P.length = V := hlen
    have hvk := hv vars[k] (List.getElem_mem hk)
    obtain ⟨v, ev⟩ : ∃ v : Nat, vars[k] = (v : Int) := ⟨vars[k].toNat, by omega⟩
    have hvP : v < P.length := by omega
    simp only [spec_SolutionRelation_L10, List.foldl_cons, List.foldl_nil, pgS, inb_nat, hk, hkt, gd_nat hk, gd_nat hkt, ev, hvP, if_true, gd_nat hvP, Int.toNat_natCast, stt_nat, w64_succ (show k < 4611686018427387904 by omega), getD_of hvP]
    rw [if_pos (by rw [decide_eq_true_eq]; omega)]
    cases g with
    | false => simp
    | true =>
      rw [if_pos rfl]
      by_cases h : P[v] < 0
      · simp [h]
      · simp [h]
  · simp only [spec_SolutionRelation_L10]
    rw [if_neg (by simp), List.take_of_length_le (by simp; omega)]
theorem solV1_in (_ : SrchOk V n cs) (hv : ∀ v ∈ vars, 0 ≤ v ∧ v < (V : Int)) {u : List Int} (hu : u ∈ solV1 V n cs vars) : u.length = vars.length ∧ ∀ x ∈ u, 0 ≤ x ∧ x < (n : Int) := by
 unfold solV1 at hu
 obtain ⟨s, hs, rfl⟩ := List.mem_map.1 hu
 obtain ⟨h1, _, h2⟩ := (ext_iff V [] s).1 (show s ∈ extL n (List.replicate V (-1)) (okN cs) V [] from hs)
 refine ⟨by simp, fun x hx => ?_⟩
 obtain ⟨v, hv', rfl⟩ := List.mem_map.1 hx
 have := hv v hv'
 simp only [List.length_nil, Nat.zero_add] at h1
 exact (h2 v.toNat (by simp) (by omega)).1
theorem solV1_set (hS : SrchOk V n cs) (hv : ∀ v ∈ vars, 0 ≤ v ∧ v < (V : Int)) : setL (solV1 V n cs vars) = (tabL n vars.length).filter fun t => decide (t ∈ solV1 V n cs vars) := by
 have hn := hS.hn
 refine setL_of ?_ fun u => ?_
 ·rw [incB_pair]
  exact (incB_pair.1 (tabL_inc (by omega))).filter _
 ·rw [List.mem_filter, decide_eq_true_eq]
  refine ⟨fun h => h.2, fun h => ⟨?_, h⟩⟩
  obtain ⟨h1, h2⟩ := solV1_in hS hv h
  exact tabL_mem h1 h2
theorem sr_spec (hS : SrchOk V n cs) (h1 : 1 ≤ vars.length) (hl : vars.length ≤ 3) (hv : ∀ v ∈ vars, 0 ≤ v ∧ v < (V : Int)) :
    spec_SolutionRelation_L5 fuel (vars, ((V : Int), ((n : Int), cs)), (0, []), ((vars.length : Int), []), 0) = some ((0, []), ((vars.length : Int), setL (solV1 V n cs vars))) := by
  have hn := hS.hn
  have hV := hS.hv
  rw [solV1_set hS hv]
  have hpow : n ^ vars.length ≤ 64 := Nat.le_trans (Nat.pow_le_pow_left hn.2 _) (Nat.le_trans (Nat.pow_le_pow_right (by omega) hl) (by decide))
  have := forS (n ^ vars.length) (fun f (q : List (List Int)) i => spec_SolutionRelation_L5 f (vars, ((V : Int), ((n : Int), cs)), (0, []), ((vars.length : Int), q), i)) (fun k => ((List.range k).map fun i => cI (dg n vars.length i)).filter fun t => decide (t ∈ solV1 V n cs vars)) (r := some ((0, []), ((vars.length : Int), (tabL n vars.length).filter fun t => decide (t ∈ solV1 V n cs vars)))) (fun f k hk => ?_) (fun f => ?_) (n := fuel) (by unfold fuel; omega)
  · exact this
  · have e1 := spec_pow64 (b := n) (k := vars.length) (by omega) hl
    have e2 := spec_l2Args_ok (b := n) (k := vars.length) (i := k) (by omega) (by omega) (by omega)
    have e3 := freeS_ok (N := V) (by omega)
    have hq := cI_dg_in (n := n) (k := vars.length) (i := k) (by omega)
    have hql := cI_dg_len (n := n) (k := vars.length) (i := k)
    have e4 := fun t6 => sr_L10 (V := V) (t := cI (dg n vars.length k)) (vars := vars) hql.symm hl hv ((V : Int), ((n : Int), cs)) (0, []) t6 (k : Int)
    have hpl : ((vars.zip (cI (dg n vars.length k))).foldl pgS (List.replicate V (-1), true)).1.length = V := by rw [pg_len]; simp
    obtain ⟨s, e5, e6⟩ := find_agr hS hpl
    have e7 := part_iff (V := V) (n := n) (cs := cs) (t := cI (dg n vars.length k)) hql.symm hv fun x hx => (hq x hx).1
    rw [List.range_succ, List.map_append, List.filter_append, List.map_singleton]
    simp only [spec_SolutionRelation_L5, e1, e2, e3, e4, e5, e6, Option.bind_some, w64_succ (show k < 4611686018427387904 by omega)]
    rw [if_pos (by rw [decide_eq_true_eq]; omega)]
    have hfl : ((List.filter (fun t => decide (t ∈ solV1 V n cs vars)) (List.map (fun i => cI (dg n vars.length i)) (List.range k))).length) ≤ k := Nat.le_trans (List.length_filter_le _ _) (by simp)
    rw [List.filter_cons, List.filter_nil, ← e7]
    clear e7 e6 e5 e4
    generalize ((vars.zip (cI (dg n vars.length k))).foldl pgS (List.replicate V (-1), true)).2 = g at *
    generalize (solsN V n cs ((vars.zip (cI (dg n vars.length k))).foldl pgS (List.replicate V (-1), true)).1).isEmpty = z at *
    cases g with
    | false => simp
    | true =>
      cases z with
      | false =>
        simp only [Bool.not_false, Bool.and_self, if_true]
        rw [if_pos (by unfold lim; simp only [List.length_singleton]; omega)]
      | true => simp
  · have e1 := spec_pow64 (b := n) (k := vars.length) (by omega) hl
    simp only [spec_SolutionRelation_L5, e1, Option.bind_some]
    rw [if_neg (by simp)]
    rfl
end
end T
open Go Go.Va
namespace T
section
variable {a : Net} {vars : List Int}
theorem addP_nodup : ∀ (l acc : List (List Int)), acc.Nodup → (l.foldl (addP vars) acc).Nodup
 | [], _, h => h
 | t :: l, acc, h => by
  rw [List.foldl_cons]
  refine addP_nodup l _ ?_
  unfold addP
  split
  ·exact h
  ·rename_i hn
   rw [List.nodup_append]
   refine ⟨h, by simp, fun x hx y hy => ?_⟩
   rw [List.mem_singleton] at hy; subst hy
   exact fun e => hn (e ▸ hx)
theorem sortL_mem {l : List (List Int)} {u : List Int} : u ∈ sortL cmpL l ↔ u ∈ l := (List.mergeSort_perm l _).mem_iff
theorem sr_impl {V n : Nat} {cs : List Con} (hS : SrchOk V n cs) (hl : vars.length ≤ 3) (hv : ∀ v ∈ vars, 0 ≤ v ∧ v < (V : Int)) :
    ∃ k L, impl_eachSolution_impl_SolutionRelation_c1 ((V : Int), ((n : Int), cs)) (vars, ([], [])) = some ((), (k, L)) ∧ L.length ≤ 64 ∧ (∀ r ∈ L, r.length ≤ 3) ∧ setL L = setL (solV1 V n cs vars) := by
  have hV := hS.hv
  have hn := hS.hn
  have e1 := newNet_ok hS
  have hin : ∀ t ∈ solsN V n cs (List.replicate V (-1)), t.length = V ∧ ∀ u, u < V → 0 ≤ t.getD u 0 ∧ t.getD u 0 < (n : Int) := fun t ht => by
    obtain ⟨h1, _, h2⟩ := (ext_iff V [] t).1 (show t ∈ extL n (List.replicate V (-1)) (okN cs) V [] from ht)
    simp only [List.length_nil, Nat.zero_add] at h1
    exact ⟨h1, fun u hu => (h2 u (by simp) (by omega)).1⟩
  have hlen : (solsN V n cs (List.replicate V (-1))).length ≤ 262144 := by
    refine Nat.le_trans (ext_len (n := n) (given := List.replicate V (-1)) V []) ?_
    exact Nat.le_trans (Nat.pow_le_pow_left hn.2 V) (Nat.le_trans (Nat.pow_le_pow_right (by omega) hV) (by decide))
  have hfold := fold_sr (vars := vars) (V := V) (n := n) hn.2 hl hv (solsN V n cs (List.replicate V (-1))) [] hin (by simp) (by simp; omega)
  have hfold : foldU (srCb vars) (extL n (List.replicate V (-1)) (okN cs) V ((List.replicate V (0 : Int)).take 0)) ([], []) = _ := hfold
  have hmem : ∀ u, u ∈ (solsN V n cs (List.replicate V (-1))).foldl (addP vars) [] ↔ u ∈ solV1 V n cs vars := fun u => by
    rw [addP_mem]
    unfold solV1
    rw [List.mem_map]
    constructor
    · rintro (h | ⟨t, h1, h2⟩)
      · simp at h
      · exact ⟨t, h1, h2.symm⟩
    · rintro ⟨t, h1, h2⟩; exact .inr ⟨t, h1, h2.symm⟩
  have hnd := addP_nodup (vars := vars) (solsN V n cs (List.replicate V (-1))) [] List.nodup_nil
  generalize (solsN V n cs (List.replicate V (-1))).foldl (addP vars) [] = L at *
  have hL : ∀ u ∈ L, u.length = vars.length ∧ ∀ x ∈ u, 0 ≤ x ∧ x < (n : Int) := fun u hu => solV1_in hS hv ((hmem u).1 hu)
  obtain ⟨tab', _, _, _, h4⟩ := hF_ok hS (given := List.replicate V (-1)) (by simp) (srCb vars) V fuel 0 (List.replicate V 0) ([], []) (by omega) (by unfold fuel; omega) (by simp) (fun x hx => by rw [List.eq_of_mem_replicate hx]; omega) _ _ hfold
  have h5 := eachSR (vars := vars) fuel 0 (List.replicate V 0) ([], []) (nsOf V n cs) (List.replicate V (-1)) ()
  have h4 : hF (srCb vars) fuel (0, List.replicate V 0, ([], []), nsOf V n cs, List.replicate V (-1), ()) = _ := h4
  rw [h4] at h5
  refine ⟨keys L, L, ?_, ?_, fun r hr => by rw [(hL r hr).1]; omega, setL_of (setL_inc _) fun u => setL_mem.trans (hmem u).symm⟩
  · unfold impl_eachSolution_impl_SolutionRelation_c1 impl_netSearch_each_impl_SolutionRelation_c1
    have hr : List.replicate (Int.toNat ((List.replicate V (-1 : Int)).length : Int)) (0 : Int) = List.replicate V 0 := by simp
    have hlim : 0 ≤ ((List.replicate V (-1 : Int)).length : Int) ∧ ((List.replicate V (-1 : Int)).length : Int) ≤ ((List.replicate V (-1 : Int)).length : Int) ∧ ((List.replicate V (-1 : Int)).length : Int) ≤ lim := by rw [List.length_replicate]; unfold lim; omega
    simp only [e1, freeI_ok (show V ≤ 1000 by omega), Option.bind_some, hr, h5, Option.map_some]
    rw [if_pos hlim]; rfl
  · have hi := incB_sortL hnd
    have := inc_count (n := (n : Int)) (k := vars.length) hi fun t ht => by
      obtain ⟨h1, h2⟩ := hL t (sortL_mem.1 ht)
      refine ⟨h1, ?_⟩
      unfold belowB
      rw [List.all_eq_true]
      exact fun x hx => by simpa using h2 x hx
    have hp : (sortL cmpL L).length = L.length := (List.mergeSort_perm L _).length_eq
    rcases this with h | h
    · rw [hp] at h
      have hpow : n ^ vars.length ≤ 64 := Nat.le_trans (Nat.pow_le_pow_left hn.2 _) (Nat.le_trans (Nat.pow_le_pow_right (by omega) hl) (by decide))
      have e : ((n : Int) ^ vars.length) = ((n ^ vars.length : Nat) : Int) := by simp
      rw [e] at h; omega
    · rw [h] at hp; rw [← hp]; simp
def srR (a : Net) (vars : List Int) : RelT × Bool := if netB a && (decide (1 ≤ vars.length ∧ vars.length ≤ 3) && belowB a.1 vars) then (((vars.length : Int), setL (solV1 a.1.toNat a.2.1.toNat a.2.2 vars)), true) else ((0, []), false)
theorem SolutionRelation_ok (h : netS a) (hvs : vars.length ≤ 1048576) : impl_SolutionRelation a vars = some (srR a vars) ∧ spec_SolutionRelation a vars = some (srR a vars) ∧ (srR a vars).1.2.length ≤ 64 ∧ ∀ r ∈ (srR a vars).1.2, r.length ≤ 3 := by
 unfold impl_SolutionRelation spec_SolutionRelation srR
 rw [impl_IsNetwork_ok (a := (a.1, (a.2.1, a.2.2))) h, spec_l19Good_ok (a := (a.1, (a.2.1, a.2.2))) h, show netB (a.1, (a.2.1, a.2.2)) = netB a from rfl]
 cases hb : netB a with
 | false => simp
 | true =>
  have hN := net_of hb
  have hv := hN.hv
  obtain ⟨hS, ea⟩ := net_srch2 hN
  have eV : ((a.1.toNat : Nat) : Int) = a.1 := Int.toNat_of_nonneg hv.1
  have ex : ((a.1.toNat : Int), ((a.2.1.toNat : Int), a.2.2)) = (a.1, (a.2.1, a.2.2)) := ea.symm
  have i1 := impl_inSize_ok (l := vars) a.1 (by omega)
  have i2 := spec_l2Elements_ok (l := vars) (n := a.1) (by omega) (by omega) (by omega)
  have i3 := spec_l1In_ok (vars.length : Int) 1 3
  by_cases hk : 1 ≤ vars.length ∧ vars.length ≤ 3
  ·have c1 : decide ((vars.length : Int) < 1) = false := by simp; omega
   have c2 : decide ((vars.length : Int) > 3) = false := by simp; omega
   have c3 : decide ((1 : Int) ≤ (vars.length : Int) ∧ (vars.length : Int) ≤ 3) = true := by simp; omega
   rw [c3] at i3
   cases hbl : belowB a.1 vars with
   | false =>
    rw [hbl] at i1 i2
    simp only [Option.bind_some, i1, i2, i3, c1, c2]
    simp
   | true =>
    rw [hbl] at i1 i2
    have hvv : ∀ v ∈ vars, 0 ≤ v ∧ v < (a.1.toNat : Int) := fun v hv' => by
     unfold belowB at hbl
     have := List.all_eq_true.1 hbl v hv'
     rw [eV]; simpa using this
    obtain ⟨K, L, g1, g2, g3, g4⟩ := sr_impl hS hk.2 hvv
    rw [ex] at g1
    have g5 := makeRel_ok (ar := (vars.length : Int)) (l := L) (by omega) (fun r hr => by have := g3 r hr; omega)
    have g6 := sr_spec hS hk.1 hk.2 hvv
    rw [ex] at g6
    have g7 : (setL (solV1 a.1.toNat a.2.1.toNat a.2.2 vars)).length ≤ 64 := by rw [← g4]; exact Nat.le_trans (setL_le L) g2
    rw [decide_eq_true hk]
    simp only [Option.bind_some, i1, i2, i3, c1, c2, g1, g5, g6, g4, Bool.not_true, Bool.false_eq_true, if_false, Bool.and_self, if_true]
    refine ⟨trivial, trivial, g7, fun r hr => ?_⟩
    rw [← g4] at hr
    exact g3 r (setL_mem.1 hr)
  ·have c3 : decide ((1 : Int) ≤ (vars.length : Int) ∧ (vars.length : Int) ≤ 3) = false := by simp; omega
   rw [c3] at i3
   rw [decide_eq_false hk]
   by_cases h1 : (vars.length : Int) < 1
   ·simp only [Option.bind_some, i3, decide_eq_true h1]; simp
   ·have h2 : (vars.length : Int) > 3 := by omega
    simp only [Option.bind_some, i3, decide_eq_true h2]; simp
theorem FnExactSolutionRelation_law (h : wfT netT a) (hv : wfT (.slice .int) vars) : laws_FnExactSolutionRelation a vars = some true := by
 unfold laws_FnExactSolutionRelation
 by_cases hbig : (vars.length : Int) > 1048576
 ·rw [if_pos (decide_eq_true hbig)]
 rw [if_neg (by simpa using hbig)]
 have hvs : vars.length ≤ 1048576 := by omega
 rw [szNetwork_ok (a := (a.1, (a.2.1, a.2.2))) h]
 simp only [Option.bind_some]
 rw [show totN (a.1, (a.2.1, a.2.2)) = totN a from rfl]
 by_cases h : szR (totN a) 1048576 < 0
 ·rw [if_pos (by simpa using h)]
 ·obtain ⟨hs, ht⟩ := szNetwork_small h
  rw [if_neg (by simpa using h)]
  obtain ⟨b, k, hm, hk0, hk1⟩ := markNetwork_ok hs ht
  obtain ⟨e1, e2, r1, r2⟩ := SolutionRelation_ok hs hvs
  generalize srR a vars = R at *
  have e1 : impl_SolutionRelation (a.1, (a.2.1, a.2.2)) vars = _ := e1
  have e2 : spec_SolutionRelation (a.1, (a.2.1, a.2.2)) vars = _ := e2
  have hm : laws_markNetwork (a.1, (a.2.1, a.2.2)) 1 = _ := hm
  have q2 : laws_eqNetwork (a.1, (a.2.1, a.2.2)) (a.1, (a.2.1, a.2.2)) = _ := eqNet_self hs
  have q4 : laws_toNetwork (a.1, (a.2.1, a.2.2)) = _ := toNetwork_ok hs
  have hR3 : ∀ r ∈ R.1.2, r.length ≤ 1048576 := fun r hr => by have := r2 r hr; omega
  have hq : laws_eqRelation (R.1.1, R.1.2) (R.1.1, R.1.2) = some true := by
   have := eqRelation_ok (a := R.1) (b := R.1) ⟨by omega, hR3⟩
   rw [decide_eq_true rfl] at this
   exact this
  have hsum := sum_le16 (l := R.1.2) fun r hr => by have := r2 r hr; omega
  have e3 := mIntSS_far R.1.2 1
  have e4 : ¬ (mIntSS R.1.2 1).2 < 0 := by omega
  have hmR : laws_markRelation (R.1.1, R.1.2) 1 = some (((), (mIntSS R.1.2 1).1), (mIntSS R.1.2 1).2) := by
   unfold laws_markRelation
   rw [markIntSS_ok (k := 1) (by omega) hR3 (by omega) (by unfold BM; omega)]; rfl
  have hhR : laws_heldRelation (R.1.1, (mIntSS R.1.2 1).1) 1 = some (mIntSS R.1.2 1).2 := by
   unfold laws_heldRelation
   rw [heldIntSS_ok (k := 1) (by omega) hR3 (by omega) (by unfold BM; omega)]
   simp only [Option.bind_some]
   rw [if_neg (by simpa using e4)]
  have hmv := markIntS_ok (l := vars) (k := k) hvs hk0 (by unfold BM; omega)
  have hmf := mIntS_far vars k
  simp only [q4, e1, e2, q2, hm, hmv, hq, hmR, hhR, toIntS_ok (show vars.length ≤ 1099511627775 by omega), eqIntS_ok (show vars.length ≤ 1099511627775 by omega), Option.bind_some]
  simp [e4, show ¬ (mIntS vars k).2 < 0 by omega]
end
end T
