/- Plain lemmas on the typed functions of the program, and the plain law of FnExactPairsRefute; no conditions. -/
import Derived.Test.YthakgchekjnfcaaV1
import Derived.Test.YthakgchekjnfcaaV5
set_option linter.all false
namespace Go.Va
theorem w64_def (x : Int) : w64 x = (x + 9223372036854775808) % 18446744073709551616 - 9223372036854775808 := by
  simp [w64, IntKind.wrap, IntKind.bits, IntKind.signed]
  split <;> omega
theorem w64_id {x : Int} (h1 : -9223372036854775808 ≤ x) (h2 : x ≤ 9223372036854775807) : w64 x = x := by
  rw [w64_def]; omega
theorem w64_succ {k : Nat} (h : k < 4611686018427387904) : w64 ((k : Int) + 1) = ((k + 1 : Nat) : Int) := by
  rw [w64_id (by omega) (by omega)]; rfl
theorem w64_succ' {k : Nat} (h : k < 4611686018427387904) : w64 ((k : Int) + 1) = (k : Int) + 1 := w64_id (by omega) (by omega)
theorem inb_nat {α : Type} {k : Nat} {xs : List α} : inb (k : Int) xs ↔ k < xs.length := by
  unfold inb; omega
theorem gd_nat {α : Type} {k : Nat} {xs : List α} {d : α} (h : k < xs.length) : gd xs (k : Int) d = xs[k] := by
  unfold gd; simp [h]
theorem stt_nat {α : Type} {k : Nat} {xs : List α} {x : α} : stt xs (k : Int) x = xs.set k x := by
  unfold stt; simp
/-- a loop over a list, from one place on -/
def runX {α σ β : Type} (step : σ → α → Option (σ ⊕ β)) (fin : σ → Option β) : List α → σ → Option β
  | [], s => fin s
  | a :: l, s => match step s a with | some (.inl s') => runX step fin l s' | some (.inr r) => some r | none => none
theorem loopX {α σ β : Type} (xs : List α) (L : Nat → σ → Int → Option β) (step : σ → α → Option (σ ⊕ β)) (fin : σ → Option β)
    (hs : ∀ n s (k : Nat) (hk : k < xs.length), L (n + 1) s k = match step s xs[k] with | some (.inl s') => L n s' ((k + 1 : Nat) : Int) | some (.inr r) => some r | none => none)
    (he : ∀ n s, L (n + 1) s (xs.length : Nat) = fin s) : ∀ (n k : Nat) (s : σ), k ≤ xs.length → xs.length - k < n → L n s k = runX step fin (xs.drop k) s := by
  intro n
  induction n with
  | zero => intro k s _ h; omega
  | succ n ih =>
    intro k s hk hn
    rcases Nat.lt_or_ge k xs.length with hlt | hge
    · rw [hs n s k hlt, List.drop_eq_getElem_cons hlt]
      simp only [runX]
      cases step s xs[k] with
      | none => rfl
      | some q =>
        cases q with
        | inl s' => exact ih (k + 1) s' hlt (by omega)
        | inr r => rfl
    · have : k = xs.length := by omega
      subst this
      rw [he, List.drop_length]; rfl
/-- .. from its start on -/
theorem loopX0 {α σ β : Type} (xs : List α) (L : Nat → σ → Int → Option β) (step : σ → α → Option (σ ⊕ β)) (fin : σ → Option β)
    (hs : ∀ n s (k : Nat) (hk : k < xs.length), L (n + 1) s k = match step s xs[k] with | some (.inl s') => L n s' ((k + 1 : Nat) : Int) | some (.inr r) => some r | none => none)
    (he : ∀ n s, L (n + 1) s (xs.length : Nat) = fin s) {n : Nat} (hn : xs.length < n) (s : σ) : L n s 0 = runX step fin xs s := by
  have := loopX xs L step fin hs he n 0 s (Nat.zero_le _) (by omega)
  simpa using this
/-- a loop that leaves at the first that fails -/
theorem runX_all {α β : Type} {p : α → Bool} {step : Unit → α → Option (Unit ⊕ β)} {fin : Unit → Option β} {r : β} : ∀ {l : List α}, (∀ a ∈ l, step () a = if p a then some (.inl ()) else some (.inr r)) → runX step fin l () = if l.all p then fin () else some r
  | [], _ => rfl
  | a :: l, h => by
    simp only [runX]
    rw [h a (by simp)]
    cases hp : p a with
    | true => simp only [if_true, List.all_cons, hp, Bool.true_and]; exact runX_all fun b hb => h b (List.mem_cons_of_mem _ hb)
    | false => simp [List.all_cons, hp]
/-- a loop that fills a list of the same length -/
theorem fillX {α β γ : Type} (xs : List α) (L : Nat → List β → Int → Option γ) (g : α → β) (fin : List β → Option γ)
    (hs : ∀ n (out : List β) (k : Nat) (hk : k < xs.length), out.length = xs.length → L (n + 1) out k = L n (out.set k (g xs[k])) ((k + 1 : Nat) : Int))
    (he : ∀ n out, out.length = xs.length → L (n + 1) out (xs.length : Nat) = fin out) : ∀ (n k : Nat) (out : List β), out.length = xs.length → k ≤ xs.length → xs.length - k < n → L n out k = fin (out.take k ++ (xs.drop k).map g) := by
  intro n
  induction n with
  | zero => intro k out _ _ h; omega
  | succ n ih =>
    intro k out hl hk hn
    rcases Nat.lt_or_ge k xs.length with hlt | hge
    · have : (out.set k (g xs[k])).take (k + 1) = out.take k ++ [g xs[k]] := by
        rw [List.take_succ_eq_append_getElem (by simp; omega), List.take_set_of_le (Nat.le_refl _), List.getElem_set_self]
      rw [hs n out k hlt hl, ih (k + 1) _ (by simpa using hl) hlt (by omega), List.drop_eq_getElem_cons hlt, this, List.map_cons, List.append_assoc, List.singleton_append]
    · have : k = xs.length := by omega
      subst this
      rw [he _ _ hl, List.drop_length, List.take_of_length_le (by omega)]; simp
theorem fillX0 {α β γ : Type} (xs : List α) (L : Nat → List β → Int → Option γ) (g : α → β) (fin : List β → Option γ)
    (hs : ∀ n (out : List β) (k : Nat) (hk : k < xs.length), out.length = xs.length → L (n + 1) out k = L n (out.set k (g xs[k])) ((k + 1 : Nat) : Int))
    (he : ∀ n out, out.length = xs.length → L (n + 1) out (xs.length : Nat) = fin out) {n : Nat} {out : List β} (hl : out.length = xs.length) (hn : xs.length < n) : L n out 0 = fin (xs.map g) := by
  have := fillX xs L g fin hs he n 0 out hl (Nat.zero_le _) (by omega)
  simpa using this
/-- a loop that holds two lists against each other -/
theorem eqX {α : Type} [DecidableEq α] (a b : List α) (hl : a.length = b.length) (L : Nat → Int → Option (Unit ⊕ Bool))
    (hs : ∀ n (k : Nat) (h1 : k < a.length) (h2 : k < b.length), L (n + 1) k = if a[k] = b[k] then L n ((k + 1 : Nat) : Int) else some (.inr false)) (he : ∀ n, L (n + 1) (a.length : Nat) = some (.inl ())) {n : Nat} (hn : a.length < n) :
    L n 0 = some (if a = b then .inl () else .inr false) := by
  have key : ∀ (n k : Nat), k ≤ a.length → a.length - k < n → L n k = some (if a.drop k = b.drop k then .inl () else .inr false) := by
    intro n
    induction n with
    | zero => intro k _ h; omega
    | succ n ih =>
      intro k hk hn
      rcases Nat.lt_or_ge k a.length with hlt | hge
      · have h2 : k < b.length := by omega
        have e : (a.drop k = b.drop k) ↔ (a[k] = b[k] ∧ a.drop (k + 1) = b.drop (k + 1)) := by
          rw [List.drop_eq_getElem_cons hlt, List.drop_eq_getElem_cons h2]; exact List.cons_eq_cons
        rw [hs n k hlt h2]
        by_cases h : a[k] = b[k]
        · rw [if_pos h, ih (k + 1) hlt (by omega)]
          by_cases h3 : a.drop (k + 1) = b.drop (k + 1)
          · rw [if_pos h3, if_pos (e.2 ⟨h, h3⟩)]
          · rw [if_neg h3, if_neg fun h' => h3 (e.1 h').2]
        · rw [if_neg h, if_neg fun h' => h (e.1 h').1]
      · have : k = a.length := by omega
        subst this
        rw [he, List.drop_length, hl, List.drop_length]; rfl
  have := key n 0 (Nat.zero_le _) (by omega)
  simpa using this
/-- a loop that asks of each element -/
theorem allX {α β : Type} (xs : List α) (L : Nat → Int → Option β) (p : α → Bool) (r e : β)
    (hs : ∀ n (k : Nat) (hk : k < xs.length), L (n + 1) k = if p xs[k] then L n ((k + 1 : Nat) : Int) else some r) (he : ∀ n, L (n + 1) (xs.length : Nat) = some e) {n : Nat} (hn : xs.length < n) :
    L n 0 = some (if xs.all p then e else r) := by
  have := loopX0 xs (fun n (_ : Unit) i => L n i) (fun _ a => if p a then some (.inl ()) else some (.inr r)) (fun _ => some e) (fun n s k hk => by rw [hs n k hk]; cases p xs[k] <;> simp) (fun n s => he n) hn ()
  rw [this, runX_all (p := p) (r := r) fun a _ => by cases p a <;> simp]
  cases xs.all p <;> simp
/-- a loop whose states are known -/
theorem forS {σ β : Type} (N : Nat) (L : Nat → σ → Int → Option β) (S : Nat → σ) {r : Option β}
    (hs : ∀ n (k : Nat), k < N → L (n + 1) (S k) k = L n (S (k + 1)) ((k + 1 : Nat) : Int)) (he : ∀ n, L (n + 1) (S N) (N : Nat) = r) {n : Nat} (hn : N < n) : L n (S 0) 0 = r := by
  have key : ∀ (n k : Nat), k ≤ N → N - k < n → L n (S k) k = r := by
    intro n
    induction n with
    | zero => intro k _ h; omega
    | succ n ih =>
      intro k hk hn
      rcases Nat.lt_or_ge k N with hlt | hge
      · rw [hs n k hlt]; exact ih (k + 1) hlt (by omega)
      · have : k = N := by omega
        subst this; exact he n
  exact key n 0 (Nat.zero_le _) (by omega)
/-- .. that leaves where p fails -/
theorem forA {σ β : Type} (N : Nat) (L : Nat → σ → Int → Option β) (S : Nat → σ) (p : Nat → Bool) {r e : Option β}
    (hs : ∀ n (k : Nat), k < N → L (n + 1) (S k) k = if p k then L n (S (k + 1)) ((k + 1 : Nat) : Int) else r) (he : ∀ n, L (n + 1) (S N) (N : Nat) = e) {n : Nat} (hn : N < n) :
    L n (S 0) 0 = if (List.range N).all p then e else r := by
  have key : ∀ (n k : Nat), k ≤ N → N - k < n → L n (S k) k = if (List.range' k (N - k)).all p then e else r := by
    intro n
    induction n with
    | zero => intro k _ h; omega
    | succ n ih =>
      intro k hk hn
      rcases Nat.lt_or_ge k N with hlt | hge
      · rw [hs n k hlt, show N - k = (N - (k + 1)) + 1 by omega, List.range'_succ, List.all_cons]
        cases hp : p k with
        | false => simp
        | true => simp only [if_true, Bool.true_and]; exact ih (k + 1) hlt (by omega)
      · have : k = N := by omega
        subst this; rw [he]; simp
  have := key n 0 (Nat.zero_le _) (by omega)
  rw [List.range_eq_range']
  simpa using this
/-- .. and knows that none failed before -/
theorem forB {σ β : Type} (N : Nat) (L : Nat → σ → Int → Option β) (S : Nat → σ) (p : Nat → Bool) {r e : Option β}
    (hs : ∀ n (k : Nat), k < N → (∀ j, j < k → p j = true) → L (n + 1) (S k) k = if p k then L n (S (k + 1)) ((k + 1 : Nat) : Int) else r) (he : ∀ n, (∀ j, j < N → p j = true) → L (n + 1) (S N) (N : Nat) = e) {n : Nat} (hn : N < n) :
    L n (S 0) 0 = if (List.range N).all p then e else r := by
  have key : ∀ (n k : Nat), k ≤ N → N - k < n → (∀ j, j < k → p j = true) → L n (S k) k = if (List.range' k (N - k)).all p then e else r := by
    intro n
    induction n with
    | zero => intro k _ h; omega
    | succ n ih =>
      intro k hk hn hb
      rcases Nat.lt_or_ge k N with hlt | hge
      · rw [hs n k hlt hb, show N - k = (N - (k + 1)) + 1 by omega, List.range'_succ, List.all_cons]
        cases hp : p k with
        | false => simp
        | true =>
          simp only [if_true, Bool.true_and]
          refine ih (k + 1) hlt (by omega) fun j hj => ?_
          rcases Nat.lt_or_ge j k with h | h
          · exact hb j h
          · have : j = k := by omega
            rw [this]; exact hp
      · have : k = N := by omega
        subst this; rw [he n hb]; simp
  have := key n 0 (Nat.zero_le _) (by omega) (fun j h => by omega)
  rw [List.range_eq_range']
  simpa using this
/-- sizes -/
def szR (t : Nat) (left : Int) : Int := if (t : Int) ≤ left then left - t else -1
end Go.Va
set_option linter.unusedVariables false
open Go Go.Va
namespace T
def fuel : Nat := 1099511627776
def laws_szIntS (a : List Int) (left : Int) : Option (Int) :=
  if decide ((w64 (left - (a.length : Int))) < 0) then
    some (-1)
  else
    some (w64 (left - (a.length : Int)))
def laws_szIntSS_L5 : Nat → ((List (List Int)) × Int × Int) → Option ((Int) ⊕ (Int))
  | 0, _ => none
  | n + 1, (a, left, i) =>
    if decide (i < (a.length : Int)) then
      if inb i a then
        (laws_szIntS (gd a i []) left).bind fun r1 =>
          if decide (r1 < 0) then
            some (.inr (-1))
          else
            laws_szIntSS_L5 n (a, r1, w64 (i + 1))
      else none
    else
      some (.inl left)
def laws_szIntSS (a : List (List Int)) (left : Int) : Option (Int) :=
  if decide ((w64 (left - (a.length : Int))) < 0) then
    some (-1)
  else
    (laws_szIntSS_L5 fuel (a, w64 (left - (a.length : Int)), 0)).bind fun s1 =>
      match s1 with
      | .inl s2 =>
        some s2
      | .inr s3 =>
        some s3
def laws_toIntS_L3 : Nat → ((List Int) × (List Int) × Int) → Option ((List Int))
  | 0, _ => none
  | n + 1, (a, out, i) =>
    if decide (i < (a.length : Int)) then
      if inb i a then
        if inb i out then
          laws_toIntS_L3 n (a, stt out i (gd a i 0), w64 (i + 1))
        else none
      else none
    else
      some out
def laws_toIntS (a : List Int) : Option ((List Int)) :=
  if 0 ≤ (a.length : Int) ∧ (a.length : Int) ≤ (a.length : Int) ∧ (a.length : Int) ≤ lim then
    (laws_toIntS_L3 fuel (a, List.replicate (Int.toNat (a.length : Int)) (0 : Int), 0)).bind fun s1 =>
      some s1
  else none
def laws_toIntSS_L3 : Nat → ((List (List Int)) × (List (List Int)) × Int) → Option ((List (List Int)))
  | 0, _ => none
  | n + 1, (a, out, i) =>
    if decide (i < (a.length : Int)) then
      if inb i a then
        (laws_toIntS (gd a i [])).bind fun r1 =>
          if inb i out then
            laws_toIntSS_L3 n (a, stt out i r1, w64 (i + 1))
          else none
      else none
    else
      some out
def laws_toIntSS (a : List (List Int)) : Option ((List (List Int))) :=
  if 0 ≤ (a.length : Int) ∧ (a.length : Int) ≤ (a.length : Int) ∧ (a.length : Int) ≤ lim then
    (laws_toIntSS_L3 fuel (a, List.replicate (Int.toNat (a.length : Int)) ([] : List Int), 0)).bind fun s1 =>
      some s1
  else none
def spec_l1In (x : Int) (a : Int) (b : Int) : Option (Bool) :=
  if decide (x ≥ a) then
    some (decide (x ≤ b))
  else
    some false
def spec_l2Elements_L2 : Nat → (Int × (List Int) × Int) → Option ((Unit) ⊕ (Bool))
  | 0, _ => none
  | n + 1, (n_, list, i) =>
    if decide (i < (list.length : Int)) then
      if inb i list then
        (spec_l1In (gd list i 0) 0 (w64 (n_ - 1))).bind fun r1 =>
          if !r1 then
            some (.inr false)
          else
            spec_l2Elements_L2 n (n_, list, w64 (i + 1))
      else none
    else
      some (.inl ())
def spec_l2Elements (n_ : Int) (list : List Int) : Option (Bool) :=
  (spec_l2Elements_L2 fuel (n_, list, 0)).bind fun s1 =>
    match s1 with
    | .inl s2 =>
      some true
    | .inr s3 =>
      some s3
def spec_l8Tuple (n_ : Int) (k : Int) (t : List Int) : Option (Bool) :=
  if (t.length : Int) == k then
    (spec_l2Elements n_ t).bind fun r1 =>
      some r1
  else
    some false
def impl_inSize_L2 : Nat → (Int × (List Int) × Int × Int) → Option ((Unit) ⊕ (Bool))
  | 0, _ => none
  | n + 1, (n_, t7, t8, t9) =>
    if decide (t9 < t8) then
      if inb t9 t7 then
        if decide ((gd t7 t9 0) < 0) then
          some (.inr false)
        else
          if decide ((gd t7 t9 0) ≥ n_) then
            some (.inr false)
          else
            impl_inSize_L2 n (n_, t7, t8, w64 (t9 + 1))
      else none
    else
      some (.inl ())
def impl_inSize (list : List Int) (n_ : Int) : Option (Bool) :=
  (impl_inSize_L2 fuel (n_, list, (list.length : Int), 0)).bind fun s1 =>
    match s1 with
    | .inl s2 =>
      some true
    | .inr s3 =>
      some s3
def laws_eqIntS_L4 : Nat → ((List Int) × (List Int) × Int) → Option ((Unit) ⊕ (Bool))
  | 0, _ => none
  | n + 1, (a, b, i) =>
    if decide (i < (a.length : Int)) then
      if inb i a then
        if inb i b then
          if (gd a i 0) != (gd b i 0) then
            some (.inr false)
          else
            laws_eqIntS_L4 n (a, b, w64 (i + 1))
        else none
      else none
    else
      some (.inl ())
def laws_eqIntS (a : List Int) (b : List Int) : Option (Bool) :=
  if (a.length : Int) != (b.length : Int) then
    some false
  else
    (laws_eqIntS_L4 fuel (a, b, 0)).bind fun s1 =>
      match s1 with
      | .inl s2 =>
        some true
      | .inr s3 =>
        some s3
def laws_eqIntSS_L4 : Nat → ((List (List Int)) × (List (List Int)) × Int) → Option ((Unit) ⊕ (Bool))
  | 0, _ => none
  | n + 1, (a, b, i) =>
    if decide (i < (a.length : Int)) then
      if inb i a then
        if inb i b then
          (laws_eqIntS (gd a i []) (gd b i [])).bind fun r1 =>
            if !r1 then
              some (.inr false)
            else
              laws_eqIntSS_L4 n (a, b, w64 (i + 1))
        else none
      else none
    else
      some (.inl ())
def laws_eqIntSS (a : List (List Int)) (b : List (List Int)) : Option (Bool) :=
  if (a.length : Int) != (b.length : Int) then
    some false
  else
    (laws_eqIntSS_L4 fuel (a, b, 0)).bind fun s1 =>
      match s1 with
      | .inl s2 =>
        some true
      | .inr s3 =>
        some s3
def spec_l2Pow_L2 : Nat → (Int × Int × Int) → Option (Int)
  | 0, _ => none
  | n + 1, (n_, k, out) =>
    if decide (k > 0) then
      spec_l2Pow_L2 n (n_, w64 (k - 1), w64 (out * n_))
    else
      some out
def spec_l2Pow (n_ : Int) (k : Int) : Option (Int) :=
  (spec_l2Pow_L2 fuel (n_, k, 1)).bind fun s1 =>
    some s1
def spec_l3Less_L2 : Nat → ((List Int) × (List Int) × Int) → Option ((Unit) ⊕ (Bool))
  | 0, _ => none
  | n + 1, (a, b, i) =>
    if decide (i < (a.length : Int)) then
      if inb i a then
        if inb i b then
          if (gd a i 0) != (gd b i 0) then
            if inb i a then
              if inb i b then
                some (.inr (decide ((gd a i 0) < (gd b i 0))))
              else none
            else none
          else
            spec_l3Less_L2 n (a, b, w64 (i + 1))
        else none
      else none
    else
      some (.inl ())
def spec_l3Less (a : List Int) (b : List Int) : Option (Bool) :=
  (spec_l3Less_L2 fuel (a, b, 0)).bind fun s1 =>
    match s1 with
    | .inl s2 =>
      some false
    | .inr s3 =>
      some s3
def spec_l1Same_L4 : Nat → ((List Int) × (List Int) × Int) → Option ((Unit) ⊕ (Bool))
  | 0, _ => none
  | n + 1, (a, b, i) =>
    if decide (i < (a.length : Int)) then
      if inb i a then
        if inb i b then
          if (gd a i 0) != (gd b i 0) then
            some (.inr false)
          else
            spec_l1Same_L4 n (a, b, w64 (i + 1))
        else none
      else none
    else
      some (.inl ())
def spec_l1Same (a : List Int) (b : List Int) : Option (Bool) :=
  if (a.length : Int) != (b.length : Int) then
    some false
  else
    (spec_l1Same_L4 fuel (a, b, 0)).bind fun s1 =>
      match s1 with
      | .inl s2 =>
        some true
      | .inr s3 =>
        some s3
def spec_l8Find_L2 : Nat → ((List (List Int)) × (List Int) × Int × Int) → Option ((List (List Int)) × (List Int) × Int)
  | 0, _ => none
  | n + 1, (list, t, from_, to) =>
    if decide (from_ < to) then
      if (2 : Int) ≠ 0 then
        if inb (w64 (Int.tdiv (w64 (from_ + to)) 2)) list then
          (spec_l3Less (gd list (w64 (Int.tdiv (w64 (from_ + to)) 2)) []) t).bind fun r1 =>
            if r1 then
              spec_l8Find_L2 n (list, t, w64 ((w64 (Int.tdiv (w64 (from_ + to)) 2)) + 1), to)
            else
              spec_l8Find_L2 n (list, t, from_, w64 (Int.tdiv (w64 (from_ + to)) 2))
        else none
      else none
    else
      some (list, t, from_)
def spec_l8Find (list : List (List Int)) (t : List Int) : Option (Int × Bool) :=
  (spec_l8Find_L2 fuel (list, t, 0, (list.length : Int))).bind fun s1 =>
    if decide (s1.2.2 < (s1.1.length : Int)) then
      if inb s1.2.2 s1.1 then
        (spec_l1Same (gd s1.1 s1.2.2 []) s1.2.1).bind fun r2 =>
          some (s1.2.2, r2)
      else none
    else
      some (s1.2.2, false)
def impl_compareLists_L2 : Nat → ((List Int) × (List Int) × Int) → Option (((List Int) × (List Int)) ⊕ (Int))
  | 0, _ => none
  | n + 1, (s, t, i) =>
    if decide (i < (s.length : Int)) then
      if decide (i < (t.length : Int)) then
        if inb i s then
          if inb i t then
            if (gd s i 0) != (gd t i 0) then
              if inb i s then
                if inb i t then
                  if decide ((gd s i 0) < (gd t i 0)) then
                    some (.inr (-1))
                  else
                    some (.inr 1)
                else none
              else none
            else
              impl_compareLists_L2 n (s, t, w64 (i + 1))
          else none
        else none
      else
        some (.inl (s, t))
    else
      some (.inl (s, t))
def impl_compareLists (s : List Int) (t : List Int) : Option (Int) :=
  (impl_compareLists_L2 fuel (s, t, 0)).bind fun s1 =>
    match s1 with
    | .inl s2 =>
      if decide ((s2.1.length : Int) < (s2.2.length : Int)) then
        some (-1)
      else
        if decide ((s2.1.length : Int) > (s2.2.length : Int)) then
          some 1
        else
          some 0
    | .inr s3 =>
      some s3
end T
open Go Go.Va
namespace T
theorem szIntS_ok {a : List Int} {left : Int} (h0 : 0 ≤ left) (h1 : left ≤ 4611686018427387904) (ha : a.length ≤ 9223372036854775807) : laws_szIntS a left = some (szR a.length left) := by
  unfold laws_szIntS szR
  rw [w64_id (by omega) (by omega)]
  by_cases h : (a.length : Int) ≤ left
  · rw [if_neg (by simp; omega), if_pos h]
  · rw [if_pos (by simp; omega), if_neg h]
/-- all numbers, and the rows -/
def totSS (a : List (List Int)) : Nat := a.length + (a.map List.length).sum
theorem szIntSS_ok {a : List (List Int)} {left : Int} (h0 : 0 ≤ left) (h1 : left ≤ 1099511627775) (ha : a.length ≤ 9223372036854775807) (hr : ∀ r ∈ a, r.length ≤ 9223372036854775807) : laws_szIntSS a left = some (szR (totSS a) left) := by
  unfold laws_szIntSS
  rw [w64_id (by omega) (by omega)]
  by_cases h : (a.length : Int) ≤ left
  · rw [if_neg (by simp; omega)]
    have key := loopX0 a (fun n s i => laws_szIntSS_L5 n (a, s, i)) (fun s r => (laws_szIntS r s).bind fun q => if q < 0 then some (.inr (.inr (-1))) else some (.inl q)) (fun s => some (.inl s)) ?_ ?_ (n := fuel) (by unfold fuel; omega) (left - a.length)
    · rw [key]
      have run : ∀ (l : List (List Int)) (s : Int), 0 ≤ s → s ≤ 1099511627775 → (∀ r ∈ l, r.length ≤ 9223372036854775807) →
          runX (fun s r => (laws_szIntS r s).bind fun q => if q < 0 then some (.inr (.inr (-1))) else some (.inl q)) (fun s => some (.inl s)) l s = some (if ((l.map List.length).sum : Int) ≤ s then (.inl (s - (l.map List.length).sum) : Int ⊕ Int) else .inr (-1)) := by
        intro l
        induction l with
        | nil => intro s h0 _ _; simp [runX, h0]
        | cons r l ih =>
          intro s h0 h1 hr
          simp only [runX]
          rw [szIntS_ok h0 (by omega) (hr r (by simp))]
          unfold szR
          by_cases h : (r.length : Int) ≤ s
          · rw [if_pos h]
            simp only [Option.bind_some]
            rw [if_neg (by omega)]
            dsimp only
            rw [ih (s - r.length) (by omega) (by omega) fun r hr' => hr r (List.mem_cons_of_mem _ hr')]
            simp only [List.map_cons, List.sum_cons]
            congr 1
            by_cases h2 : (((l.map List.length).sum : Nat) : Int) ≤ s - r.length
            · rw [if_pos h2, if_pos (by omega)]; congr 1; omega
            · rw [if_neg h2, if_neg (by omega)]
          · rw [if_neg h]
            simp only [List.map_cons, List.sum_cons]
            rw [if_neg (by omega)]
            rfl
      rw [run a _ (by omega) (by omega) hr]
      unfold szR totSS
      by_cases h2 : (((a.map List.length).sum : Nat) : Int) ≤ left - a.length
      · rw [if_pos h2, if_pos (by omega)]
        simp only [Option.bind_some, Option.some.injEq]; omega
      · rw [if_neg h2, if_neg (by omega)]; rfl
    · intro n s k hk
      simp only [laws_szIntSS_L5, inb_nat, gd_nat hk, w64_succ (show k < 4611686018427387904 by omega)]
      simp [hk]
      cases laws_szIntS a[k] s with
      | none => rfl
      | some q => by_cases hq : q < 0 <;> simp [hq]
    · intro n s
      simp [laws_szIntSS_L5]
  · rw [if_pos (by simp; omega)]
    unfold szR totSS
    rw [if_neg (by omega)]
theorem toIntS_ok {a : List Int} (ha : a.length ≤ 1099511627775) : laws_toIntS a = some a := by
  unfold laws_toIntS
  rw [if_pos (by unfold lim; omega)]
  have key := fillX0 a (fun n out i => laws_toIntS_L3 n (a, out, i)) id some ?_ ?_ (n := fuel) (out := List.replicate (Int.toNat (a.length : Int)) (0 : Int)) (by simp) (by unfold fuel; omega)
  · rw [key]; simp
  · intro n out k hk hl
    simp only [laws_toIntS_L3, inb_nat, gd_nat hk, stt_nat, w64_succ (show k < 4611686018427387904 by omega)]
    simp [hk, hl]
  · intro n out hl
    simp [laws_toIntS_L3]
theorem toIntSS_ok {a : List (List Int)} (ha : a.length ≤ 1099511627775) (hr : ∀ r ∈ a, r.length ≤ 1099511627775) : laws_toIntSS a = some a := by
  unfold laws_toIntSS
  rw [if_pos (by unfold lim; omega)]
  have key := fillX0 a (fun n out i => laws_toIntSS_L3 n (a, out, i)) id some ?_ ?_ (n := fuel) (out := List.replicate (Int.toNat (a.length : Int)) ([] : List Int)) (by simp) (by unfold fuel; omega)
  · rw [key]; simp
  · intro n out k hk hl
    simp only [laws_toIntSS_L3, inb_nat, gd_nat hk, stt_nat, w64_succ (show k < 4611686018427387904 by omega)]
    simp [hk, hl, toIntS_ok (hr _ (List.getElem_mem hk))]
  · intro n out hl
    simp [laws_toIntSS_L3]
theorem eqIntS_ok {a b : List Int} (ha : a.length ≤ 1099511627775) : laws_eqIntS a b = some (decide (a = b)) := by
  unfold laws_eqIntS
  by_cases hl : a.length = b.length
  · rw [if_neg (by simp [hl]), eqX a b hl (fun n i => laws_eqIntS_L4 n (a, b, i)) ?_ ?_ (by unfold fuel; omega)]
    · by_cases h : a = b <;> simp [h]
    · intro n k h1 h2
      simp only [laws_eqIntS_L4, inb_nat, gd_nat h1, gd_nat h2, w64_succ (show k < 4611686018427387904 by omega)]
      by_cases h : a[k] = b[k] <;> simp [h1, h2, h]
    · intro n
      simp [laws_eqIntS_L4]
  · rw [if_pos (by simp; omega), decide_eq_false (fun e => hl (by rw [e]))]
theorem eqIntSS_ok {a b : List (List Int)} (ha : a.length ≤ 1099511627775) (hr : ∀ r ∈ a, r.length ≤ 1099511627775) : laws_eqIntSS a b = some (decide (a = b)) := by
  unfold laws_eqIntSS
  by_cases hl : a.length = b.length
  · rw [if_neg (by simp [hl]), eqX a b hl (fun n i => laws_eqIntSS_L4 n (a, b, i)) ?_ ?_ (by unfold fuel; omega)]
    · by_cases h : a = b <;> simp [h]
    · intro n k h1 h2
      simp only [laws_eqIntSS_L4, inb_nat, gd_nat h1, gd_nat h2, w64_succ (show k < 4611686018427387904 by omega), eqIntS_ok (hr _ (List.getElem_mem h1))]
      by_cases h : a[k] = b[k] <;> simp [h1, h2, h]
    · intro n
      simp [laws_eqIntSS_L4]
  · rw [if_pos (by simp; omega), decide_eq_false (fun e => hl (by rw [e]))]
theorem mem_sum {l : List (List Int)} : ∀ {r : List Int}, r ∈ l → r.length ≤ (l.map List.length).sum := by
  induction l with
  | nil => intro r h; cases h
  | cons x l ih =>
    intro r h
    rw [List.map_cons, List.sum_cons]
    rcases List.mem_cons.1 h with rfl | h
    · omega
    · have := ih h; omega
theorem spec_l1In_ok (x a b : Int) : spec_l1In x a b = some (decide (a ≤ x ∧ x ≤ b)) := by
  unfold spec_l1In
  by_cases h : a ≤ x <;> simp [h]
/-- all numbers are below n -/
def belowB (n : Int) (l : List Int) : Bool := l.all fun x => decide (0 ≤ x ∧ x < n)
theorem impl_inSize_ok {l : List Int} (n : Int) (hl : l.length ≤ 1099511627775) : impl_inSize l n = some (belowB n l) := by
  unfold impl_inSize
  rw [allX l (fun m i => impl_inSize_L2 m (n, l, (l.length : Int), i)) (fun x => decide (0 ≤ x ∧ x < n)) (.inr false) (.inl ()) ?_ ?_ (by unfold fuel; omega)]
  · unfold belowB; cases l.all (fun x => decide (0 ≤ x ∧ x < n)) <;> simp
  · intro m k hk
    simp only [impl_inSize_L2, inb_nat, gd_nat hk, w64_succ (show k < 4611686018427387904 by omega)]
    by_cases h1 : l[k] < 0
    · simp [hk, h1, show ¬ 0 ≤ l[k] by omega]
    · by_cases h2 : n ≤ l[k]
      · simp [hk, h1, h2, show ¬ l[k] < n by omega]
      · simp [hk, h1, h2, show 0 ≤ l[k] ∧ l[k] < n by omega]
  · intro m
    simp [impl_inSize_L2]
theorem spec_l2Elements_ok {l : List Int} {n : Int} (hn : -9223372036854775808 < n) (hn' : n ≤ 9223372036854775807) (hl : l.length ≤ 1099511627775) : spec_l2Elements n l = some (belowB n l) := by
  unfold spec_l2Elements
  rw [allX l (fun m i => spec_l2Elements_L2 m (n, l, i)) (fun x => decide (0 ≤ x ∧ x < n)) (.inr false) (.inl ()) ?_ ?_ (by unfold fuel; omega)]
  · unfold belowB; cases l.all (fun x => decide (0 ≤ x ∧ x < n)) <;> simp
  · intro m k hk
    simp only [spec_l2Elements_L2, inb_nat, gd_nat hk, w64_succ (show k < 4611686018427387904 by omega), spec_l1In_ok, w64_id (show -9223372036854775808 ≤ n - 1 by omega) (show n - 1 ≤ 9223372036854775807 by omega)]
    by_cases h1 : 0 ≤ l[k] ∧ l[k] < n
    · simp [hk, h1, show l[k] ≤ n - 1 by omega]
    · have : ¬ (0 ≤ l[k] ∧ l[k] ≤ n - 1) := by omega
      simp [hk, h1, this]
  · intro m
    simp [spec_l2Elements_L2]
theorem spec_l8Tuple_ok {l : List Int} {n : Int} (k : Int) (hn : -9223372036854775808 < n) (hn' : n ≤ 9223372036854775807) (hl : l.length ≤ 1099511627775) : spec_l8Tuple n k l = some (decide ((l.length : Int) = k) && belowB n l) := by
  unfold spec_l8Tuple
  rw [spec_l2Elements_ok hn hn' hl]
  by_cases h : (l.length : Int) = k <;> simp [h]
end T
open Go Go.Va
namespace T
theorem belowB_get {n : Int} {l : List Int} (h : belowB n l = true) (k : Nat) (hk : k < l.length) : 0 ≤ l[k] ∧ l[k] < n := by
  have := (List.all_eq_true.1 h) l[k] (List.getElem_mem hk)
  simpa using this
section
variable {p v : Int} {rows : List (List Int)} {y : List Int}
end
end T
open Go Go.Va
namespace T
/- lists in order -/
/-- -1, 0 or 1 by the first place where two lists part -/
def cmpL : List Int → List Int → Int
  | [], [] => 0
  | [], _ :: _ => -1
  | _ :: _, [] => 1
  | a :: s, b :: t => if a = b then cmpL s t else if a < b then -1 else 1
theorem compare_L2 {s t : List Int} (hs : s.length ≤ 1099511627775) : ∀ (n k : Nat), k ≤ s.length → k ≤ t.length → s.length - k < n →
    (impl_compareLists_L2 n (s, t, (k : Int))).bind (fun s1 => match s1 with
      | .inl s2 => if decide ((s2.1.length : Int) < (s2.2.length : Int)) then some (-1) else if decide ((s2.1.length : Int) > (s2.2.length : Int)) then some 1 else some 0
      | .inr s3 => some s3) = some (cmpL (s.drop k) (t.drop k)) := by
  intro n
  induction n with
  | zero => intro k _ _ h; omega
  | succ n ih =>
    intro k h1 h2 hn
    by_cases k1 : k < s.length
    · by_cases k2 : k < t.length
      · rw [List.drop_eq_getElem_cons k1, List.drop_eq_getElem_cons k2]
        simp only [impl_compareLists_L2, inb_nat, gd_nat k1, gd_nat k2, w64_succ (show k < 4611686018427387904 by omega), cmpL]
        by_cases he : s[k] = t[k]
        · have := ih (k + 1) k1 k2 (by omega)
          simp [k1, k2, he]
          simpa using this
        · by_cases hl : s[k] < t[k] <;> simp [k1, k2, he, hl]
      · rw [List.drop_eq_getElem_cons k1, List.drop_of_length_le (show t.length ≤ k by omega)]
        have e : k = t.length := by omega
        simp only [impl_compareLists_L2, cmpL]
        simp [k1, k2, show ¬ s.length < t.length by omega, show t.length < s.length by omega]
    · rw [List.drop_of_length_le (show s.length ≤ k by omega)]
      simp only [impl_compareLists_L2]
      by_cases k2 : k < t.length
      · rw [List.drop_eq_getElem_cons k2]
        simp [k1, cmpL, show s.length < t.length by omega]
      · rw [List.drop_of_length_le (show t.length ≤ k by omega)]
        simp [k1, cmpL, show ¬ s.length < t.length by omega, show ¬ t.length < s.length by omega]
theorem impl_compareLists_ok {s t : List Int} (hs : s.length ≤ 1099511627775) : impl_compareLists s t = some (cmpL s t) := by
  have := compare_L2 (t := t) hs fuel 0 (Nat.zero_le _) (Nat.zero_le _) (by unfold fuel; omega)
  rw [List.drop_zero, List.drop_zero] at this
  exact this
theorem spec_l3Less_ok {s t : List Int} (hs : s.length ≤ 1099511627775) (hl : s.length = t.length) : spec_l3Less s t = some (decide (cmpL s t < 0)) := by
  have key : ∀ (n k : Nat), k ≤ s.length → s.length - k < n → (spec_l3Less_L2 n (s, t, (k : Int))).bind (fun s1 => match s1 with | .inl _ => some false | .inr s3 => some s3) = some (decide (cmpL (s.drop k) (t.drop k) < 0)) := by
    intro n
    induction n with
    | zero => intro k _ h; omega
    | succ n ih =>
      intro k h1 hn
      by_cases k1 : k < s.length
      · have k2 : k < t.length := by omega
        rw [List.drop_eq_getElem_cons k1, List.drop_eq_getElem_cons k2]
        simp only [spec_l3Less_L2, inb_nat, gd_nat k1, gd_nat k2, w64_succ (show k < 4611686018427387904 by omega), cmpL]
        by_cases he : s[k] = t[k]
        · have := ih (k + 1) k1 (by omega)
          simp [k1, k2, he]
          simpa using this
        · by_cases hl : s[k] < t[k] <;> simp [k1, k2, he, hl]
      · rw [List.drop_of_length_le (show s.length ≤ k by omega), List.drop_of_length_le (show t.length ≤ k by omega)]
        simp [spec_l3Less_L2, k1, cmpL]
  have := key fuel 0 (Nat.zero_le _) (by unfold fuel; omega)
  rw [List.drop_zero, List.drop_zero] at this
  exact this
theorem spec_l1Same_ok {a b : List Int} (ha : a.length ≤ 1099511627775) : spec_l1Same a b = some (decide (a = b)) := by
  unfold spec_l1Same
  by_cases hl : a.length = b.length
  · rw [if_neg (by simp [hl]), eqX a b hl (fun n i => spec_l1Same_L4 n (a, b, i)) ?_ ?_ (by unfold fuel; omega)]
    · by_cases h : a = b <;> simp [h]
    · intro n k h1 h2
      simp only [spec_l1Same_L4, inb_nat, gd_nat h1, gd_nat h2, w64_succ (show k < 4611686018427387904 by omega)]
      by_cases h : a[k] = b[k] <;> simp [h1, h2, h]
    · intro n
      simp [spec_l1Same_L4]
  · rw [if_pos (by simp; omega), decide_eq_false (fun e => hl (by rw [e]))]
theorem cmpL_refl : ∀ s, cmpL s s = 0
  | [] => rfl
  | a :: s => by simp [cmpL, cmpL_refl s]
theorem cmpL_trans : ∀ {s t u}, cmpL s t < 0 → cmpL t u < 0 → cmpL s u < 0
  | [], [], _, h, _ => by simp [cmpL] at h
  | [], _ :: _, [], _, h => by simp [cmpL] at h
  | [], _ :: _, _ :: _, _, _ => by simp [cmpL]
  | _ :: _, [], _, h, _ => by simp [cmpL] at h
  | _ :: _, _ :: _, [], _, h => by simp [cmpL] at h
  | a :: s, b :: t, c :: u, h1, h2 => by
    simp only [cmpL] at *
    by_cases e1 : a = b
    · rw [if_pos e1] at h1
      by_cases e2 : b = c
      · rw [if_pos e2] at h2; rw [if_pos (e1.trans e2)]; exact cmpL_trans h1 h2
      · rw [if_neg e2] at h2; rw [e1, if_neg e2]; exact h2
    · rw [if_neg e1] at h1
      have l1 : a < b := by
        by_cases h : a < b
        · exact h
        · rw [if_neg h] at h1; omega
      by_cases e2 : b = c
      · rw [← e2, if_neg e1, if_pos l1]; omega
      · rw [if_neg e2] at h2
        have l2 : b < c := by
          by_cases h : b < c
          · exact h
          · rw [if_neg h] at h2; omega
        rw [if_neg (by omega), if_pos (by omega)]; omega
/-- each is less than the next -/
def incB : List (List Int) → Bool
  | a :: b :: l => decide (cmpL a b < 0) && incB (b :: l)
  | _ => true
theorem incB_tail {a : List Int} {l : List (List Int)} (h : incB (a :: l) = true) : incB l = true := by
  cases l with
  | nil => rfl
  | cons b l => simp only [incB, Bool.and_eq_true] at h; exact h.2
theorem incB_head : ∀ {a : List Int} {l : List (List Int)}, incB (a :: l) = true → ∀ b ∈ l, cmpL a b < 0
  | a, [], _, b, hb => by cases hb
  | a, c :: l, h, b, hb => by
    simp only [incB, Bool.and_eq_true, decide_eq_true_eq] at h
    rcases List.mem_cons.1 hb with rfl | hb
    · exact h.1
    · exact cmpL_trans h.1 (incB_head h.2 b hb)
theorem incB_lt : ∀ {l : List (List Int)}, incB l = true → ∀ (i j : Nat) (hi : i < j) (hj : j < l.length), cmpL (l[i]'(by omega)) l[j] < 0
  | [], _, i, j, _, hj => by simp at hj
  | a :: l, h, 0, j + 1, _, hj => by
    simp only [List.getElem_cons_zero, List.getElem_cons_succ]
    exact incB_head h _ (List.getElem_mem _)
  | a :: l, h, i + 1, j + 1, hi, hj => by
    simp only [List.getElem_cons_succ]
    exact incB_lt (incB_tail h) i j (by omega) (by simpa using hj)
theorem incB_iff {l : List (List Int)} : incB l = true ↔ ∀ (i : Nat) (hi : i + 1 < l.length), cmpL (l[i]'(by omega)) l[i + 1] < 0 := by
  constructor
  · exact fun h i hi => incB_lt h i (i + 1) (by omega) hi
  · induction l with
    | nil => intro _; rfl
    | cons a l ih =>
      intro h
      cases l with
      | nil => rfl
      | cons b l =>
        simp only [incB, Bool.and_eq_true, decide_eq_true_eq]
        exact ⟨h 0 (by simp), ih fun i hi => by have := h (i + 1) (by simpa using hi); simpa using this⟩
end T
open Go Go.Va
namespace T
/- powers and places -/
theorem pow_le_of {n : Int} (h0 : 0 ≤ n) (h8 : n ≤ 8) : ∀ k : Nat, 0 ≤ n ^ k ∧ n ^ k ≤ 8 ^ k
  | 0 => by simp
  | k + 1 => by
    obtain ⟨h1, h2⟩ := pow_le_of h0 h8 k
    rw [Int.pow_succ, Int.pow_succ]
    exact ⟨Int.mul_nonneg h1 h0, Int.mul_le_mul h2 h8 h0 (by have : (0 : Int) ≤ 8 ^ k := Int.le_trans h1 h2; exact this)⟩
theorem pow8_le : ∀ k : Nat, k ≤ 20 → (8 : Int) ^ k ≤ 8 ^ 20 := by
  intro k hk
  have : ((8 ^ k : Nat) : Int) ≤ ((8 ^ 20 : Nat) : Int) := Int.ofNat_le.2 (Nat.pow_le_pow_right (by omega) hk)
  simpa using this
theorem pow_bd {n : Int} (h0 : 0 ≤ n) (h8 : n ≤ 8) {k : Nat} (hk : k ≤ 20) : 0 ≤ n ^ k ∧ n ^ k ≤ 1152921504606846976 := by
  obtain ⟨h1, h2⟩ := pow_le_of h0 h8 k
  have := pow8_le k hk
  exact ⟨h1, by have e : (8 : Int) ^ 20 = 1152921504606846976 := by decide
                omega⟩
theorem l2Pow_L2 {n : Int} (h0 : 0 ≤ n) (h8 : n ≤ 8) : ∀ (m k j : Nat), j + k ≤ 20 → k < m → spec_l2Pow_L2 m (n, (k : Int), n ^ j) = some (n ^ (j + k)) := by
  intro m
  induction m with
  | zero => intro k j _ h; omega
  | succ m ih =>
    intro k j hj hk
    simp only [spec_l2Pow_L2]
    cases k with
    | zero => simp
    | succ k =>
      have e : w64 (((k + 1 : Nat) : Int) - 1) = (k : Int) := by rw [w64_id (by omega) (by omega)]; omega
      have hb := pow_bd h0 h8 (k := j + 1) (by omega)
      rw [Int.pow_succ] at hb
      rw [e, w64_id (by omega) (by omega), ← Int.pow_succ, if_pos (by simp), ih k (j + 1) (by omega) (by omega)]
      congr 2 <;> omega
theorem spec_l2Pow_ok {n : Int} (h0 : 0 ≤ n) (h8 : n ≤ 8) {k : Nat} (hk : k ≤ 20) : spec_l2Pow n (k : Int) = some (n ^ k) := by
  unfold spec_l2Pow
  have := l2Pow_L2 h0 h8 fuel k 0 (by omega) (by unfold fuel; omega)
  rw [Int.pow_zero] at this
  rw [this]; simp
/-- the place of a list among all lists of its length -/
def idxA (n : Int) : Int → List Int → Int
  | i, [] => i
  | i, a :: l => idxA n (i * n + a) l
def idx (n : Int) (l : List Int) : Int := idxA n 0 l
theorem idxA_eq (n : Int) : ∀ (l : List Int) (i : Int), idxA n i l = i * n ^ l.length + idxA n 0 l
  | [], i => by simp [idxA]
  | a :: l, i => by
    simp only [idxA, List.length_cons]
    rw [idxA_eq n l (i * n + a), idxA_eq n l (0 * n + a), Int.pow_succ]
    simp only [Int.zero_mul, Int.zero_add]
    rw [Int.add_mul, Int.mul_assoc, Int.mul_comm n (n ^ l.length)]
    omega
theorem idx_cons (n a : Int) (l : List Int) : idx n (a :: l) = a * n ^ l.length + idx n l := by
  unfold idx
  simp only [idxA]
  rw [idxA_eq]; simp
theorem belowB_cons {n a : Int} {l : List Int} : belowB n (a :: l) = true ↔ (0 ≤ a ∧ a < n) ∧ belowB n l = true := by
  unfold belowB; simp [List.all_cons]
theorem idx_bd {n : Int} : ∀ {l : List Int}, belowB n l = true → 0 ≤ idx n l ∧ idx n l < n ^ l.length
  | [], _ => by simp [idx, idxA]
  | a :: l, h => by
    obtain ⟨h1, h2⟩ := belowB_cons.1 h
    obtain ⟨h3, h4⟩ := idx_bd h2
    rw [idx_cons, List.length_cons, Int.pow_succ]
    have hp : 0 ≤ n ^ l.length := by omega
    have k1 := Int.mul_nonneg h1.1 hp
    have k2 := Int.mul_le_mul_of_nonneg_right (show a + 1 ≤ n by omega) hp
    rw [Int.add_mul, Int.one_mul, Int.mul_comm n] at k2
    exact ⟨by omega, by omega⟩
theorem idx_cmp {n : Int} : ∀ {s t : List Int}, belowB n s = true → belowB n t = true → s.length = t.length → (cmpL s t < 0 ↔ idx n s < idx n t) ∧ (cmpL s t = 0 ↔ idx n s = idx n t)
  | [], [], _, _, _ => by simp [cmpL, idx, idxA]
  | [], _ :: _, _, _, h => by simp at h
  | _ :: _, [], _, _, h => by simp at h
  | a :: s, b :: t, hs, ht, hl => by
    obtain ⟨s1, s2⟩ := belowB_cons.1 hs
    obtain ⟨t1, t2⟩ := belowB_cons.1 ht
    have hl' : s.length = t.length := by simpa using hl
    have ih := idx_cmp s2 t2 hl'
    obtain ⟨b1, b2⟩ := idx_bd s2
    obtain ⟨c1, c2⟩ := idx_bd t2
    rw [idx_cons, idx_cons, hl']
    rw [hl'] at b2
    simp only [cmpL]
    have hp : 0 ≤ n ^ t.length := by omega
    rcases Int.lt_trichotomy a b with h | h | h
    · have := Int.mul_le_mul_of_nonneg_right (show a + 1 ≤ b by omega) hp
      rw [Int.add_mul, Int.one_mul] at this
      rw [if_neg (by omega), if_pos h]
      exact ⟨by constructor <;> intro <;> omega, by constructor <;> intro <;> omega⟩
    · subst h
      rw [if_pos rfl]
      exact ⟨by rw [ih.1]; constructor <;> intro <;> omega, by rw [ih.2]; constructor <;> intro <;> omega⟩
    · have := Int.mul_le_mul_of_nonneg_right (show b + 1 ≤ a by omega) hp
      rw [Int.add_mul, Int.one_mul] at this
      rw [if_neg (by omega), if_neg (by omega)]
      exact ⟨by constructor <;> intro <;> omega, by constructor <;> intro <;> omega⟩
/-- lists in order are no more than there are -/
theorem inc_count {n : Int} {k : Nat} {l : List (List Int)} (hi : incB l = true) (hv : ∀ t ∈ l, t.length = k ∧ belowB n t = true) : (l.length : Int) ≤ n ^ k ∨ l = [] := by
  have key : ∀ (i : Nat) (h : i < l.length), (i : Int) ≤ idx n l[i] := by
    intro i
    induction i with
    | zero => intro h; exact (idx_bd (hv _ (List.getElem_mem h)).2).1
    | succ i ih =>
      intro h
      have h1 := ih (by omega)
      obtain ⟨l1, b1⟩ := hv _ (List.getElem_mem (show i < l.length by omega))
      obtain ⟨l2, b2⟩ := hv _ (List.getElem_mem h)
      have := (idx_cmp b1 b2 (l1.trans l2.symm)).1.1 (incB_lt hi i (i + 1) (by omega) h)
      omega
  cases hn : l.length with
  | zero => exact .inr (List.length_eq_zero_iff.1 hn)
  | succ m =>
    left
    have h := key m (by omega)
    obtain ⟨l1, b1⟩ := hv _ (List.getElem_mem (show m < l.length by omega))
    have := (idx_bd b1).2
    rw [l1] at this
    omega
/- finding in a list in order -/
theorem find_L2 {list : List (List Int)} {t : List Int} {k : Nat} (hl : list.length ≤ 1099511627775) (hk : k ≤ 1099511627775) (hv : ∀ u ∈ list, u.length = k) (ht : t.length = k) (hi : incB list = true) : ∀ (m a b : Nat), a ≤ b → b ≤ list.length → b - a < m →
    (∀ i (h : i < list.length), i < a → cmpL list[i] t < 0) → (∀ i (h : i < list.length), b ≤ i → ¬ cmpL list[i] t < 0) →
    ∃ c : Nat, spec_l8Find_L2 m (list, t, (a : Int), (b : Int)) = some (list, t, (c : Int)) ∧ c ≤ list.length ∧ (∀ i (h : i < list.length), i < c → cmpL list[i] t < 0) ∧ (∀ i (h : i < list.length), c ≤ i → ¬ cmpL list[i] t < 0) := by
  intro m
  induction m with
  | zero => intro a b _ _ h; omega
  | succ m ih =>
    intro a b hab hb hm h1 h2
    simp only [spec_l8Find_L2]
    by_cases hlt : a < b
    · have emid : w64 (Int.tdiv (w64 ((a : Int) + b)) 2) = (((a + b) / 2 : Nat) : Int) := by
        rw [w64_id (x := (a : Int) + b) (by omega) (by omega), Int.tdiv_eq_ediv_of_nonneg (by omega), w64_id (by omega) (by omega)]; omega
      have hmid : (a + b) / 2 < list.length := by omega
      rw [emid]
      have hless := spec_l3Less_ok (s := list[(a + b) / 2]) (t := t) (by rw [hv _ (List.getElem_mem hmid)]; omega) (by rw [hv _ (List.getElem_mem hmid), ht])
      simp only [inb_nat, gd_nat hmid, hless, Option.bind_some, w64_succ (show (a + b) / 2 < 4611686018427387904 by omega)]
      by_cases hc : cmpL list[(a + b) / 2] t < 0
      · obtain ⟨c, e, k1, k2, k3⟩ := ih ((a + b) / 2 + 1) b (by omega) hb (by omega) (fun i h hi' => by
          rcases Nat.lt_or_ge i ((a + b) / 2) with h' | h'
          · exact cmpL_trans (incB_lt hi i ((a + b) / 2) h' hmid) hc
          · have : i = (a + b) / 2 := by omega
            subst this; exact hc) h2
        exact ⟨c, by simpa [hlt, hmid, hc] using e, k1, k2, k3⟩
      · obtain ⟨c, e, k1, k2, k3⟩ := ih a ((a + b) / 2) (by omega) (by omega) (by omega) h1 (fun i h hi' hneg => by
          rcases Nat.lt_or_ge ((a + b) / 2) i with h' | h'
          · exact hc (cmpL_trans (incB_lt hi ((a + b) / 2) i h' h) hneg)
          · have : i = (a + b) / 2 := by omega
            subst this; exact hc hneg)
        exact ⟨c, by simpa [hlt, hmid, hc] using e, k1, k2, k3⟩
    · have : a = b := by omega
      subst this
      exact ⟨a, by simp, hb, h1, h2⟩
theorem spec_l8Find_ok {list : List (List Int)} {t : List Int} {k : Nat} (hl : list.length ≤ 1099511627774) (hk : k ≤ 1099511627775) (hv : ∀ u ∈ list, u.length = k) (ht : t.length = k) (hi : incB list = true) :
    ∃ c : Nat, spec_l8Find list t = some ((c : Int), decide (t ∈ list)) ∧ c ≤ list.length ∧ (∀ i (h : i < list.length), i < c → cmpL list[i] t < 0) ∧ (∀ i (h : i < list.length), c ≤ i → ¬ cmpL list[i] t < 0) := by
  obtain ⟨c, e, k1, k2, k3⟩ := find_L2 (by omega) hk hv ht hi fuel 0 list.length (Nat.zero_le _) (Nat.le_refl _) (by unfold fuel; omega) (fun i _ h => by omega) (fun i h h' => by omega)
  refine ⟨c, ?_, k1, k2, k3⟩
  unfold spec_l8Find
  have e' : spec_l8Find_L2 fuel (list, t, 0, (list.length : Int)) = some (list, t, (c : Int)) := e
  rw [e']
  simp only [Option.bind_some]
  by_cases hc : c < list.length
  · have hs := spec_l1Same_ok (a := list[c]) (b := t) (by rw [hv _ (List.getElem_mem hc)]; omega)
    simp only [inb_nat, gd_nat hc, hs, Option.bind_some]
    have : decide (list[c] = t) = decide (t ∈ list) := by
      by_cases h : list[c] = t
      · rw [decide_eq_true h, decide_eq_true (h ▸ List.getElem_mem hc)]
      · rw [decide_eq_false h]
        symm; rw [decide_eq_false_iff_not]
        intro hm
        obtain ⟨j, hj, rfl⟩ := List.mem_iff_getElem.1 hm
        have hne : j ≠ c := fun e => h (by subst e; rfl)
        rcases Nat.lt_or_ge j c with hlt | hge
        · have := k2 j hj hlt; rw [cmpL_refl] at this; omega
        · exact k3 c hc (Nat.le_refl _) (incB_lt hi c j (by omega) hj)
    simp [hc, this]
  · have : decide (t ∈ list) = false := by
      rw [decide_eq_false_iff_not]
      intro hm
      obtain ⟨j, hj, rfl⟩ := List.mem_iff_getElem.1 hm
      have := k2 j hj (by omega); rw [cmpL_refl] at this; omega
    rw [if_neg (by simp; omega), this]
end T
set_option linter.unusedVariables false
open Go Go.Va
namespace T
def laws_szRelation (a : Int × (List (List Int))) (left : Int) : Option (Int) :=
  (laws_szIntSS a.2 left).bind fun r1 =>
    if decide (r1 < 0) then
      some (-1)
    else
      some r1
def laws_szConstraint (a : (List Int) × Int × (List (List Int))) (left : Int) : Option (Int) :=
  (laws_szIntS a.1 left).bind fun r1 =>
    if decide (r1 < 0) then
      some (-1)
    else
      (laws_szRelation (a.2.1, a.2.2) r1).bind fun r2 =>
        if decide (r2 < 0) then
          some (-1)
        else
          some r2
def laws_szConstraintS_L5 : Nat → ((List ((List Int) × Int × (List (List Int)))) × Int × Int) → Option ((Int) ⊕ (Int))
  | 0, _ => none
  | n + 1, (a, left, i) =>
    if decide (i < (a.length : Int)) then
      if inb i a then
        (laws_szConstraint (gd a i ([], (0, []))) left).bind fun r1 =>
          if decide (r1 < 0) then
            some (.inr (-1))
          else
            laws_szConstraintS_L5 n (a, r1, w64 (i + 1))
      else none
    else
      some (.inl left)
def laws_szConstraintS (a : List ((List Int) × Int × (List (List Int)))) (left : Int) : Option (Int) :=
  if decide ((w64 (left - (a.length : Int))) < 0) then
    some (-1)
  else
    (laws_szConstraintS_L5 fuel (a, w64 (left - (a.length : Int)), 0)).bind fun s1 =>
      match s1 with
      | .inl s2 =>
        some s2
      | .inr s3 =>
        some s3
def laws_szNetwork (a : Int × Int × (List ((List Int) × Int × (List (List Int))))) (left : Int) : Option (Int) :=
  (laws_szConstraintS a.2.2 left).bind fun r1 =>
    if decide (r1 < 0) then
      some (-1)
    else
      some r1
def laws_toRelation (a : Int × (List (List Int))) : Option ((Int × (List (List Int)))) :=
  (laws_toIntSS a.2).bind fun r1 =>
    some (a.1, r1)
def laws_toConstraint (a : (List Int) × Int × (List (List Int))) : Option (((List Int) × (Int × (List (List Int))))) :=
  (laws_toIntS a.1).bind fun r1 =>
    (laws_toRelation (a.2.1, a.2.2)).bind fun r2 =>
      some (r1, (r2.1, r2.2))
def laws_toConstraintS_L3 : Nat → ((List ((List Int) × Int × (List (List Int)))) × (List ((List Int) × Int × (List (List Int)))) × Int) → Option ((List ((List Int) × Int × (List (List Int)))))
  | 0, _ => none
  | n + 1, (a, out, i) =>
    if decide (i < (a.length : Int)) then
      if inb i a then
        (laws_toConstraint (gd a i ([], (0, [])))).bind fun r1 =>
          if inb i out then
            laws_toConstraintS_L3 n (a, stt out i (r1.1, (r1.2.1, r1.2.2)), w64 (i + 1))
          else none
      else none
    else
      some out
def laws_toConstraintS (a : List ((List Int) × Int × (List (List Int)))) : Option ((List ((List Int) × Int × (List (List Int))))) :=
  if 0 ≤ (a.length : Int) ∧ (a.length : Int) ≤ (a.length : Int) ∧ (a.length : Int) ≤ lim then
    (laws_toConstraintS_L3 fuel (a, List.replicate (Int.toNat (a.length : Int)) (([], (0, [])) : (List Int) × Int × (List (List Int))), 0)).bind fun s1 =>
      some s1
  else none
def laws_toNetwork (a : Int × Int × (List ((List Int) × Int × (List (List Int))))) : Option ((Int × (Int × (List ((List Int) × Int × (List (List Int))))))) :=
  (laws_toConstraintS a.2.2).bind fun r1 =>
    some (a.1, (a.2.1, r1))
def spec_l13Good_L4 : Nat → (Int × (Int × (List (List Int))) × Int) → Option ((Unit) ⊕ (Bool))
  | 0, _ => none
  | n + 1, (n_, r, i) =>
    if decide (i < (r.2.length : Int)) then
      if inb i r.2 then
        (spec_l8Tuple n_ r.1 (gd r.2 i [])).bind fun r3 =>
          if !r3 then
            some (.inr false)
          else
            if decide (i > 0) then
              if inb (w64 (i - 1)) r.2 then
                if inb i r.2 then
                  (spec_l3Less (gd r.2 (w64 (i - 1)) []) (gd r.2 i [])).bind fun r4 =>
                    if !r4 then
                      some (.inr false)
                    else
                      spec_l13Good_L4 n (n_, (r.1, r.2), w64 (i + 1))
                else none
              else none
            else
              spec_l13Good_L4 n (n_, (r.1, r.2), w64 (i + 1))
      else none
    else
      some (.inl ())
def spec_l13Good (n_ : Int) (r : Int × (List (List Int))) : Option (Bool) :=
  (spec_l1In r.1 1 3).bind fun r1 =>
    if !r1 then
      some false
    else
      (spec_l2Pow n_ r.1).bind fun r2 =>
        if decide ((r.2.length : Int) > r2) then
          some false
        else
          (spec_l13Good_L4 fuel (n_, (r.1, r.2), 0)).bind fun s3 =>
            match s3 with
            | .inl s4 =>
              some true
            | .inr s5 =>
              some s5
def spec_l19Is (vars : Int) (size : Int) (c : (List Int) × Int × (List (List Int))) : Option (Bool) :=
  (spec_l13Good size (c.2.1, c.2.2)).bind fun r1 =>
    if r1 then
      if (c.1.length : Int) == c.2.1 then
        (spec_l2Elements vars c.1).bind fun r2 =>
          some r2
      else
        some false
    else
      some false
def spec_l19Good_L4 : Nat → ((Int × Int × (List ((List Int) × Int × (List (List Int))))) × Int) → Option ((Unit) ⊕ (Bool))
  | 0, _ => none
  | n + 1, (net, i) =>
    if decide (i < (net.2.2.length : Int)) then
      if inb i net.2.2 then
        (spec_l19Is net.1 net.2.1 (gd net.2.2 i ([], (0, [])))).bind fun r3 =>
          if !r3 then
            some (.inr false)
          else
            spec_l19Good_L4 n ((net.1, (net.2.1, net.2.2)), w64 (i + 1))
      else none
    else
      some (.inl ())
def spec_l19Good (net : Int × Int × (List ((List Int) × Int × (List (List Int))))) : Option (Bool) :=
  (spec_l1In net.1 0 9).bind fun r1 =>
    if !r1 then
      some false
    else
      (spec_l1In net.2.1 1 4).bind fun r2 =>
        if !r2 then
          some false
        else
          if decide ((net.2.2.length : Int) > 40) then
            some false
          else
            (spec_l19Good_L4 fuel ((net.1, (net.2.1, net.2.2)), 0)).bind fun s3 =>
              match s3 with
              | .inl s4 =>
                some true
              | .inr s5 =>
                some s5
def impl_isTemplateSize (n_ : Int) : Option (Bool) :=
  if decide (n_ ≥ 1) then
    some (decide (n_ ≤ 4))
  else
    some false
def impl_isRelation_L4 : Nat → (Int × (Int × (List (List Int))) × (List (List Int)) × Int × Int) → Option ((Unit) ⊕ (Bool))
  | 0, _ => none
  | n + 1, (n_, r, t16, t17, t18) =>
    if decide (t18 < t17) then
      if inb t18 t16 then
        if ((gd t16 t18 []).length : Int) != r.1 then
          some (.inr false)
        else
          (impl_inSize (gd t16 t18 []) n_).bind fun r1 =>
            if !r1 then
              some (.inr false)
            else
              if decide (t18 > 0) then
                if inb (w64 (t18 - 1)) r.2 then
                  (impl_compareLists (gd r.2 (w64 (t18 - 1)) []) (gd t16 t18 [])).bind fun r2 =>
                    if decide (r2 ≥ 0) then
                      some (.inr false)
                    else
                      impl_isRelation_L4 n (n_, (r.1, r.2), t16, t17, w64 (t18 + 1))
                else none
              else
                impl_isRelation_L4 n (n_, (r.1, r.2), t16, t17, w64 (t18 + 1))
      else none
    else
      some (.inl ())
def impl_isRelation (n_ : Int) (r : Int × (List (List Int))) : Option (Bool) :=
  if decide (r.1 < 1) then
    some false
  else
    if decide (r.1 > 3) then
      some false
    else
      (impl_isRelation_L4 fuel (n_, (r.1, r.2), r.2, (r.2.length : Int), 0)).bind fun s1 =>
        match s1 with
        | .inl s2 =>
          some true
        | .inr s3 =>
          some s3
def impl_isConstraint (vars : Int) (size : Int) (c : (List Int) × Int × (List (List Int))) : Option (Bool) :=
  (impl_isRelation size (c.2.1, c.2.2)).bind fun r1 =>
    if r1 then
      if (c.1.length : Int) == c.2.1 then
        (impl_inSize c.1 vars).bind fun r2 =>
          some r2
      else
        some false
    else
      some false
def impl_IsNetwork_L4 : Nat → ((Int × Int × (List ((List Int) × Int × (List (List Int))))) × (List ((List Int) × Int × (List (List Int)))) × Int × Int) → Option ((Unit) ⊕ (Bool))
  | 0, _ => none
  | n + 1, (net, t26, t27, t28) =>
    if decide (t28 < t27) then
      if inb t28 t26 then
        (impl_isConstraint net.1 net.2.1 ((gd t26 t28 ([], (0, []))).1, (((gd t26 t28 ([], (0, []))).2).1, ((gd t26 t28 ([], (0, []))).2).2))).bind fun r2 =>
          if !r2 then
            some (.inr false)
          else
            impl_IsNetwork_L4 n ((net.1, (net.2.1, net.2.2)), t26, t27, w64 (t28 + 1))
      else none
    else
      some (.inl ())
def impl_IsNetwork (net : Int × Int × (List ((List Int) × Int × (List (List Int))))) : Option (Bool) :=
  if decide (net.1 < 0) then
    some false
  else
    if decide (net.1 > 9) then
      some false
    else
      (impl_isTemplateSize net.2.1).bind fun r1 =>
        if !r1 then
          some false
        else
          if decide ((net.2.2.length : Int) > 40) then
            some false
          else
            (impl_IsNetwork_L4 fuel ((net.1, (net.2.1, net.2.2)), net.2.2, (net.2.2.length : Int), 0)).bind fun s2 =>
              match s2 with
              | .inl s3 =>
                some true
              | .inr s4 =>
                some s4
def laws_eqRelation (a : Int × (List (List Int))) (b : Int × (List (List Int))) : Option (Bool) :=
  if a.1 != b.1 then
    some false
  else
    (laws_eqIntSS a.2 b.2).bind fun r1 =>
      if !r1 then
        some false
      else
        some true
def laws_eqConstraint (a : (List Int) × Int × (List (List Int))) (b : (List Int) × Int × (List (List Int))) : Option (Bool) :=
  (laws_eqIntS a.1 b.1).bind fun r1 =>
    if !r1 then
      some false
    else
      (laws_eqRelation (a.2.1, a.2.2) (b.2.1, b.2.2)).bind fun r2 =>
        if !r2 then
          some false
        else
          some true
def laws_eqConstraintS_L4 : Nat → ((List ((List Int) × Int × (List (List Int)))) × (List ((List Int) × Int × (List (List Int)))) × Int) → Option ((Unit) ⊕ (Bool))
  | 0, _ => none
  | n + 1, (a, b, i) =>
    if decide (i < (a.length : Int)) then
      if inb i a then
        if inb i b then
          (laws_eqConstraint (gd a i ([], (0, []))) (gd b i ([], (0, [])))).bind fun r1 =>
            if !r1 then
              some (.inr false)
            else
              laws_eqConstraintS_L4 n (a, b, w64 (i + 1))
        else none
      else none
    else
      some (.inl ())
def laws_eqConstraintS (a : List ((List Int) × Int × (List (List Int)))) (b : List ((List Int) × Int × (List (List Int)))) : Option (Bool) :=
  if (a.length : Int) != (b.length : Int) then
    some false
  else
    (laws_eqConstraintS_L4 fuel (a, b, 0)).bind fun s1 =>
      match s1 with
      | .inl s2 =>
        some true
      | .inr s3 =>
        some s3
def laws_eqNetwork (a : Int × Int × (List ((List Int) × Int × (List (List Int))))) (b : Int × Int × (List ((List Int) × Int × (List (List Int))))) : Option (Bool) :=
  if a.1 != b.1 then
    some false
  else
    if a.2.1 != b.2.1 then
      some false
    else
      (laws_eqConstraintS a.2.2 b.2.2).bind fun r1 =>
        if !r1 then
          some false
        else
          some true
def spec_l1Has_L2 : Nat → ((List Int) × Int × Int) → Option ((Unit) ⊕ (Bool))
  | 0, _ => none
  | n + 1, (l, n_, i) =>
    if decide (i < (l.length : Int)) then
      if inb i l then
        if (gd l i 0) == n_ then
          some (.inr true)
        else
          spec_l1Has_L2 n (l, n_, w64 (i + 1))
      else none
    else
      some (.inl ())
def spec_l1Has (l : List Int) (n_ : Int) : Option (Bool) :=
  (spec_l1Has_L2 fuel (l, n_, 0)).bind fun s1 =>
    match s1 with
    | .inl s2 =>
      some false
    | .inr s3 =>
      some s3
end T
open Go Go.Va
namespace T
/- sizes, in general -/
theorem szX {α : Type} (xs : List α) (f : α → Int → Option Int) (tot : α → Nat) (L : Nat → Int → Int → Option (Int ⊕ Int))
    (hf : ∀ a ∈ xs, ∀ s, 0 ≤ s → s ≤ 1099511627775 → f a s = some (szR (tot a) s))
    (hs : ∀ n s (k : Nat) (hk : k < xs.length), L (n + 1) s k = (f xs[k] s).bind fun q => if q < 0 then some (.inr (-1)) else L n q ((k + 1 : Nat) : Int))
    (he : ∀ n s, L (n + 1) s (xs.length : Nat) = some (.inl s)) : ∀ (n k : Nat) (s : Int), k ≤ xs.length → xs.length - k < n → 0 ≤ s → s ≤ 1099511627775 →
      L n s k = some (if (((xs.drop k).map tot).sum : Int) ≤ s then .inl (s - ((xs.drop k).map tot).sum) else .inr (-1)) := by
  intro n
  induction n with
  | zero => intro k s _ h; omega
  | succ n ih =>
    intro k s hk hn h0 h1
    rcases Nat.lt_or_ge k xs.length with hlt | hge
    · rw [hs n s k hlt, hf _ (List.getElem_mem hlt) s h0 h1, List.drop_eq_getElem_cons hlt, List.map_cons, List.sum_cons]
      unfold szR
      simp only [Option.bind_some]
      by_cases h : (tot xs[k] : Int) ≤ s
      · rw [if_pos h, if_neg (by omega), ih (k + 1) _ hlt (by omega) (by omega) (by omega)]
        congr 1
        by_cases h2 : ((((xs.drop (k + 1)).map tot).sum : Nat) : Int) ≤ s - tot xs[k]
        · rw [if_pos h2, if_pos (by omega)]; congr 1; omega
        · rw [if_neg h2, if_neg (by omega)]
      · rw [if_neg h, if_pos (by omega), if_neg (by omega)]
    · have : k = xs.length := by omega
      subst this
      rw [he, List.drop_length]; simp [h0]
/-- a list's size: its length and that of all members -/
theorem szX0 {α : Type} (xs : List α) (f : α → Int → Option Int) (tot : α → Nat) (L : Nat → Int → Int → Option (Int ⊕ Int)) (g : Option Int) {left : Int} (h0 : 0 ≤ left) (h1 : left ≤ 1099511627775)
    (hf : ∀ a ∈ xs, ∀ s, 0 ≤ s → s ≤ 1099511627775 → f a s = some (szR (tot a) s)) (hx : xs.length ≤ 9223372036854775807)
    (hs : ∀ n s (k : Nat) (hk : k < xs.length), k < 4611686018427387904 → L (n + 1) s k = (f xs[k] s).bind fun q => if q < 0 then some (.inr (-1)) else L n q ((k + 1 : Nat) : Int))
    (he : ∀ n s, L (n + 1) s (xs.length : Nat) = some (.inl s))
    (hg : g = if decide (w64 (left - (xs.length : Int)) < 0) then some (-1) else (L fuel (w64 (left - (xs.length : Int))) 0).bind fun s1 => match s1 with | .inl s2 => some s2 | .inr s3 => some s3) :
    g = some (szR (xs.length + (xs.map tot).sum) left) := by
  rw [hg, w64_id (by omega) (by omega)]
  by_cases h : (xs.length : Int) ≤ left
  · rw [if_neg (by simp; omega)]
    have := szX xs f tot L hf (fun n s k hk => hs n s k hk (by omega)) he fuel 0 (left - xs.length) (by omega) (by unfold fuel; omega) (by omega) (by omega)
    rw [show ((0 : Nat) : Int) = 0 from rfl, List.drop_zero] at this
    rw [this]
    unfold szR
    by_cases h2 : (((xs.map tot).sum : Nat) : Int) ≤ left - xs.length
    · rw [if_pos h2, if_pos (by omega)]
      simp only [Option.bind_some, Option.some.injEq]; omega
    · rw [if_neg h2, if_neg (by omega)]; rfl
  · rw [if_pos (by simp; omega)]
    unfold szR
    rw [if_neg (by omega)]
theorem sum_mem {α : Type} (tot : α → Nat) : ∀ {l : List α} {a : α}, a ∈ l → tot a ≤ (l.map tot).sum
  | x :: l, a, h => by
    rw [List.map_cons, List.sum_cons]
    rcases List.mem_cons.1 h with rfl | h
    · omega
    · have := sum_mem tot h; omega
/-- a list is copied -/
theorem toX {α : Type} (xs : List α) (f : α → Option α) (d : α) (L : Nat → List α → Int → Option (List α)) (g : Option (List α)) (hx : xs.length ≤ 1048576) (hf : ∀ a ∈ xs, f a = some a)
    (hs : ∀ n (out : List α) (k : Nat) (hk : k < xs.length), out.length = xs.length → k < 4611686018427387904 → L (n + 1) out k = (f xs[k]).bind fun r => L n (out.set k r) ((k + 1 : Nat) : Int))
    (he : ∀ n out, out.length = xs.length → L (n + 1) out (xs.length : Nat) = some out)
    (hg : g = if 0 ≤ (xs.length : Int) ∧ (xs.length : Int) ≤ (xs.length : Int) ∧ (xs.length : Int) ≤ lim then (L fuel (List.replicate (Int.toNat (xs.length : Int)) d) 0).bind some else none) : g = some xs := by
  rw [hg, if_pos (by unfold lim; omega)]
  have key := fillX0 xs L id some (fun n out k hk hl => by rw [hs n out k hk hl (by omega), hf _ (List.getElem_mem hk)]; rfl) he (n := fuel) (out := List.replicate (Int.toNat (xs.length : Int)) d) (by simp) (by unfold fuel; omega)
  rw [key]; simp
/-- two lists are held against each other -/
theorem eqXX {α : Type} [DecidableEq α] (a b : List α) (f : α → α → Option Bool) (L : Nat → Int → Option (Unit ⊕ Bool)) (g : Option Bool) (hx : a.length ≤ 1048576) (hf : ∀ x ∈ a, ∀ y, f x y = some (decide (x = y)))
    (hs : ∀ n (k : Nat) (h1 : k < a.length) (h2 : k < b.length), k < 4611686018427387904 → L (n + 1) k = (f a[k] b[k]).bind fun r => if !r then some (.inr false) else L n ((k + 1 : Nat) : Int))
    (he : ∀ n, L (n + 1) (a.length : Nat) = some (.inl ()))
    (hg : g = if (a.length : Int) != (b.length : Int) then some false else (L fuel 0).bind fun s1 => match s1 with | .inl _ => some true | .inr s3 => some s3) : g = some (decide (a = b)) := by
  rw [hg]
  by_cases hl : a.length = b.length
  · rw [if_neg (by simp [hl]), eqX a b hl L (fun n k h1 h2 => ?_) he (by unfold fuel; omega)]
    · by_cases h : a = b <;> simp [h]
    · rw [hs n k h1 h2 (by omega), hf _ (List.getElem_mem h1)]
      by_cases h : a[k] = b[k] <;> simp [h]
  · rw [if_pos (by simp; omega), decide_eq_false (fun e => hl (by rw [e]))]
/- networks -/
abbrev Con := List Int × Int × List (List Int)
abbrev Net := Int × Int × List Con
def rowsS (a : List (List Int)) : Prop := a.length ≤ 1048576 ∧ ∀ r ∈ a, r.length ≤ 1048576
def conS (c : Con) : Prop := c.1.length ≤ 1048576 ∧ rowsS c.2.2
def netS (a : Net) : Prop := a.2.2.length ≤ 1048576 ∧ ∀ c ∈ a.2.2, conS c
abbrev netT : Ty := .pair .int (.pair .int (.slice (.pair (.slice .int) (.pair .int (.slice (.slice .int))))))
def totC (c : Con) : Nat := c.1.length + totSS c.2.2
def totN (a : Net) : Nat := a.2.2.length + (a.2.2.map totC).sum
theorem szConstraint_ok {c : Con} {s : Int} (h0 : 0 ≤ s) (h1 : s ≤ 1099511627775) (h : c.1.length ≤ 9223372036854775807) (h2 : c.2.2.length ≤ 9223372036854775807) (hr : ∀ r ∈ c.2.2, r.length ≤ 9223372036854775807) :
    laws_szConstraint c s = some (szR (totC c) s) := by
  unfold laws_szConstraint
  rw [szIntS_ok h0 (by omega) h]
  unfold szR totC
  simp only [Option.bind_some]
  by_cases hc : (c.1.length : Int) ≤ s
  · rw [if_pos hc, if_neg (by simp; omega)]
    unfold laws_szRelation
    rw [szIntSS_ok (by omega) (by omega) h2 hr]
    unfold szR
    by_cases hd : (totSS c.2.2 : Int) ≤ s - c.1.length
    · rw [if_pos hd, if_pos (by omega)]
      simp only [Option.bind_some]
      rw [if_neg (by simp; omega)]
      simp only [Option.bind_some]
      rw [if_neg (by simp; omega)]
      congr 1; omega
    · rw [if_neg hd, if_neg (show ¬ ((c.1.length + totSS c.2.2 : Nat) : Int) ≤ s by push_cast; omega)]; rfl
  · rw [if_neg hc, if_neg (show ¬ ((c.1.length + totSS c.2.2 : Nat) : Int) ≤ s by push_cast; omega)]; rfl
theorem szNetwork_ok {a : Net} (h : wfT netT a) : laws_szNetwork a 1048576 = some (szR (totN a) 1048576) := by
  unfold laws_szNetwork
  have hc : ∀ c ∈ a.2.2, c.1.length ≤ 9223372036854775807 ∧ c.2.2.length ≤ 9223372036854775807 ∧ ∀ r ∈ c.2.2, r.length ≤ 9223372036854775807 := fun c hc => by
    have := h.2.2.2 c hc
    exact ⟨this.1.1, this.2.2.1, fun r hr => (this.2.2.2 r hr).1⟩
  have key : laws_szConstraintS a.2.2 1048576 = some (szR (totN a) 1048576) := by
    refine szX0 a.2.2 laws_szConstraint totC (fun n s i => laws_szConstraintS_L5 n (a.2.2, s, i)) _ (by omega) (by omega) (fun c hm s h0 h1 => szConstraint_ok h0 h1 (hc c hm).1 (hc c hm).2.1 (hc c hm).2.2) h.2.2.1 (fun n s k hk hk4 => ?_) (fun n s => ?_) rfl
    · simp only [laws_szConstraintS_L5, inb_nat, gd_nat hk, w64_succ hk4]
      simp [hk]
    · simp [laws_szConstraintS_L5]
  rw [key]
  unfold szR
  split
  · simp only [Option.bind_some]; rw [if_neg (by simp; omega)]
  · rfl
theorem szNetwork_small {a : Net} (h : ¬ szR (totN a) 1048576 < 0) : netS a ∧ totN a ≤ 1048576 := by
  unfold szR at h
  split at h
  · refine ⟨⟨by unfold totN at *; omega, fun c hc => ?_⟩, by omega⟩
    have h1 := sum_mem totC hc
    have h2 : totC c ≤ 1048576 := by unfold totN at *; omega
    unfold totC totSS at h2
    exact ⟨by omega, by omega, fun r hr => by have := mem_sum hr; omega⟩
  · omega
theorem toConstraint_ok {c : Con} (h : conS c) : laws_toConstraint c = some c := by
  unfold laws_toConstraint laws_toRelation
  rw [toIntS_ok (by have := h.1; omega)]
  dsimp only
  rw [toIntSS_ok (by have := h.2.1; omega) fun r hr => by have := h.2.2 r hr; omega]
  rfl
theorem toNetwork_ok {a : Net} (h : netS a) : laws_toNetwork a = some a := by
  unfold laws_toNetwork
  have key : laws_toConstraintS a.2.2 = some a.2.2 := by
    refine toX a.2.2 laws_toConstraint ([], (0, [])) (fun n out i => laws_toConstraintS_L3 n (a.2.2, out, i)) _ h.1 (fun c hc => toConstraint_ok (h.2 c hc)) (fun n out k hk hl hk4 => ?_) (fun n out hl => ?_) rfl
    · simp only [laws_toConstraintS_L3, inb_nat, gd_nat hk, stt_nat, w64_succ hk4]
      simp [hk, hl]
    · simp [laws_toConstraintS_L3]
  rw [key]; rfl
theorem eqConstraint_ok {a b : Con} (h : conS a) : laws_eqConstraint a b = some (decide (a = b)) := by
  unfold laws_eqConstraint laws_eqRelation
  rw [eqIntS_ok (by have := h.1; omega)]
  dsimp only
  rw [eqIntSS_ok (by have := h.2.1; omega) fun r hr => by have := h.2.2 r hr; omega]
  obtain ⟨a1, a2, a3⟩ := a
  obtain ⟨b1, b2, b3⟩ := b
  by_cases h1 : a1 = b1
  · by_cases h2 : a2 = b2
    · by_cases h3 : a3 = b3 <;> simp [h1, h2, h3]
    · simp [h1, h2]
  · simp [h1]
theorem eqNetwork_ok {a b : Net} (h : netS a) : laws_eqNetwork a b = some (decide (a = b)) := by
  unfold laws_eqNetwork
  have key : laws_eqConstraintS a.2.2 b.2.2 = some (decide (a.2.2 = b.2.2)) := by
    refine eqXX a.2.2 b.2.2 laws_eqConstraint (fun n i => laws_eqConstraintS_L4 n (a.2.2, b.2.2, i)) _ h.1 (fun c hc y => eqConstraint_ok (h.2 c hc)) (fun n k h1 h2 hk4 => ?_) (fun n => ?_) rfl
    · simp only [laws_eqConstraintS_L4, inb_nat, gd_nat h1, gd_nat h2, w64_succ hk4]
      simp [h1, h2]
    · simp [laws_eqConstraintS_L4]
  rw [key]
  obtain ⟨a1, a2, a3⟩ := a
  obtain ⟨b1, b2, b3⟩ := b
  by_cases h1 : a1 = b1
  · by_cases h2 : a2 = b2
    · by_cases h3 : a3 = b3 <;> simp [h1, h2, h3]
    · simp [h1, h2]
  · simp [h1]
/- a relation is valid -/
def relB (n : Int) (r : Int × List (List Int)) : Bool := decide (1 ≤ r.1 ∧ r.1 ≤ 3) && (r.2.all fun t => decide ((t.length : Int) = r.1) && belowB n t) && incB r.2
/-- the k-th tuple is valid, and greater than the one before -/
def tupAt (n : Int) (r : Int × List (List Int)) (k : Nat) : Bool := decide (((r.2.getD k []).length : Int) = r.1) && belowB n (r.2.getD k []) && (decide (k = 0) || decide (cmpL (r.2.getD (k - 1) []) (r.2.getD k []) < 0))
theorem getD_of {α : Type} {l : List α} {k : Nat} {d : α} (h : k < l.length) : l.getD k d = l[k] := by simp [List.getD_eq_getElem?_getD, h]
theorem tupAt_all {n ar : Int} {ts : List (List Int)} : (List.range ts.length).all (tupAt n (ar, ts)) = ((ts.all fun t => decide ((t.length : Int) = ar) && belowB n t) && incB ts) := by
  rw [Bool.eq_iff_iff, Bool.and_eq_true, List.all_eq_true, List.all_eq_true, incB_iff]
  unfold tupAt
  constructor
  · intro h
    refine ⟨fun t ht => ?_, fun i hi => ?_⟩
    · obtain ⟨k, hk, rfl⟩ := List.getElem_of_mem ht
      have := h k (List.mem_range.2 hk)
      rw [getD_of hk] at this
      simp only [Bool.and_eq_true] at this
      rw [Bool.and_eq_true]; exact this.1
    · have := h (i + 1) (List.mem_range.2 hi)
      rw [getD_of hi, Nat.add_sub_cancel, getD_of (show i < ts.length by omega)] at this
      simp at this
      exact this.2
  · rintro ⟨h1, h2⟩ k hk
    have hk := List.mem_range.1 hk
    have e := h1 _ (List.getElem_mem hk)
    rw [getD_of hk]
    rw [Bool.and_eq_true] at e
    rw [Bool.and_eq_true, Bool.and_eq_true]
    refine ⟨e, ?_⟩
    cases k with
    | zero => simp
    | succ i =>
      have := h2 i hk
      rw [Nat.add_sub_cancel, getD_of (show i < ts.length by omega)]
      simp [this]
theorem impl_isRelation_ok {n : Int} {r : Int × List (List Int)} (h : rowsS r.2) : impl_isRelation n r = some (relB n r) := by
  obtain ⟨ar, ts⟩ := r
  unfold impl_isRelation relB
  by_cases h1 : ar < 1
  · simp [h1, show ¬ 1 ≤ ar by omega]
  · by_cases h2 : ar > 3
    · simp [h1, h2, show ¬ ar ≤ 3 by omega]
    · rw [if_neg (by simpa using h1), if_neg (by simpa using h2)]
      have key := forA ts.length (fun m (_ : Unit) i => impl_isRelation_L4 m (n, (ar, ts), ts, (ts.length : Int), i)) (fun _ => ()) (tupAt n (ar, ts)) (r := some (.inr false)) (e := some (.inl ())) (fun m k hk => ?_) (fun m => ?_) (n := fuel) (by unfold fuel; have := h.1; simp at this; omega)
      · rw [key, tupAt_all]
        simp only [show (1 ≤ ar ∧ ar ≤ 3) = True by simp; omega, decide_true, Bool.true_and]
        cases (ts.all fun t => decide ((t.length : Int) = ar) && belowB n t) && incB ts <;> simp
      · have hx := h.2 ts[k] (List.getElem_mem hk)
        have hk' := h.1
        simp only at hk'
        simp only [impl_isRelation_L4, inb_nat, gd_nat hk, w64_succ (show k < 4611686018427387904 by omega), impl_inSize_ok n (show ts[k].length ≤ 1099511627775 by omega), tupAt, getD_of hk]
        by_cases hl : (ts[k].length : Int) = ar
        · cases hb : belowB n ts[k] with
          | false => simp [hk, hl]
          | true =>
            cases k with
            | zero => simp [hk, hl]
            | succ i =>
              have hi : i < ts.length := by omega
              have hx2 := h.2 ts[i] (List.getElem_mem hi)
              have e : w64 (((i + 1 : Nat) : Int) - 1) = (i : Int) := by rw [w64_id (by omega) (by omega)]; omega
              simp only [e, inb_nat, gd_nat hi, Nat.add_sub_cancel, getD_of hi, impl_compareLists_ok (show ts[i].length ≤ 1099511627775 by omega)]
              by_cases hc : cmpL ts[i] ts[i + 1] < 0
              · simp [hk, hl, hi, hc, show ¬ cmpL ts[i] ts[i + 1] ≥ 0 by omega]; omega
              · simp [hk, hl, hi, hc, show cmpL ts[i] ts[i + 1] ≥ 0 by omega]; omega
        · simp [hk, hl]
      · simp [impl_isRelation_L4]
theorem spec_l13Good_ok {n : Int} {r : Int × List (List Int)} (h : rowsS r.2) (hn : 1 ≤ n ∧ n ≤ 8) : spec_l13Good n r = some (relB n r) := by
  obtain ⟨ar, ts⟩ := r
  unfold spec_l13Good relB
  rw [spec_l1In_ok]
  by_cases h1 : 1 ≤ ar ∧ ar ≤ 3
  · simp only [h1, and_self, decide_true, Option.bind_some, Bool.not_true, Bool.false_eq_true, if_false, Bool.true_and]
    obtain ⟨m, rfl⟩ : ∃ m : Nat, ar = m := ⟨ar.toNat, by omega⟩
    rw [spec_l2Pow_ok (by omega) (by omega) (by omega)]
    simp only [Option.bind_some]
    have key := forB ts.length (fun m' (_ : Unit) i => spec_l13Good_L4 m' (n, ((m : Int), ts), i)) (fun _ => ()) (tupAt n ((m : Int), ts)) (r := some (.inr false)) (e := some (.inl ())) (fun m' k hk hb0 => ?_) (fun m' _ => ?_) (n := fuel) (by unfold fuel; have := h.1; simp at this; omega)
    · by_cases hc : (ts.length : Int) > n ^ m
      · rw [if_pos (by simpa using hc)]
        by_cases hv : ((ts.all fun t => decide ((t.length : Int) = m) && belowB n t) && incB ts) = true
        · rw [Bool.and_eq_true, List.all_eq_true] at hv
          rcases inc_count (k := m) hv.2 fun t ht => by have := hv.1 t ht; simp at this; exact ⟨by omega, this.2⟩ with h2 | h2
          · omega
          · subst h2
            have := pow_bd (n := n) (by omega) (by omega) (k := m) (by omega)
            simp at hc; omega
        · simp only [Bool.not_eq_true] at hv; rw [hv]
      · rw [if_neg (by simpa using hc), key, tupAt_all]
        cases (ts.all fun t => decide ((t.length : Int) = m) && belowB n t) && incB ts <;> simp
    · have hx := h.2 ts[k] (List.getElem_mem hk)
      have hk' := h.1
      simp only at hk'
      simp only [spec_l13Good_L4, inb_nat, gd_nat hk, w64_succ (show k < 4611686018427387904 by omega), spec_l8Tuple_ok (n := n) _ (by omega) (by omega) (show ts[k].length ≤ 1099511627775 by omega), tupAt, getD_of hk]
      by_cases hl : (ts[k].length : Int) = m
      · cases hb : belowB n ts[k] with
        | false => simp [hk, hl]
        | true =>
          cases k with
          | zero => simp [hk, hl]
          | succ i =>
            have hi : i < ts.length := by omega
            have hx2 := h.2 ts[i] (List.getElem_mem hi)
            have e : w64 (((i + 1 : Nat) : Int) - 1) = (i : Int) := by rw [w64_id (by omega) (by omega)]; omega
            simp only [e, inb_nat, gd_nat hi, Nat.add_sub_cancel, getD_of hi]
            have hb1 := hb0 i (by omega)
            simp only [tupAt, getD_of hi, Bool.and_eq_true, decide_eq_true_eq] at hb1
            rw [spec_l3Less_ok (s := ts[i]) (t := ts[i + 1]) (by omega) (by have := hb1.1.1; omega)]
            by_cases hc : cmpL ts[i] ts[i + 1] < 0
            · simp [hk, hl, hi, hc]; omega
            · simp [hk, hl, hi, hc]; omega
      · simp [hk, hl]
    · simp [spec_l13Good_L4]
  · have : ¬ (1 ≤ ar ∧ ar ≤ 3) := h1
    simp [this]
end T
open Go Go.Va
namespace T
/-- a constraint is valid, for v variables and n values -/
def conB (v n : Int) (c : Con) : Bool := relB n (c.2.1, c.2.2) && decide ((c.1.length : Int) = c.2.1) && belowB v c.1
def netB (a : Net) : Bool := decide (0 ≤ a.1 ∧ a.1 ≤ 9) && decide (1 ≤ a.2.1 ∧ a.2.1 ≤ 4) && decide (a.2.2.length ≤ 40) && a.2.2.all (conB a.1 a.2.1)
theorem impl_isConstraint_ok {v n : Int} {c : Con} (h : conS c) : impl_isConstraint v n c = some (conB v n c) := by
  unfold impl_isConstraint conB
  rw [impl_isRelation_ok (r := (c.2.1, c.2.2)) h.2]
  cases relB n (c.2.1, c.2.2) with
  | false => simp
  | true =>
    by_cases hl : (c.1.length : Int) = c.2.1
    · simp [hl, impl_inSize_ok v (show c.1.length ≤ 1099511627775 by have := h.1; omega)]
    · simp [hl]
theorem spec_l19Is_ok {v n : Int} {c : Con} (h : conS c) (hv : 0 ≤ v ∧ v ≤ 9) (hn : 1 ≤ n ∧ n ≤ 8) : spec_l19Is v n c = some (conB v n c) := by
  unfold spec_l19Is conB
  rw [spec_l13Good_ok (r := (c.2.1, c.2.2)) h.2 hn]
  cases relB n (c.2.1, c.2.2) with
  | false => simp
  | true =>
    by_cases hl : (c.1.length : Int) = c.2.1
    · simp [hl, spec_l2Elements_ok (l := c.1) (n := v) (by omega) (by omega) (show c.1.length ≤ 1099511627775 by have := h.1; omega)]
    · simp [hl]
theorem impl_IsNetwork_ok {a : Net} (h : netS a) : impl_IsNetwork a = some (netB a) := by
  obtain ⟨v, n, cs⟩ := a
  unfold impl_IsNetwork netB
  by_cases h1 : v < 0
  · simp [h1, show ¬ 0 ≤ v by omega]
  · by_cases h2 : v > 9
    · simp [h1, h2, show ¬ v ≤ 9 by omega]
    · rw [if_neg (by simpa using h1), if_neg (by simpa using h2)]
      unfold impl_isTemplateSize
      by_cases h3 : 1 ≤ n ∧ n ≤ 4
      · by_cases h4 : cs.length > 40
        · simp [h3, show ¬ cs.length ≤ 40 by omega]; omega
        · have key := allX cs (fun m i => impl_IsNetwork_L4 m ((v, (n, cs)), cs, (cs.length : Int), i)) (conB v n) (.inr false) (.inl ()) ?_ ?_ (n := fuel) (by unfold fuel; omega)
          · simp only [h3, ge_iff_le, decide_true, if_true, Option.bind_some, Bool.not_true, Bool.false_eq_true, if_false]
            rw [if_neg (by simp; omega), key]
            cases cs.all (conB v n) <;> simp <;> omega
          · intro m k hk
            simp only [impl_IsNetwork_L4, inb_nat, gd_nat hk, w64_succ (show k < 4611686018427387904 by omega), impl_isConstraint_ok (c := cs[k]) (h.2 _ (List.getElem_mem hk))]
            cases hb : conB v n cs[k] <;> simp [hk, hb]
          · intro m
            simp [impl_IsNetwork_L4]
      · by_cases h5 : n ≥ 1
        · simp [h5, show ¬ n ≤ 4 by omega]
        · simp [h5, show ¬ 1 ≤ n by omega]
theorem spec_l19Good_ok {a : Net} (h : netS a) : spec_l19Good a = some (netB a) := by
  obtain ⟨v, n, cs⟩ := a
  unfold spec_l19Good netB
  rw [spec_l1In_ok, spec_l1In_ok]
  by_cases h1 : 0 ≤ v ∧ v ≤ 9
  · by_cases h3 : 1 ≤ n ∧ n ≤ 4
    · by_cases h4 : cs.length > 40
      · simp [h1, h3, show ¬ cs.length ≤ 40 by omega]; omega
      · have key := allX cs (fun m i => spec_l19Good_L4 m ((v, (n, cs)), i)) (conB v n) (.inr false) (.inl ()) ?_ ?_ (n := fuel) (by unfold fuel; omega)
        · simp only [h1, h3, and_self, decide_true, Option.bind_some, Bool.not_true, Bool.false_eq_true, if_false]
          rw [if_neg (by simp; omega), key]
          cases cs.all (conB v n) <;> simp <;> omega
        · intro m k hk
          simp only [spec_l19Good_L4, inb_nat, gd_nat hk, w64_succ (show k < 4611686018427387904 by omega), spec_l19Is_ok (c := cs[k]) (h.2 _ (List.getElem_mem hk)) h1 (show 1 ≤ n ∧ n ≤ 8 by omega)]
          cases hb : conB v n cs[k] <;> simp [hk, hb]
        · intro m
          simp [spec_l19Good_L4]
    · simp [h1, h3]
  · simp [h1]
/-- a valid constraint's parts -/
structure ConOk (v n : Int) (c : Con) : Prop where
  ar : 1 ≤ c.2.1 ∧ c.2.1 ≤ 3
  sl : (c.1.length : Int) = c.2.1
  sv : ∀ (i : Nat) (hi : i < c.1.length), 0 ≤ c.1[i] ∧ c.1[i] < v
  tl : ∀ t ∈ c.2.2, t.length = c.1.length
  tv : ∀ t ∈ c.2.2, ∀ (i : Nat) (hi : i < t.length), 0 ≤ t[i] ∧ t[i] < n
  inc : incB c.2.2 = true
  many : c.2.2.length ≤ 64
structure NetOk (a : Net) : Prop where
  hv : 0 ≤ a.1 ∧ a.1 ≤ 9
  hn : 1 ≤ a.2.1 ∧ a.2.1 ≤ 4
  hc : a.2.2.length ≤ 40
  con : ∀ c ∈ a.2.2, ConOk a.1 a.2.1 c
theorem con_of {v n : Int} {c : Con} (hn : 1 ≤ n ∧ n ≤ 4) (h : conB v n c = true) : ConOk v n c := by
  unfold conB relB at h
  simp only [Bool.and_eq_true, decide_eq_true_eq, List.all_eq_true] at h
  obtain ⟨⟨⟨⟨h1, h2⟩, h3⟩, h4⟩, h5⟩ := h
  refine ⟨h1, h4, fun i hi => belowB_get h5 i hi, fun t ht => by have := (h2 t ht).1; omega, fun t ht i hi => belowB_get (h2 t ht).2 i hi, h3, ?_⟩
  rcases inc_count (n := n) (k := c.2.1.toNat) h3 fun t ht => ⟨by have := (h2 t ht).1; omega, (h2 t ht).2⟩ with h6 | h6
  · have : n ^ c.2.1.toNat ≤ 64 := by
      have h7 : c.2.1.toNat = 1 ∨ c.2.1.toNat = 2 ∨ c.2.1.toNat = 3 := by omega
      have h8 : n = 1 ∨ n = 2 ∨ n = 3 ∨ n = 4 := by omega
      rcases h7 with h7 | h7 | h7 <;> rcases h8 with h8 | h8 | h8 | h8 <;> rw [h7, h8] <;> decide
    omega
  · rw [h6]; simp
theorem net_of {a : Net} (h : netB a = true) : NetOk a := by
  unfold netB at h
  simp only [Bool.and_eq_true, decide_eq_true_eq, List.all_eq_true] at h
  obtain ⟨⟨⟨h1, h2⟩, h3⟩, h4⟩ := h
  exact ⟨h1, h2, h3, fun c hc => con_of h2 (h4 c hc)⟩
end T
open Go Go.Va
namespace T
/-- a loop that gathers with and -/
theorem accX {β : Type} (N : Nat) (L : Nat → Bool → Int → Option β) (p : Nat → Bool) (f : Bool → Option β)
    (hs : ∀ n b (k : Nat), k < N → L (n + 1) b k = L n (b && p k) ((k + 1 : Nat) : Int)) (he : ∀ n b, L (n + 1) b (N : Nat) = f b) {n : Nat} (hn : N < n) (b : Bool) : L n b 0 = f (b && (List.range N).all p) := by
  have key : ∀ (n k : Nat) (b : Bool), k ≤ N → N - k < n → L n b k = f (b && (List.range' k (N - k)).all p) := by
    intro n
    induction n with
    | zero => intro k b _ h; omega
    | succ n ih =>
      intro k b hk hn
      rcases Nat.lt_or_ge k N with hlt | hge
      · rw [hs n b k hlt, ih (k + 1) _ hlt (by omega), show N - k = (N - (k + 1)) + 1 by omega, List.range'_succ, List.all_cons, Bool.and_assoc]
      · have : k = N := by omega
        subst this; rw [he]; simp
  have := key n 0 b (Nat.zero_le _) (by omega)
  rw [List.range_eq_range']
  simpa using this
/- a constraint is taken -/
def g0 (l : List Int) (i : Nat) : Int := l.getD i 0
theorem g0_of {l : List Int} {i : Nat} (h : i < l.length) : l[i] = g0 l i := (getD_of h).symm
section
variable {v n up : Int} {c : Con} {vals : List Int}
end
end T
open Go Go.Va
namespace T
/- which values each variable may have -/
abbrev Dom := List (List Bool)
def d2 (d : Dom) (v x : Nat) : Bool := (d.getD v []).getD x false
def set2 (d : Dom) (v x : Nat) : Dom := d.set v ((d.getD v []).set x false)
theorem getD_set_of {α : Type} {l : List α} {i j : Nat} {y d : α} : (l.set i y).getD j d = if i = j ∧ j < l.length then y else l.getD j d := by
  simp only [List.getD_eq_getElem?_getD, List.getElem?_set]
  by_cases h : i = j
  · subst h
    by_cases h2 : i < l.length
    · simp [h2]
    · simp [h2]
  · simp [h]
/-- how many values are there -/
def mu (d : Dom) : Nat := (d.map fun r => r.countP id).sum
theorem sum_set {α : Type} (f : α → Nat) : ∀ (l : List α) (i : Nat) (y : α) (hi : i < l.length), ((l.set i y).map f).sum + f l[i] = (l.map f).sum + f y
  | x :: l, 0, y, _ => by simp; omega
  | x :: l, i + 1, y, hi => by
    have := sum_set f l i y (by simpa using hi)
    simp only [List.set_cons_succ, List.map_cons, List.sum_cons, List.getElem_cons_succ]; omega
theorem count_set : ∀ (r : List Bool) (x : Nat), r.getD x false = true → (r.set x false).countP id + 1 = r.countP id
  | [], x, h => by simp at h
  | b :: r, 0, h => by simp at h; subst h; simp
  | b :: r, x + 1, h => by
    have := count_set r x (by simpa using h)
    rw [List.set_cons_succ, List.countP_cons, List.countP_cons]; omega
theorem mu_set2 {d : Dom} {v x : Nat} (h : d2 d v x = true) : mu (set2 d v x) + 1 = mu d := by
  unfold d2 at h
  rcases Nat.lt_or_ge v d.length with hv | hv
  · have h1 := sum_set (fun r : List Bool => r.countP id) d v ((d.getD v []).set x false) hv
    have h2 := count_set _ _ h
    rw [getD_of hv] at h1 h2
    unfold mu set2
    rw [getD_of hv]
    omega
  · rw [List.getD_eq_getElem?_getD (l := d), List.getElem?_eq_none hv] at h; simp at h
/- the reference's lists -/
theorem spec_l1Has_ok {l : List Int} {x : Int} (h : l.length ≤ 1048576) : spec_l1Has l x = some (decide (x ∈ l)) := by
  unfold spec_l1Has
  rw [allX l (fun n i => spec_l1Has_L2 n (l, x, i)) (fun y => !decide (y = x)) (.inr true) (.inl ()) ?_ ?_ (by unfold fuel; omega)]
  · by_cases hx : x ∈ l
    · rw [if_neg]
      · simp [hx]
      · rw [List.all_eq_true]; intro h; have := h x hx; simp at this
    · rw [if_pos]
      · simp [hx]
      · rw [List.all_eq_true]; intro y hy; have : y ≠ x := fun e => hx (e ▸ hy)
        simp [this]
  · intro n k hk
    simp only [spec_l1Has_L2, inb_nat, gd_nat hk, w64_succ (show k < 4611686018427387904 by omega)]
    by_cases e : l[k] = x <;> simp [hk, e]
  · intro n; simp [spec_l1Has_L2]
end T
open Go Go.Va
namespace T
theorem w1 : w64 1 = 1 := by rw [w64_def]; rfl
theorem w2 : w64 2 = 2 := by rw [w64_def]; rfl
section
variable {a : Net}
end
end T
set_option linter.unusedVariables false
open Go Go.Va
namespace T
def spec_l20Inside_L7 : Nat → ((List Int) × (Int × Int × (List ((List Int) × Int × (List (List Int))))) × (List ((List Int) × Int × (List (List Int)))) × Int × Bool × Int) → Option ((List Int) × (Int × Int × (List ((List Int) × Int × (List (List Int))))) × (List ((List Int) × Int × (List (List Int)))) × Int × Bool)
  | 0, _ => none
  | n + 1, (vars, net, out, i, inside, k) =>
    if inb i net.2.2 then
      if decide (k < (((gd net.2.2 i ([], (0, []))).1).length : Int)) then
        if inside then
          if inb i net.2.2 then
            if inb k ((gd net.2.2 i ([], (0, []))).1) then
              (spec_l1Has vars (gd ((gd net.2.2 i ([], (0, []))).1) k 0)).bind fun r1 =>
                spec_l20Inside_L7 n (vars, (net.1, (net.2.1, net.2.2)), out, i, r1, w64 (k + 1))
            else none
          else none
        else
          spec_l20Inside_L7 n (vars, (net.1, (net.2.1, net.2.2)), out, i, false, w64 (k + 1))
      else
        some (vars, (net.1, (net.2.1, net.2.2)), out, i, inside)
    else none
def spec_l20Inside_L3 : Nat → ((List Int) × (Int × Int × (List ((List Int) × Int × (List (List Int))))) × (List ((List Int) × Int × (List (List Int)))) × Int) → Option ((List ((List Int) × Int × (List (List Int)))))
  | 0, _ => none
  | n + 1, (vars, net, out, i) =>
    if decide (i < (net.2.2.length : Int)) then
      (spec_l20Inside_L7 fuel (vars, (net.1, (net.2.1, net.2.2)), out, i, true, 0)).bind fun s1 =>
        if s1.2.2.2.2 then
          if inb s1.2.2.2.1 s1.2.1.2.2 then
            if s1.2.2.1.length + [gd s1.2.1.2.2 s1.2.2.2.1 ([], (0, []))].length ≤ lim then
              spec_l20Inside_L3 n (s1.1, (s1.2.1.1, (s1.2.1.2.1, s1.2.1.2.2)), s1.2.2.1 ++ [gd s1.2.1.2.2 s1.2.2.2.1 ([], (0, []))], w64 (s1.2.2.2.1 + 1))
            else none
          else none
        else
          spec_l20Inside_L3 n (s1.1, (s1.2.1.1, (s1.2.1.2.1, s1.2.1.2.2)), s1.2.2.1, w64 (s1.2.2.2.1 + 1))
    else
      some out
def spec_l20Inside (net : Int × Int × (List ((List Int) × Int × (List (List Int))))) (vars : List Int) : Option ((List ((List Int) × Int × (List (List Int))))) :=
  (spec_l20Inside_L3 fuel (vars, (net.1, (net.2.1, net.2.2)), [], 0)).bind fun s1 =>
    some s1
def spec_l13Has (r : Int × (List (List Int))) (t : List Int) : Option (Bool) :=
  if (t.length : Int) != r.1 then
    some false
  else
    (spec_l8Find r.2 t).bind fun r1 =>
      some r1.2
def spec_l19Satisfies_L3 : Nat → ((List Int) × ((List Int) × Int × (List (List Int))) × (List Int) × Int) → Option (((List Int) × Int × (List (List Int))) × (List Int))
  | 0, _ => none
  | n + 1, (values, c, t, i) =>
    if decide (i < (c.1.length : Int)) then
      if inb i c.1 then
        if inb (gd c.1 i 0) values then
          if t.length + [gd values (gd c.1 i 0) 0].length ≤ lim then
            spec_l19Satisfies_L3 n (values, (c.1, (c.2.1, c.2.2)), t ++ [gd values (gd c.1 i 0) 0], w64 (i + 1))
          else none
        else none
      else none
    else
      some ((c.1, (c.2.1, c.2.2)), t)
def spec_l19Satisfies (c : (List Int) × Int × (List (List Int))) (values : List Int) : Option (Bool) :=
  (spec_l19Satisfies_L3 fuel (values, (c.1, (c.2.1, c.2.2)), [], 0)).bind fun s1 =>
    (spec_l13Has (s1.1.2.1, s1.1.2.2) s1.2).bind fun r2 =>
      some r2
def spec_l20Hold_L2 : Nat → ((List ((List Int) × Int × (List (List Int)))) × (List Int) × Int) → Option ((Unit) ⊕ (Bool))
  | 0, _ => none
  | n + 1, (list, values, i) =>
    if decide (i < (list.length : Int)) then
      if inb i list then
        (spec_l19Satisfies (gd list i ([], (0, []))) values).bind fun r1 =>
          if !r1 then
            some (.inr false)
          else
            spec_l20Hold_L2 n (list, values, w64 (i + 1))
      else none
    else
      some (.inl ())
def spec_l20Hold (list : List ((List Int) × Int × (List (List Int)))) (values : List Int) : Option (Bool) :=
  (spec_l20Hold_L2 fuel (list, values, 0)).bind fun s1 =>
    match s1 with
    | .inl s2 =>
      some true
    | .inr s3 =>
      some s3
def spec_l20At (there : List (List (List Bool))) (size : Int) (i : Int) (a : Int) (j : Int) (b : Int) : Option (Bool) :=
  if decide (i < j) then
    if inb i there then
      if inb j (gd there i []) then
        if inb (w64 ((w64 (a * size)) + b)) (gd (gd there i []) j []) then
          some (gd (gd (gd there i []) j []) (w64 ((w64 (a * size)) + b)) false)
        else none
      else none
    else none
  else
    if inb j there then
      if inb i (gd there j []) then
        if inb (w64 ((w64 (b * size)) + a)) (gd (gd there j []) i []) then
          some (gd (gd (gd there j []) i []) (w64 ((w64 (b * size)) + a)) false)
        else none
      else none
    else none
def spec_l20Shrink_L10 : Nat → ((List (List (List Bool))) × Int × Int × Int × (Int × Int × (List ((List Int) × Int × (List (List Int))))) × Int × (List ((List Int) × Int × (List (List Int)))) × Bool × Int × Bool × Int) → Option ((List (List (List Bool))) × Int × Int × Int × (Int × Int × (List ((List Int) × Int × (List (List Int))))) × Int × (List ((List Int) × Int × (List (List Int)))) × Bool × Int × Bool)
  | 0, _ => none
  | n + 1, (t1, t2, t3, t4, t5, t11, t12, t13, t14, t15, t16) =>
    if decide (t16 < t11) then
      if !t15 then
        if 0 ≤ t5.1 ∧ t5.1 ≤ t5.1 ∧ t5.1 ≤ lim then
          if t11 ≠ 0 then
            if inb t2 (List.replicate (Int.toNat t5.1) (0 : Int)) then
              if t11 ≠ 0 then
                if inb t3 (stt (List.replicate (Int.toNat t5.1) (0 : Int)) t2 (w64 (Int.tdiv t14 t11))) then
                  if inb t4 (stt (stt (List.replicate (Int.toNat t5.1) (0 : Int)) t2 (w64 (Int.tdiv t14 t11))) t3 (Int.tmod t14 t11)) then
                    if inb t2 (stt (stt (stt (List.replicate (Int.toNat t5.1) (0 : Int)) t2 (w64 (Int.tdiv t14 t11))) t3 (Int.tmod t14 t11)) t4 t16) then
                      (spec_l20At t1 t11 t2 (gd (stt (stt (stt (List.replicate (Int.toNat t5.1) (0 : Int)) t2 (w64 (Int.tdiv t14 t11))) t3 (Int.tmod t14 t11)) t4 t16) t2 0) t4 t16).bind fun r2 =>
                        if r2 then
                          if inb t3 (stt (stt (stt (List.replicate (Int.toNat t5.1) (0 : Int)) t2 (w64 (Int.tdiv t14 t11))) t3 (Int.tmod t14 t11)) t4 t16) then
                            (spec_l20At t1 t11 t3 (gd (stt (stt (stt (List.replicate (Int.toNat t5.1) (0 : Int)) t2 (w64 (Int.tdiv t14 t11))) t3 (Int.tmod t14 t11)) t4 t16) t3 0) t4 t16).bind fun r3 =>
                              if r3 then
                                (spec_l20Hold t12 (stt (stt (stt (List.replicate (Int.toNat t5.1) (0 : Int)) t2 (w64 (Int.tdiv t14 t11))) t3 (Int.tmod t14 t11)) t4 t16)).bind fun r4 =>
                                  spec_l20Shrink_L10 n (t1, t2, t3, t4, (t5.1, (t5.2.1, t5.2.2)), t11, t12, t13, t14, r4, w64 (t16 + 1))
                              else
                                spec_l20Shrink_L10 n (t1, t2, t3, t4, (t5.1, (t5.2.1, t5.2.2)), t11, t12, t13, t14, false, w64 (t16 + 1))
                          else none
                        else
                          spec_l20Shrink_L10 n (t1, t2, t3, t4, (t5.1, (t5.2.1, t5.2.2)), t11, t12, t13, t14, false, w64 (t16 + 1))
                    else none
                  else none
                else none
              else none
            else none
          else none
        else none
      else
        some (t1, t2, t3, t4, (t5.1, (t5.2.1, t5.2.2)), t11, t12, t13, t14, t15)
    else
      some (t1, t2, t3, t4, (t5.1, (t5.2.1, t5.2.2)), t11, t12, t13, t14, t15)
def spec_l20Shrink_L5 : Nat → ((List (List (List Bool))) × Int × Int × Int × (Int × Int × (List ((List Int) × Int × (List (List Int))))) × Int × (List ((List Int) × Int × (List (List Int)))) × Bool × Int) → Option ((List (List (List Bool))) × Bool)
  | 0, _ => none
  | n + 1, (t1, t2, t3, t4, t5, t11, t12, t13, t14) =>
    if decide (t14 < (w64 (t11 * t11))) then
      if inb t2 t1 then
        if inb t3 (gd t1 t2 []) then
          if inb t14 (gd (gd t1 t2 []) t3 []) then
            if !(gd (gd (gd t1 t2 []) t3 []) t14 false) then
              spec_l20Shrink_L5 n (t1, t2, t3, t4, (t5.1, (t5.2.1, t5.2.2)), t11, t12, t13, w64 (t14 + 1))
            else
              (spec_l20Shrink_L10 fuel (t1, t2, t3, t4, (t5.1, (t5.2.1, t5.2.2)), t11, t12, t13, t14, false, 0)).bind fun s2 =>
                if !s2.2.2.2.2.2.2.2.2.2 then
                  if inb s2.2.1 s2.1 then
                    if inb s2.2.2.1 (gd s2.1 s2.2.1 []) then
                      if inb s2.2.2.2.2.2.2.2.2.1 (gd (gd s2.1 s2.2.1 []) s2.2.2.1 []) then
                        spec_l20Shrink_L5 n (stt s2.1 s2.2.1 (stt (gd s2.1 s2.2.1 []) s2.2.2.1 (stt (gd (gd s2.1 s2.2.1 []) s2.2.2.1 []) s2.2.2.2.2.2.2.2.2.1 false)), s2.2.1, s2.2.2.1, s2.2.2.2.1, (s2.2.2.2.2.1.1, (s2.2.2.2.2.1.2.1, s2.2.2.2.2.1.2.2)), s2.2.2.2.2.2.1, s2.2.2.2.2.2.2.1, true, w64 (s2.2.2.2.2.2.2.2.2.1 + 1))
                      else none
                    else none
                  else none
                else
                  spec_l20Shrink_L5 n (s2.1, s2.2.1, s2.2.2.1, s2.2.2.2.1, (s2.2.2.2.2.1.1, (s2.2.2.2.2.1.2.1, s2.2.2.2.2.1.2.2)), s2.2.2.2.2.2.1, s2.2.2.2.2.2.2.1, s2.2.2.2.2.2.2.2.1, w64 (s2.2.2.2.2.2.2.2.2.1 + 1))
          else none
        else none
      else none
    else
      some (t1, t13)
def spec_l20Shrink (t0 : Int × Int × (List ((List Int) × Int × (List (List Int))))) (t1 : List (List (List Bool))) (t2 : Int) (t3 : Int) (t4 : Int) : Option ((List (List (List Bool))) × Bool) :=
  (spec_l20Inside (t0.1, (t0.2.1, t0.2.2)) [t2, t3, t4]).bind fun r1 =>
    (spec_l20Shrink_L5 fuel (t1, t2, t3, t4, (t0.1, (t0.2.1, t0.2.2)), t0.2.1, r1, false, 0)).bind fun s2 =>
      some (s2.1, s2.2)
def spec_l20Pairs_L13 : Nat → ((Int × Int × (List ((List Int) × Int × (List (List Int))))) × Int × Int × (List (List (List Bool))) × Int × (List (List Bool)) × Int × (List Bool) × (List ((List Int) × Int × (List (List Int)))) × Int) → Option ((Int × Int × (List ((List Int) × Int × (List (List Int))))) × Int × Int × (List (List (List Bool))) × Int × (List (List Bool)) × Int × (List Bool))
  | 0, _ => none
  | n + 1, (t1, t3, t4, t5, t6, t7, t8, t9, t10, t11) =>
    if decide (t11 < (w64 (t4 * t4))) then
      if decide (t6 < t8) then
        if 0 ≤ t3 ∧ t3 ≤ t3 ∧ t3 ≤ lim then
          if t4 ≠ 0 then
            if inb t6 (List.replicate (Int.toNat t3) (0 : Int)) then
              if t4 ≠ 0 then
                if inb t8 (stt (List.replicate (Int.toNat t3) (0 : Int)) t6 (w64 (Int.tdiv t11 t4))) then
                  (spec_l20Hold t10 (stt (stt (List.replicate (Int.toNat t3) (0 : Int)) t6 (w64 (Int.tdiv t11 t4))) t8 (Int.tmod t11 t4))).bind fun r2 =>
                    if inb t11 t9 then
                      spec_l20Pairs_L13 n ((t1.1, (t1.2.1, t1.2.2)), t3, t4, t5, t6, t7, t8, stt t9 t11 r2, t10, w64 (t11 + 1))
                    else none
                else none
              else none
            else none
          else none
        else none
      else
        some ((t1.1, (t1.2.1, t1.2.2)), t3, t4, t5, t6, t7, t8, t9)
    else
      some ((t1.1, (t1.2.1, t1.2.2)), t3, t4, t5, t6, t7, t8, t9)
def spec_l20Pairs_L8 : Nat → ((Int × Int × (List ((List Int) × Int × (List (List Int))))) × Int × Int × (List (List (List Bool))) × Int × (List (List Bool)) × Int) → Option ((Int × Int × (List ((List Int) × Int × (List (List Int))))) × Int × Int × (List (List (List Bool))) × Int × (List (List Bool)))
  | 0, _ => none
  | n + 1, (t1, t3, t4, t5, t6, t7, t8) =>
    if decide (t8 < t3) then
      if 0 ≤ (w64 (t4 * t4)) ∧ (w64 (t4 * t4)) ≤ (w64 (t4 * t4)) ∧ (w64 (t4 * t4)) ≤ lim then
        (spec_l20Inside (t1.1, (t1.2.1, t1.2.2)) [t6, t8]).bind fun r1 =>
          (spec_l20Pairs_L13 fuel ((t1.1, (t1.2.1, t1.2.2)), t3, t4, t5, t6, t7, t8, List.replicate (Int.toNat (w64 (t4 * t4))) (false : Bool), r1, 0)).bind fun s2 =>
            if s2.2.2.2.2.2.1.length + [s2.2.2.2.2.2.2.2].length ≤ lim then
              spec_l20Pairs_L8 n ((s2.1.1, (s2.1.2.1, s2.1.2.2)), s2.2.1, s2.2.2.1, s2.2.2.2.1, s2.2.2.2.2.1, s2.2.2.2.2.2.1 ++ [s2.2.2.2.2.2.2.2], w64 (s2.2.2.2.2.2.2.1 + 1))
            else none
      else none
    else
      some ((t1.1, (t1.2.1, t1.2.2)), t3, t4, t5, t6, t7)
def spec_l20Pairs_L4 : Nat → ((Int × Int × (List ((List Int) × Int × (List (List Int))))) × Int × Int × (List (List (List Bool))) × Int) → Option ((Int × Int × (List ((List Int) × Int × (List (List Int))))) × Int × (List (List (List Bool))))
  | 0, _ => none
  | n + 1, (t1, t3, t4, t5, t6) =>
    if decide (t6 < t3) then
      (spec_l20Pairs_L8 fuel ((t1.1, (t1.2.1, t1.2.2)), t3, t4, t5, t6, [], 0)).bind fun s1 =>
        if s1.2.2.2.1.length + [s1.2.2.2.2.2].length ≤ lim then
          spec_l20Pairs_L4 n ((s1.1.1, (s1.1.2.1, s1.1.2.2)), s1.2.1, s1.2.2.1, s1.2.2.2.1 ++ [s1.2.2.2.2.2], w64 (s1.2.2.2.2.1 + 1))
        else none
    else
      some ((t1.1, (t1.2.1, t1.2.2)), t3, t5)
def spec_l20Pairs_L31 : Nat → ((Int × Int × (List ((List Int) × Int × (List (List Int))))) × Int × (List (List (List Bool))) × Bool × Int × Int × Int) → Option ((Int × Int × (List ((List Int) × Int × (List (List Int))))) × Int × (List (List (List Bool))) × Bool × Int × Int)
  | 0, _ => none
  | n + 1, (t1, t3, t5, t13, t14, t15, t16) =>
    if decide (t16 < t3) then
      if t16 != t14 then
        if t16 != t15 then
          (spec_l20Shrink (t1.1, (t1.2.1, t1.2.2)) t5 t14 t15 t16).bind fun r3 =>
            if r3.2 then
              spec_l20Pairs_L31 n ((t1.1, (t1.2.1, t1.2.2)), t3, r3.1, true, t14, t15, w64 (t16 + 1))
            else
              spec_l20Pairs_L31 n ((t1.1, (t1.2.1, t1.2.2)), t3, r3.1, t13, t14, t15, w64 (t16 + 1))
        else
          spec_l20Pairs_L31 n ((t1.1, (t1.2.1, t1.2.2)), t3, t5, t13, t14, t15, w64 (t16 + 1))
      else
        spec_l20Pairs_L31 n ((t1.1, (t1.2.1, t1.2.2)), t3, t5, t13, t14, t15, w64 (t16 + 1))
    else
      some ((t1.1, (t1.2.1, t1.2.2)), t3, t5, t13, t14, t15)
def spec_l20Pairs_L28 : Nat → ((Int × Int × (List ((List Int) × Int × (List (List Int))))) × Int × (List (List (List Bool))) × Bool × Int × Int) → Option ((Int × Int × (List ((List Int) × Int × (List (List Int))))) × Int × (List (List (List Bool))) × Bool × Int)
  | 0, _ => none
  | n + 1, (t1, t3, t5, t13, t14, t15) =>
    if decide (t15 < t3) then
      (spec_l20Pairs_L31 fuel ((t1.1, (t1.2.1, t1.2.2)), t3, t5, t13, t14, t15, 0)).bind fun s3 =>
        spec_l20Pairs_L28 n ((s3.1.1, (s3.1.2.1, s3.1.2.2)), s3.2.1, s3.2.2.1, s3.2.2.2.1, s3.2.2.2.2.1, w64 (s3.2.2.2.2.2 + 1))
    else
      some ((t1.1, (t1.2.1, t1.2.2)), t3, t5, t13, t14)
def spec_l20Pairs_L25 : Nat → ((Int × Int × (List ((List Int) × Int × (List (List Int))))) × Int × (List (List (List Bool))) × Bool × Int) → Option ((Int × Int × (List ((List Int) × Int × (List (List Int))))) × Int × (List (List (List Bool))) × Bool)
  | 0, _ => none
  | n + 1, (t1, t3, t5, t13, t14) =>
    if decide (t14 < t3) then
      (spec_l20Pairs_L28 fuel ((t1.1, (t1.2.1, t1.2.2)), t3, t5, t13, t14, w64 (t14 + 1))).bind fun s3 =>
        spec_l20Pairs_L25 n ((s3.1.1, (s3.1.2.1, s3.1.2.2)), s3.2.1, s3.2.2.1, s3.2.2.2.1, w64 (s3.2.2.2.2 + 1))
    else
      some ((t1.1, (t1.2.1, t1.2.2)), t3, t5, t13)
def spec_l20Pairs_L22 : Nat → ((Int × Int × (List ((List Int) × Int × (List (List Int))))) × Int × (List (List (List Bool))) × Bool) → Option ((List (List (List Bool))))
  | 0, _ => none
  | n + 1, (t1, t3, t5, t13) =>
    if t13 then
      (spec_l20Pairs_L25 fuel ((t1.1, (t1.2.1, t1.2.2)), t3, t5, false, 0)).bind fun s3 =>
        spec_l20Pairs_L22 n ((s3.1.1, (s3.1.2.1, s3.1.2.2)), s3.2.1, s3.2.2.1, s3.2.2.2)
    else
      some t5
def spec_l20Pairs (t0 : Int × Int × (List ((List Int) × Int × (List (List Int))))) : Option ((List (List (List Bool)))) :=
  (spec_l20Pairs_L4 fuel ((t0.1, (t0.2.1, t0.2.2)), t0.1, t0.2.1, [], 0)).bind fun s1 =>
    (spec_l20Pairs_L22 fuel ((s1.1.1, (s1.1.2.1, s1.1.2.2)), s1.2.1, s1.2.2, true)).bind fun s2 =>
      some s2
def spec_l20List_L3 : Nat → ((List Bool) × Int × (List (Int × Int)) × Int) → Option ((List (Int × Int)))
  | 0, _ => none
  | n + 1, (cells, size, out, at_) =>
    if decide (at_ < (cells.length : Int)) then
      if inb at_ cells then
        if gd cells at_ false then
          if size ≠ 0 then
            if size ≠ 0 then
              if out.length + [(w64 (Int.tdiv at_ size), Int.tmod at_ size)].length ≤ lim then
                spec_l20List_L3 n (cells, size, out ++ [(w64 (Int.tdiv at_ size), Int.tmod at_ size)], w64 (at_ + 1))
              else none
            else none
          else none
        else
          spec_l20List_L3 n (cells, size, out, w64 (at_ + 1))
      else none
    else
      some out
def spec_l20List (cells : List Bool) (size : Int) : Option ((List (Int × Int))) :=
  (spec_l20List_L3 fuel (cells, size, [], 0)).bind fun s1 =>
    some s1
def spec_PairsRefute_L8 : Nat → ((Int × Int × (List ((List Int) × Int × (List (List Int))))) × (List (List (List Bool))) × Int × Int) → Option (((Int × Int × (List ((List Int) × Int × (List (List Int))))) × (List (List (List Bool))) × Int) ⊕ (Bool × Bool))
  | 0, _ => none
  | n + 1, (net, there, i, j) =>
    if decide (j < net.1) then
      if inb i there then
        if inb j (gd there i []) then
          (spec_l20List (gd (gd there i []) j []) net.2.1).bind fun r3 =>
            if (r3.length : Int) == 0 then
              some (.inr (true, true))
            else
              spec_PairsRefute_L8 n ((net.1, (net.2.1, net.2.2)), there, i, w64 (j + 1))
        else none
      else none
    else
      some (.inl ((net.1, (net.2.1, net.2.2)), there, i))
def spec_PairsRefute_L5 : Nat → ((Int × Int × (List ((List Int) × Int × (List (List Int))))) × (List (List (List Bool))) × Int) → Option ((Unit) ⊕ (Bool × Bool))
  | 0, _ => none
  | n + 1, (net, there, i) =>
    if decide (i < net.1) then
      (spec_PairsRefute_L8 fuel ((net.1, (net.2.1, net.2.2)), there, i, w64 (i + 1))).bind fun s3 =>
        match s3 with
        | .inl s4 =>
          spec_PairsRefute_L5 n ((s4.1.1, (s4.1.2.1, s4.1.2.2)), s4.2.1, w64 (s4.2.2 + 1))
        | .inr s5 =>
          some (.inr (s5.1, s5.2))
    else
      some (.inl ())
def spec_PairsRefute (net : Int × Int × (List ((List Int) × Int × (List (List Int))))) : Option (Bool × Bool) :=
  (spec_l19Good (net.1, (net.2.1, net.2.2))).bind fun r1 =>
    if !r1 then
      some (false, false)
    else
      if decide (net.1 < 2) then
        some (false, false)
      else
        (spec_l20Pairs (net.1, (net.2.1, net.2.2))).bind fun r2 =>
          (spec_PairsRefute_L5 fuel ((net.1, (net.2.1, net.2.2)), r2, 0)).bind fun s3 =>
            match s3 with
            | .inl s4 =>
              some (false, true)
            | .inr s5 =>
              some (s5.1, s5.2)
def impl_hasNot_L2 : Nat → (Int × (List Int) × Int × Int) → Option ((Unit) ⊕ (Bool))
  | 0, _ => none
  | n + 1, (x, t7, t8, t9) =>
    if decide (t9 < t8) then
      if inb t9 t7 then
        if x == (gd t7 t9 0) then
          some (.inr false)
        else
          impl_hasNot_L2 n (x, t7, t8, w64 (t9 + 1))
      else none
    else
      some (.inl ())
def impl_hasNot (list : List Int) (x : Int) : Option (Bool) :=
  (impl_hasNot_L2 fuel (x, list, (list.length : Int), 0)).bind fun s1 =>
    match s1 with
    | .inl s2 =>
      some true
    | .inr s3 =>
      some s3
def impl_isPart_L2 : Nat → ((List Int) × (List Int) × Int × Int) → Option ((Unit) ⊕ (Bool))
  | 0, _ => none
  | n + 1, (y, t7, t8, t9) =>
    if decide (t9 < t8) then
      if inb t9 t7 then
        (impl_hasNot y (gd t7 t9 0)).bind fun r1 =>
          if r1 then
            some (.inr false)
          else
            impl_isPart_L2 n (y, t7, t8, w64 (t9 + 1))
      else none
    else
      some (.inl ())
def impl_isPart (x : List Int) (y : List Int) : Option (Bool) :=
  (impl_isPart_L2 fuel (y, x, (x.length : Int), 0)).bind fun s1 =>
    match s1 with
    | .inl s2 =>
      some true
    | .inr s3 =>
      some s3
def impl_within_L3 : Nat → ((List Int) × (List ((List Int) × Int × (List (List Int)))) × (List ((List Int) × Int × (List (List Int)))) × Int × Int) → Option ((List ((List Int) × Int × (List (List Int)))))
  | 0, _ => none
  | n + 1, (vars, list, t10, t11, t12) =>
    if decide (t12 < t11) then
      if inb t12 t10 then
        (impl_isPart ((gd t10 t12 ([], (0, []))).1) vars).bind fun r1 =>
          if r1 then
            if list.length + [((gd t10 t12 ([], (0, []))).1, (((gd t10 t12 ([], (0, []))).2).1, ((gd t10 t12 ([], (0, []))).2).2))].length ≤ lim then
              impl_within_L3 n (vars, list ++ [((gd t10 t12 ([], (0, []))).1, (((gd t10 t12 ([], (0, []))).2).1, ((gd t10 t12 ([], (0, []))).2).2))], t10, t11, w64 (t12 + 1))
            else none
          else
            impl_within_L3 n (vars, list, t10, t11, w64 (t12 + 1))
      else none
    else
      some list
def impl_within (net : Int × Int × (List ((List Int) × Int × (List (List Int))))) (vars : List Int) : Option ((List ((List Int) × Int × (List (List Int))))) :=
  (impl_within_L3 fuel (vars, [], net.2.2, (net.2.2.length : Int), 0)).bind fun s1 =>
    some s1
def impl_compose_L3 : Nat → ((List Int) × (List Int) × (List Int) × Int × Int) → Option ((List Int))
  | 0, _ => none
  | n + 1, (g, h, t11, t12, t13) =>
    if decide (t13 < t12) then
      if inb t13 t11 then
        if inb (gd t11 t13 0) g then
          if inb t13 h then
            impl_compose_L3 n (g, stt h t13 (gd g (gd t11 t13 0) 0), t11, t12, w64 (t13 + 1))
          else none
        else none
      else none
    else
      some h
def impl_compose (f : List Int) (g : List Int) : Option ((List Int)) :=
  if 0 ≤ (f.length : Int) ∧ (f.length : Int) ≤ (f.length : Int) ∧ (f.length : Int) ≤ lim then
    (impl_compose_L3 fuel (g, List.replicate (Int.toNat (f.length : Int)) (0 : Int), f, (f.length : Int), 0)).bind fun s1 =>
      some s1
  else none
def impl_sameList_L4 : Nat → ((List Int) × (List Int) × Int × Int) → Option ((Unit) ⊕ (Bool))
  | 0, _ => none
  | n + 1, (b, t12, t13, t14) =>
    if decide (t14 < t13) then
      if inb t14 t12 then
        if inb t14 b then
          if (gd b t14 0) != (gd t12 t14 0) then
            some (.inr false)
          else
            impl_sameList_L4 n (b, t12, t13, w64 (t14 + 1))
        else none
      else none
    else
      some (.inl ())
def impl_sameList (a : List Int) (b : List Int) : Option (Bool) :=
  if (a.length : Int) != (b.length : Int) then
    some false
  else
    (impl_sameList_L4 fuel (b, a, (a.length : Int), 0)).bind fun s1 =>
      match s1 with
      | .inl s2 =>
        some true
      | .inr s3 =>
        some s3
def impl_hasRow_L2 : Nat → ((List Int) × (List (List Int)) × Int × Int) → Option ((Unit) ⊕ (Bool))
  | 0, _ => none
  | n + 1, (t, t8, t9, t10) =>
    if decide (t10 < t9) then
      if inb t10 t8 then
        (impl_sameList t (gd t8 t10 [])).bind fun r1 =>
          if r1 then
            some (.inr true)
          else
            impl_hasRow_L2 n (t, t8, t9, w64 (t10 + 1))
      else none
    else
      some (.inl ())
def impl_hasRow (r : Int × (List (List Int))) (t : List Int) : Option (Bool) :=
  (impl_hasRow_L2 fuel (t, r.2, (r.2.length : Int), 0)).bind fun s1 =>
    match s1 with
    | .inl s2 =>
      some false
    | .inr s3 =>
      some s3
def impl_satisfies_L2 : Nat → ((List Int) × (List ((List Int) × Int × (List (List Int)))) × Int × Int) → Option ((Unit) ⊕ (Bool))
  | 0, _ => none
  | n + 1, (values, t7, t8, t9) =>
    if decide (t9 < t8) then
      if inb t9 t7 then
        (impl_compose ((gd t7 t9 ([], (0, []))).1) values).bind fun r1 =>
          (impl_hasRow (((gd t7 t9 ([], (0, []))).2).1, ((gd t7 t9 ([], (0, []))).2).2) r1).bind fun r2 =>
            if !r2 then
              some (.inr false)
            else
              impl_satisfies_L2 n (values, t7, t8, w64 (t9 + 1))
      else none
    else
      some (.inl ())
def impl_satisfies (list : List ((List Int) × Int × (List (List Int)))) (values : List Int) : Option (Bool) :=
  (impl_satisfies_L2 fuel (values, list, (list.length : Int), 0)).bind fun s1 =>
    match s1 with
    | .inl s2 =>
      some true
    | .inr s3 =>
      some s3
def impl_firstPairs_L11 : Nat → ((Int × Int × (List ((List Int) × Int × (List (List Int))))) × (List (List (List (List Bool)))) × Int × Int × Int × Int × Int × Int × Int × Int) → Option ((Int × Int × (List ((List Int) × Int × (List (List Int))))) × (List (List (List (List Bool)))) × Int × Int × Int × Int × Int)
  | 0, _ => none
  | n + 1, (t1, t3, t4, t5, t18, t19, t32, t33, t52, t53) =>
    if decide (t53 < t52) then
      if inb t4 t3 then
        if inb t5 (gd t3 t4 []) then
          if 0 ≤ t1.2.1 ∧ t1.2.1 ≤ t1.2.1 ∧ t1.2.1 ≤ lim then
            if inb t53 (gd (gd t3 t4 []) t5 []) then
              impl_firstPairs_L11 n ((t1.1, (t1.2.1, t1.2.2)), stt t3 t4 (stt (gd t3 t4 []) t5 (stt (gd (gd t3 t4 []) t5 []) t53 (List.replicate (Int.toNat t1.2.1) (false : Bool)))), t4, t5, t18, t19, t32, t33, t52, w64 (t53 + 1))
            else none
          else none
        else none
      else none
    else
      some ((t1.1, (t1.2.1, t1.2.2)), t3, t4, t18, t19, t32, t33)
def impl_firstPairs_L7 : Nat → ((Int × Int × (List ((List Int) × Int × (List (List Int))))) × (List (List (List (List Bool)))) × Int × Int × Int × Int × Int) → Option ((Int × Int × (List ((List Int) × Int × (List (List Int))))) × (List (List (List (List Bool)))) × Int × Int)
  | 0, _ => none
  | n + 1, (t1, t3, t4, t18, t19, t32, t33) =>
    if decide (t33 < t32) then
      if inb t4 t3 then
        if 0 ≤ t1.2.1 ∧ t1.2.1 ≤ t1.2.1 ∧ t1.2.1 ≤ lim then
          if inb t33 (gd t3 t4 []) then
            if inb t4 (stt t3 t4 (stt (gd t3 t4 []) t33 (List.replicate (Int.toNat t1.2.1) ([] : List Bool)))) then
              if inb t33 (gd (stt t3 t4 (stt (gd t3 t4 []) t33 (List.replicate (Int.toNat t1.2.1) ([] : List Bool)))) t4 []) then
                (impl_firstPairs_L11 fuel ((t1.1, (t1.2.1, t1.2.2)), stt t3 t4 (stt (gd t3 t4 []) t33 (List.replicate (Int.toNat t1.2.1) ([] : List Bool))), t4, t33, t18, t19, t32, t33, ((gd (gd (stt t3 t4 (stt (gd t3 t4 []) t33 (List.replicate (Int.toNat t1.2.1) ([] : List Bool)))) t4 []) t33 []).length : Int), 0)).bind fun s1 =>
                  impl_firstPairs_L7 n ((s1.1.1, (s1.1.2.1, s1.1.2.2)), s1.2.1, s1.2.2.1, s1.2.2.2.1, s1.2.2.2.2.1, s1.2.2.2.2.2.1, w64 (s1.2.2.2.2.2.2 + 1))
              else none
            else none
          else none
        else none
      else none
    else
      some ((t1.1, (t1.2.1, t1.2.2)), t3, t18, t19)
def impl_firstPairs_L3 : Nat → ((Int × Int × (List ((List Int) × Int × (List (List Int))))) × (List (List (List (List Bool)))) × Int × Int) → Option ((Int × Int × (List ((List Int) × Int × (List (List Int))))) × (List (List (List (List Bool)))))
  | 0, _ => none
  | n + 1, (t1, t3, t18, t19) =>
    if decide (t19 < t18) then
      if 0 ≤ t1.1 ∧ t1.1 ≤ t1.1 ∧ t1.1 ≤ lim then
        if inb t19 t3 then
          if inb t19 (stt t3 t19 (List.replicate (Int.toNat t1.1) ([] : List (List Bool)))) then
            (impl_firstPairs_L7 fuel ((t1.1, (t1.2.1, t1.2.2)), stt t3 t19 (List.replicate (Int.toNat t1.1) ([] : List (List Bool))), t19, t18, t19, ((gd (stt t3 t19 (List.replicate (Int.toNat t1.1) ([] : List (List Bool)))) t19 []).length : Int), 0)).bind fun s1 =>
              impl_firstPairs_L3 n ((s1.1.1, (s1.1.2.1, s1.1.2.2)), s1.2.1, s1.2.2.1, w64 (s1.2.2.2 + 1))
          else none
        else none
      else none
    else
      some ((t1.1, (t1.2.1, t1.2.2)), t3)
def impl_firstPairs_L29 : Nat → ((Int × Int × (List ((List Int) × Int × (List (List Int))))) × (List (List (List (List Bool)))) × (List Int) × Int × Int × (List ((List Int) × Int × (List (List Int)))) × Int × Int × Int × Int) → Option ((Int × Int × (List ((List Int) × Int × (List (List Int))))) × (List (List (List (List Bool)))) × (List Int) × Int × Int × (List ((List Int) × Int × (List (List Int)))) × Int × Int × Int)
  | 0, _ => none
  | n + 1, (t1, t3, t7, t8, t9, t10, t11, t12, t75, t76) =>
    if decide (t12 < t1.2.1) then
      if inb t8 t7 then
        if inb t9 (stt t7 t8 t11) then
          (impl_satisfies t10 (stt (stt t7 t8 t11) t9 t12)).bind fun r4 =>
            if inb t8 t3 then
              if inb t9 (gd t3 t8 []) then
                if inb t11 (gd (gd t3 t8 []) t9 []) then
                  if inb t9 t3 then
                    if inb t8 (gd t3 t9 []) then
                      if inb t12 (gd (gd t3 t9 []) t8 []) then
                        if inb t12 (gd (gd (gd t3 t8 []) t9 []) t11 []) then
                          if inb t11 (gd (gd (gd (stt t3 t8 (stt (gd t3 t8 []) t9 (stt (gd (gd t3 t8 []) t9 []) t11 (stt (gd (gd (gd t3 t8 []) t9 []) t11 []) t12 r4)))) t9 []) t8 []) t12 []) then
                            impl_firstPairs_L29 n ((t1.1, (t1.2.1, t1.2.2)), stt (stt t3 t8 (stt (gd t3 t8 []) t9 (stt (gd (gd t3 t8 []) t9 []) t11 (stt (gd (gd (gd t3 t8 []) t9 []) t11 []) t12 r4)))) t9 (stt (gd (stt t3 t8 (stt (gd t3 t8 []) t9 (stt (gd (gd t3 t8 []) t9 []) t11 (stt (gd (gd (gd t3 t8 []) t9 []) t11 []) t12 r4)))) t9 []) t8 (stt (gd (gd (stt t3 t8 (stt (gd t3 t8 []) t9 (stt (gd (gd t3 t8 []) t9 []) t11 (stt (gd (gd (gd t3 t8 []) t9 []) t11 []) t12 r4)))) t9 []) t8 []) t12 (stt (gd (gd (gd (stt t3 t8 (stt (gd t3 t8 []) t9 (stt (gd (gd t3 t8 []) t9 []) t11 (stt (gd (gd (gd t3 t8 []) t9 []) t11 []) t12 r4)))) t9 []) t8 []) t12 []) t11 r4))), stt (stt t7 t8 t11) t9 t12, t8, t9, t10, t11, w64 (t12 + 1), t75, t76)
                          else none
                        else none
                      else none
                    else none
                  else none
                else none
              else none
            else none
        else none
      else none
    else
      some ((t1.1, (t1.2.1, t1.2.2)), t3, t7, t8, t9, t10, t11, t75, t76)
def impl_firstPairs_L26 : Nat → ((Int × Int × (List ((List Int) × Int × (List (List Int))))) × (List (List (List (List Bool)))) × (List Int) × Int × Int × (List ((List Int) × Int × (List (List Int)))) × Int × Int × Int) → Option ((Int × Int × (List ((List Int) × Int × (List (List Int))))) × (List (List (List (List Bool)))) × (List Int) × Int × Int × Int × Int)
  | 0, _ => none
  | n + 1, (t1, t3, t7, t8, t9, t10, t11, t75, t76) =>
    if decide (t11 < t1.2.1) then
      (impl_firstPairs_L29 fuel ((t1.1, (t1.2.1, t1.2.2)), t3, t7, t8, t9, t10, t11, 0, t75, t76)).bind fun s4 =>
        impl_firstPairs_L26 n ((s4.1.1, (s4.1.2.1, s4.1.2.2)), s4.2.1, s4.2.2.1, s4.2.2.2.1, s4.2.2.2.2.1, s4.2.2.2.2.2.1, w64 (s4.2.2.2.2.2.2.1 + 1), s4.2.2.2.2.2.2.2.1, s4.2.2.2.2.2.2.2.2)
    else
      some ((t1.1, (t1.2.1, t1.2.2)), t3, t7, t8, t9, t75, t76)
def impl_firstPairs_L22 : Nat → ((Int × Int × (List ((List Int) × Int × (List (List Int))))) × (List (List (List (List Bool)))) × (List Int) × Int × Int × Int × Int) → Option ((Int × Int × (List ((List Int) × Int × (List (List Int))))) × (List (List (List (List Bool)))) × (List Int) × Int × Int)
  | 0, _ => none
  | n + 1, (t1, t3, t7, t8, t9, t75, t76) =>
    if decide (t9 < t1.1) then
      (impl_within (t1.1, (t1.2.1, t1.2.2)) [t8, t9]).bind fun r3 =>
        (impl_firstPairs_L26 fuel ((t1.1, (t1.2.1, t1.2.2)), t3, t7, t8, t9, r3, 0, t75, t76)).bind fun s4 =>
          impl_firstPairs_L22 n ((s4.1.1, (s4.1.2.1, s4.1.2.2)), s4.2.1, s4.2.2.1, s4.2.2.2.1, w64 (s4.2.2.2.2.1 + 1), s4.2.2.2.2.2.1, s4.2.2.2.2.2.2)
    else
      some ((t1.1, (t1.2.1, t1.2.2)), t3, t7, t75, t76)
def impl_firstPairs_L19 : Nat → ((Int × Int × (List ((List Int) × Int × (List (List Int))))) × (List (List (List (List Bool)))) × (List Int) × Int × Int) → Option ((List (List (List (List Bool)))))
  | 0, _ => none
  | n + 1, (t1, t3, t7, t75, t76) =>
    if decide (t76 < t75) then
      (impl_firstPairs_L22 fuel ((t1.1, (t1.2.1, t1.2.2)), t3, t7, t76, w64 (t76 + 1), t75, t76)).bind fun s3 =>
        impl_firstPairs_L19 n ((s3.1.1, (s3.1.2.1, s3.1.2.2)), s3.2.1, s3.2.2.1, s3.2.2.2.1, w64 (s3.2.2.2.2 + 1))
    else
      some t3
def impl_firstPairs (t0 : Int × Int × (List ((List Int) × Int × (List (List Int))))) : Option ((List (List (List (List Bool))))) :=
  if 0 ≤ t0.1 ∧ t0.1 ≤ t0.1 ∧ t0.1 ≤ lim then
    (impl_firstPairs_L3 fuel ((t0.1, (t0.2.1, t0.2.2)), List.replicate (Int.toNat t0.1) ([] : List (List (List Bool))), ((List.replicate (Int.toNat t0.1) ([] : List (List (List Bool)))).length : Int), 0)).bind fun s1 =>
      if 0 ≤ s1.1.1 ∧ s1.1.1 ≤ s1.1.1 ∧ s1.1.1 ≤ lim then
        (impl_firstPairs_L19 fuel ((s1.1.1, (s1.1.2.1, s1.1.2.2)), s1.2, List.replicate (Int.toNat s1.1.1) (0 : Int), (s1.2.length : Int), 0)).bind fun s2 =>
          some s2
      else none
  else none
def impl_pairTable_holds_L2 : Nat → ((List (List (List (List Bool)))) × (List ((List Int) × Int × (List (List Int)))) × (List Int) × Int × Int × Int × (Int × Int × (List ((List Int) × Int × (List (List Int))))) × Int) → Option (((List Int)) ⊕ ((List Int) × Bool))
  | 0, _ => none
  | n + 1, (t0, t2, t3, t4, t5, t6, t8, t15) =>
    if decide (t15 < t8.2.1) then
      if inb t6 t3 then
        if inb t4 t0 then
          if inb t6 (gd t0 t4 []) then
            if inb t4 (stt t3 t6 t15) then
              if inb (gd (stt t3 t6 t15) t4 0) (gd (gd t0 t4 []) t6 []) then
                if inb t15 (gd (gd (gd t0 t4 []) t6 []) (gd (stt t3 t6 t15) t4 0) []) then
                  if gd (gd (gd (gd t0 t4 []) t6 []) (gd (stt t3 t6 t15) t4 0) []) t15 false then
                    if inb t5 t0 then
                      if inb t6 (gd t0 t5 []) then
                        if inb t5 (stt t3 t6 t15) then
                          if inb (gd (stt t3 t6 t15) t5 0) (gd (gd t0 t5 []) t6 []) then
                            if inb t15 (gd (gd (gd t0 t5 []) t6 []) (gd (stt t3 t6 t15) t5 0) []) then
                              if gd (gd (gd (gd t0 t5 []) t6 []) (gd (stt t3 t6 t15) t5 0) []) t15 false then
                                (impl_satisfies t2 (stt t3 t6 t15)).bind fun r1 =>
                                  if r1 then
                                    some (.inr (stt t3 t6 t15, true))
                                  else
                                    impl_pairTable_holds_L2 n (t0, t2, stt t3 t6 t15, t4, t5, t6, (t8.1, (t8.2.1, t8.2.2)), w64 (t15 + 1))
                              else
                                impl_pairTable_holds_L2 n (t0, t2, stt t3 t6 t15, t4, t5, t6, (t8.1, (t8.2.1, t8.2.2)), w64 (t15 + 1))
                            else none
                          else none
                        else none
                      else none
                    else none
                  else
                    impl_pairTable_holds_L2 n (t0, t2, stt t3 t6 t15, t4, t5, t6, (t8.1, (t8.2.1, t8.2.2)), w64 (t15 + 1))
                else none
              else none
            else none
          else none
        else none
      else none
    else
      some (.inl t3)
def impl_pairTable_holds (t0 : List (List (List (List Bool)))) (t1 : Int × Int × (List ((List Int) × Int × (List (List Int))))) (t2 : List ((List Int) × Int × (List (List Int)))) (t3 : List Int) (t4 : Int) (t5 : Int) (t6 : Int) : Option ((List Int) × Bool) :=
  (impl_pairTable_holds_L2 fuel (t0, t2, t3, t4, t5, t6, (t1.1, (t1.2.1, t1.2.2)), 0)).bind fun s1 =>
    match s1 with
    | .inl s2 =>
      some (s2, false)
    | .inr s3 =>
      some (s3.1, s3.2)
def impl_minimalPairs_L18 : Nat → ((Int × Int × (List ((List Int) × Int × (List (List Int))))) × (List (List (List (List Bool)))) × (List Int) × Bool × Int × Int × Int × (List ((List Int) × Int × (List (List Int)))) × Int × Int × Int × Int × Int) → Option ((Int × Int × (List ((List Int) × Int × (List (List Int))))) × (List (List (List (List Bool)))) × (List Int) × Bool × Int × Int × Int × Int × Int × Int)
  | 0, _ => none
  | n + 1, (t1, t3, t4, t5, t6, t7, t8, t9, t10, t18, t19, t31, t32) =>
    if decide (t10 < (w64 (t1.2.1 * t1.2.1))) then
      if t1.2.1 ≠ 0 then
        if t1.2.1 ≠ 0 then
          if inb t6 t4 then
            if inb t7 (stt t4 t6 (w64 (Int.tdiv t10 t1.2.1))) then
              if inb t6 t3 then
                if inb t7 (gd t3 t6 []) then
                  if inb t6 (stt (stt t4 t6 (w64 (Int.tdiv t10 t1.2.1))) t7 (Int.tmod t10 t1.2.1)) then
                    if inb (gd (stt (stt t4 t6 (w64 (Int.tdiv t10 t1.2.1))) t7 (Int.tmod t10 t1.2.1)) t6 0) (gd (gd t3 t6 []) t7 []) then
                      if inb t7 (stt (stt t4 t6 (w64 (Int.tdiv t10 t1.2.1))) t7 (Int.tmod t10 t1.2.1)) then
                        if inb (gd (stt (stt t4 t6 (w64 (Int.tdiv t10 t1.2.1))) t7 (Int.tmod t10 t1.2.1)) t7 0) (gd (gd (gd t3 t6 []) t7 []) (gd (stt (stt t4 t6 (w64 (Int.tdiv t10 t1.2.1))) t7 (Int.tmod t10 t1.2.1)) t6 0) []) then
                          if gd (gd (gd (gd t3 t6 []) t7 []) (gd (stt (stt t4 t6 (w64 (Int.tdiv t10 t1.2.1))) t7 (Int.tmod t10 t1.2.1)) t6 0) []) (gd (stt (stt t4 t6 (w64 (Int.tdiv t10 t1.2.1))) t7 (Int.tmod t10 t1.2.1)) t7 0) false then
                            (impl_pairTable_holds t3 (t1.1, (t1.2.1, t1.2.2)) t9 (stt (stt t4 t6 (w64 (Int.tdiv t10 t1.2.1))) t7 (Int.tmod t10 t1.2.1)) t6 t7 t8).bind fun r3 =>
                              if !r3.2 then
                                if inb t6 t3 then
                                  if inb t7 (gd t3 t6 []) then
                                    if inb t6 r3.1 then
                                      if inb (gd r3.1 t6 0) (gd (gd t3 t6 []) t7 []) then
                                        if inb t7 r3.1 then
                                          if inb (gd r3.1 t7 0) (gd (gd (gd t3 t6 []) t7 []) (gd r3.1 t6 0) []) then
                                            if inb t7 (stt t3 t6 (stt (gd t3 t6 []) t7 (stt (gd (gd t3 t6 []) t7 []) (gd r3.1 t6 0) (stt (gd (gd (gd t3 t6 []) t7 []) (gd r3.1 t6 0) []) (gd r3.1 t7 0) false)))) then
                                              if inb t6 (gd (stt t3 t6 (stt (gd t3 t6 []) t7 (stt (gd (gd t3 t6 []) t7 []) (gd r3.1 t6 0) (stt (gd (gd (gd t3 t6 []) t7 []) (gd r3.1 t6 0) []) (gd r3.1 t7 0) false)))) t7 []) then
                                                if inb t7 r3.1 then
                                                  if inb (gd r3.1 t7 0) (gd (gd (stt t3 t6 (stt (gd t3 t6 []) t7 (stt (gd (gd t3 t6 []) t7 []) (gd r3.1 t6 0) (stt (gd (gd (gd t3 t6 []) t7 []) (gd r3.1 t6 0) []) (gd r3.1 t7 0) false)))) t7 []) t6 []) then
                                                    if inb t6 r3.1 then
                                                      if inb (gd r3.1 t6 0) (gd (gd (gd (stt t3 t6 (stt (gd t3 t6 []) t7 (stt (gd (gd t3 t6 []) t7 []) (gd r3.1 t6 0) (stt (gd (gd (gd t3 t6 []) t7 []) (gd r3.1 t6 0) []) (gd r3.1 t7 0) false)))) t7 []) t6 []) (gd r3.1 t7 0) []) then
                                                        impl_minimalPairs_L18 n ((t1.1, (t1.2.1, t1.2.2)), stt (stt t3 t6 (stt (gd t3 t6 []) t7 (stt (gd (gd t3 t6 []) t7 []) (gd r3.1 t6 0) (stt (gd (gd (gd t3 t6 []) t7 []) (gd r3.1 t6 0) []) (gd r3.1 t7 0) false)))) t7 (stt (gd (stt t3 t6 (stt (gd t3 t6 []) t7 (stt (gd (gd t3 t6 []) t7 []) (gd r3.1 t6 0) (stt (gd (gd (gd t3 t6 []) t7 []) (gd r3.1 t6 0) []) (gd r3.1 t7 0) false)))) t7 []) t6 (stt (gd (gd (stt t3 t6 (stt (gd t3 t6 []) t7 (stt (gd (gd t3 t6 []) t7 []) (gd r3.1 t6 0) (stt (gd (gd (gd t3 t6 []) t7 []) (gd r3.1 t6 0) []) (gd r3.1 t7 0) false)))) t7 []) t6 []) (gd r3.1 t7 0) (stt (gd (gd (gd (stt t3 t6 (stt (gd t3 t6 []) t7 (stt (gd (gd t3 t6 []) t7 []) (gd r3.1 t6 0) (stt (gd (gd (gd t3 t6 []) t7 []) (gd r3.1 t6 0) []) (gd r3.1 t7 0) false)))) t7 []) t6 []) (gd r3.1 t7 0) []) (gd r3.1 t6 0) false))), r3.1, true, t6, t7, t8, t9, w64 (t10 + 1), t18, t19, t31, t32)
                                                      else none
                                                    else none
                                                  else none
                                                else none
                                              else none
                                            else none
                                          else none
                                        else none
                                      else none
                                    else none
                                  else none
                                else none
                              else
                                impl_minimalPairs_L18 n ((t1.1, (t1.2.1, t1.2.2)), t3, r3.1, t5, t6, t7, t8, t9, w64 (t10 + 1), t18, t19, t31, t32)
                          else
                            impl_minimalPairs_L18 n ((t1.1, (t1.2.1, t1.2.2)), t3, stt (stt t4 t6 (w64 (Int.tdiv t10 t1.2.1))) t7 (Int.tmod t10 t1.2.1), t5, t6, t7, t8, t9, w64 (t10 + 1), t18, t19, t31, t32)
                        else none
                      else none
                    else none
                  else none
                else none
              else none
            else none
          else none
        else none
      else none
    else
      some ((t1.1, (t1.2.1, t1.2.2)), t3, t4, t5, t6, t7, t18, t19, t31, t32)
def impl_minimalPairs_L13 : Nat → ((Int × Int × (List ((List Int) × Int × (List (List Int))))) × (List (List (List (List Bool)))) × (List Int) × Bool × Int × Int × Int × Int × Int × Int) → Option ((Int × Int × (List ((List Int) × Int × (List (List Int))))) × (List (List (List (List Bool)))) × (List Int) × Bool × Int × Int × Int × Int)
  | 0, _ => none
  | n + 1, (t1, t3, t4, t5, t6, t7, t18, t19, t31, t32) =>
    if decide (t32 < t31) then
      if t32 == t6 then
        impl_minimalPairs_L13 n ((t1.1, (t1.2.1, t1.2.2)), t3, t4, t5, t6, t7, t18, t19, t31, w64 (t32 + 1))
      else
        if t32 == t7 then
          impl_minimalPairs_L13 n ((t1.1, (t1.2.1, t1.2.2)), t3, t4, t5, t6, t7, t18, t19, t31, w64 (t32 + 1))
        else
          (impl_within (t1.1, (t1.2.1, t1.2.2)) [t6, t7, t32]).bind fun r2 =>
            (impl_minimalPairs_L18 fuel ((t1.1, (t1.2.1, t1.2.2)), t3, t4, t5, t6, t7, t32, r2, 0, t18, t19, t31, t32)).bind fun s3 =>
              impl_minimalPairs_L13 n ((s3.1.1, (s3.1.2.1, s3.1.2.2)), s3.2.1, s3.2.2.1, s3.2.2.2.1, s3.2.2.2.2.1, s3.2.2.2.2.2.1, s3.2.2.2.2.2.2.1, s3.2.2.2.2.2.2.2.1, s3.2.2.2.2.2.2.2.2.1, w64 (s3.2.2.2.2.2.2.2.2.2 + 1))
    else
      some ((t1.1, (t1.2.1, t1.2.2)), t3, t4, t5, t6, t7, t18, t19)
def impl_minimalPairs_L10 : Nat → ((Int × Int × (List ((List Int) × Int × (List (List Int))))) × (List (List (List (List Bool)))) × (List Int) × Bool × Int × Int × Int × Int) → Option ((Int × Int × (List ((List Int) × Int × (List (List Int))))) × (List (List (List (List Bool)))) × (List Int) × Bool × Int × Int)
  | 0, _ => none
  | n + 1, (t1, t3, t4, t5, t6, t7, t18, t19) =>
    if decide (t7 < t1.1) then
      (impl_minimalPairs_L13 fuel ((t1.1, (t1.2.1, t1.2.2)), t3, t4, t5, t6, t7, t18, t19, (t3.length : Int), 0)).bind fun s2 =>
        impl_minimalPairs_L10 n ((s2.1.1, (s2.1.2.1, s2.1.2.2)), s2.2.1, s2.2.2.1, s2.2.2.2.1, s2.2.2.2.2.1, w64 (s2.2.2.2.2.2.1 + 1), s2.2.2.2.2.2.2.1, s2.2.2.2.2.2.2.2)
    else
      some ((t1.1, (t1.2.1, t1.2.2)), t3, t4, t5, t18, t19)
def impl_minimalPairs_L7 : Nat → ((Int × Int × (List ((List Int) × Int × (List (List Int))))) × (List (List (List (List Bool)))) × (List Int) × Bool × Int × Int) → Option ((Int × Int × (List ((List Int) × Int × (List (List Int))))) × (List (List (List (List Bool)))) × (List Int) × Bool)
  | 0, _ => none
  | n + 1, (t1, t3, t4, t5, t18, t19) =>
    if decide (t19 < t18) then
      (impl_minimalPairs_L10 fuel ((t1.1, (t1.2.1, t1.2.2)), t3, t4, t5, t19, w64 (t19 + 1), t18, t19)).bind fun s2 =>
        impl_minimalPairs_L7 n ((s2.1.1, (s2.1.2.1, s2.1.2.2)), s2.2.1, s2.2.2.1, s2.2.2.2.1, s2.2.2.2.2.1, w64 (s2.2.2.2.2.2 + 1))
    else
      some ((t1.1, (t1.2.1, t1.2.2)), t3, t4, t5)
def impl_minimalPairs_L4 : Nat → ((Int × Int × (List ((List Int) × Int × (List (List Int))))) × (List (List (List (List Bool)))) × (List Int) × Bool) → Option ((List (List (List (List Bool)))))
  | 0, _ => none
  | n + 1, (t1, t3, t4, t5) =>
    if t5 then
      (impl_minimalPairs_L7 fuel ((t1.1, (t1.2.1, t1.2.2)), t3, t4, false, (t3.length : Int), 0)).bind fun s2 =>
        impl_minimalPairs_L4 n ((s2.1.1, (s2.1.2.1, s2.1.2.2)), s2.2.1, s2.2.2.1, s2.2.2.2)
    else
      some t3
def impl_minimalPairs (t0 : Int × Int × (List ((List Int) × Int × (List (List Int))))) : Option ((List (List (List (List Bool))))) :=
  (impl_firstPairs (t0.1, (t0.2.1, t0.2.2))).bind fun r1 =>
    if 0 ≤ t0.1 ∧ t0.1 ≤ t0.1 ∧ t0.1 ≤ lim then
      (impl_minimalPairs_L4 fuel ((t0.1, (t0.2.1, t0.2.2)), r1, List.replicate (Int.toNat t0.1) (0 : Int), true)).bind fun s2 =>
        some s2
    else none
def impl_pairLists_L14 : Nat → ((Int × Int × (List ((List Int) × Int × (List (List Int))))) × (List (List (List (List Bool)))) × (List (List (Int × Int))) × Int × Int × (List (Int × Int)) × Int × Int × Int × (List (List Bool)) × Int × Int × (List Bool) × Int × Int) → Option ((Int × Int × (List ((List Int) × Int × (List (List Int))))) × (List (List (List (List Bool)))) × (List (List (Int × Int))) × Int × Int × (List (Int × Int)) × Int × Int × (List (List Bool)) × Int × Int)
  | 0, _ => none
  | n + 1, (net, t, lists, i, j, list, x, t16, t17, t35, t36, t37, t42, t43, t44) =>
    if decide (t44 < t43) then
      if inb t44 t42 then
        if gd t42 t44 false then
          if list.length + [(x, t44)].length ≤ lim then
            impl_pairLists_L14 n ((net.1, (net.2.1, net.2.2)), t, lists, i, j, list ++ [(x, t44)], x, t16, t17, t35, t36, t37, t42, t43, w64 (t44 + 1))
          else none
        else
          impl_pairLists_L14 n ((net.1, (net.2.1, net.2.2)), t, lists, i, j, list, x, t16, t17, t35, t36, t37, t42, t43, w64 (t44 + 1))
      else none
    else
      some ((net.1, (net.2.1, net.2.2)), t, lists, i, j, list, t16, t17, t35, t36, t37)
def impl_pairLists_L11 : Nat → ((Int × Int × (List ((List Int) × Int × (List (List Int))))) × (List (List (List (List Bool)))) × (List (List (Int × Int))) × Int × Int × (List (Int × Int)) × Int × Int × (List (List Bool)) × Int × Int) → Option ((Int × Int × (List ((List Int) × Int × (List (List Int))))) × (List (List (List (List Bool)))) × (List (List (Int × Int))) × Int × Int × (List (Int × Int)) × Int × Int)
  | 0, _ => none
  | n + 1, (net, t, lists, i, j, list, t16, t17, t35, t36, t37) =>
    if decide (t37 < t36) then
      if inb t37 t35 then
        (impl_pairLists_L14 fuel ((net.1, (net.2.1, net.2.2)), t, lists, i, j, list, t37, t16, t17, t35, t36, t37, gd t35 t37 [], ((gd t35 t37 []).length : Int), 0)).bind fun s2 =>
          impl_pairLists_L11 n ((s2.1.1, (s2.1.2.1, s2.1.2.2)), s2.2.1, s2.2.2.1, s2.2.2.2.1, s2.2.2.2.2.1, s2.2.2.2.2.2.1, s2.2.2.2.2.2.2.1, s2.2.2.2.2.2.2.2.1, s2.2.2.2.2.2.2.2.2.1, s2.2.2.2.2.2.2.2.2.2.1, w64 (s2.2.2.2.2.2.2.2.2.2.2 + 1))
      else none
    else
      some ((net.1, (net.2.1, net.2.2)), t, lists, i, j, list, t16, t17)
def impl_pairLists_L7 : Nat → ((Int × Int × (List ((List Int) × Int × (List (List Int))))) × (List (List (List (List Bool)))) × (List (List (Int × Int))) × Int × Int × Int × Int) → Option ((Int × Int × (List ((List Int) × Int × (List (List Int))))) × (List (List (List (List Bool)))) × (List (List (Int × Int))) × Int × Int)
  | 0, _ => none
  | n + 1, (net, t, lists, i, j, t16, t17) =>
    if decide (j < net.1) then
      if inb i t then
        if inb j (gd t i []) then
          (impl_pairLists_L11 fuel ((net.1, (net.2.1, net.2.2)), t, lists, i, j, [], t16, t17, gd (gd t i []) j [], ((gd (gd t i []) j []).length : Int), 0)).bind fun s2 =>
            if s2.2.2.1.length + [s2.2.2.2.2.2.1].length ≤ lim then
              impl_pairLists_L7 n ((s2.1.1, (s2.1.2.1, s2.1.2.2)), s2.2.1, s2.2.2.1 ++ [s2.2.2.2.2.2.1], s2.2.2.2.1, w64 (s2.2.2.2.2.1 + 1), s2.2.2.2.2.2.2.1, s2.2.2.2.2.2.2.2)
            else none
        else none
      else none
    else
      some ((net.1, (net.2.1, net.2.2)), t, lists, t16, t17)
def impl_pairLists_L4 : Nat → ((Int × Int × (List ((List Int) × Int × (List (List Int))))) × (List (List (List (List Bool)))) × (List (List (Int × Int))) × Int × Int) → Option ((List (List (Int × Int))))
  | 0, _ => none
  | n + 1, (net, t, lists, t16, t17) =>
    if decide (t17 < t16) then
      (impl_pairLists_L7 fuel ((net.1, (net.2.1, net.2.2)), t, lists, t17, w64 (t17 + 1), t16, t17)).bind fun s2 =>
        impl_pairLists_L4 n ((s2.1.1, (s2.1.2.1, s2.1.2.2)), s2.2.1, s2.2.2.1, s2.2.2.2.1, w64 (s2.2.2.2.2 + 1))
    else
      some lists
def impl_pairLists (net : Int × Int × (List ((List Int) × Int × (List (List Int))))) : Option ((List (List (Int × Int)))) :=
  (impl_minimalPairs (net.1, (net.2.1, net.2.2))).bind fun r1 =>
    (impl_pairLists_L4 fuel ((net.1, (net.2.1, net.2.2)), r1, [], (r1.length : Int), 0)).bind fun s2 =>
      some s2
def impl_PairsRefute_L4 : Nat → ((List (List (Int × Int))) × Int × Int) → Option ((Unit) ⊕ (Bool × Bool))
  | 0, _ => none
  | n + 1, (t15, t16, t17) =>
    if decide (t17 < t16) then
      if inb t17 t15 then
        if ((gd t15 t17 []).length : Int) == 0 then
          some (.inr (true, true))
        else
          impl_PairsRefute_L4 n (t15, t16, w64 (t17 + 1))
      else none
    else
      some (.inl ())
def impl_PairsRefute (net : Int × Int × (List ((List Int) × Int × (List (List Int))))) : Option (Bool × Bool) :=
  (impl_IsNetwork (net.1, (net.2.1, net.2.2))).bind fun r1 =>
    if !r1 then
      some (false, false)
    else
      if decide (net.1 < 2) then
        some (false, false)
      else
        (impl_pairLists (net.1, (net.2.1, net.2.2))).bind fun r2 =>
          (impl_PairsRefute_L4 fuel (r2, (r2.length : Int), 0)).bind fun s3 =>
            match s3 with
            | .inl s4 =>
              some (false, true)
            | .inr s5 =>
              some (s5.1, s5.2)
def laws_FnExactPairsRefute (aNet : Int × Int × (List ((List Int) × Int × (List (List Int))))) : Option (Bool) :=
  (laws_szNetwork (aNet.1, (aNet.2.1, aNet.2.2)) 1048576).bind fun r1 =>
    if decide (r1 < 0) then
      some true
    else
      (laws_toNetwork (aNet.1, (aNet.2.1, aNet.2.2))).bind fun r2 =>
        (spec_PairsRefute (r2.1, (r2.2.1, r2.2.2))).bind fun r3 =>
          (laws_toNetwork (aNet.1, (aNet.2.1, aNet.2.2))).bind fun r4 =>
            (impl_PairsRefute (r4.1, (r4.2.1, r4.2.2))).bind fun r5 =>
              if r5.1 != r3.1 then
                some false
              else
                if r5.2 != r3.2 then
                  some false
                else
                  (laws_toNetwork (aNet.1, (aNet.2.1, aNet.2.2))).bind fun r6 =>
                    (laws_eqNetwork (r4.1, (r4.2.1, r4.2.2)) (r6.1, (r6.2.1, r6.2.2))).bind fun r7 =>
                      if !r7 then
                        some false
                      else
                        some true
end T
open Go Go.Va
namespace T
/- which tuples constraints ask for, at values of all variables -/
def valI (vs : List Int) (v : Int) : Int := vs.getD v.toNat 0
def conH (vs : List Int) (c : Con) : Bool := decide (c.1.map (valI vs) ∈ c.2.2)
def satB (l : List Con) (vs : List Int) : Bool := l.all (conH vs)
def insB (vars : List Int) (c : Con) : Bool := c.1.all fun v => decide (v ∈ vars)
def insL (a : Net) (vars : List Int) : List Con := a.2.2.filter (insB vars)
theorem impl_hasNot_ok {l : List Int} {x : Int} (h : l.length ≤ 1048576) : impl_hasNot l x = some (!decide (x ∈ l)) := by
  unfold impl_hasNot
  rw [allX l (fun n i => impl_hasNot_L2 n (x, l, (l.length : Int), i)) (fun y => !decide (x = y)) (.inr false) (.inl ()) ?_ ?_ (by unfold fuel; omega)]
  · by_cases hx : x ∈ l
    · rw [if_neg]
      · simp [hx]
      · rw [List.all_eq_true]; intro h; have := h x hx; simp at this
    · rw [if_pos]
      · simp [hx]
      · rw [List.all_eq_true]; intro y hy; have : x ≠ y := fun e => hx (e ▸ hy)
        simp [this]
  · intro n k hk
    simp only [impl_hasNot_L2, inb_nat, gd_nat hk, w64_succ (show k < 4611686018427387904 by omega)]
    by_cases e : x = l[k] <;> simp [hk, e]
  · intro n; simp [impl_hasNot_L2]
theorem impl_isPart_ok {l vars : List Int} (h : l.length ≤ 1048576) (hv : vars.length ≤ 1048576) : impl_isPart l vars = some (l.all fun v => decide (v ∈ vars)) := by
  unfold impl_isPart
  rw [allX l (fun n i => impl_isPart_L2 n (vars, l, (l.length : Int), i)) (fun y => decide (y ∈ vars)) (.inr false) (.inl ()) ?_ ?_ (by unfold fuel; omega)]
  · cases l.all fun v => decide (v ∈ vars) <;> simp
  · intro n k hk
    simp only [impl_isPart_L2, inb_nat, gd_nat hk, w64_succ (show k < 4611686018427387904 by omega), impl_hasNot_ok hv, Option.bind_some]
    by_cases e : l[k] ∈ vars <;> simp [hk, e]
  · intro n; simp [impl_isPart_L2]
section
variable {a : Net}
theorem impl_within_ok (hN : NetOk a) {vars : List Int} (hv : vars.length ≤ 1048576) : impl_within (a.1, (a.2.1, a.2.2)) vars = some (insL a vars) := by
  unfold impl_within
  have hc := hN.hc
  have := forS a.2.2.length (fun n (o : List Con) i => impl_within_L3 n (vars, o, a.2.2, (a.2.2.length : Int), i)) (fun k => (a.2.2.take k).filter (insB vars)) (r := some (insL a vars)) (fun n k hk => ?_) (fun n => ?_) (n := fuel) (by unfold fuel; omega)
  · simp only [List.take_zero, List.filter_nil] at this
    simp only [this, Option.bind_some]
  · have hlen : ((a.2.2.take k).filter (insB vars)).length ≤ k := Nat.le_trans (List.length_filter_le _ _) (by simp; omega)
    have hcon := hN.con _ (List.getElem_mem hk)
    have hsl : (a.2.2[k]).1.length ≤ 1048576 := by have := hcon.sl; have := hcon.ar; omega
    simp only [impl_within_L3, inb_nat, gd_nat hk, w64_succ (show k < 4611686018427387904 by omega), impl_isPart_ok hsl hv, Option.bind_some]
    rw [List.take_succ_eq_append_getElem hk, List.filter_append]
    have e0 : ((a.2.2[k]).1.all fun v => decide (v ∈ vars)) = insB vars a.2.2[k] := rfl
    rw [e0]
    cases e : insB vars a.2.2[k] with
    | false => simp [hk, e]
    | true =>
      have : ((a.2.2.take k).filter (insB vars)).length + 1 ≤ lim := by unfold lim; omega
      simp [hk, e, this]
  · simp only [impl_within_L3, List.take_length]
    rw [if_neg (by simp)]; rfl
theorem spec_inside_L7 {c : Con} {vars : List Int} (hs : c.1.length ≤ 1048576) (hv : vars.length ≤ 1048576) {i : Nat} (hi : i < a.2.2.length) (hc : a.2.2[i] = c) (out : List Con) :
    spec_l20Inside_L7 fuel (vars, (a.1, (a.2.1, a.2.2)), out, (i : Int), true, 0) = some (vars, (a.1, (a.2.1, a.2.2)), out, (i : Int), insB vars c) := by
  have := accX c.1.length (fun n b k => spec_l20Inside_L7 n (vars, (a.1, (a.2.1, a.2.2)), out, (i : Int), b, k)) (fun k => decide (g0 c.1 k ∈ vars)) (fun b => some (vars, (a.1, (a.2.1, a.2.2)), out, (i : Int), b)) (fun n b k hk => ?_) (fun n b => ?_) (n := fuel) (by unfold fuel; omega) true
  · rw [this]
    congr 1
    have : (true && (List.range c.1.length).all fun k => decide (g0 c.1 k ∈ vars)) = insB vars c := by
      rw [Bool.true_and, Bool.eq_iff_iff]
      unfold insB
      rw [List.all_eq_true, List.all_eq_true]
      constructor
      · intro h v hv
        obtain ⟨j, hj, rfl⟩ := List.mem_iff_getElem.1 hv
        rw [g0_of hj]; exact h j (List.mem_range.2 hj)
      · intro h j hj
        have hj := List.mem_range.1 hj
        rw [← g0_of hj]; exact h _ (List.getElem_mem hj)
    rw [this]
  · have hk' : k < (a.2.2[i]).1.length := by rw [hc]; exact hk
    simp only [spec_l20Inside_L7, inb_nat, gd_nat hi, w64_succ (show k < 4611686018427387904 by omega), hc, gd_nat hk, g0_of hk, spec_l1Has_ok hv, Option.bind_some]
    cases b <;> simp [hi, hk]
  · simp only [spec_l20Inside_L7, inb_nat, gd_nat hi, hc]
    simp [hi]
theorem spec_l20Inside_ok (hN : NetOk a) {vars : List Int} (hv : vars.length ≤ 1048576) : spec_l20Inside (a.1, (a.2.1, a.2.2)) vars = some (insL a vars) := by
  unfold spec_l20Inside
  have hc := hN.hc
  have := forS a.2.2.length (fun n (o : List Con) i => spec_l20Inside_L3 n (vars, (a.1, (a.2.1, a.2.2)), o, i)) (fun k => (a.2.2.take k).filter (insB vars)) (r := some (insL a vars)) (fun n k hk => ?_) (fun n => ?_) (n := fuel) (by unfold fuel; omega)
  · simp only [List.take_zero, List.filter_nil] at this
    simp only [this, Option.bind_some]
  · have hlen : ((a.2.2.take k).filter (insB vars)).length ≤ k := Nat.le_trans (List.length_filter_le _ _) (by simp; omega)
    have hcon := hN.con _ (List.getElem_mem hk)
    have hsl : (a.2.2[k]).1.length ≤ 1048576 := by have := hcon.sl; have := hcon.ar; omega
    simp only [spec_l20Inside_L3, inb_nat, spec_inside_L7 hsl hv hk rfl, gd_nat hk, w64_succ (show k < 4611686018427387904 by omega), Option.bind_some]
    rw [List.take_succ_eq_append_getElem hk, List.filter_append]
    cases e : insB vars a.2.2[k] with
    | false => simp [hk, e]
    | true =>
      have : ((a.2.2.take k).filter (insB vars)).length + 1 ≤ lim := by unfold lim; omega
      simp [hk, e, this]
  · simp only [spec_l20Inside_L3, List.take_length]
    rw [if_neg (by simp)]; rfl
theorem impl_compose_ok {f g : List Int} (hf : f.length ≤ 1048576) (hg : ∀ v ∈ f, 0 ≤ v ∧ v < g.length) : impl_compose f g = some (f.map (valI g)) := by
  unfold impl_compose
  rw [if_pos (by unfold lim; omega)]
  have := fillX0 f (fun n o i => impl_compose_L3 n (g, o, f, (f.length : Int), i)) (valI g) some (fun n o k hk hlo => ?_) (fun n o hlo => ?_) (n := fuel) (out := List.replicate (Int.toNat (f.length : Int)) (0 : Int)) (by simp) (by unfold fuel; omega)
  · simp only [this, Option.bind_some]
  · have hko : k < o.length := by omega
    have hv := hg _ (List.getElem_mem hk)
    have e : gd g f[k] 0 = valI g f[k] := rfl
    simp only [impl_compose_L3, inb_nat, gd_nat hk, stt_nat, w64_succ (show k < 4611686018427387904 by omega), e]
    rw [if_pos (by simp; omega), if_pos hk, if_pos (show inb f[k] g from hv), if_pos hko]
  · simp [impl_compose_L3]
theorem impl_sameList_ok {x y : List Int} (h : x.length ≤ 1048576) : impl_sameList x y = some (decide (x = y)) := by
  unfold impl_sameList
  by_cases hl : x.length = y.length
  · rw [if_neg (by simp [hl])]
    rw [eqX x y hl (fun n i => impl_sameList_L4 n (y, x, (x.length : Int), i)) (fun n k h1 h2 => ?_) (fun n => ?_) (n := fuel) (by unfold fuel; omega)]
    · by_cases e : x = y <;> simp [e]
    · simp only [impl_sameList_L4, inb_nat, gd_nat h1, gd_nat h2, w64_succ (show k < 4611686018427387904 by omega)]
      by_cases e : x[k] = y[k]
      · simp [h1, h2, e]
      · have e' : y[k] ≠ x[k] := fun h => e h.symm
        simp [h1, h2, e, e']
    · simp [impl_sameList_L4]
  · have : x ≠ y := fun e => hl (by rw [e])
    rw [if_pos (by simp; omega)]; simp [this]
theorem impl_hasRow_ok {r : Int × List (List Int)} {t : List Int} (ht : t.length ≤ 1048576) (hr : r.2.length ≤ 1048576) : impl_hasRow r t = some (decide (t ∈ r.2)) := by
  unfold impl_hasRow
  rw [allX r.2 (fun n i => impl_hasRow_L2 n (t, r.2, (r.2.length : Int), i)) (fun y => !decide (t = y)) (.inr true) (.inl ()) ?_ ?_ (by unfold fuel; omega)]
  · by_cases hx : t ∈ r.2
    · rw [if_neg]
      · simp [hx]
      · rw [List.all_eq_true]; intro h; have := h t hx; simp at this
    · rw [if_pos]
      · simp [hx]
      · rw [List.all_eq_true]; intro y hy; have : t ≠ y := fun e => hx (e ▸ hy)
        simp [this]
  · intro n k hk
    simp only [impl_hasRow_L2, inb_nat, gd_nat hk, w64_succ (show k < 4611686018427387904 by omega), impl_sameList_ok ht, Option.bind_some]
    by_cases e : t = (r.2)[k] <;> simp [hk, e]
  · intro n; simp [impl_hasRow_L2]
theorem impl_satisfies_ok (hN : NetOk a) {l : List Con} (hl : l.length ≤ 40) (hs : ∀ c ∈ l, c ∈ a.2.2) {vs : List Int} (hv : (vs.length : Int) = a.1) : impl_satisfies l vs = some (satB l vs) := by
  unfold impl_satisfies
  rw [allX l (fun n i => impl_satisfies_L2 n (vs, l, (l.length : Int), i)) (conH vs) (.inr false) (.inl ()) ?_ ?_ (by unfold fuel; omega)]
  · unfold satB; cases l.all (conH vs) <;> simp
  · intro n k hk
    have hcon := hN.con _ (hs _ (List.getElem_mem hk))
    have hsl := hcon.sl
    have har := hcon.ar
    have hm := hcon.many
    have e := impl_compose_ok (f := (l[k]).1) (g := vs) (by omega) (fun v hvv => by
      obtain ⟨j, hj, rfl⟩ := List.mem_iff_getElem.1 hvv
      have := hcon.sv j hj; omega)
    have e2 := impl_hasRow_ok (r := ((l[k]).2.1, (l[k]).2.2)) (t := (l[k]).1.map (valI vs)) (by rw [List.length_map]; omega) (show (l[k]).2.2.length ≤ 1048576 by omega)
    simp only [impl_satisfies_L2, inb_nat, gd_nat hk, w64_succ (show k < 4611686018427387904 by omega), e, e2, Option.bind_some]
    have e3 : decide ((l[k]).1.map (valI vs) ∈ (l[k]).2.2) = conH vs l[k] := rfl
    rw [e3]
    cases conH vs l[k] <;> simp [hk]
  · intro n; simp [impl_satisfies_L2]
theorem spec_l19Satisfies_ok {v n : Int} {c : Con} (h : ConOk v n c) {vs : List Int} (hv : (vs.length : Int) = v) : spec_l19Satisfies c vs = some (conH vs c) := by
  unfold spec_l19Satisfies
  have hsl := h.sl
  have har := h.ar
  have hm := h.many
  have := forS c.1.length (fun n (o : List Int) i => spec_l19Satisfies_L3 n (vs, (c.1, (c.2.1, c.2.2)), o, i)) (fun k => (c.1.take k).map (valI vs)) (r := some ((c.1, (c.2.1, c.2.2)), c.1.map (valI vs))) (fun n k hk => ?_) (fun n => ?_) (n := fuel) (by unfold fuel; omega)
  · simp only [List.take_zero, List.map_nil] at this
    simp only [this, Option.bind_some]
    unfold spec_l13Has
    have hl : ((c.1.map (valI vs)).length : Int) = c.2.1 := by rw [List.length_map]; exact hsl
    rw [if_neg (by simpa using hsl)]
    obtain ⟨q, e, _⟩ := spec_l8Find_ok (list := c.2.2) (t := c.1.map (valI vs)) (k := c.1.length) (by omega) (by omega) h.tl (by simp) h.inc
    simp only [e, Option.bind_some]; rfl
  · have hvk := h.sv k hk
    have e : gd vs c.1[k] 0 = valI vs c.1[k] := rfl
    have hi : inb c.1[k] vs := by unfold inb; omega
    simp only [spec_l19Satisfies_L3, inb_nat, gd_nat hk, e, w64_succ (show k < 4611686018427387904 by omega)]
    rw [List.take_succ_eq_append_getElem hk, List.map_append]
    rw [if_pos (by simp; omega), if_pos hk, if_pos hi, if_pos (by unfold lim; simp; omega)]; rfl
  · simp only [spec_l19Satisfies_L3, List.take_length]
    rw [if_neg (by simp)]
theorem spec_l20Hold_ok (hN : NetOk a) {l : List Con} (hl : l.length ≤ 40) (hs : ∀ c ∈ l, c ∈ a.2.2) {vs : List Int} (hv : (vs.length : Int) = a.1) : spec_l20Hold l vs = some (satB l vs) := by
  unfold spec_l20Hold
  rw [allX l (fun n i => spec_l20Hold_L2 n (l, vs, i)) (conH vs) (.inr false) (.inl ()) ?_ ?_ (by unfold fuel; omega)]
  · unfold satB; cases l.all (conH vs) <;> simp
  · intro n k hk
    have hcon := hN.con _ (hs _ (List.getElem_mem hk))
    simp only [spec_l20Hold_L2, inb_nat, gd_nat hk, w64_succ (show k < 4611686018427387904 by omega), spec_l19Satisfies_ok hcon hv, Option.bind_some]
    cases conH vs l[k] <;> simp [hk]
  · intro n; simp [spec_l20Hold_L2]
theorem insL_in {vars : List Int} : ∀ c ∈ insL a vars, c ∈ a.2.2 := fun _ h => (List.mem_filter.1 h).1
theorem insL_len (hN : NetOk a) {vars : List Int} : (insL a vars).length ≤ 40 := Nat.le_trans (List.length_filter_le _ _) hN.hc
/-- constraints of some variables see no others -/
theorem satB_congr {vars vs ws : List Int} (h : ∀ v ∈ vars, valI vs v = valI ws v) : satB (insL a vars) vs = satB (insL a vars) ws := by
  unfold satB
  rw [Bool.eq_iff_iff, List.all_eq_true, List.all_eq_true]
  have key : ∀ c ∈ insL a vars, conH vs c = conH ws c := fun c hc => by
    have hc := (List.mem_filter.1 hc).2
    unfold insB at hc
    rw [List.all_eq_true] at hc
    unfold conH
    have : c.1.map (valI vs) = c.1.map (valI ws) := List.map_congr_left fun v hv => h v (by simpa using hc v hv)
    rw [this]
  exact ⟨fun h c hc => (key c hc) ▸ h c hc, fun h c hc => (key c hc) ▸ h c hc⟩
end
end T
open Go Go.Va
namespace T
/- loops by an invariant alone -/
theorem forI {σ β : Type} (N : Nat) (L : Nat → σ → Int → Option β) (I : Nat → σ → Prop) (f : σ → Option β)
    (hs : ∀ k s, k < N → I k s → ∃ s', I (k + 1) s' ∧ ∀ n, L (n + 1) s k = L n s' ((k + 1 : Nat) : Int)) (he : ∀ n s, I N s → L (n + 1) s (N : Nat) = f s) :
    ∀ (d k n : Nat) (s : σ), k + d = N → d < n → I k s → ∃ s', I N s' ∧ L n s k = f s' := by
  intro d
  induction d with
  | zero =>
    intro k n s hk hn hi
    obtain ⟨n, rfl⟩ : ∃ m, n = m + 1 := ⟨n - 1, by omega⟩
    have : k = N := by omega
    subst this
    exact ⟨s, hi, he n s hi⟩
  | succ d ih =>
    intro k n s hk hn hi
    obtain ⟨n, rfl⟩ : ∃ m, n = m + 1 := ⟨n - 1, by omega⟩
    obtain ⟨s', h1, h2⟩ := hs k s (by omega) hi
    rw [h2 n]
    exact ih (k + 1) n s' (by omega) (by omega) h1
/-- two loops side by side -/
theorem forR {σ τ β γ : Type} (N : Nat) (L : Nat → σ → Int → Option β) (M : Nat → τ → Int → Option γ) (I : Nat → σ → τ → Prop) (f : σ → Option β) (g : τ → Option γ)
    (hs : ∀ k s t, k < N → I k s t → ∃ s' t', I (k + 1) s' t' ∧ (∀ n, L (n + 1) s k = L n s' ((k + 1 : Nat) : Int)) ∧ ∀ n, M (n + 1) t k = M n t' ((k + 1 : Nat) : Int))
    (he : ∀ n s t, I N s t → L (n + 1) s (N : Nat) = f s) (he' : ∀ n s t, I N s t → M (n + 1) t (N : Nat) = g t) :
    ∀ (d k n m : Nat) (s : σ) (t : τ), k + d = N → d < n → d < m → I k s t → ∃ s' t', I N s' t' ∧ L n s k = f s' ∧ M m t k = g t' := by
  intro d
  induction d with
  | zero =>
    intro k n m s t hk hn hm hi
    obtain ⟨n, rfl⟩ : ∃ m, n = m + 1 := ⟨n - 1, by omega⟩
    obtain ⟨m, rfl⟩ : ∃ k, m = k + 1 := ⟨m - 1, by omega⟩
    have : k = N := by omega
    subst this
    exact ⟨s, t, hi, he n s t hi, he' m s t hi⟩
  | succ d ih =>
    intro k n m s t hk hn hm hi
    obtain ⟨n, rfl⟩ : ∃ m, n = m + 1 := ⟨n - 1, by omega⟩
    obtain ⟨m, rfl⟩ : ∃ k, m = k + 1 := ⟨m - 1, by omega⟩
    obtain ⟨s', t', h1, h2, h3⟩ := hs k s t (by omega) hi
    rw [h2 n, h3 m]
    exact ih (k + 1) n m s' t' (by omega) (by omega) (by omega) h1
theorem gd_D {α : Type} {k : Nat} {xs : List α} {d : α} : gd xs (k : Int) d = xs.getD k d := rfl
/- tables -/
abbrev T3 := List (List (List Bool))
abbrev T4 := List (List (List (List Bool)))
def Cell4 (s : Nat) (c : List (List Bool)) : Prop := c.length = s ∧ ∀ x, x < s → (c.getD x []).length = s
def Row4 (n s : Nat) (r : T3) : Prop := r.length = n ∧ ∀ j, j < n → Cell4 s (r.getD j [])
def Ok4 (n s : Nat) (t : T4) : Prop := t.length = n ∧ ∀ i, i < n → Row4 n s (t.getD i [])
def r4 (t : T4) (i j x y : Nat) : Bool := (((t.getD i []).getD j []).getD x []).getD y false
def s4 (t : T4) (i j x y : Nat) (b : Bool) : T4 := t.set i ((t.getD i []).set j (((t.getD i []).getD j []).set x ((((t.getD i []).getD j []).getD x []).set y b)))
def Ok3 (n m : Nat) (u : T3) : Prop := u.length = n ∧ ∀ i, i < n → (u.getD i []).length = n ∧ ∀ j, j < n → ((u.getD i []).getD j []).length = m
def r3 (u : T3) (i j p : Nat) : Bool := ((u.getD i []).getD j []).getD p false
def s3 (u : T3) (i j p : Nat) (b : Bool) : T3 := u.set i ((u.getD i []).set j (((u.getD i []).getD j []).set p b))
def mu3 (u : T3) : Nat := (u.map mu).sum
section
variable {n s m : Nat} {t : T4} {u : T3}
theorem Ok4.at (h : Ok4 n s t) {i j x : Nat} (hi : i < n) (hj : j < n) (hx : x < s) : i < t.length ∧ j < (t.getD i []).length ∧ x < ((t.getD i []).getD j []).length ∧ (((t.getD i []).getD j []).getD x []).length = s :=
  ⟨by rw [h.1]; exact hi, by rw [(h.2 i hi).1]; exact hj, by rw [((h.2 i hi).2 j hj).1]; exact hx, ((h.2 i hi).2 j hj).2 x hx⟩
theorem Ok3.at (h : Ok3 n m u) {i j : Nat} (hi : i < n) (hj : j < n) : i < u.length ∧ j < (u.getD i []).length ∧ ((u.getD i []).getD j []).length = m :=
  ⟨by rw [h.1]; exact hi, by rw [(h.2 i hi).1]; exact hj, (h.2 i hi).2 j hj⟩
theorem s4_ok (h : Ok4 n s t) {i j x y : Nat} {b : Bool} : Ok4 n s (s4 t i j x y b) := by
  unfold s4
  refine ⟨by rw [List.length_set]; exact h.1, fun i' hi' => ?_⟩
  rw [getD_set_of]
  split
  · rename_i hc
    obtain ⟨rfl, _⟩ := hc
    have hr := h.2 i hi'
    refine ⟨by rw [List.length_set]; exact hr.1, fun j' hj' => ?_⟩
    rw [getD_set_of]
    split
    · rename_i hc
      obtain ⟨rfl, _⟩ := hc
      have hcl := hr.2 j hj'
      refine ⟨by rw [List.length_set]; exact hcl.1, fun x' hx' => ?_⟩
      rw [getD_set_of]
      split
      · rename_i hc
        obtain ⟨rfl, _⟩ := hc
        rw [List.length_set]; exact hcl.2 x hx'
      · exact hcl.2 x' hx'
    · exact hr.2 j' hj'
  · exact h.2 i' hi'
theorem s3_ok (h : Ok3 n m u) {i j p : Nat} {b : Bool} : Ok3 n m (s3 u i j p b) := by
  unfold s3
  refine ⟨by rw [List.length_set]; exact h.1, fun i' hi' => ?_⟩
  rw [getD_set_of]
  split
  · rename_i hc
    obtain ⟨rfl, _⟩ := hc
    have hr := h.2 i hi'
    refine ⟨by rw [List.length_set]; exact hr.1, fun j' hj' => ?_⟩
    rw [getD_set_of]
    split
    · rename_i hc
      obtain ⟨rfl, _⟩ := hc
      rw [List.length_set]; exact hr.2 j hj'
    · exact hr.2 j' hj'
  · exact h.2 i' hi'
theorem r4_s4 (h : Ok4 n s t) {i j x y : Nat} {b : Bool} (hi : i < n) (hj : j < n) (hx : x < s) (hy : y < s) (i' j' x' y' : Nat) :
    r4 (s4 t i j x y b) i' j' x' y' = if i = i' ∧ j = j' ∧ x = x' ∧ y = y' then b else r4 t i' j' x' y' := by
  obtain ⟨h1, h2, h3, h4⟩ := h.at hi hj hx
  unfold r4 s4
  rw [getD_set_of]
  by_cases e1 : i = i'
  · subst e1
    rw [if_pos ⟨rfl, h1⟩, getD_set_of]
    by_cases e2 : j = j'
    · subst e2
      rw [if_pos ⟨rfl, h2⟩, getD_set_of]
      by_cases e3 : x = x'
      · subst e3
        rw [if_pos ⟨rfl, h3⟩, getD_set_of]
        by_cases e4 : y = y'
        · subst e4; rw [if_pos ⟨rfl, by omega⟩, if_pos ⟨rfl, rfl, rfl, rfl⟩]
        · rw [if_neg (by omega), if_neg (by omega)]
      · rw [if_neg (by omega), if_neg (by omega)]
    · rw [if_neg (by omega), if_neg (by omega)]
  · rw [if_neg (by omega), if_neg (by omega)]
theorem r3_s3 (h : Ok3 n m u) {i j p : Nat} {b : Bool} (hi : i < n) (hj : j < n) (hp : p < m) (i' j' p' : Nat) :
    r3 (s3 u i j p b) i' j' p' = if i = i' ∧ j = j' ∧ p = p' then b else r3 u i' j' p' := by
  obtain ⟨h1, h2, h3⟩ := h.at hi hj
  unfold r3 s3
  rw [getD_set_of]
  by_cases e1 : i = i'
  · subst e1
    rw [if_pos ⟨rfl, h1⟩, getD_set_of]
    by_cases e2 : j = j'
    · subst e2
      rw [if_pos ⟨rfl, h2⟩, getD_set_of]
      by_cases e3 : p = p'
      · subst e3; rw [if_pos ⟨rfl, by omega⟩, if_pos ⟨rfl, rfl, rfl⟩]
      · rw [if_neg (by omega), if_neg (by omega)]
    · rw [if_neg (by omega), if_neg (by omega)]
  · rw [if_neg (by omega), if_neg (by omega)]
theorem mu3_set {i j p : Nat} (h : r3 u i j p = true) : mu3 (s3 u i j p false) + 1 = mu3 u := by
  rcases Nat.lt_or_ge i u.length with hi | hi
  · have h1 := sum_set mu u i (set2 (u.getD i []) j p) hi
    have h2 : mu (set2 (u.getD i []) j p) + 1 = mu (u.getD i []) := mu_set2 h
    rw [getD_of hi] at h1 h2
    have e : s3 u i j p false = u.set i (set2 (u.getD i []) j p) := rfl
    unfold mu3
    rw [e, getD_of hi]
    omega
  · unfold r3 at h
    rw [List.getD_eq_getElem?_getD (l := u), List.getElem?_eq_none hi] at h; simp at h
theorem sum_le {α : Type} (f : α → Nat) (K : Nat) : ∀ (l : List α), (∀ x ∈ l, f x ≤ K) → (l.map f).sum ≤ l.length * K
  | [], _ => by simp
  | x :: l, h => by
    have h1 := h x (by simp)
    have h2 := sum_le f K l fun y hy => h y (List.mem_cons_of_mem _ hy)
    simp only [List.map_cons, List.sum_cons, List.length_cons, Nat.succ_mul]; omega
theorem mu3_le (h : Ok3 n m u) : mu3 u ≤ n * (n * m) := by
  unfold mu3
  rw [← h.1]
  refine sum_le mu _ u fun r hr => ?_
  obtain ⟨i, hi, rfl⟩ := List.mem_iff_getElem.1 hr
  have hi' : i < n := by rw [← h.1]; exact hi
  have hrow := h.2 i hi'
  rw [getD_of hi] at hrow
  unfold mu
  rw [h.1, ← hrow.1]
  refine sum_le _ _ _ fun c hc => ?_
  obtain ⟨j, hj, rfl⟩ := List.mem_iff_getElem.1 hc
  have := hrow.2 j (by rw [← hrow.1]; exact hj)
  rw [getD_of hj] at this
  rw [← this]; exact List.countP_le_length
end
/-- the two tables tell the same -/
structure Rel34 (n s : Nat) (t : T4) (u : T3) : Prop where
  o4 : Ok4 n s t
  o3 : Ok3 n (s * s) u
  eq : ∀ i j x y, i < j → j < n → x < s → y < s → r4 t i j x y = r3 u i j (x * s + y) ∧ r4 t j i y x = r3 u i j (x * s + y)
theorem cell_lt {s x y : Nat} (hx : x < s) (hy : y < s) : x * s + y < s * s := by
  have : (x + 1) * s ≤ s * s := Nat.mul_le_mul_right _ hx
  rw [Nat.succ_mul] at this; omega
theorem cell_inj {s x y x' y' : Nat} (hy : y < s) (hy' : y' < s) (h : x * s + y = x' * s + y') : x = x' ∧ y = y' := by
  have h1 : (x * s + y) / s = x := by rw [Nat.mul_comm, Nat.mul_add_div (by omega), Nat.div_eq_of_lt hy]; omega
  have h2 : (x' * s + y') / s = x' := by rw [Nat.mul_comm, Nat.mul_add_div (by omega), Nat.div_eq_of_lt hy']; omega
  have : x = x' := by rw [← h1, ← h2, h]
  subst this
  exact ⟨rfl, by omega⟩
theorem Rel34.drop {n s : Nat} {t : T4} {u : T3} (h : Rel34 n s t u) {i j x y : Nat} (hij : i < j) (hj : j < n) (hx : x < s) (hy : y < s) :
    Rel34 n s (s4 (s4 t i j x y false) j i y x false) (s3 u i j (x * s + y) false) := by
  refine ⟨s4_ok (s4_ok h.o4), s3_ok h.o3, fun i' j' x' y' h1 h2 h3 h4 => ?_⟩
  have hi : i < n := by omega
  rw [r4_s4 (s4_ok h.o4) hj hi hy hx, r4_s4 h.o4 hi hj hx hy, r4_s4 (s4_ok h.o4) hj hi hy hx, r4_s4 h.o4 hi hj hx hy, r3_s3 h.o3 hi hj (cell_lt hx hy)]
  obtain ⟨e1, e2⟩ := h.eq i' j' x' y' h1 h2 h3 h4
  by_cases e : i = i' ∧ j = j' ∧ x = x' ∧ y = y'
  · obtain ⟨rfl, rfl, rfl, rfl⟩ := e
    simp
  · have e3 : ¬ (i = i' ∧ j = j' ∧ x * s + y = x' * s + y') := fun ⟨q1, q2, q3⟩ => by
      have := cell_inj hy h4 q3
      exact e ⟨q1, q2, this.1, this.2⟩
    have e4 : ¬ (j = i' ∧ i = j' ∧ y = x' ∧ x = y') := by omega
    have e5 : ¬ (i = j' ∧ j = i' ∧ x = y' ∧ y = x') := by omega
    have e6 : ¬ (j = j' ∧ i = i' ∧ y = y' ∧ x = x') := by omega
    simp only [if_neg e, if_neg e3, if_neg e4, if_neg e5, if_neg e6]
    exact ⟨e1, e2⟩
end T
open Go Go.Va
namespace T
theorem valI_set {l : List Int} {i w : Nat} {x : Int} (hi : i < l.length) : valI (l.set i x) (w : Int) = if i = w then x else valI l (w : Int) := by
  unfold valI
  rw [Int.toNat_natCast, getD_set_of]
  by_cases e : i = w
  · subst e; simp [hi]
  · simp [e]
def V3 (n i j k x y z : Nat) : List Int := (((List.replicate n (0 : Int)).set i (x : Int)).set j (y : Int)).set k (z : Int)
section
variable {a : Net} {n s : Nat} {t : T4} {u : T3}
def hP (a : Net) (n : Nat) (t : T4) (i j k x y z : Nat) : Bool := r4 t i k x z && r4 t j k y z && satB (insL a [(i : Int), (j : Int), (k : Int)]) (V3 n i j k x y z)
theorem holds_L2 (hN : NetOk a) (ha : a.1 = (n : Int)) (hb : a.2.1 = (s : Int)) (h4 : Ok4 n s t) {i j k x y : Nat} (hi : i < n) (hj : j < n) (hk : k < n) (hx : x < s) (hy : y < s) (hij : i ≠ j) (hik : i ≠ k) (hjk : j ≠ k) :
    ∀ (d z : Nat) (vs : List Int), z + d = s → vs.length = n → valI vs (i : Int) = (x : Int) → valI vs (j : Int) = (y : Int) → ∀ m, d < m →
      ∃ vs', vs'.length = n ∧ (∀ w : Nat, w ≠ k → valI vs' (w : Int) = valI vs (w : Int)) ∧
        impl_pairTable_holds_L2 m (t, insL a [(i : Int), (j : Int), (k : Int)], vs, (i : Int), (j : Int), (k : Int), (a.1, (a.2.1, a.2.2)), (z : Int)) = some (if (List.range' z d).any (hP a n t i j k x y) then .inr (vs', true) else .inl vs') := by
  have hs4 : s ≤ 4 := by have := hN.hn; omega
  intro d
  induction d with
  | zero =>
    intro z vs hz hl _ _ m hm
    obtain ⟨m, rfl⟩ : ∃ q, m = q + 1 := ⟨m - 1, by omega⟩
    refine ⟨vs, hl, fun _ _ => rfl, ?_⟩
    simp only [impl_pairTable_holds_L2, hb]
    rw [if_neg (by simp; omega)]; rfl
  | succ d ih =>
    intro z vs hz hl hvi hvj m hm
    obtain ⟨m, rfl⟩ : ∃ q, m = q + 1 := ⟨m - 1, by omega⟩
    have hzs : z < s := by omega
    have hkl : k < vs.length := by omega
    have hl' : (vs.set k (z : Int)).length = n := by rw [List.length_set]; exact hl
    have wi : valI (vs.set k (z : Int)) (i : Int) = (x : Int) := by rw [valI_set hkl, if_neg (by omega)]; exact hvi
    have wj : valI (vs.set k (z : Int)) (j : Int) = (y : Int) := by rw [valI_set hkl, if_neg (by omega)]; exact hvj
    have wk : valI (vs.set k (z : Int)) (k : Int) = (z : Int) := by rw [valI_set hkl, if_pos rfl]
    have g1 : (vs.set k (z : Int)).getD i 0 = (x : Int) := wi
    have g2 : (vs.set k (z : Int)).getD j 0 = (y : Int) := wj
    obtain ⟨a1, a2, a3, a4⟩ := h4.at hi hk hx
    obtain ⟨b1, b2, b3, b4⟩ := h4.at hj hk hy
    have c1 : z < ((((t.getD i []).getD k []).getD x [])).length := by omega
    have c2 : z < ((((t.getD j []).getD k []).getD y [])).length := by omega
    have d1 : i < (vs.set k (z : Int)).length := by omega
    have d2 : j < (vs.set k (z : Int)).length := by omega
    have e1 : (((t.getD i []).getD k []).getD x []).getD z false = r4 t i k x z := rfl
    have e2 : (((t.getD j []).getD k []).getD y []).getD z false = r4 t j k y z := rfl
    have hsat := impl_satisfies_ok hN (l := insL a [(i : Int), (j : Int), (k : Int)]) (insL_len hN) insL_in (vs := vs.set k (z : Int)) (by rw [hl', ha])
    have hcong : satB (insL a [(i : Int), (j : Int), (k : Int)]) (vs.set k (z : Int)) = satB (insL a [(i : Int), (j : Int), (k : Int)]) (V3 n i j k x y z) := by
      refine satB_congr fun v hv => ?_
      have q1 : i < (List.replicate n (0 : Int)).length := by simpa using hi
      have q2 : j < ((List.replicate n (0 : Int)).set i (x : Int)).length := by simpa using hj
      have q3 : k < (((List.replicate n (0 : Int)).set i (x : Int)).set j (y : Int)).length := by simpa using hk
      simp only [List.mem_cons, List.not_mem_nil, or_false] at hv
      unfold V3
      rcases hv with rfl | rfl | rfl
      · rw [wi, valI_set q3, if_neg (by omega), valI_set q2, if_neg (by omega), valI_set q1, if_pos rfl]
      · rw [wj, valI_set q3, if_neg (by omega), valI_set q2, if_pos rfl]
      · rw [wk, valI_set q3, if_pos rfl]
    rw [hcong] at hsat
    obtain ⟨vs', h1, h2, h3⟩ := ih (z + 1) (vs.set k (z : Int)) (by omega) hl' wi wj m (by omega)
    rw [List.range'_succ, List.any_cons]
    have hkeep : ∀ w : Nat, w ≠ k → valI (vs.set k (z : Int)) (w : Int) = valI vs (w : Int) := fun w hw => by rw [valI_set hkl, if_neg (by omega)]
    simp only [impl_pairTable_holds_L2, hb, inb_nat, gd_D, stt_nat, g1, g2, hkl, a1, a2, a3, b1, b2, b3, c1, c2, d1, d2, e1, e2, hsat, if_true, Option.bind_some, w64_succ (show z < 4611686018427387904 by omega), decide_eq_true (show (z : Int) < (s : Int) by omega)]
    rw [hb] at h3
    have hrec : ∃ vs', vs'.length = n ∧ (∀ w : Nat, w ≠ k → valI vs' (w : Int) = valI vs (w : Int)) ∧
        impl_pairTable_holds_L2 m (t, insL a [(i : Int), (j : Int), (k : Int)], vs.set k (z : Int), (i : Int), (j : Int), (k : Int), (a.1, ((s : Int), a.2.2)), ((z + 1 : Nat) : Int)) = some (if (List.range' (z + 1) d).any (hP a n t i j k x y) then .inr (vs', true) else .inl vs') :=
      ⟨vs', h1, fun w hw => (h2 w hw).trans (hkeep w hw), h3⟩
    have hPz : hP a n t i j k x y z = (r4 t i k x z && r4 t j k y z && satB (insL a [(i : Int), (j : Int), (k : Int)]) (V3 n i j k x y z)) := rfl
    rw [hPz]
    generalize (List.range' (z + 1) d).any (hP a n t i j k x y) = W at hrec ⊢
    cases r4 t i k x z with
    | false => exact hrec
    | true =>
      cases r4 t j k y z with
      | false => exact hrec
      | true =>
        cases satB (insL a [(i : Int), (j : Int), (k : Int)]) (V3 n i j k x y z) with
        | false => exact hrec
        | true => exact ⟨vs.set k (z : Int), hl', hkeep, rfl⟩
theorem impl_holds_ok (hN : NetOk a) (ha : a.1 = (n : Int)) (hb : a.2.1 = (s : Int)) (h4 : Ok4 n s t) {i j k x y : Nat} (hi : i < n) (hj : j < n) (hk : k < n) (hx : x < s) (hy : y < s) (hij : i ≠ j) (hik : i ≠ k) (hjk : j ≠ k)
    {vs : List Int} (hl : vs.length = n) (hvi : valI vs (i : Int) = (x : Int)) (hvj : valI vs (j : Int) = (y : Int)) :
    ∃ vs', vs'.length = n ∧ (∀ w : Nat, w ≠ k → valI vs' (w : Int) = valI vs (w : Int)) ∧
      impl_pairTable_holds t (a.1, (a.2.1, a.2.2)) (insL a [(i : Int), (j : Int), (k : Int)]) vs (i : Int) (j : Int) (k : Int) = some (vs', (List.range' 0 s).any (hP a n t i j k x y)) := by
  have hs4 : s ≤ 4 := by have := hN.hn; omega
  obtain ⟨vs', h1, h2, h3⟩ := holds_L2 hN ha hb h4 hi hj hk hx hy hij hik hjk s 0 vs (by omega) hl hvi hvj fuel (by unfold fuel; omega)
  refine ⟨vs', h1, h2, ?_⟩
  unfold impl_pairTable_holds
  have h3 : impl_pairTable_holds_L2 fuel (t, insL a [(i : Int), (j : Int), (k : Int)], vs, (i : Int), (j : Int), (k : Int), (a.1, (a.2.1, a.2.2)), 0) = _ := h3
  rw [h3]
  cases (List.range' 0 s).any (hP a n t i j k x y) <;> simp
theorem cell_w64 {s x y : Nat} (hs : s ≤ 4) (hx : x < s) (hy : y < s) : w64 (w64 ((x : Int) * (s : Int)) + (y : Int)) = ((x * s + y : Nat) : Int) := by
  have h1 := cell_lt hx hy
  have h2 : s * s ≤ 4 * 4 := Nat.mul_le_mul hs hs
  have e : (x : Int) * (s : Int) = ((x * s : Nat) : Int) := by push_cast; rfl
  rw [e, w64_id (x := ((x * s : Nat) : Int)) (by omega) (by omega), w64_id (by omega) (by omega)]
  push_cast; rfl
theorem cell_div {s x y : Nat} (hs : s ≤ 4) (hx : x < s) (hy : y < s) : w64 (Int.tdiv ((x * s + y : Nat) : Int) (s : Int)) = (x : Int) ∧ Int.tmod ((x * s + y : Nat) : Int) (s : Int) = (y : Int) := by
  have h1 : (x * s + y) / s = x := by rw [Nat.mul_comm, Nat.mul_add_div (by omega), Nat.div_eq_of_lt hy]; omega
  have h2 : (x * s + y) % s = y := by rw [Nat.mul_comm, Nat.mul_add_mod, Nat.mod_eq_of_lt hy]
  constructor
  · rw [Int.tdiv_eq_ediv_of_nonneg (by omega)]
    have : ((x * s + y : Nat) : Int) / (s : Int) = (x : Int) := by rw [← Int.natCast_ediv, h1]
    rw [this, w64_id (by omega) (by omega)]
  · rw [Int.tmod_eq_emod_of_nonneg (by omega), ← Int.natCast_emod, h2]
theorem spec_l20At_ok (hs : s ≤ 4) (hR : Rel34 n s t u) {i k x z : Nat} (hi : i < n) (hk : k < n) (hx : x < s) (hz : z < s) (hik : i ≠ k) : spec_l20At u (s : Int) (i : Int) (x : Int) (k : Int) (z : Int) = some (r4 t i k x z) := by
  unfold spec_l20At
  by_cases h : i < k
  · obtain ⟨h1, h2, h3⟩ := hR.o3.at hi hk
    have hc := cell_lt hx hz
    have h4 : x * s + z < ((u.getD i []).getD k []).length := by omega
    rw [if_pos (by simpa using h), cell_w64 hs hx hz]
    simp only [inb_nat, gd_D, h1, h2, h4, if_true]
    rw [(hR.eq i k x z h hk hx hz).1]; rfl
  · have h : k < i := by omega
    obtain ⟨h1, h2, h3⟩ := hR.o3.at hk hi
    have hc := cell_lt hz hx
    have h4 : z * s + x < ((u.getD k []).getD i []).length := by omega
    rw [if_neg (by simp; omega), cell_w64 hs hz hx]
    simp only [inb_nat, gd_D, h1, h2, h4, if_true]
    rw [(hR.eq k i z x h hi hz hx).2]; rfl
theorem shrink_L10 (hN : NetOk a) (ha : a.1 = (n : Int)) (hb : a.2.1 = (s : Int)) (hR : Rel34 n s t u) {i j k x y : Nat} (hi : i < n) (hj : j < n) (hk : k < n) (hx : x < s) (hy : y < s) (hij : i ≠ j) (hik : i ≠ k) (hjk : j ≠ k) (sm : Bool) :
    ∀ (d z : Nat), z + d = s → ∀ m, d < m →
      spec_l20Shrink_L10 m (u, (i : Int), (j : Int), (k : Int), (a.1, (a.2.1, a.2.2)), (s : Int), insL a [(i : Int), (j : Int), (k : Int)], sm, ((x * s + y : Nat) : Int), false, (z : Int)) =
        some (u, (i : Int), (j : Int), (k : Int), (a.1, (a.2.1, a.2.2)), (s : Int), insL a [(i : Int), (j : Int), (k : Int)], sm, ((x * s + y : Nat) : Int), (List.range' z d).any (hP a n t i j k x y)) := by
  have hs4 : s ≤ 4 := by have := hN.hn; omega
  have hn9 : n ≤ 9 := by have := hN.hv; omega
  intro d
  induction d with
  | zero =>
    intro z hz m hm
    obtain ⟨m, rfl⟩ : ∃ q, m = q + 1 := ⟨m - 1, by omega⟩
    simp only [spec_l20Shrink_L10]
    rw [if_neg (by simp; omega)]; rfl
  | succ d ih =>
    intro z hz m hm
    obtain ⟨m, rfl⟩ : ∃ q, m = q + 1 := ⟨m - 1, by omega⟩
    have hzs : z < s := by omega
    have q1 : i < (List.replicate n (0 : Int)).length := by simpa using hi
    have q2 : j < ((List.replicate n (0 : Int)).set i (x : Int)).length := by simpa using hj
    have q3 : k < (((List.replicate n (0 : Int)).set i (x : Int)).set j (y : Int)).length := by simpa using hk
    have q4 : i < (V3 n i j k x y z).length := by unfold V3; simpa using hi
    have q5 : j < (V3 n i j k x y z).length := by unfold V3; simpa using hj
    have g1 : (V3 n i j k x y z).getD i 0 = (x : Int) := by
      have : valI (V3 n i j k x y z) (i : Int) = (x : Int) := by unfold V3; rw [valI_set q3, if_neg (by omega), valI_set q2, if_neg (by omega), valI_set q1, if_pos rfl]
      exact this
    have g2 : (V3 n i j k x y z).getD j 0 = (y : Int) := by
      have : valI (V3 n i j k x y z) (j : Int) = (y : Int) := by unfold V3; rw [valI_set q3, if_neg (by omega), valI_set q2, if_pos rfl]
      exact this
    have hV : (((List.replicate n (0 : Int)).set i (x : Int)).set j (y : Int)).set k (z : Int) = V3 n i j k x y z := rfl
    obtain ⟨c1, c2⟩ := cell_div hs4 hx hy
    have hat1 := spec_l20At_ok hs4 hR hi hk hx hzs hik
    have hat2 := spec_l20At_ok hs4 hR hj hk hy hzs hjk
    have hhold := spec_l20Hold_ok hN (l := insL a [(i : Int), (j : Int), (k : Int)]) (insL_len hN) insL_in (vs := V3 n i j k x y z) (by unfold V3; simp [ha])
    have hsn : ¬ ((s : Int) = 0) := by omega
    have hlim : 0 ≤ (n : Int) ∧ (n : Int) ≤ (n : Int) ∧ (n : Int) ≤ (lim : Int) := by unfold lim; omega
    have ihz := ih (z + 1) (by omega) m (by omega)
    rw [List.range'_succ, List.any_cons]
    rw [ha] at ihz ⊢
    simp only [spec_l20Shrink_L10, decide_eq_true (show (z : Int) < (s : Int) by omega), if_true, Bool.not_false, hlim, and_self, ne_eq, hsn, not_false_eq_true, Int.toNat_natCast, inb_nat, q1, c1, c2, stt_nat, q2, q3, hV, q4, q5, gd_D, g1, g2, hat1, hat2, hhold, Option.bind_some, w64_succ (show z < 4611686018427387904 by omega)]
    have hend : ∀ (q : Nat), spec_l20Shrink_L10 m (u, (i : Int), (j : Int), (k : Int), ((n : Int), (a.2.1, a.2.2)), (s : Int), insL a [(i : Int), (j : Int), (k : Int)], sm, ((x * s + y : Nat) : Int), true, (q : Int)) =
        some (u, (i : Int), (j : Int), (k : Int), ((n : Int), (a.2.1, a.2.2)), (s : Int), insL a [(i : Int), (j : Int), (k : Int)], sm, ((x * s + y : Nat) : Int), true) := fun q => by
      obtain ⟨m, rfl⟩ : ∃ q, m = q + 1 := ⟨m - 1, by omega⟩
      simp only [spec_l20Shrink_L10]
      cases decide ((q : Int) < (s : Int)) <;> simp
    have hPz : hP a n t i j k x y z = (r4 t i k x z && r4 t j k y z && satB (insL a [(i : Int), (j : Int), (k : Int)]) (V3 n i j k x y z)) := rfl
    rw [hPz]
    generalize (List.range' (z + 1) d).any (hP a n t i j k x y) = W at ihz ⊢
    cases r4 t i k x z with
    | false => exact ihz
    | true =>
      cases r4 t j k y z with
      | false => exact ihz
      | true =>
        cases satB (insL a [(i : Int), (j : Int), (k : Int)]) (V3 n i j k x y z) with
        | false => exact ihz
        | true => exact hend (z + 1)
end
end T
open Go Go.Va
namespace T
section
variable {a : Net} {n s : Nat} {t : T4} {u : T3}
/-- one side's round beside the other's -/
def CInv (n s mu0 : Nat) (c0 : Bool) (q : T4 × List Int × Bool) (r : T3 × Bool) : Prop :=
  Rel34 n s q.1 r.1 ∧ q.2.1.length = n ∧ q.2.2 = (c0 || r.2) ∧ r.2 = decide (mu3 r.1 < mu0) ∧ mu3 r.1 ≤ mu0
theorem cell_of {s p : Nat} (hp : p < s * s) : ∃ x y, p = x * s + y ∧ x < s ∧ y < s := by
  have hs : 0 < s := Nat.pos_of_ne_zero fun e => by subst e; simp at hp
  exact ⟨p / s, p % s, by rw [Nat.mul_comm]; exact (Nat.div_add_mod p s).symm, Nat.div_lt_of_lt_mul hp, Nat.mod_lt _ hs⟩
theorem shrink_sim (hN : NetOk a) (ha : a.1 = (n : Int)) (hb : a.2.1 = (s : Int)) {i j k : Nat} (hij : i < j) (hj : j < n) (hk : k < n) (hik : i ≠ k) (hjk : j ≠ k) (t18 t19 t31 t32 : Int) {mu0 : Nat} {c0 : Bool} {q : T4 × List Int × Bool} {r : T3 × Bool} (h : CInv n s mu0 c0 q r) :
    ∃ q' r', CInv n s mu0 c0 q' r' ∧
      impl_minimalPairs_L18 fuel ((a.1, (a.2.1, a.2.2)), q.1, q.2.1, q.2.2, (i : Int), (j : Int), (k : Int), insL a [(i : Int), (j : Int), (k : Int)], 0, t18, t19, t31, t32) = some ((a.1, (a.2.1, a.2.2)), q'.1, q'.2.1, q'.2.2, (i : Int), (j : Int), t18, t19, t31, t32) ∧
      spec_l20Shrink_L5 fuel (r.1, (i : Int), (j : Int), (k : Int), (a.1, (a.2.1, a.2.2)), (s : Int), insL a [(i : Int), (j : Int), (k : Int)], r.2, 0) = some (r'.1, r'.2) := by
  have hs4 : s ≤ 4 := by have := hN.hn; omega
  have hs0 : 0 < s := by have := hN.hn; omega
  have hss : s * s ≤ 4 * 4 := Nat.mul_le_mul hs4 hs4
  have hi : i < n := by omega
  have ess : w64 ((s : Int) * (s : Int)) = ((s * s : Nat) : Int) := by
    have e : (s : Int) * (s : Int) = ((s * s : Nat) : Int) := by push_cast; rfl
    rw [e, w64_id (by omega) (by omega)]
  have hsn : ¬ ((s : Int) = 0) := by omega
  refine forR (s * s) (fun m (q : T4 × List Int × Bool) p => impl_minimalPairs_L18 m ((a.1, (a.2.1, a.2.2)), q.1, q.2.1, q.2.2, (i : Int), (j : Int), (k : Int), insL a [(i : Int), (j : Int), (k : Int)], p, t18, t19, t31, t32))
    (fun m (r : T3 × Bool) p => spec_l20Shrink_L5 m (r.1, (i : Int), (j : Int), (k : Int), (a.1, (a.2.1, a.2.2)), (s : Int), insL a [(i : Int), (j : Int), (k : Int)], r.2, p))
    (fun _ q r => CInv n s mu0 c0 q r) (fun q' => some ((a.1, (a.2.1, a.2.2)), q'.1, q'.2.1, q'.2.2, (i : Int), (j : Int), t18, t19, t31, t32)) (fun r' => some (r'.1, r'.2))
    ?_ ?_ ?_ (s * s) 0 fuel fuel q r (by omega) (by unfold fuel; omega) (by unfold fuel; omega) h
  · rintro p ⟨t, vs, c⟩ ⟨u, sm⟩ hp ⟨hR, hl, hc, hsm, hmu⟩
    dsimp only at hR hl hc hsm hmu ⊢
    obtain ⟨x, y, rfl, hx, hy⟩ := cell_of hp
    obtain ⟨w1, w2⟩ := cell_div hs4 hx hy
    obtain ⟨a1, a2, a3, a4⟩ := hR.o4.at hi hj hx
    obtain ⟨b1, b2, b3⟩ := hR.o3.at hi hj
    obtain ⟨e1, e2⟩ := hR.eq i j x y hij hj hx hy
    have d1 : i < vs.length := by omega
    have d2 : j < (vs.set i (x : Int)).length := by simp; omega
    have hl2 : ((vs.set i (x : Int)).set j (y : Int)).length = n := by simpa using hl
    have v1 : valI ((vs.set i (x : Int)).set j (y : Int)) (i : Int) = (x : Int) := by rw [valI_set d2, if_neg (by omega), valI_set d1, if_pos rfl]
    have v2 : valI ((vs.set i (x : Int)).set j (y : Int)) (j : Int) = (y : Int) := by rw [valI_set d2, if_pos rfl]
    have g1 : ((vs.set i (x : Int)).set j (y : Int)).getD i 0 = (x : Int) := v1
    have g2 : ((vs.set i (x : Int)).set j (y : Int)).getD j 0 = (y : Int) := v2
    have d3 : i < ((vs.set i (x : Int)).set j (y : Int)).length := by omega
    have d4 : j < ((vs.set i (x : Int)).set j (y : Int)).length := by omega
    have a5 : y < (((t.getD i []).getD j []).getD x []).length := by omega
    have b4 : x * s + y < ((u.getD i []).getD j []).length := by omega
    have f1 : (((t.getD i []).getD j []).getD x []).getD y false = r4 t i j x y := rfl
    have f2 : ((u.getD i []).getD j []).getD (x * s + y) false = r3 u i j (x * s + y) := rfl
    obtain ⟨vs', l1, l2, l3⟩ := impl_holds_ok hN ha hb hR.o4 hi hj hk hx hy (by omega) hik hjk hl2 v1 v2
    have l10 := fun m hm => shrink_L10 hN ha hb hR hi hj hk hx hy (by omega) hik hjk sm s 0 (by omega) m hm
    have l10 := l10 fuel (by unfold fuel; omega)
    have l10 : spec_l20Shrink_L10 fuel (u, (i : Int), (j : Int), (k : Int), (a.1, (a.2.1, a.2.2)), (s : Int), insL a [(i : Int), (j : Int), (k : Int)], sm, ((x * s + y : Nat) : Int), false, 0) = _ := l10
    have k1 : vs'.getD i 0 = (x : Int) := (l2 i hik).trans v1
    have k2 : vs'.getD j 0 = (y : Int) := (l2 j hjk).trans v2
    have k3 : i < vs'.length := by omega
    have k4 : j < vs'.length := by omega
    have hp' : ((x * s + y : Nat) : Int) < ((s * s : Nat) : Int) := by omega
    have hq : x * s + y < 4611686018427387904 := by omega
    rw [hb] at l3 l10
    cases hcell : r4 t i j x y with
    | false =>
      refine ⟨(t, (vs.set i (x : Int)).set j (y : Int), c), (u, sm), ⟨hR, hl2, hc, hsm, hmu⟩, fun m => ?_, fun m => ?_⟩
      · simp only [impl_minimalPairs_L18, hb, ess, decide_eq_true hp', ne_eq, hsn, not_false_eq_true, if_true, w1, w2, inb_nat, gd_D, stt_nat, d1, d2, d3, d4, g1, g2, a1, a2, a3, a5, f1, hcell, Bool.false_eq_true, if_false, w64_succ hq]
      · have e1' : r3 u i j (x * s + y) = false := by rw [← e1]; exact hcell
        simp only [spec_l20Shrink_L5, ess, decide_eq_true hp', if_true, inb_nat, gd_D, b1, b2, b4, f2, e1', Bool.not_false, w64_succ hq]
    | true =>
      have e1' : r3 u i j (x * s + y) = true := by rw [← e1]; exact hcell
      cases hP : (List.range' 0 s).any (hP a n t i j k x y) with
      | true =>
        rw [hP] at l3 l10
        refine ⟨(t, vs', c), (u, sm), ⟨hR, l1, hc, hsm, hmu⟩, fun m => ?_, fun m => ?_⟩
        · simp only [impl_minimalPairs_L18, hb, ess, decide_eq_true hp', ne_eq, hsn, not_false_eq_true, if_true, w1, w2, inb_nat, gd_D, stt_nat, d1, d2, d3, d4, g1, g2, a1, a2, a3, a5, f1, hcell, l3, Option.bind_some, Bool.not_true, Bool.false_eq_true, if_false, w64_succ hq]
        · simp only [spec_l20Shrink_L5, hb, ess, decide_eq_true hp', if_true, inb_nat, gd_D, b1, b2, b4, f2, e1', Bool.not_true, Bool.false_eq_true, if_false, l10, Option.bind_some, w64_succ hq]
      | false =>
        rw [hP] at l3 l10
        have hR' := hR.drop hij hj hx hy
        have hmu' := mu3_set e1'
        refine ⟨(s4 (s4 t i j x y false) j i y x false, vs', true), (s3 u i j (x * s + y) false, true), ⟨hR', l1, by simp, ?_, by dsimp only; omega⟩, fun m => ?_, fun m => ?_⟩
        · dsimp only; rw [decide_eq_true (by omega)]
        · have hs4' := s4_ok hR.o4 (i := i) (j := j) (x := x) (y := y) (b := false)
          obtain ⟨m1, m2, m3, m4⟩ := hs4'.at hj hi hy
          have m5 : x < ((((s4 t i j x y false).getD j []).getD i []).getD y []).length := by omega
          have es : t.set i ((t.getD i []).set j (((t.getD i []).getD j []).set x ((((t.getD i []).getD j []).getD x []).set y false))) = s4 t i j x y false := rfl
          have es2 : (s4 t i j x y false).set j (((s4 t i j x y false).getD j []).set i ((((s4 t i j x y false).getD j []).getD i []).set y (((((s4 t i j x y false).getD j []).getD i []).getD y []).set x false))) = s4 (s4 t i j x y false) j i y x false := rfl
          simp only [impl_minimalPairs_L18, hb, ess, decide_eq_true hp', ne_eq, hsn, not_false_eq_true, if_true, w1, w2, inb_nat, gd_D, stt_nat, d1, d2, d3, d4, g1, g2, a1, a2, a3, a5, f1, hcell, l3, Option.bind_some, Bool.not_false, k1, k2, k3, k4, es, m1, m2, m3, m5, es2, w64_succ hq]
        · have es3 : u.set i ((u.getD i []).set j (((u.getD i []).getD j []).set (x * s + y) false)) = s3 u i j (x * s + y) false := rfl
          simp only [spec_l20Shrink_L5, hb, ess, decide_eq_true hp', if_true, inb_nat, gd_D, b1, b2, b4, f2, e1', Bool.not_true, Bool.false_eq_true, if_false, l10, Option.bind_some, Bool.not_false, stt_nat, es3, w64_succ hq]
  · rintro m ⟨t, vs, c⟩ ⟨u, sm⟩ _
    simp only [impl_minimalPairs_L18, hb, ess]
    rw [if_neg (by simp)]
  · rintro m ⟨t, vs, c⟩ ⟨u, sm⟩ _
    simp only [spec_l20Shrink_L5, ess]
    rw [if_neg (by simp)]
end
end T
open Go Go.Va
namespace T
section
variable {a : Net} {n s : Nat} {t : T4} {u : T3}
def DInv (n s mu0 : Nat) (q : T4 × List Int × Bool) (r : T3 × Bool) : Prop :=
  Rel34 n s q.1 r.1 ∧ q.2.1.length = n ∧ q.2.2 = r.2 ∧ r.2 = decide (mu3 r.1 < mu0) ∧ mu3 r.1 ≤ mu0
theorem third_sim (hN : NetOk a) (ha : a.1 = (n : Int)) (hb : a.2.1 = (s : Int)) {i j : Nat} (hij : i < j) (hj : j < n) (t18 t19 : Int) {mu0 : Nat} {q : T4 × List Int × Bool} {r : T3 × Bool} (h : DInv n s mu0 q r) :
    ∃ q' r', DInv n s mu0 q' r' ∧
      impl_minimalPairs_L13 fuel ((a.1, (a.2.1, a.2.2)), q.1, q.2.1, q.2.2, (i : Int), (j : Int), t18, t19, (n : Int), 0) = some ((a.1, (a.2.1, a.2.2)), q'.1, q'.2.1, q'.2.2, (i : Int), (j : Int), t18, t19) ∧
      spec_l20Pairs_L31 fuel ((a.1, (a.2.1, a.2.2)), (n : Int), r.1, r.2, (i : Int), (j : Int), 0) = some ((a.1, (a.2.1, a.2.2)), (n : Int), r'.1, r'.2, (i : Int), (j : Int)) := by
  have hn9 : n ≤ 9 := by have := hN.hv; omega
  refine forR n (fun m (q : T4 × List Int × Bool) p => impl_minimalPairs_L13 m ((a.1, (a.2.1, a.2.2)), q.1, q.2.1, q.2.2, (i : Int), (j : Int), t18, t19, (n : Int), p))
    (fun m (r : T3 × Bool) p => spec_l20Pairs_L31 m ((a.1, (a.2.1, a.2.2)), (n : Int), r.1, r.2, (i : Int), (j : Int), p))
    (fun _ q r => DInv n s mu0 q r) (fun q' => some ((a.1, (a.2.1, a.2.2)), q'.1, q'.2.1, q'.2.2, (i : Int), (j : Int), t18, t19)) (fun r' => some ((a.1, (a.2.1, a.2.2)), (n : Int), r'.1, r'.2, (i : Int), (j : Int)))
    ?_ ?_ ?_ n 0 fuel fuel q r (by omega) (by unfold fuel; omega) (by unfold fuel; omega) h
  · rintro k ⟨t, vs, c⟩ ⟨u, g⟩ hk ⟨hR, hl, hc, hg, hmu⟩
    dsimp only at hR hl hc hg hmu ⊢
    have hk' : (k : Int) < (n : Int) := by omega
    have hq : k < 4611686018427387904 := by omega
    by_cases e1 : k = i
    · refine ⟨(t, vs, c), (u, g), ⟨hR, hl, hc, hg, hmu⟩, fun m => ?_, fun m => ?_⟩
      · simp only [impl_minimalPairs_L13, decide_eq_true hk', if_true, w64_succ hq, show ((k : Int) == (i : Int)) = true by simp [e1]]
      · simp only [spec_l20Pairs_L31, decide_eq_true hk', if_true, w64_succ hq, show ((k : Int) != (i : Int)) = false by simp [e1], Bool.false_eq_true, if_false]
    by_cases e2 : k = j
    · refine ⟨(t, vs, c), (u, g), ⟨hR, hl, hc, hg, hmu⟩, fun m => ?_, fun m => ?_⟩
      · simp only [impl_minimalPairs_L13, decide_eq_true hk', if_true, w64_succ hq, show ((k : Int) == (i : Int)) = false by simp; omega, show ((k : Int) == (j : Int)) = true by simp [e2], Bool.false_eq_true, if_false]
      · simp only [spec_l20Pairs_L31, decide_eq_true hk', if_true, w64_succ hq, show ((k : Int) != (i : Int)) = true by simp; omega, show ((k : Int) != (j : Int)) = false by simp [e2], Bool.false_eq_true, if_false]
    · -- the pairs are held against a third variable
      obtain ⟨⟨t', vs', c'⟩, ⟨u', sm⟩, ⟨hR', hl', hc', hsm, hmu'⟩, h1, h2⟩ := shrink_sim hN ha hb hij hj hk (by omega) (by omega) t18 t19 (n : Int) (k : Int) (mu0 := mu3 u) (c0 := c) (q := (t, vs, c)) (r := (u, false)) ⟨hR, hl, by simp, by simp, Nat.le_refl _⟩
      dsimp only at hR' hl' hc' hsm hmu' h1 h2
      have hw := impl_within_ok hN (vars := [(i : Int), (j : Int), (k : Int)]) (by simp)
      have hw2 := spec_l20Inside_ok hN (vars := [(i : Int), (j : Int), (k : Int)]) (by simp)
      have hshr : spec_l20Shrink (a.1, (a.2.1, a.2.2)) u (i : Int) (j : Int) (k : Int) = some (u', sm) := by
        unfold spec_l20Shrink
        dsimp only
        rw [hw2, Option.bind_some]
        rw [← hb] at h2
        rw [h2]; rfl
      have hgg : (if sm = true then true else g) = decide (mu3 u' < mu0) := by
        cases sm with
        | true => have := of_decide_eq_true hsm.symm; rw [if_pos rfl, decide_eq_true (by omega)]
        | false =>
          have := of_decide_eq_false hsm.symm
          have e : mu3 u' = mu3 u := by omega
          rw [if_neg (by simp), hg, e]
      refine ⟨(t', vs', c'), (u', if sm = true then true else g), ⟨hR', hl', ?_, hgg, by dsimp only; omega⟩, fun m => ?_, fun m => ?_⟩
      · dsimp only; rw [hc', hc]; cases sm <;> simp
      · simp only [impl_minimalPairs_L13, decide_eq_true hk', if_true, w64_succ hq, show ((k : Int) == (i : Int)) = false by simp; omega, show ((k : Int) == (j : Int)) = false by simp; omega, Bool.false_eq_true, if_false, hw, h1, Option.bind_some]
      · simp only [spec_l20Pairs_L31, decide_eq_true hk', if_true, w64_succ hq, show ((k : Int) != (i : Int)) = true by simp; omega, show ((k : Int) != (j : Int)) = true by simp; omega, hshr, Option.bind_some]
        cases sm <;> simp
  · rintro m ⟨t, vs, c⟩ ⟨u, g⟩ _
    simp only [impl_minimalPairs_L13]
    rw [if_neg (by simp)]
  · rintro m ⟨t, vs, c⟩ ⟨u, g⟩ _
    simp only [spec_l20Pairs_L31]
    rw [if_neg (by simp)]
theorem second_sim (hN : NetOk a) (ha : a.1 = (n : Int)) (hb : a.2.1 = (s : Int)) {i : Nat} (hi : i < n) (t18 t19 : Int) {mu0 : Nat} {q : T4 × List Int × Bool} {r : T3 × Bool} (h : DInv n s mu0 q r) :
    ∃ q' r', DInv n s mu0 q' r' ∧
      impl_minimalPairs_L10 fuel ((a.1, (a.2.1, a.2.2)), q.1, q.2.1, q.2.2, (i : Int), ((i + 1 : Nat) : Int), t18, t19) = some ((a.1, (a.2.1, a.2.2)), q'.1, q'.2.1, q'.2.2, t18, t19) ∧
      spec_l20Pairs_L28 fuel ((a.1, (a.2.1, a.2.2)), (n : Int), r.1, r.2, (i : Int), ((i + 1 : Nat) : Int)) = some ((a.1, (a.2.1, a.2.2)), (n : Int), r'.1, r'.2, (i : Int)) := by
  have hn9 : n ≤ 9 := by have := hN.hv; omega
  have key := forR n (fun m (q : T4 × List Int × Bool) p => impl_minimalPairs_L10 m ((a.1, (a.2.1, a.2.2)), q.1, q.2.1, q.2.2, (i : Int), p, t18, t19))
    (fun m (r : T3 × Bool) p => spec_l20Pairs_L28 m ((a.1, (a.2.1, a.2.2)), (n : Int), r.1, r.2, (i : Int), p))
    (fun k q r => i < k ∧ DInv n s mu0 q r) (fun q' => some ((a.1, (a.2.1, a.2.2)), q'.1, q'.2.1, q'.2.2, t18, t19)) (fun r' => some ((a.1, (a.2.1, a.2.2)), (n : Int), r'.1, r'.2, (i : Int)))
    ?_ ?_ ?_ (n - (i + 1)) (i + 1) fuel fuel q r (by omega) (by unfold fuel; omega) (by unfold fuel; omega) ⟨by omega, h⟩
  · obtain ⟨q', r', hI, h1, h2⟩ := key
    exact ⟨q', r', hI.2, h1, h2⟩
  · rintro j ⟨t, vs, c⟩ ⟨u, g⟩ hj ⟨hij, hD⟩
    obtain ⟨q', r', hD', h1, h2⟩ := third_sim hN ha hb hij hj t18 t19 hD
    have hlen : ((t.length : Nat) : Int) = (n : Int) := by have := hD.1.o4.1; dsimp only at this; omega
    have hj' : (j : Int) < (n : Int) := by omega
    have hq : j < 4611686018427387904 := by omega
    refine ⟨q', r', ⟨by omega, hD'⟩, fun m => ?_, fun m => ?_⟩
    · dsimp only at h1 ⊢
      simp only [impl_minimalPairs_L10, ha, decide_eq_true hj', if_true, hlen]
      rw [ha] at h1
      rw [h1]
      simp only [Option.bind_some, w64_succ hq]
    · dsimp only at h2 ⊢
      simp only [spec_l20Pairs_L28, decide_eq_true hj', if_true, h2, Option.bind_some, w64_succ hq]
  · rintro m ⟨t, vs, c⟩ ⟨u, g⟩ _
    simp only [impl_minimalPairs_L10, ha]
    rw [if_neg (by simp)]
  · rintro m ⟨t, vs, c⟩ ⟨u, g⟩ _
    simp only [spec_l20Pairs_L28]
    rw [if_neg (by simp)]
theorem first_sim (hN : NetOk a) (ha : a.1 = (n : Int)) (hb : a.2.1 = (s : Int)) {mu0 : Nat} {q : T4 × List Int × Bool} {r : T3 × Bool} (h : DInv n s mu0 q r) :
    ∃ q' r', DInv n s mu0 q' r' ∧
      impl_minimalPairs_L7 fuel ((a.1, (a.2.1, a.2.2)), q.1, q.2.1, q.2.2, (n : Int), 0) = some ((a.1, (a.2.1, a.2.2)), q'.1, q'.2.1, q'.2.2) ∧
      spec_l20Pairs_L25 fuel ((a.1, (a.2.1, a.2.2)), (n : Int), r.1, r.2, 0) = some ((a.1, (a.2.1, a.2.2)), (n : Int), r'.1, r'.2) := by
  have hn9 : n ≤ 9 := by have := hN.hv; omega
  refine forR n (fun m (q : T4 × List Int × Bool) p => impl_minimalPairs_L7 m ((a.1, (a.2.1, a.2.2)), q.1, q.2.1, q.2.2, (n : Int), p))
    (fun m (r : T3 × Bool) p => spec_l20Pairs_L25 m ((a.1, (a.2.1, a.2.2)), (n : Int), r.1, r.2, p))
    (fun _ q r => DInv n s mu0 q r) (fun q' => some ((a.1, (a.2.1, a.2.2)), q'.1, q'.2.1, q'.2.2)) (fun r' => some ((a.1, (a.2.1, a.2.2)), (n : Int), r'.1, r'.2))
    ?_ ?_ ?_ n 0 fuel fuel q r (by omega) (by unfold fuel; omega) (by unfold fuel; omega) h
  · rintro i ⟨t, vs, c⟩ ⟨u, g⟩ hi hD
    obtain ⟨q', r', hD', h1, h2⟩ := second_sim hN ha hb hi (n : Int) (i : Int) hD
    have hi' : (i : Int) < (n : Int) := by omega
    have hq : i < 4611686018427387904 := by omega
    refine ⟨q', r', hD', fun m => ?_, fun m => ?_⟩
    · dsimp only at h1 ⊢
      simp only [impl_minimalPairs_L7, decide_eq_true hi', if_true, w64_succ hq, h1, Option.bind_some]
    · dsimp only at h2 ⊢
      simp only [spec_l20Pairs_L25, decide_eq_true hi', if_true, w64_succ hq, h2, Option.bind_some]
  · rintro m ⟨t, vs, c⟩ ⟨u, g⟩ _
    simp only [impl_minimalPairs_L7]
    rw [if_neg (by simp)]
  · rintro m ⟨t, vs, c⟩ ⟨u, g⟩ _
    simp only [spec_l20Pairs_L25]
    rw [if_neg (by simp)]
theorem again_sim (hN : NetOk a) (ha : a.1 = (n : Int)) (hb : a.2.1 = (s : Int)) : ∀ (K : Nat) (t : T4) (vs : List Int) (u : T3), Rel34 n s t u → vs.length = n → mu3 u < K → ∀ m m', K < m → K < m' →
    ∃ t' u', Rel34 n s t' u' ∧ impl_minimalPairs_L4 m ((a.1, (a.2.1, a.2.2)), t, vs, true) = some t' ∧ spec_l20Pairs_L22 m' ((a.1, (a.2.1, a.2.2)), (n : Int), u, true) = some u' := by
  intro K
  induction K with
  | zero => intro t vs u _ _ h; omega
  | succ K ih =>
    intro t vs u hR hl hmu m m' hm hm'
    obtain ⟨m, rfl⟩ : ∃ q, m = q + 1 := ⟨m - 1, by omega⟩
    obtain ⟨m', rfl⟩ : ∃ q, m' = q + 1 := ⟨m' - 1, by omega⟩
    obtain ⟨⟨t', vs', c'⟩, ⟨u', g⟩, ⟨hR', hl', hc, hg, hmu'⟩, h1, h2⟩ := first_sim hN ha hb (mu0 := mu3 u) (q := (t, vs, false)) (r := (u, false)) ⟨hR, hl, rfl, by simp, Nat.le_refl _⟩
    dsimp only at hR' hl' hc hg hmu' h1 h2
    have hlen : ((t.length : Nat) : Int) = (n : Int) := by have := hR.o4.1; omega
    subst hc
    simp only [impl_minimalPairs_L4, spec_l20Pairs_L22, if_true, hlen, h1, h2, Option.bind_some]
    cases c' with
    | true =>
      have := of_decide_eq_true hg.symm
      exact ih t' vs' u' hR' hl' (by omega) m m' (by omega) (by omega)
    | false =>
      obtain ⟨m, rfl⟩ : ∃ q, m = q + 1 := ⟨m - 1, by omega⟩
      obtain ⟨m', rfl⟩ : ∃ q, m' = q + 1 := ⟨m' - 1, by omega⟩
      exact ⟨t', u', hR', by simp [impl_minimalPairs_L4], by simp [spec_l20Pairs_L22]⟩
end
end T
open Go Go.Va
namespace T
section
variable {a : Net} {n s : Nat} {t : T4} {u : T3}
def V2 (n i j x y : Nat) : List Int := ((List.replicate n (0 : Int)).set i (x : Int)).set j (y : Int)
/-- a pair satisfies the constraints of its two variables -/
def fB (a : Net) (n i j x y : Nat) : Bool := satB (insL a [(i : Int), (j : Int)]) (V2 n i j x y)
def cells0 (a : Net) (n s i j : Nat) : List Bool := (List.range (s * s)).map fun p => decide (i < j) && fB a n i j (p / s) (p % s)
def first3 (a : Net) (n s : Nat) : T3 := (List.range n).map fun i => (List.range n).map (cells0 a n s i)
theorem div_w64 {s p : Nat} (hs : s ≤ 4) (hp : p < s * s) : w64 (Int.tdiv (p : Int) (s : Int)) = ((p / s : Nat) : Int) ∧ Int.tmod (p : Int) (s : Int) = ((p % s : Nat) : Int) := by
  obtain ⟨x, y, rfl, hx, hy⟩ := cell_of hp
  obtain ⟨h1, h2⟩ := cell_div hs hx hy
  rw [h1, h2]
  have e1 : (x * s + y) / s = x := by rw [Nat.mul_comm, Nat.mul_add_div (by omega), Nat.div_eq_of_lt hy]; omega
  have e2 : (x * s + y) % s = y := by rw [Nat.mul_comm, Nat.mul_add_mod, Nat.mod_eq_of_lt hy]
  rw [e1, e2]; exact ⟨rfl, rfl⟩
theorem cells_L13 (hN : NetOk a) (ha : a.1 = (n : Int)) (hb : a.2.1 = (s : Int)) {i j : Nat} (hi : i < n) (hj : j < n) (there row : List (List (List Bool))) (row' : List (List Bool)) :
    spec_l20Pairs_L13 fuel ((a.1, (a.2.1, a.2.2)), (n : Int), (s : Int), there, (i : Int), row', (j : Int), List.replicate (Int.toNat (w64 ((s : Int) * (s : Int)))) (false : Bool), insL a [(i : Int), (j : Int)], 0) =
      some ((a.1, (a.2.1, a.2.2)), (n : Int), (s : Int), there, (i : Int), row', (j : Int), cells0 a n s i j) := by
  have hn9 : n ≤ 9 := by have := hN.hv; omega
  have hs4 : s ≤ 4 := by have := hN.hn; omega
  have hs0 : 0 < s := by have := hN.hn; omega
  have hss : s * s ≤ 4 * 4 := Nat.mul_le_mul hs4 hs4
  have ess : w64 ((s : Int) * (s : Int)) = ((s * s : Nat) : Int) := by
    have e : (s : Int) * (s : Int) = ((s * s : Nat) : Int) := by push_cast; rfl
    rw [e, w64_id (by omega) (by omega)]
  have hsn : ¬ ((s : Int) = 0) := by omega
  rw [ess, Int.toNat_natCast]
  by_cases hij : i < j
  · have := fillX0 (List.range (s * s)) (fun m o p => spec_l20Pairs_L13 m ((a.1, (a.2.1, a.2.2)), (n : Int), (s : Int), there, (i : Int), row', (j : Int), o, insL a [(i : Int), (j : Int)], p))
      (fun p => fB a n i j (p / s) (p % s)) (fun o => some ((a.1, (a.2.1, a.2.2)), (n : Int), (s : Int), there, (i : Int), row', (j : Int), o)) (fun m o p hp hlo => ?_) (fun m o hlo => ?_) (n := fuel) (out := List.replicate (s * s) false) (by simp) (by unfold fuel; simp; omega)
    · have e : cells0 a n s i j = (List.range (s * s)).map fun p => fB a n i j (p / s) (p % s) := by
        unfold cells0; simp [hij]
      rw [e]; exact this
    · rw [List.length_range] at hp hlo
      have hpo : p < o.length := by omega
      have hij' : (i : Int) < (j : Int) := by omega
      have hp' : (p : Int) < ((s * s : Nat) : Int) := by omega
      obtain ⟨w1, w2⟩ := div_w64 hs4 hp
      have hlim : 0 ≤ (n : Int) ∧ (n : Int) ≤ (n : Int) ∧ (n : Int) ≤ (lim : Int) := by unfold lim; omega
      have q1 : i < (List.replicate n (0 : Int)).length := by simpa using hi
      have q2 : j < ((List.replicate n (0 : Int)).set i ((p / s : Nat) : Int)).length := by simpa using hj
      have hV : ((List.replicate n (0 : Int)).set i ((p / s : Nat) : Int)).set j ((p % s : Nat) : Int) = V2 n i j (p / s) (p % s) := rfl
      have hh := spec_l20Hold_ok hN (l := insL a [(i : Int), (j : Int)]) (insL_len hN) insL_in (vs := V2 n i j (p / s) (p % s)) (by unfold V2; simp [ha])
      have e0 : satB (insL a [(i : Int), (j : Int)]) (V2 n i j (p / s) (p % s)) = fB a n i j (p / s) (p % s) := rfl
      simp only [spec_l20Pairs_L13, ess, decide_eq_true hp', decide_eq_true hij', if_true, hlim, and_self, ne_eq, hsn, not_false_eq_true, Int.toNat_natCast, inb_nat, q1, w1, w2, stt_nat, q2, hV, hh, e0, Option.bind_some, hpo, List.getElem_range, w64_succ (show p < 4611686018427387904 by omega)]
    · simp only [spec_l20Pairs_L13, ess, List.length_range]
      rw [if_neg (by simp)]
  · have hij' : ¬ (i : Int) < (j : Int) := by omega
    have e : List.replicate (s * s) false = cells0 a n s i j := by
      unfold cells0
      simp only [decide_eq_false hij, Bool.false_and]
      rw [List.map_const', List.length_range]
    obtain ⟨f, hf⟩ : ∃ f, fuel = f + 1 := ⟨fuel - 1, rfl⟩
    rw [hf]
    simp only [spec_l20Pairs_L13, ess, decide_eq_false hij', Bool.false_eq_true, if_false, e]
    cases decide ((0 : Int) < ((s * s : Nat) : Int)) <;> simp
theorem first_L8 (hN : NetOk a) (ha : a.1 = (n : Int)) (hb : a.2.1 = (s : Int)) {i : Nat} (hi : i < n) (there : T3) :
    spec_l20Pairs_L8 fuel ((a.1, (a.2.1, a.2.2)), (n : Int), (s : Int), there, (i : Int), [], 0) = some ((a.1, (a.2.1, a.2.2)), (n : Int), (s : Int), there, (i : Int), (List.range n).map (cells0 a n s i)) := by
  have hn9 : n ≤ 9 := by have := hN.hv; omega
  have hs4 : s ≤ 4 := by have := hN.hn; omega
  have hss : s * s ≤ 4 * 4 := Nat.mul_le_mul hs4 hs4
  have ess : w64 ((s : Int) * (s : Int)) = ((s * s : Nat) : Int) := by
    have e : (s : Int) * (s : Int) = ((s * s : Nat) : Int) := by push_cast; rfl
    rw [e, w64_id (by omega) (by omega)]
  have := forS n (fun m o p => spec_l20Pairs_L8 m ((a.1, (a.2.1, a.2.2)), (n : Int), (s : Int), there, (i : Int), o, p)) (fun k => (List.range k).map (cells0 a n s i))
    (r := some ((a.1, (a.2.1, a.2.2)), (n : Int), (s : Int), there, (i : Int), (List.range n).map (cells0 a n s i))) (fun m j hj => ?_) (fun m => ?_) (n := fuel) (by unfold fuel; omega)
  · exact this
  · have key := cells_L13 hN ha hb hi hj there [] ((List.range j).map (cells0 a n s i))
    have hw := spec_l20Inside_ok hN (vars := [(i : Int), (j : Int)]) (by simp)
    have hj' : (j : Int) < (n : Int) := by omega
    have hlim : 0 ≤ w64 ((s : Int) * (s : Int)) ∧ w64 ((s : Int) * (s : Int)) ≤ w64 ((s : Int) * (s : Int)) ∧ w64 ((s : Int) * (s : Int)) ≤ (lim : Int) := by rw [ess]; unfold lim; omega
    rw [List.range_succ, List.map_append]
    simp only [spec_l20Pairs_L8, decide_eq_true hj', if_true, hlim, and_self, hw, key, Option.bind_some, w64_succ (show j < 4611686018427387904 by omega)]
    rw [if_pos (by unfold lim; simp; omega)]; rfl
  · simp only [spec_l20Pairs_L8]
    rw [if_neg (by simp)]
theorem first_L4 (hN : NetOk a) (ha : a.1 = (n : Int)) (hb : a.2.1 = (s : Int)) :
    spec_l20Pairs_L4 fuel ((a.1, (a.2.1, a.2.2)), (n : Int), (s : Int), [], 0) = some ((a.1, (a.2.1, a.2.2)), (n : Int), first3 a n s) := by
  have hn9 : n ≤ 9 := by have := hN.hv; omega
  have := forS n (fun m o p => spec_l20Pairs_L4 m ((a.1, (a.2.1, a.2.2)), (n : Int), (s : Int), o, p)) (fun k => (List.range k).map fun i => (List.range n).map (cells0 a n s i))
    (r := some ((a.1, (a.2.1, a.2.2)), (n : Int), first3 a n s)) (fun m i hi => ?_) (fun m => ?_) (n := fuel) (by unfold fuel; omega)
  · exact this
  · have hi' : (i : Int) < (n : Int) := by omega
    rw [List.range_succ, List.map_append]
    simp only [spec_l20Pairs_L4, decide_eq_true hi', if_true, first_L8 hN ha hb hi, Option.bind_some, w64_succ (show i < 4611686018427387904 by omega)]
    rw [if_pos (by unfold lim; simp; omega)]; rfl
  · simp only [spec_l20Pairs_L4]
    rw [if_neg (by simp)]; rfl
theorem first3_ok : Ok3 n (s * s) (first3 a n s) := by
  unfold first3
  refine ⟨by simp, fun i hi => ?_⟩
  rw [getD_of (by simpa using hi)]
  simp only [List.getElem_map, List.getElem_range]
  refine ⟨by simp, fun j hj => ?_⟩
  rw [getD_of (by simpa using hj)]
  simp [cells0]
theorem first3_r3 {i j x y : Nat} (hij : i < j) (hj : j < n) (hx : x < s) (hy : y < s) : r3 (first3 a n s) i j (x * s + y) = fB a n i j x y := by
  have hi : i < n := by omega
  have hp := cell_lt hx hy
  have e1 : (x * s + y) / s = x := by rw [Nat.mul_comm, Nat.mul_add_div (by omega), Nat.div_eq_of_lt hy]; omega
  have e2 : (x * s + y) % s = y := by rw [Nat.mul_comm, Nat.mul_add_mod, Nat.mod_eq_of_lt hy]
  have f1 : (first3 a n s).getD i [] = (List.range n).map (cells0 a n s i) := by
    unfold first3; rw [getD_of (by simpa using hi)]; simp
  have f2 : ((List.range n).map (cells0 a n s i)).getD j [] = cells0 a n s i j := by
    rw [getD_of (by simpa using hj)]; simp
  have f3 : (cells0 a n s i j).getD (x * s + y) false = fB a n i j x y := by
    rw [getD_of (by unfold cells0; simpa using hp)]
    simp [cells0, hij, e1, e2]
  unfold r3
  rw [f1, f2, f3]
end
end T
open Go Go.Va
namespace T
section
variable {a : Net} {n s : Nat} {t : T4} {u : T3}
/- the program's empty table -/
def PA (n s i : Nat) (t : T4) : Prop := t.length = n ∧ ∀ i', i' < i → Row4 n s (t.getD i' [])
def PB (n s i j : Nat) (t : T4) : Prop := PA n s i t ∧ (t.getD i []).length = n ∧ ∀ j', j' < j → Cell4 s ((t.getD i []).getD j' [])
def PC (n s i j x : Nat) (t : T4) : Prop := PB n s i j t ∧ ((t.getD i []).getD j []).length = s ∧ ∀ x', x' < x → (((t.getD i []).getD j []).getD x' []).length = s
theorem PA.set {i : Nat} (h : PA n s i t) (r : T3) : PA n s i (t.set i r) := by
  refine ⟨by rw [List.length_set]; exact h.1, fun i' hi' => ?_⟩
  rw [getD_set_of, if_neg (by omega)]; exact h.2 i' hi'
theorem PB.set {i j : Nat} (h : PB n s i j t) (hi : i < n) (c : List (List Bool)) : PB n s i j (t.set i ((t.getD i []).set j c)) := by
  have hl := h.1.1
  refine ⟨h.1.set _, ?_, fun j' hj' => ?_⟩
  · rw [getD_set_of, if_pos ⟨rfl, by omega⟩, List.length_set]; exact h.2.1
  · rw [getD_set_of, if_pos ⟨rfl, by omega⟩, getD_set_of, if_neg (by omega)]; exact h.2.2 j' hj'
theorem empty_L11 (hN : NetOk a) (ha : a.1 = (n : Int)) (hb : a.2.1 = (s : Int)) {i j : Nat} (hi : i < n) (hj : j < n) (t18 t19 t32 t33 : Int) (h : PC n s i j 0 t) :
    ∃ t', PC n s i j s t' ∧ impl_firstPairs_L11 fuel ((a.1, (a.2.1, a.2.2)), t, (i : Int), (j : Int), t18, t19, t32, t33, (s : Int), 0) = some ((a.1, (a.2.1, a.2.2)), t', (i : Int), t18, t19, t32, t33) := by
  have hs4 : s ≤ 4 := by have := hN.hn; omega
  refine forI s (fun m t p => impl_firstPairs_L11 m ((a.1, (a.2.1, a.2.2)), t, (i : Int), (j : Int), t18, t19, t32, t33, (s : Int), p)) (fun x t => PC n s i j x t)
    (fun t' => some ((a.1, (a.2.1, a.2.2)), t', (i : Int), t18, t19, t32, t33)) ?_ ?_ s 0 fuel t (by omega) (by unfold fuel; omega) h
  · intro x t hx h
    obtain ⟨hB, hl, hr⟩ := h
    have l1 : i < t.length := by rw [hB.1.1]; exact hi
    have l2 : j < (t.getD i []).length := by rw [hB.2.1]; exact hj
    have l3 : x < ((t.getD i []).getD j []).length := by omega
    have hx' : (x : Int) < (s : Int) := by omega
    have hlim : 0 ≤ (s : Int) ∧ (s : Int) ≤ (s : Int) ∧ (s : Int) ≤ (lim : Int) := by unfold lim; omega
    refine ⟨t.set i ((t.getD i []).set j (((t.getD i []).getD j []).set x (List.replicate s false))), ⟨hB.set hi _, ?_, fun x' hx'' => ?_⟩, fun m => ?_⟩
    · rw [getD_set_of, if_pos ⟨rfl, l1⟩, getD_set_of, if_pos ⟨rfl, l2⟩, List.length_set]; exact hl
    · rw [getD_set_of, if_pos ⟨rfl, l1⟩, getD_set_of, if_pos ⟨rfl, l2⟩, getD_set_of]
      split
      · simp
      · exact hr x' (by omega)
    · simp only [impl_firstPairs_L11, hb, decide_eq_true hx', if_true, inb_nat, gd_D, l1, l2, l3, hlim, and_self, Int.toNat_natCast, stt_nat, w64_succ (show x < 4611686018427387904 by omega)]
  · intro m t _
    simp only [impl_firstPairs_L11]
    rw [if_neg (by simp)]
theorem empty_L7 (hN : NetOk a) (ha : a.1 = (n : Int)) (hb : a.2.1 = (s : Int)) {i : Nat} (hi : i < n) (t18 t19 : Int) (h : PB n s i 0 t) :
    ∃ t', PB n s i n t' ∧ impl_firstPairs_L7 fuel ((a.1, (a.2.1, a.2.2)), t, (i : Int), t18, t19, (n : Int), 0) = some ((a.1, (a.2.1, a.2.2)), t', t18, t19) := by
  have hs4 : s ≤ 4 := by have := hN.hn; omega
  have hn9 : n ≤ 9 := by have := hN.hv; omega
  refine forI n (fun m t p => impl_firstPairs_L7 m ((a.1, (a.2.1, a.2.2)), t, (i : Int), t18, t19, (n : Int), p)) (fun j t => PB n s i j t)
    (fun t' => some ((a.1, (a.2.1, a.2.2)), t', t18, t19)) ?_ ?_ n 0 fuel t (by omega) (by unfold fuel; omega) h
  · intro j t hj h
    have l1 : i < t.length := by rw [h.1.1]; exact hi
    have l2 : j < (t.getD i []).length := by rw [h.2.1]; exact hj
    have hj' : (j : Int) < (n : Int) := by omega
    have hlim : 0 ≤ (s : Int) ∧ (s : Int) ≤ (s : Int) ∧ (s : Int) ≤ (lim : Int) := by unfold lim; omega
    have hset := h.set hi (List.replicate s [])
    have k1 : i < (t.set i ((t.getD i []).set j (List.replicate s ([] : List Bool)))).length := by rw [List.length_set]; exact l1
    have k2 : j < ((t.set i ((t.getD i []).set j (List.replicate s ([] : List Bool)))).getD i []).length := by rw [hset.2.1]; exact hj
    have hl : (((t.set i ((t.getD i []).set j (List.replicate s ([] : List Bool)))).getD i []).getD j []).length = s := by
      rw [getD_set_of, if_pos ⟨rfl, l1⟩, getD_set_of, if_pos ⟨rfl, l2⟩]; simp
    obtain ⟨t', hC, e⟩ := empty_L11 hN ha hb hi hj t18 t19 (n : Int) (j : Int) (t := t.set i ((t.getD i []).set j (List.replicate s ([] : List Bool)))) ⟨hset, hl, fun x' h => by omega⟩
    refine ⟨t', ⟨hC.1.1, hC.1.2.1, fun j' hj'' => ?_⟩, fun m => ?_⟩
    · rcases Nat.lt_or_ge j' j with h' | h'
      · exact hC.1.2.2 j' h'
      · have : j' = j := by omega
        subst this; exact ⟨hC.2.1, hC.2.2⟩
    · rw [hb] at e
      simp only [impl_firstPairs_L7, hb, decide_eq_true hj', if_true, inb_nat, gd_D, l1, l2, hlim, and_self, Int.toNat_natCast, stt_nat, k1, k2, hl, e, Option.bind_some, w64_succ (show j < 4611686018427387904 by omega)]
  · intro m t _
    simp only [impl_firstPairs_L7]
    rw [if_neg (by simp)]
theorem empty_L3 (hN : NetOk a) (ha : a.1 = (n : Int)) (hb : a.2.1 = (s : Int)) (h : PA n s 0 t) :
    ∃ t', Ok4 n s t' ∧ impl_firstPairs_L3 fuel ((a.1, (a.2.1, a.2.2)), t, (n : Int), 0) = some ((a.1, (a.2.1, a.2.2)), t') := by
  have hn9 : n ≤ 9 := by have := hN.hv; omega
  refine forI n (fun m t p => impl_firstPairs_L3 m ((a.1, (a.2.1, a.2.2)), t, (n : Int), p)) (fun i t => PA n s i t)
    (fun t' => some ((a.1, (a.2.1, a.2.2)), t')) ?_ ?_ n 0 fuel t (by omega) (by unfold fuel; omega) h
  · intro i t hi h
    have l1 : i < t.length := by rw [h.1]; exact hi
    have hi' : (i : Int) < (n : Int) := by omega
    have hlim : 0 ≤ (n : Int) ∧ (n : Int) ≤ (n : Int) ∧ (n : Int) ≤ (lim : Int) := by unfold lim; omega
    have k1 : i < (t.set i (List.replicate n ([] : List (List Bool)))).length := by rw [List.length_set]; exact l1
    have hl : ((t.set i (List.replicate n ([] : List (List Bool)))).getD i []).length = n := by
      rw [getD_set_of, if_pos ⟨rfl, l1⟩]; simp
    obtain ⟨t', hB, e⟩ := empty_L7 hN ha hb hi (n : Int) (i : Int) (t := t.set i (List.replicate n ([] : List (List Bool)))) ⟨h.set _, hl, fun j' h => by omega⟩
    refine ⟨t', ⟨hB.1.1, fun i' hi'' => ?_⟩, fun m => ?_⟩
    · rcases Nat.lt_or_ge i' i with h' | h'
      · exact hB.1.2 i' h'
      · have : i' = i := by omega
        subst this; exact ⟨hB.2.1, hB.2.2⟩
    · rw [ha] at e
      simp only [impl_firstPairs_L3, ha, decide_eq_true hi', if_true, inb_nat, gd_D, l1, hlim, and_self, Int.toNat_natCast, stt_nat, k1, hl, e, Option.bind_some, w64_succ (show i < 4611686018427387904 by omega)]
  · intro m t _
    simp only [impl_firstPairs_L3]
    rw [if_neg (by simp)]
/- the program's first table -/
def Lt4 (i' j' x' y' i j x y : Nat) : Prop := i' < i ∨ (i' = i ∧ (j' < j ∨ (j' = j ∧ (x' < x ∨ (x' = x ∧ y' < y)))))
theorem lt4_step {i' j' x' y' i j x y : Nat} (h : Lt4 i' j' x' y' i j x (y + 1)) (e : ¬ (i = i' ∧ j = j' ∧ x = x' ∧ y = y')) : Lt4 i' j' x' y' i j x y := by
  unfold Lt4 at h ⊢
  rcases h with h | ⟨h1, h | ⟨h2, h | ⟨h3, h⟩⟩⟩
  · exact .inl h
  · exact .inr ⟨h1, .inl h⟩
  · exact .inr ⟨h1, .inr ⟨h2, .inl h⟩⟩
  · exact .inr ⟨h1, .inr ⟨h2, .inr ⟨h3, by omega⟩⟩⟩
def Done (a : Net) (n s : Nat) (i j x y : Nat) (q : T4 × List Int) : Prop := Ok4 n s q.1 ∧ q.2.length = n ∧
  ∀ i' j' x' y', i' < j' → j' < n → x' < s → y' < s → Lt4 i' j' x' y' i j x y → r4 q.1 i' j' x' y' = fB a n i' j' x' y' ∧ r4 q.1 j' i' y' x' = fB a n i' j' x' y'
theorem fill_L29 (hN : NetOk a) (ha : a.1 = (n : Int)) (hb : a.2.1 = (s : Int)) {i j x : Nat} (hij : i < j) (hj : j < n) (hx : x < s) (t75 t76 : Int) {q : T4 × List Int} (h : Done a n s i j x 0 q) :
    ∃ q', Done a n s i j (x + 1) 0 q' ∧ impl_firstPairs_L29 fuel ((a.1, (a.2.1, a.2.2)), q.1, q.2, (i : Int), (j : Int), insL a [(i : Int), (j : Int)], (x : Int), 0, t75, t76) =
      some ((a.1, (a.2.1, a.2.2)), q'.1, q'.2, (i : Int), (j : Int), insL a [(i : Int), (j : Int)], (x : Int), t75, t76) := by
  have hs4 : s ≤ 4 := by have := hN.hn; omega
  have hi : i < n := by omega
  have key := forI s (fun m (q : T4 × List Int) p => impl_firstPairs_L29 m ((a.1, (a.2.1, a.2.2)), q.1, q.2, (i : Int), (j : Int), insL a [(i : Int), (j : Int)], (x : Int), p, t75, t76)) (fun y q => Done a n s i j x y q)
    (fun q' => some ((a.1, (a.2.1, a.2.2)), q'.1, q'.2, (i : Int), (j : Int), insL a [(i : Int), (j : Int)], (x : Int), t75, t76)) ?_ ?_ s 0 fuel q (by omega) (by unfold fuel; omega) h
  · obtain ⟨q', ⟨h1, h2, h3⟩, e⟩ := key
    refine ⟨q', ⟨h1, h2, fun i' j' x' y' g1 g2 g3 g4 g5 => h3 i' j' x' y' g1 g2 g3 g4 ?_⟩, e⟩
    unfold Lt4 at g5 ⊢; omega
  · rintro y ⟨t, vs⟩ hy ⟨h4, hl, hd⟩
    dsimp only at h4 hl hd ⊢
    obtain ⟨a1, a2, a3, a4⟩ := h4.at hi hj hx
    obtain ⟨b1, b2, b3, b4⟩ := h4.at hj hi hy
    have a5 : y < (((t.getD i []).getD j []).getD x []).length := by omega
    have d1 : i < vs.length := by omega
    have d2 : j < (vs.set i (x : Int)).length := by simp; omega
    have hl2 : ((vs.set i (x : Int)).set j (y : Int)).length = n := by simpa using hl
    have v1 : valI ((vs.set i (x : Int)).set j (y : Int)) (i : Int) = (x : Int) := by rw [valI_set d2, if_neg (by omega), valI_set d1, if_pos rfl]
    have v2 : valI ((vs.set i (x : Int)).set j (y : Int)) (j : Int) = (y : Int) := by rw [valI_set d2, if_pos rfl]
    have hsat := impl_satisfies_ok hN (l := insL a [(i : Int), (j : Int)]) (insL_len hN) insL_in (vs := (vs.set i (x : Int)).set j (y : Int)) (by rw [hl2, ha])
    have hcong : satB (insL a [(i : Int), (j : Int)]) ((vs.set i (x : Int)).set j (y : Int)) = fB a n i j x y := by
      refine satB_congr fun v hv => ?_
      have q1 : i < (List.replicate n (0 : Int)).length := by simpa using hi
      have q2 : j < ((List.replicate n (0 : Int)).set i (x : Int)).length := by simpa using hj
      simp only [List.mem_cons, List.not_mem_nil, or_false] at hv
      unfold V2
      rcases hv with rfl | rfl
      · rw [v1, valI_set q2, if_neg (by omega), valI_set q1, if_pos rfl]
      · rw [v2, valI_set q2, if_pos rfl]
    rw [hcong] at hsat
    have h5 := s4_ok h4 (i := i) (j := j) (x := x) (y := y) (b := fB a n i j x y)
    obtain ⟨m1, m2, m3, m4⟩ := h5.at hj hi hy
    have m5 : x < ((((s4 t i j x y (fB a n i j x y)).getD j []).getD i []).getD y []).length := by omega
    have es : t.set i ((t.getD i []).set j (((t.getD i []).getD j []).set x ((((t.getD i []).getD j []).getD x []).set y (fB a n i j x y)))) = s4 t i j x y (fB a n i j x y) := rfl
    have es2 : (s4 t i j x y (fB a n i j x y)).set j (((s4 t i j x y (fB a n i j x y)).getD j []).set i ((((s4 t i j x y (fB a n i j x y)).getD j []).getD i []).set y (((((s4 t i j x y (fB a n i j x y)).getD j []).getD i []).getD y []).set x (fB a n i j x y)))) = s4 (s4 t i j x y (fB a n i j x y)) j i y x (fB a n i j x y) := rfl
    have hy' : (y : Int) < (s : Int) := by omega
    refine ⟨(s4 (s4 t i j x y (fB a n i j x y)) j i y x (fB a n i j x y), (vs.set i (x : Int)).set j (y : Int)), ⟨s4_ok h5, hl2, fun i' j' x' y' g1 g2 g3 g4 g5 => ?_⟩, fun m => ?_⟩
    · dsimp only
      rw [r4_s4 h5 hj hi hy hx, r4_s4 h4 hi hj hx hy, r4_s4 h5 hj hi hy hx, r4_s4 h4 hi hj hx hy]
      by_cases e : i = i' ∧ j = j' ∧ x = x' ∧ y = y'
      · obtain ⟨rfl, rfl, rfl, rfl⟩ := e; simp
      · have e4 : ¬ (j = i' ∧ i = j' ∧ y = x' ∧ x = y') := by omega
        have e5 : ¬ (i = j' ∧ j = i' ∧ x = y' ∧ y = x') := by omega
        have e6 : ¬ (j = j' ∧ i = i' ∧ y = y' ∧ x = x') := by omega
        simp only [if_neg e, if_neg e4, if_neg e5, if_neg e6]
        exact hd i' j' x' y' g1 g2 g3 g4 (lt4_step g5 e)
    · simp only [impl_firstPairs_L29, hb, decide_eq_true hy', if_true, inb_nat, gd_D, stt_nat, d1, d2, hsat, Option.bind_some, a1, a2, a3, b1, b2, b3, a5, es, m5, es2, w64_succ (show y < 4611686018427387904 by omega)]
  · rintro m ⟨t, vs⟩ _
    simp only [impl_firstPairs_L29, hb]
    rw [if_neg (by simp)]
theorem fill_L26 (hN : NetOk a) (ha : a.1 = (n : Int)) (hb : a.2.1 = (s : Int)) {i j : Nat} (hij : i < j) (hj : j < n) (t75 t76 : Int) {q : T4 × List Int} (h : Done a n s i j 0 0 q) :
    ∃ q', Done a n s i (j + 1) 0 0 q' ∧ impl_firstPairs_L26 fuel ((a.1, (a.2.1, a.2.2)), q.1, q.2, (i : Int), (j : Int), insL a [(i : Int), (j : Int)], 0, t75, t76) =
      some ((a.1, (a.2.1, a.2.2)), q'.1, q'.2, (i : Int), (j : Int), t75, t76) := by
  have hs4 : s ≤ 4 := by have := hN.hn; omega
  have key := forI s (fun m (q : T4 × List Int) p => impl_firstPairs_L26 m ((a.1, (a.2.1, a.2.2)), q.1, q.2, (i : Int), (j : Int), insL a [(i : Int), (j : Int)], p, t75, t76)) (fun x q => Done a n s i j x 0 q)
    (fun q' => some ((a.1, (a.2.1, a.2.2)), q'.1, q'.2, (i : Int), (j : Int), t75, t76)) ?_ ?_ s 0 fuel q (by omega) (by unfold fuel; omega) h
  · obtain ⟨q', ⟨h1, h2, h3⟩, e⟩ := key
    refine ⟨q', ⟨h1, h2, fun i' j' x' y' g1 g2 g3 g4 g5 => h3 i' j' x' y' g1 g2 g3 g4 ?_⟩, e⟩
    unfold Lt4 at g5 ⊢; omega
  · rintro x ⟨t, vs⟩ hx h
    obtain ⟨q', h1, e⟩ := fill_L29 hN ha hb hij hj hx t75 t76 h
    have hx' : (x : Int) < (s : Int) := by omega
    refine ⟨q', h1, fun m => ?_⟩
    dsimp only at e ⊢
    rw [hb] at e
    simp only [impl_firstPairs_L26, hb, decide_eq_true hx', if_true, e, Option.bind_some, w64_succ (show x < 4611686018427387904 by omega)]
  · rintro m ⟨t, vs⟩ _
    simp only [impl_firstPairs_L26, hb]
    rw [if_neg (by simp)]
theorem fill_L22 (hN : NetOk a) (ha : a.1 = (n : Int)) (hb : a.2.1 = (s : Int)) {i : Nat} (hi : i < n) (t75 t76 : Int) {q : T4 × List Int} (h : Done a n s i 0 0 0 q) :
    ∃ q', Done a n s (i + 1) 0 0 0 q' ∧ impl_firstPairs_L22 fuel ((a.1, (a.2.1, a.2.2)), q.1, q.2, (i : Int), ((i + 1 : Nat) : Int), t75, t76) =
      some ((a.1, (a.2.1, a.2.2)), q'.1, q'.2, t75, t76) := by
  have hn9 : n ≤ 9 := by have := hN.hv; omega
  have key := forI n (fun m (q : T4 × List Int) p => impl_firstPairs_L22 m ((a.1, (a.2.1, a.2.2)), q.1, q.2, (i : Int), p, t75, t76)) (fun j q => i < j ∧ Done a n s i j 0 0 q)
    (fun q' => some ((a.1, (a.2.1, a.2.2)), q'.1, q'.2, t75, t76)) ?_ ?_ (n - (i + 1)) (i + 1) fuel q (by omega) (by unfold fuel; omega) ⟨by omega, h.1, h.2.1, fun i' j' x' y' g1 g2 g3 g4 g5 => h.2.2 i' j' x' y' g1 g2 g3 g4 (by unfold Lt4 at g5 ⊢; omega)⟩
  · obtain ⟨q', ⟨_, h1, h2, h3⟩, e⟩ := key
    refine ⟨q', ⟨h1, h2, fun i' j' x' y' g1 g2 g3 g4 g5 => h3 i' j' x' y' g1 g2 g3 g4 ?_⟩, e⟩
    unfold Lt4 at g5 ⊢; omega
  · rintro j ⟨t, vs⟩ hj ⟨hij, h⟩
    obtain ⟨q', h1, e⟩ := fill_L26 hN ha hb hij hj t75 t76 h
    have hw := impl_within_ok hN (vars := [(i : Int), (j : Int)]) (by simp)
    have hj' : (j : Int) < (n : Int) := by omega
    refine ⟨q', ⟨by omega, h1⟩, fun m => ?_⟩
    dsimp only at e ⊢
    rw [ha] at e hw
    simp only [impl_firstPairs_L22, ha, decide_eq_true hj', if_true, hw, e, Option.bind_some, w64_succ (show j < 4611686018427387904 by omega)]
  · rintro m ⟨t, vs⟩ _
    simp only [impl_firstPairs_L22, ha]
    rw [if_neg (by simp)]
theorem fill_L19 (hN : NetOk a) (ha : a.1 = (n : Int)) (hb : a.2.1 = (s : Int)) {q : T4 × List Int} (h : Done a n s 0 0 0 0 q) :
    ∃ q', Done a n s n 0 0 0 q' ∧ impl_firstPairs_L19 fuel ((a.1, (a.2.1, a.2.2)), q.1, q.2, (n : Int), 0) = some q'.1 := by
  have hn9 : n ≤ 9 := by have := hN.hv; omega
  refine forI n (fun m (q : T4 × List Int) p => impl_firstPairs_L19 m ((a.1, (a.2.1, a.2.2)), q.1, q.2, (n : Int), p)) (fun i q => Done a n s i 0 0 0 q)
    (fun q' => some q'.1) ?_ ?_ n 0 fuel q (by omega) (by unfold fuel; omega) h
  · rintro i ⟨t, vs⟩ hi h
    obtain ⟨q', h1, e⟩ := fill_L22 hN ha hb hi (n : Int) (i : Int) h
    have hi' : (i : Int) < (n : Int) := by omega
    refine ⟨q', h1, fun m => ?_⟩
    dsimp only at e ⊢
    simp only [impl_firstPairs_L19, decide_eq_true hi', if_true, e, Option.bind_some, w64_succ (show i < 4611686018427387904 by omega)]
  · rintro m ⟨t, vs⟩ _
    simp only [impl_firstPairs_L19]
    rw [if_neg (by simp)]
theorem impl_firstPairs_ok (hN : NetOk a) (ha : a.1 = (n : Int)) (hb : a.2.1 = (s : Int)) : ∃ t, Rel34 n s t (first3 a n s) ∧ impl_firstPairs (a.1, (a.2.1, a.2.2)) = some t := by
  have hlim : 0 ≤ (n : Int) ∧ (n : Int) ≤ (n : Int) ∧ (n : Int) ≤ (lim : Int) := by have := hN.hv; unfold lim; omega
  obtain ⟨t1, h1, e1⟩ := empty_L3 hN ha hb (t := List.replicate n ([] : T3)) ⟨by simp, fun i' h => by omega⟩
  obtain ⟨⟨t2, vs⟩, h2, e2⟩ := fill_L19 hN ha hb (q := (t1, List.replicate n (0 : Int))) ⟨h1, by simp, fun i' j' x' y' _ _ _ _ g => by unfold Lt4 at g; omega⟩
  refine ⟨t2, ⟨h2.1, first3_ok, fun i j x y hij hj hx hy => ?_⟩, ?_⟩
  · rw [first3_r3 hij hj hx hy]
    exact h2.2.2 i j x y hij hj hx hy (by unfold Lt4; omega)
  · have hl1 : ((t1.length : Nat) : Int) = (n : Int) := by rw [h1.1]
    rw [ha] at e1 e2
    dsimp only at e2
    unfold impl_firstPairs
    simp only [ha, hlim, and_self, if_true, Int.toNat_natCast, List.length_replicate, e1, Option.bind_some, hl1, e2]
/-- the minimal pairs of both -/
theorem pairs_ok (hN : NetOk a) (ha : a.1 = (n : Int)) (hb : a.2.1 = (s : Int)) : ∃ t u, Rel34 n s t u ∧ impl_minimalPairs (a.1, (a.2.1, a.2.2)) = some t ∧ spec_l20Pairs (a.1, (a.2.1, a.2.2)) = some u := by
  have hn9 : n ≤ 9 := by have := hN.hv; omega
  have hs4 : s ≤ 4 := by have := hN.hn; omega
  have hlim : 0 ≤ (n : Int) ∧ (n : Int) ≤ (n : Int) ∧ (n : Int) ≤ (lim : Int) := by unfold lim; omega
  obtain ⟨t1, hR, e1⟩ := impl_firstPairs_ok hN ha hb
  have hmu : mu3 (first3 a n s) ≤ n * (n * (s * s)) := mu3_le first3_ok
  have hss : s * s ≤ 4 * 4 := Nat.mul_le_mul hs4 hs4
  have hb1 : n * (n * (s * s)) ≤ 9 * (9 * (4 * 4)) := Nat.mul_le_mul hn9 (Nat.mul_le_mul hn9 hss)
  obtain ⟨t2, u2, h1, e2, e3⟩ := again_sim hN ha hb 2000 t1 (List.replicate n (0 : Int)) (first3 a n s) hR (by simp) (by omega) fuel fuel (by unfold fuel; omega) (by unfold fuel; omega)
  have e4 := first_L4 hN ha hb
  refine ⟨t2, u2, h1, ?_, ?_⟩
  · rw [ha] at e1 e2
    unfold impl_minimalPairs
    simp only [ha, e1, Option.bind_some, hlim, and_self, if_true, Int.toNat_natCast, e2]
  · rw [ha, hb] at e3 e4
    unfold spec_l20Pairs
    simp only [ha, hb, e4, Option.bind_some, e3]
end
end T
open Go Go.Va
namespace T
abbrev Pr := Int × Int
def prP (s p : Nat) : Pr := (((p / s : Nat) : Int), ((p % s : Nat) : Int))
/-- the pairs that are there -/
def fL (u : T3) (s i j k : Nat) : List Pr := ((List.range k).filter (r3 u i j)).map (prP s)
def rowF (u : T3) (s i k : Nat) : List (List Pr) := (List.range' (i + 1) (k - (i + 1))).map fun j => fL u s i j (s * s)
def allF (u : T3) (n s k : Nat) : List (List Pr) := (List.range k).flatMap fun i => rowF u s i n
section
variable {a : Net} {n s : Nat} {t : T4} {u : T3}
theorem fL_succ {i j k : Nat} : fL u s i j (k + 1) = if r3 u i j k then fL u s i j k ++ [prP s k] else fL u s i j k := by
  unfold fL
  rw [List.range_succ, List.filter_append, List.map_append]
  cases h : r3 u i j k <;> simp [h]
theorem fL_len {i j k : Nat} : (fL u s i j k).length ≤ k := by
  unfold fL
  rw [List.length_map]
  exact Nat.le_trans (List.length_filter_le _ _) (by simp)
theorem rowF_succ {i k : Nat} (h : i < k) : rowF u s i (k + 1) = rowF u s i k ++ [fL u s i k (s * s)] := by
  unfold rowF
  rw [show k + 1 - (i + 1) = (k - (i + 1)) + 1 by omega, List.range'_1_concat, List.map_append, show i + 1 + (k - (i + 1)) = k by omega]; rfl
theorem rowF_len {i k : Nat} : (rowF u s i k).length ≤ k := by unfold rowF; simp
theorem rowF_zero {i : Nat} : rowF u s i (i + 1) = [] := by unfold rowF; simp
theorem allF_succ {k : Nat} : allF u n s (k + 1) = allF u n s k ++ rowF u s k n := by
  unfold allF; rw [List.range_succ, List.flatMap_append]; simp
theorem allF_len : ∀ {k : Nat}, (allF u n s k).length ≤ k * n
  | 0 => by simp [allF]
  | k + 1 => by
    rw [allF_succ, List.length_append, Nat.succ_mul]
    exact Nat.add_le_add allF_len rowF_len
theorem spec_l20List_ok (hs : 0 < s) (hs4 : s ≤ 4) (hO : Ok3 n (s * s) u) {i j : Nat} (hi : i < n) (hj : j < n) : spec_l20List ((u.getD i []).getD j []) (s : Int) = some (fL u s i j (s * s)) := by
  have hss : s * s ≤ 4 * 4 := Nat.mul_le_mul hs4 hs4
  obtain ⟨_, _, hl⟩ := hO.at hi hj
  have hsn : ¬ ((s : Int) = 0) := by omega
  unfold spec_l20List
  obtain ⟨c, hc⟩ : ∃ c, (u.getD i []).getD j [] = c := ⟨_, rfl⟩
  have hr : ∀ p, r3 u i j p = c.getD p false := fun p => by unfold r3; rw [hc]
  rw [hc] at hl ⊢
  have := forS (s * s) (fun m o p => spec_l20List_L3 m (c, (s : Int), o, p)) (fun k => fL u s i j k) (r := some (fL u s i j (s * s))) (fun m p hp => ?_) (fun m => ?_) (n := fuel) (by unfold fuel; omega)
  · have e : fL u s i j 0 = [] := rfl
    rw [e] at this
    simp only [this, Option.bind_some]
  · have hpl : p < c.length := by omega
    have hlen := fL_len (u := u) (s := s) (i := i) (j := j) (k := p)
    obtain ⟨w1, w2⟩ := div_w64 hs4 hp
    have hlim : (fL u s i j p).length + [(((p / s : Nat) : Int), ((p % s : Nat) : Int))].length ≤ lim := by unfold lim; simp; omega
    have hp' : (p : Int) < (c.length : Int) := by omega
    rw [fL_succ]
    simp only [spec_l20List_L3, decide_eq_true hp', if_true, inb_nat, hpl, gd_D, ← hr, ne_eq, hsn, not_false_eq_true, w1, w2, hlim, w64_succ (show p < 4611686018427387904 by omega)]
    cases r3 u i j p <;> rfl
  · simp only [spec_l20List_L3, hl]
    rw [if_neg (by simp)]
/- the program's lists -/
theorem lists_L14 (hs4 : s ≤ 4) (hR : Rel34 n s t u) {i j x : Nat} (hij : i < j) (hj : j < n) (hx : x < s) (lists : List (List Pr)) (t16 t17 t36 : Int) (t35 : List (List Bool)) :
    impl_pairLists_L14 fuel ((a.1, (a.2.1, a.2.2)), t, lists, (i : Int), (j : Int), fL u s i j (x * s), (x : Int), t16, t17, t35, t36, (x : Int), (((t.getD i []).getD j []).getD x []), (s : Int), 0) =
      some ((a.1, (a.2.1, a.2.2)), t, lists, (i : Int), (j : Int), fL u s i j ((x + 1) * s), t16, t17, t35, t36, (x : Int)) := by
  have hi : i < n := by omega
  have hss : s * s ≤ 4 * 4 := Nat.mul_le_mul hs4 hs4
  obtain ⟨_, _, _, hl⟩ := hR.o4.at hi hj hx
  obtain ⟨c, hc⟩ : ∃ c, ((t.getD i []).getD j []).getD x [] = c := ⟨_, rfl⟩
  have hr : ∀ y, y < s → c.getD y false = r3 u i j (x * s + y) := fun y hy => by rw [← hc]; exact (hR.eq i j x y hij hj hx hy).1
  rw [hc] at hl ⊢
  have := forS s (fun m o p => impl_pairLists_L14 m ((a.1, (a.2.1, a.2.2)), t, lists, (i : Int), (j : Int), o, (x : Int), t16, t17, t35, t36, (x : Int), c, (s : Int), p)) (fun k => fL u s i j (x * s + k))
    (r := some ((a.1, (a.2.1, a.2.2)), t, lists, (i : Int), (j : Int), fL u s i j ((x + 1) * s), t16, t17, t35, t36, (x : Int))) (fun m y hy => ?_) (fun m => ?_) (n := fuel) (by unfold fuel; omega)
  · exact this
  · have hyl : y < c.length := by omega
    have hp := cell_lt hx hy
    have hlen := fL_len (u := u) (s := s) (i := i) (j := j) (k := x * s + y)
    have hlim : (fL u s i j (x * s + y)).length + [((x : Int), (y : Int))].length ≤ lim := by unfold lim; simp; omega
    have hy' : (y : Int) < (s : Int) := by omega
    have e1 : (x * s + y) / s = x := by rw [Nat.mul_comm, Nat.mul_add_div (by omega), Nat.div_eq_of_lt hy]; omega
    have e2 : (x * s + y) % s = y := by rw [Nat.mul_comm, Nat.mul_add_mod, Nat.mod_eq_of_lt hy]
    have e3 : prP s (x * s + y) = ((x : Int), (y : Int)) := by unfold prP; rw [e1, e2]
    rw [show x * s + (y + 1) = x * s + y + 1 by omega, fL_succ, e3]
    simp only [impl_pairLists_L14, decide_eq_true hy', if_true, inb_nat, hyl, gd_D, hr y hy, hlim, w64_succ (show y < 4611686018427387904 by omega)]
    cases r3 u i j (x * s + y) <;> rfl
  · simp only [impl_pairLists_L14]
    rw [if_neg (by simp), Nat.succ_mul]
theorem lists_L11 (hs4 : s ≤ 4) (hR : Rel34 n s t u) {i j : Nat} (hij : i < j) (hj : j < n) (lists : List (List Pr)) (t16 t17 : Int) :
    impl_pairLists_L11 fuel ((a.1, (a.2.1, a.2.2)), t, lists, (i : Int), (j : Int), [], t16, t17, (t.getD i []).getD j [], (s : Int), 0) =
      some ((a.1, (a.2.1, a.2.2)), t, lists, (i : Int), (j : Int), fL u s i j (s * s), t16, t17) := by
  have hi : i < n := by omega
  have := forS s (fun m o p => impl_pairLists_L11 m ((a.1, (a.2.1, a.2.2)), t, lists, (i : Int), (j : Int), o, t16, t17, (t.getD i []).getD j [], (s : Int), p)) (fun k => fL u s i j (k * s))
    (r := some ((a.1, (a.2.1, a.2.2)), t, lists, (i : Int), (j : Int), fL u s i j (s * s), t16, t17)) (fun m x hx => ?_) (fun m => ?_) (n := fuel) (by unfold fuel; omega)
  · have e : fL u s i j (0 * s) = [] := by rw [Nat.zero_mul]; rfl
    rw [e] at this; exact this
  · obtain ⟨_, _, h3, h4⟩ := hR.o4.at hi hj hx
    have key := lists_L14 (a := a) hs4 hR hij hj hx lists t16 t17 (s : Int) ((t.getD i []).getD j [])
    have hx' : (x : Int) < (s : Int) := by omega
    simp only [impl_pairLists_L11, decide_eq_true hx', if_true, inb_nat, h3, gd_D, h4, key, Option.bind_some, w64_succ (show x < 4611686018427387904 by omega)]
  · simp only [impl_pairLists_L11]
    rw [if_neg (by simp)]
theorem lists_L7 (hn9 : n ≤ 9) (hs4 : s ≤ 4) (ha : a.1 = (n : Int)) (hR : Rel34 n s t u) {i : Nat} (hi : i < n) (lists : List (List Pr)) (hll : lists.length ≤ 1000) (t16 t17 : Int) :
    impl_pairLists_L7 fuel ((a.1, (a.2.1, a.2.2)), t, lists, (i : Int), ((i + 1 : Nat) : Int), t16, t17) = some ((a.1, (a.2.1, a.2.2)), t, lists ++ rowF u s i n, t16, t17) := by
  obtain ⟨o, ho, e⟩ := forI n (fun m o p => impl_pairLists_L7 m ((a.1, (a.2.1, a.2.2)), t, o, (i : Int), p, t16, t17)) (fun k o => i < k ∧ o = lists ++ rowF u s i k) (fun o => some ((a.1, (a.2.1, a.2.2)), t, o, t16, t17))
    (fun j o hj ⟨hij, ho⟩ => ⟨lists ++ rowF u s i (j + 1), ⟨by omega, rfl⟩, fun m => by
      subst ho
      have hj' : (j : Int) < (n : Int) := by omega
      have l1 : i < t.length := by rw [hR.o4.1]; exact hi
      have l2 : j < (t.getD i []).length := by rw [(hR.o4.2 i hi).1]; exact hj
      have l3 := ((hR.o4.2 i hi).2 j hj).1
      have hlen := rowF_len (u := u) (s := s) (i := i) (k := j)
      have hlim : (lists ++ rowF u s i j).length + [fL u s i j (s * s)].length ≤ lim := by unfold lim; simp; omega
      have key := lists_L11 (a := a) hs4 hR hij hj (lists ++ rowF u s i j) t16 t17
      rw [ha] at key
      rw [rowF_succ hij]
      simp only [impl_pairLists_L7, ha, decide_eq_true hj', if_true, inb_nat, l1, l2, gd_D, l3, key, Option.bind_some, hlim, w64_succ (show j < 4611686018427387904 by omega), List.append_assoc]⟩)
    (fun m o _ => by simp only [impl_pairLists_L7, ha]; rw [if_neg (by simp)]) (n - (i + 1)) (i + 1) fuel lists (by omega) (by unfold fuel; omega) ⟨by omega, by rw [rowF_zero, List.append_nil]⟩
  rw [e, ho.2]
theorem impl_pairLists_ok (hN : NetOk a) (ha : a.1 = (n : Int)) (hb : a.2.1 = (s : Int)) (hR : Rel34 n s t u) (hm : impl_minimalPairs (a.1, (a.2.1, a.2.2)) = some t) : impl_pairLists (a.1, (a.2.1, a.2.2)) = some (allF u n s n) := by
  have hn9 : n ≤ 9 := by have := hN.hv; omega
  have hs4 : s ≤ 4 := by have := hN.hn; omega
  have hl : ((t.length : Nat) : Int) = (n : Int) := by rw [hR.o4.1]
  have := forS n (fun m o p => impl_pairLists_L4 m ((a.1, (a.2.1, a.2.2)), t, o, (n : Int), p)) (fun k => allF u n s k) (r := some (allF u n s n)) (fun m i hi => ?_) (fun m => ?_) (n := fuel) (by unfold fuel; omega)
  · have e : allF u n s 0 = [] := rfl
    rw [e] at this
    unfold impl_pairLists
    dsimp only at this ⊢
    simp only [hm, Option.bind_some, hl, this]
  · have hlen := allF_len (u := u) (n := n) (s := s) (k := i)
    have hle : i * n ≤ 9 * 9 := Nat.mul_le_mul (by omega) hn9
    have key := lists_L7 hn9 hs4 ha hR hi (allF u n s i) (by omega) (n : Int) (i : Int)
    have hi' : (i : Int) < (n : Int) := by omega
    rw [allF_succ]
    simp only [impl_pairLists_L4, decide_eq_true hi', if_true, key, Option.bind_some, w64_succ (show i < 4611686018427387904 by omega)]
  · simp only [impl_pairLists_L4]
    rw [if_neg (by simp)]
/-- a loop that leaves where p fails, from one place on -/
theorem forQ {β : Type} (N : Nat) (L : Nat → Int → Option β) (p : Nat → Bool) {r e : Option β}
    (hs : ∀ n (k : Nat), k < N → L (n + 1) k = if p k then L n ((k + 1 : Nat) : Int) else r) (he : ∀ n, L (n + 1) (N : Nat) = e) : ∀ (d k n : Nat), k + d = N → d < n → L n k = if (List.range' k d).all p then e else r := by
  intro d
  induction d with
  | zero =>
    intro k n hk hn
    obtain ⟨n, rfl⟩ : ∃ m, n = m + 1 := ⟨n - 1, by omega⟩
    have : k = N := by omega
    subst this; rw [he]; simp
  | succ d ih =>
    intro k n hk hn
    obtain ⟨n, rfl⟩ : ∃ m, n = m + 1 := ⟨n - 1, by omega⟩
    rw [hs n k (by omega), List.range'_succ, List.all_cons]
    cases p k with
    | false => simp
    | true => simp only [if_true, Bool.true_and]; exact ih (k + 1) n (by omega) (by omega)
def noEmp (l : List (List Pr)) : Bool := l.all fun r => r.length != 0
theorem spec_ref_L8 (hn9 : n ≤ 9) (hs0 : 0 < s) (hs4 : s ≤ 4) (ha : a.1 = (n : Int)) (hb : a.2.1 = (s : Int)) (hO : Ok3 n (s * s) u) {i : Nat} (hi : i < n) :
    spec_PairsRefute_L8 fuel ((a.1, (a.2.1, a.2.2)), u, (i : Int), ((i + 1 : Nat) : Int)) = some (if noEmp (rowF u s i n) then .inl ((a.1, (a.2.1, a.2.2)), u, (i : Int)) else .inr (true, true)) := by
  have key : ∀ (d k m : Nat), k + d = n → i < k → d < m → spec_PairsRefute_L8 m ((a.1, (a.2.1, a.2.2)), u, (i : Int), (k : Int)) = some (if (List.range' k d).all (fun j => (fL u s i j (s * s)).length != 0) then .inl ((a.1, (a.2.1, a.2.2)), u, (i : Int)) else .inr (true, true)) := by
    intro d
    induction d with
    | zero =>
      intro k m hk _ hm
      obtain ⟨m, rfl⟩ : ∃ q, m = q + 1 := ⟨m - 1, by omega⟩
      have : k = n := by omega
      subst this
      simp only [spec_PairsRefute_L8, ha]
      rw [if_neg (by simp)]; rfl
    | succ d ih =>
      intro k m hk hik hm
      obtain ⟨m, rfl⟩ : ∃ q, m = q + 1 := ⟨m - 1, by omega⟩
      have hj : k < n := by omega
      have hj' : (k : Int) < (n : Int) := by omega
      obtain ⟨l1, l2, l3⟩ := hO.at hi hj
      have kk := spec_l20List_ok hs0 hs4 hO hi hj
      have ihk := ih (k + 1) m (by omega) (by omega) (by omega)
      rw [ha, hb] at ihk
      rw [List.range'_succ, List.all_cons]
      simp only [spec_PairsRefute_L8, ha, hb, decide_eq_true hj', if_true, inb_nat, l1, l2, gd_D, kk, Option.bind_some, w64_succ (show k < 4611686018427387904 by omega)]
      by_cases e : (fL u s i k (s * s)).length = 0
      · simp [e]
      · have e' : ¬ (((fL u s i k (s * s)).length : Int) == 0) = true := by simpa using e
        rw [if_neg e', ihk]
        simp only [bne_iff_ne.2 e, Bool.true_and]
  have := key (n - (i + 1)) (i + 1) fuel (by omega) (by omega) (by unfold fuel; omega)
  rw [this]
  have e : noEmp (rowF u s i n) = (List.range' (i + 1) (n - (i + 1))).all (fun j => (fL u s i j (s * s)).length != 0) := by
    unfold noEmp rowF; rw [List.all_map]; rfl
  rw [e]
theorem spec_ref_L5 (hN : NetOk a) (ha : a.1 = (n : Int)) (hb : a.2.1 = (s : Int)) (hO : Ok3 n (s * s) u) : spec_PairsRefute_L5 fuel ((a.1, (a.2.1, a.2.2)), u, 0) = some (if noEmp (allF u n s n) then .inl () else .inr (true, true)) := by
  have hn9 : n ≤ 9 := by have := hN.hv; omega
  have hs4 : s ≤ 4 ∧ 0 < s := by have := hN.hn; omega
  have := forQ n (fun m p => spec_PairsRefute_L5 m ((a.1, (a.2.1, a.2.2)), u, p)) (fun i => noEmp (rowF u s i n)) (r := some (.inr (true, true))) (e := some (.inl ())) (fun m i hi => ?_) (fun m => ?_) n 0 fuel (by omega) (by unfold fuel; omega)
  · have this : spec_PairsRefute_L5 fuel ((a.1, (a.2.1, a.2.2)), u, 0) = _ := this
    rw [this]
    have e : noEmp (allF u n s n) = (List.range' 0 n).all fun i => noEmp (rowF u s i n) := by
      unfold noEmp allF; rw [← List.range_eq_range', List.all_flatMap]
    rw [e]
    cases (List.range' 0 n).all fun i => noEmp (rowF u s i n) <;> simp
  · have key := spec_ref_L8 hn9 hs4.2 hs4.1 ha hb hO hi
    have hi' : (i : Int) < (n : Int) := by omega
    rw [ha] at key
    simp only [spec_PairsRefute_L5, ha, decide_eq_true hi', if_true, w64_succ (show i < 4611686018427387904 by omega), key, Option.bind_some]
    cases noEmp (rowF u s i n) <;> simp [w64_succ' (show i < 4611686018427387904 by omega)]
  · simp only [spec_PairsRefute_L5, ha]
    rw [if_neg (by simp)]
theorem PairsRefute_ok (h : netS a) : ∃ R : Bool × Bool, impl_PairsRefute a = some R ∧ spec_PairsRefute a = some R := by
  unfold impl_PairsRefute spec_PairsRefute
  rw [impl_IsNetwork_ok (a := (a.1, (a.2.1, a.2.2))) h, spec_l19Good_ok (a := (a.1, (a.2.1, a.2.2))) h, show netB (a.1, (a.2.1, a.2.2)) = netB a from rfl]
  cases hb : netB a with
  | false => exact ⟨(false, false), by simp, by simp⟩
  | true =>
    have hN := net_of hb
    by_cases h2 : a.1 < 2
    · exact ⟨(false, false), by simp [h2], by simp [h2]⟩
    · obtain ⟨n, ha⟩ : ∃ n : Nat, a.1 = (n : Int) := ⟨a.1.toNat, by have := hN.hv; omega⟩
      obtain ⟨s, hs⟩ : ∃ n : Nat, a.2.1 = (n : Int) := ⟨a.2.1.toNat, by have := hN.hn; omega⟩
      have hn9 : n ≤ 9 := by have := hN.hv; omega
      obtain ⟨t, u, hR, e1, e2⟩ := pairs_ok hN ha hs
      have e3 := impl_pairLists_ok hN ha hs hR e1
      have e4 := spec_ref_L5 hN ha hs hR.o3
      have hlen := allF_len (u := u) (n := n) (s := s) (k := n)
      have hle : n * n ≤ 9 * 9 := Nat.mul_le_mul hn9 hn9
      have e5 := allX (allF u n s n) (fun m i => impl_PairsRefute_L4 m (allF u n s n, ((allF u n s n).length : Int), i)) (fun r => r.length != 0) (.inr (true, true)) (.inl ()) (fun m k hk => by
        simp only [impl_PairsRefute_L4, inb_nat, gd_nat hk, w64_succ (show k < 4611686018427387904 by omega)]
        by_cases e : ((allF u n s n)[k]).length = 0
        · simp [hk, e]
        · have e' : ¬ ((((allF u n s n)[k]).length : Int) == 0) = true := by simpa using e
          rw [if_pos (by simp; omega), if_pos hk, if_neg e', if_pos (by simpa using e)]) (fun m => by simp [impl_PairsRefute_L4]) (n := fuel) (by unfold fuel; omega)
      simp only [e2, e3, e4, e5, Option.bind_some, decide_eq_false h2, Bool.not_true, Bool.false_eq_true, if_false]
      have e6 : noEmp (allF u n s n) = (allF u n s n).all fun r => r.length != 0 := rfl
      rw [e6]
      cases (allF u n s n).all fun r => r.length != 0 with
      | true => exact ⟨(false, true), rfl, rfl⟩
      | false => exact ⟨(true, true), rfl, rfl⟩
end
end T
open Go Go.Va
namespace T
section
variable {a : Net}
theorem FnExactPairsRefute_law (h : wfT netT a) : laws_FnExactPairsRefute a = some true := by
  unfold laws_FnExactPairsRefute
  rw [szNetwork_ok (a := (a.1, (a.2.1, a.2.2))) h]
  simp only [Option.bind_some]
  rw [show totN (a.1, (a.2.1, a.2.2)) = totN a from rfl]
  by_cases h : szR (totN a) 1048576 < 0
  · rw [if_pos (by simpa using h)]
  · obtain ⟨hs, ht⟩ := szNetwork_small h
    obtain ⟨R, e1, e2⟩ := PairsRefute_ok hs
    rw [if_neg (by simpa using h)]
    simp [toNetwork_ok hs, e1, e2, eqNetwork_ok hs]
end
end T
