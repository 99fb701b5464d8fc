/- Plain lemmas on the typed functions of the program, and the plain law of FnExactGreedyByPairs; no conditions. -/
import Derived.Test.YthakgchekjnfcaaV1
import Derived.Test.YthakgchekjnfcaaV5
set_option linter.all false
namespace Go.Va
theorem w64_def (x : Int) : w64 x = (x + 9223372036854775808) % 18446744073709551616 - 9223372036854775808 := by
  simp [w64, IntKind.wrap, IntKind.bits, IntKind.signed]
  split <;> omega
theorem w64_id {x : Int} (h1 : -9223372036854775808 ≤ x) (h2 : x ≤ 9223372036854775807) : w64 x = x := by
  rw [w64_def]; omega
theorem w64_succ {k : Nat} (h : k < 4611686018427387904) : w64 ((k : Int) + 1) = ((k + 1 : Nat) : Int) := by
  rw [w64_id (by omega) (by omega)]; rfl
theorem inb_nat {α : Type} {k : Nat} {xs : List α} : inb (k : Int) xs ↔ k < xs.length := by
  unfold inb; omega
theorem gd_nat {α : Type} {k : Nat} {xs : List α} {d : α} (h : k < xs.length) : gd xs (k : Int) d = xs[k] := by
  unfold gd; simp [h]
theorem stt_nat {α : Type} {k : Nat} {xs : List α} {x : α} : stt xs (k : Int) x = xs.set k x := by
  unfold stt; simp
/-- a loop over a list, from one place on -/
def runX {α σ β : Type} (step : σ → α → Option (σ ⊕ β)) (fin : σ → Option β) : List α → σ → Option β
  | [], s => fin s
  | a :: l, s => match step s a with | some (.inl s') => runX step fin l s' | some (.inr r) => some r | none => none
theorem loopX {α σ β : Type} (xs : List α) (L : Nat → σ → Int → Option β) (step : σ → α → Option (σ ⊕ β)) (fin : σ → Option β)
    (hs : ∀ n s (k : Nat) (hk : k < xs.length), L (n + 1) s k = match step s xs[k] with | some (.inl s') => L n s' ((k + 1 : Nat) : Int) | some (.inr r) => some r | none => none)
    (he : ∀ n s, L (n + 1) s (xs.length : Nat) = fin s) : ∀ (n k : Nat) (s : σ), k ≤ xs.length → xs.length - k < n → L n s k = runX step fin (xs.drop k) s := by
  intro n
  induction n with
  | zero => intro k s _ h; omega
  | succ n ih =>
    intro k s hk hn
    rcases Nat.lt_or_ge k xs.length with hlt | hge
    · rw [hs n s k hlt, List.drop_eq_getElem_cons hlt]
      simp only [runX]
      cases step s xs[k] with
      | none => rfl
      | some q =>
        cases q with
        | inl s' => exact ih (k + 1) s' hlt (by omega)
        | inr r => rfl
    · have : k = xs.length := by omega
      subst this
      rw [he, List.drop_length]; rfl
/-- .. from its start on -/
theorem loopX0 {α σ β : Type} (xs : List α) (L : Nat → σ → Int → Option β) (step : σ → α → Option (σ ⊕ β)) (fin : σ → Option β)
    (hs : ∀ n s (k : Nat) (hk : k < xs.length), L (n + 1) s k = match step s xs[k] with | some (.inl s') => L n s' ((k + 1 : Nat) : Int) | some (.inr r) => some r | none => none)
    (he : ∀ n s, L (n + 1) s (xs.length : Nat) = fin s) {n : Nat} (hn : xs.length < n) (s : σ) : L n s 0 = runX step fin xs s := by
  have := loopX xs L step fin hs he n 0 s (Nat.zero_le _) (by omega)
  simpa using this
/-- a loop that leaves at the first that fails -/
theorem runX_all {α β : Type} {p : α → Bool} {step : Unit → α → Option (Unit ⊕ β)} {fin : Unit → Option β} {r : β} : ∀ {l : List α}, (∀ a ∈ l, step () a = if p a then some (.inl ()) else some (.inr r)) → runX step fin l () = if l.all p then fin () else some r
  | [], _ => rfl
  | a :: l, h => by
    simp only [runX]
    rw [h a (by simp)]
    cases hp : p a with
    | true => simp only [if_true, List.all_cons, hp, Bool.true_and]; exact runX_all fun b hb => h b (List.mem_cons_of_mem _ hb)
    | false => simp [List.all_cons, hp]
/-- a loop that fills a list of the same length -/
theorem fillX {α β γ : Type} (xs : List α) (L : Nat → List β → Int → Option γ) (g : α → β) (fin : List β → Option γ)
    (hs : ∀ n (out : List β) (k : Nat) (hk : k < xs.length), out.length = xs.length → L (n + 1) out k = L n (out.set k (g xs[k])) ((k + 1 : Nat) : Int))
    (he : ∀ n out, out.length = xs.length → L (n + 1) out (xs.length : Nat) = fin out) : ∀ (n k : Nat) (out : List β), out.length = xs.length → k ≤ xs.length → xs.length - k < n → L n out k = fin (out.take k ++ (xs.drop k).map g) := by
  intro n
  induction n with
  | zero => intro k out _ _ h; omega
  | succ n ih =>
    intro k out hl hk hn
    rcases Nat.lt_or_ge k xs.length with hlt | hge
    · have : (out.set k (g xs[k])).take (k + 1) = out.take k ++ [g xs[k]] := by
        rw [List.take_succ_eq_append_getElem (by simp; omega), List.take_set_of_le (Nat.le_refl _), List.getElem_set_self]
      rw [hs n out k hlt hl, ih (k + 1) _ (by simpa using hl) hlt (by omega), List.drop_eq_getElem_cons hlt, this, List.map_cons, List.append_assoc, List.singleton_append]
    · have : k = xs.length := by omega
      subst this
      rw [he _ _ hl, List.drop_length, List.take_of_length_le (by omega)]; simp
theorem fillX0 {α β γ : Type} (xs : List α) (L : Nat → List β → Int → Option γ) (g : α → β) (fin : List β → Option γ)
    (hs : ∀ n (out : List β) (k : Nat) (hk : k < xs.length), out.length = xs.length → L (n + 1) out k = L n (out.set k (g xs[k])) ((k + 1 : Nat) : Int))
    (he : ∀ n out, out.length = xs.length → L (n + 1) out (xs.length : Nat) = fin out) {n : Nat} {out : List β} (hl : out.length = xs.length) (hn : xs.length < n) : L n out 0 = fin (xs.map g) := by
  have := fillX xs L g fin hs he n 0 out hl (Nat.zero_le _) (by omega)
  simpa using this
/-- a loop that holds two lists against each other -/
theorem eqX {α : Type} [DecidableEq α] (a b : List α) (hl : a.length = b.length) (L : Nat → Int → Option (Unit ⊕ Bool))
    (hs : ∀ n (k : Nat) (h1 : k < a.length) (h2 : k < b.length), L (n + 1) k = if a[k] = b[k] then L n ((k + 1 : Nat) : Int) else some (.inr false)) (he : ∀ n, L (n + 1) (a.length : Nat) = some (.inl ())) {n : Nat} (hn : a.length < n) :
    L n 0 = some (if a = b then .inl () else .inr false) := by
  have key : ∀ (n k : Nat), k ≤ a.length → a.length - k < n → L n k = some (if a.drop k = b.drop k then .inl () else .inr false) := by
    intro n
    induction n with
    | zero => intro k _ h; omega
    | succ n ih =>
      intro k hk hn
      rcases Nat.lt_or_ge k a.length with hlt | hge
      · have h2 : k < b.length := by omega
        have e : (a.drop k = b.drop k) ↔ (a[k] = b[k] ∧ a.drop (k + 1) = b.drop (k + 1)) := by
          rw [List.drop_eq_getElem_cons hlt, List.drop_eq_getElem_cons h2]; exact List.cons_eq_cons
        rw [hs n k hlt h2]
        by_cases h : a[k] = b[k]
        · rw [if_pos h, ih (k + 1) hlt (by omega)]
          by_cases h3 : a.drop (k + 1) = b.drop (k + 1)
          · rw [if_pos h3, if_pos (e.2 ⟨h, h3⟩)]
          · rw [if_neg h3, if_neg fun h' => h3 (e.1 h').2]
        · rw [if_neg h, if_neg fun h' => h (e.1 h').1]
      · have : k = a.length := by omega
        subst this
        rw [he, List.drop_length, hl, List.drop_length]; rfl
  have := key n 0 (Nat.zero_le _) (by omega)
  simpa using this
/-- a loop that asks of each element -/
theorem allX {α β : Type} (xs : List α) (L : Nat → Int → Option β) (p : α → Bool) (r e : β)
    (hs : ∀ n (k : Nat) (hk : k < xs.length), L (n + 1) k = if p xs[k] then L n ((k + 1 : Nat) : Int) else some r) (he : ∀ n, L (n + 1) (xs.length : Nat) = some e) {n : Nat} (hn : xs.length < n) :
    L n 0 = some (if xs.all p then e else r) := by
  have := loopX0 xs (fun n (_ : Unit) i => L n i) (fun _ a => if p a then some (.inl ()) else some (.inr r)) (fun _ => some e) (fun n s k hk => by rw [hs n k hk]; cases p xs[k] <;> simp) (fun n s => he n) hn ()
  rw [this, runX_all (p := p) (r := r) fun a _ => by cases p a <;> simp]
  cases xs.all p <;> simp
/-- a loop whose states are known -/
theorem forS {σ β : Type} (N : Nat) (L : Nat → σ → Int → Option β) (S : Nat → σ) {r : Option β}
    (hs : ∀ n (k : Nat), k < N → L (n + 1) (S k) k = L n (S (k + 1)) ((k + 1 : Nat) : Int)) (he : ∀ n, L (n + 1) (S N) (N : Nat) = r) {n : Nat} (hn : N < n) : L n (S 0) 0 = r := by
  have key : ∀ (n k : Nat), k ≤ N → N - k < n → L n (S k) k = r := by
    intro n
    induction n with
    | zero => intro k _ h; omega
    | succ n ih =>
      intro k hk hn
      rcases Nat.lt_or_ge k N with hlt | hge
      · rw [hs n k hlt]; exact ih (k + 1) hlt (by omega)
      · have : k = N := by omega
        subst this; exact he n
  exact key n 0 (Nat.zero_le _) (by omega)
/-- .. that leaves where p fails -/
theorem forA {σ β : Type} (N : Nat) (L : Nat → σ → Int → Option β) (S : Nat → σ) (p : Nat → Bool) {r e : Option β}
    (hs : ∀ n (k : Nat), k < N → L (n + 1) (S k) k = if p k then L n (S (k + 1)) ((k + 1 : Nat) : Int) else r) (he : ∀ n, L (n + 1) (S N) (N : Nat) = e) {n : Nat} (hn : N < n) :
    L n (S 0) 0 = if (List.range N).all p then e else r := by
  have key : ∀ (n k : Nat), k ≤ N → N - k < n → L n (S k) k = if (List.range' k (N - k)).all p then e else r := by
    intro n
    induction n with
    | zero => intro k _ h; omega
    | succ n ih =>
      intro k hk hn
      rcases Nat.lt_or_ge k N with hlt | hge
      · rw [hs n k hlt, show N - k = (N - (k + 1)) + 1 by omega, List.range'_succ, List.all_cons]
        cases hp : p k with
        | false => simp
        | true => simp only [if_true, Bool.true_and]; exact ih (k + 1) hlt (by omega)
      · have : k = N := by omega
        subst this; rw [he]; simp
  have := key n 0 (Nat.zero_le _) (by omega)
  rw [List.range_eq_range']
  simpa using this
/-- .. and knows that none failed before -/
theorem forB {σ β : Type} (N : Nat) (L : Nat → σ → Int → Option β) (S : Nat → σ) (p : Nat → Bool) {r e : Option β}
    (hs : ∀ n (k : Nat), k < N → (∀ j, j < k → p j = true) → L (n + 1) (S k) k = if p k then L n (S (k + 1)) ((k + 1 : Nat) : Int) else r) (he : ∀ n, (∀ j, j < N → p j = true) → L (n + 1) (S N) (N : Nat) = e) {n : Nat} (hn : N < n) :
    L n (S 0) 0 = if (List.range N).all p then e else r := by
  have key : ∀ (n k : Nat), k ≤ N → N - k < n → (∀ j, j < k → p j = true) → L n (S k) k = if (List.range' k (N - k)).all p then e else r := by
    intro n
    induction n with
    | zero => intro k _ h; omega
    | succ n ih =>
      intro k hk hn hb
      rcases Nat.lt_or_ge k N with hlt | hge
      · rw [hs n k hlt hb, show N - k = (N - (k + 1)) + 1 by omega, List.range'_succ, List.all_cons]
        cases hp : p k with
        | false => simp
        | true =>
          simp only [if_true, Bool.true_and]
          refine ih (k + 1) hlt (by omega) fun j hj => ?_
          rcases Nat.lt_or_ge j k with h | h
          · exact hb j h
          · have : j = k := by omega
            rw [this]; exact hp
      · have : k = N := by omega
        subst this; rw [he n hb]; simp
  have := key n 0 (Nat.zero_le _) (by omega) (fun j h => by omega)
  rw [List.range_eq_range']
  simpa using this
/-- sizes -/
def szR (t : Nat) (left : Int) : Int := if (t : Int) ≤ left then left - t else -1
end Go.Va
set_option linter.unusedVariables false
open Go Go.Va
namespace T
def fuel : Nat := 1099511627776
def laws_szIntS (a : List Int) (left : Int) : Option (Int) :=
  if decide ((w64 (left - (a.length : Int))) < 0) then
    some (-1)
  else
    some (w64 (left - (a.length : Int)))
def laws_szIntSS_L5 : Nat → ((List (List Int)) × Int × Int) → Option ((Int) ⊕ (Int))
  | 0, _ => none
  | n + 1, (a, left, i) =>
    if decide (i < (a.length : Int)) then
      if inb i a then
        (laws_szIntS (gd a i []) left).bind fun r1 =>
          if decide (r1 < 0) then
            some (.inr (-1))
          else
            laws_szIntSS_L5 n (a, r1, w64 (i + 1))
      else none
    else
      some (.inl left)
def laws_szIntSS (a : List (List Int)) (left : Int) : Option (Int) :=
  if decide ((w64 (left - (a.length : Int))) < 0) then
    some (-1)
  else
    (laws_szIntSS_L5 fuel (a, w64 (left - (a.length : Int)), 0)).bind fun s1 =>
      match s1 with
      | .inl s2 =>
        some s2
      | .inr s3 =>
        some s3
def laws_toIntS_L3 : Nat → ((List Int) × (List Int) × Int) → Option ((List Int))
  | 0, _ => none
  | n + 1, (a, out, i) =>
    if decide (i < (a.length : Int)) then
      if inb i a then
        if inb i out then
          laws_toIntS_L3 n (a, stt out i (gd a i 0), w64 (i + 1))
        else none
      else none
    else
      some out
def laws_toIntS (a : List Int) : Option ((List Int)) :=
  if 0 ≤ (a.length : Int) ∧ (a.length : Int) ≤ (a.length : Int) ∧ (a.length : Int) ≤ lim then
    (laws_toIntS_L3 fuel (a, List.replicate (Int.toNat (a.length : Int)) (0 : Int), 0)).bind fun s1 =>
      some s1
  else none
def laws_toIntSS_L3 : Nat → ((List (List Int)) × (List (List Int)) × Int) → Option ((List (List Int)))
  | 0, _ => none
  | n + 1, (a, out, i) =>
    if decide (i < (a.length : Int)) then
      if inb i a then
        (laws_toIntS (gd a i [])).bind fun r1 =>
          if inb i out then
            laws_toIntSS_L3 n (a, stt out i r1, w64 (i + 1))
          else none
      else none
    else
      some out
def laws_toIntSS (a : List (List Int)) : Option ((List (List Int))) :=
  if 0 ≤ (a.length : Int) ∧ (a.length : Int) ≤ (a.length : Int) ∧ (a.length : Int) ≤ lim then
    (laws_toIntSS_L3 fuel (a, List.replicate (Int.toNat (a.length : Int)) ([] : List Int), 0)).bind fun s1 =>
      some s1
  else none
def spec_l1In (x : Int) (a : Int) (b : Int) : Option (Bool) :=
  if decide (x ≥ a) then
    some (decide (x ≤ b))
  else
    some false
def spec_l2Elements_L2 : Nat → (Int × (List Int) × Int) → Option ((Unit) ⊕ (Bool))
  | 0, _ => none
  | n + 1, (n_, list, i) =>
    if decide (i < (list.length : Int)) then
      if inb i list then
        (spec_l1In (gd list i 0) 0 (w64 (n_ - 1))).bind fun r1 =>
          if !r1 then
            some (.inr false)
          else
            spec_l2Elements_L2 n (n_, list, w64 (i + 1))
      else none
    else
      some (.inl ())
def spec_l2Elements (n_ : Int) (list : List Int) : Option (Bool) :=
  (spec_l2Elements_L2 fuel (n_, list, 0)).bind fun s1 =>
    match s1 with
    | .inl s2 =>
      some true
    | .inr s3 =>
      some s3
def spec_l8Tuple (n_ : Int) (k : Int) (t : List Int) : Option (Bool) :=
  if (t.length : Int) == k then
    (spec_l2Elements n_ t).bind fun r1 =>
      some r1
  else
    some false
def impl_inSize_L2 : Nat → (Int × (List Int) × Int × Int) → Option ((Unit) ⊕ (Bool))
  | 0, _ => none
  | n + 1, (n_, t7, t8, t9) =>
    if decide (t9 < t8) then
      if inb t9 t7 then
        if decide ((gd t7 t9 0) < 0) then
          some (.inr false)
        else
          if decide ((gd t7 t9 0) ≥ n_) then
            some (.inr false)
          else
            impl_inSize_L2 n (n_, t7, t8, w64 (t9 + 1))
      else none
    else
      some (.inl ())
def impl_inSize (list : List Int) (n_ : Int) : Option (Bool) :=
  (impl_inSize_L2 fuel (n_, list, (list.length : Int), 0)).bind fun s1 =>
    match s1 with
    | .inl s2 =>
      some true
    | .inr s3 =>
      some s3
def laws_eqIntS_L4 : Nat → ((List Int) × (List Int) × Int) → Option ((Unit) ⊕ (Bool))
  | 0, _ => none
  | n + 1, (a, b, i) =>
    if decide (i < (a.length : Int)) then
      if inb i a then
        if inb i b then
          if (gd a i 0) != (gd b i 0) then
            some (.inr false)
          else
            laws_eqIntS_L4 n (a, b, w64 (i + 1))
        else none
      else none
    else
      some (.inl ())
def laws_eqIntS (a : List Int) (b : List Int) : Option (Bool) :=
  if (a.length : Int) != (b.length : Int) then
    some false
  else
    (laws_eqIntS_L4 fuel (a, b, 0)).bind fun s1 =>
      match s1 with
      | .inl s2 =>
        some true
      | .inr s3 =>
        some s3
def laws_eqIntSS_L4 : Nat → ((List (List Int)) × (List (List Int)) × Int) → Option ((Unit) ⊕ (Bool))
  | 0, _ => none
  | n + 1, (a, b, i) =>
    if decide (i < (a.length : Int)) then
      if inb i a then
        if inb i b then
          (laws_eqIntS (gd a i []) (gd b i [])).bind fun r1 =>
            if !r1 then
              some (.inr false)
            else
              laws_eqIntSS_L4 n (a, b, w64 (i + 1))
        else none
      else none
    else
      some (.inl ())
def laws_eqIntSS (a : List (List Int)) (b : List (List Int)) : Option (Bool) :=
  if (a.length : Int) != (b.length : Int) then
    some false
  else
    (laws_eqIntSS_L4 fuel (a, b, 0)).bind fun s1 =>
      match s1 with
      | .inl s2 =>
        some true
      | .inr s3 =>
        some s3
def spec_l2Pow_L2 : Nat → (Int × Int × Int) → Option (Int)
  | 0, _ => none
  | n + 1, (n_, k, out) =>
    if decide (k > 0) then
      spec_l2Pow_L2 n (n_, w64 (k - 1), w64 (out * n_))
    else
      some out
def spec_l2Pow (n_ : Int) (k : Int) : Option (Int) :=
  (spec_l2Pow_L2 fuel (n_, k, 1)).bind fun s1 =>
    some s1
def spec_l3Less_L2 : Nat → ((List Int) × (List Int) × Int) → Option ((Unit) ⊕ (Bool))
  | 0, _ => none
  | n + 1, (a, b, i) =>
    if decide (i < (a.length : Int)) then
      if inb i a then
        if inb i b then
          if (gd a i 0) != (gd b i 0) then
            if inb i a then
              if inb i b then
                some (.inr (decide ((gd a i 0) < (gd b i 0))))
              else none
            else none
          else
            spec_l3Less_L2 n (a, b, w64 (i + 1))
        else none
      else none
    else
      some (.inl ())
def spec_l3Less (a : List Int) (b : List Int) : Option (Bool) :=
  (spec_l3Less_L2 fuel (a, b, 0)).bind fun s1 =>
    match s1 with
    | .inl s2 =>
      some false
    | .inr s3 =>
      some s3
def spec_l1Same_L4 : Nat → ((List Int) × (List Int) × Int) → Option ((Unit) ⊕ (Bool))
  | 0, _ => none
  | n + 1, (a, b, i) =>
    if decide (i < (a.length : Int)) then
      if inb i a then
        if inb i b then
          if (gd a i 0) != (gd b i 0) then
            some (.inr false)
          else
            spec_l1Same_L4 n (a, b, w64 (i + 1))
        else none
      else none
    else
      some (.inl ())
def spec_l1Same (a : List Int) (b : List Int) : Option (Bool) :=
  if (a.length : Int) != (b.length : Int) then
    some false
  else
    (spec_l1Same_L4 fuel (a, b, 0)).bind fun s1 =>
      match s1 with
      | .inl s2 =>
        some true
      | .inr s3 =>
        some s3
def spec_l8Find_L2 : Nat → ((List (List Int)) × (List Int) × Int × Int) → Option ((List (List Int)) × (List Int) × Int)
  | 0, _ => none
  | n + 1, (list, t, from_, to) =>
    if decide (from_ < to) then
      if (2 : Int) ≠ 0 then
        if inb (w64 (Int.tdiv (w64 (from_ + to)) 2)) list then
          (spec_l3Less (gd list (w64 (Int.tdiv (w64 (from_ + to)) 2)) []) t).bind fun r1 =>
            if r1 then
              spec_l8Find_L2 n (list, t, w64 ((w64 (Int.tdiv (w64 (from_ + to)) 2)) + 1), to)
            else
              spec_l8Find_L2 n (list, t, from_, w64 (Int.tdiv (w64 (from_ + to)) 2))
        else none
      else none
    else
      some (list, t, from_)
def spec_l8Find (list : List (List Int)) (t : List Int) : Option (Int × Bool) :=
  (spec_l8Find_L2 fuel (list, t, 0, (list.length : Int))).bind fun s1 =>
    if decide (s1.2.2 < (s1.1.length : Int)) then
      if inb s1.2.2 s1.1 then
        (spec_l1Same (gd s1.1 s1.2.2 []) s1.2.1).bind fun r2 =>
          some (s1.2.2, r2)
      else none
    else
      some (s1.2.2, false)
def impl_compareLists_L2 : Nat → ((List Int) × (List Int) × Int) → Option (((List Int) × (List Int)) ⊕ (Int))
  | 0, _ => none
  | n + 1, (s, t, i) =>
    if decide (i < (s.length : Int)) then
      if decide (i < (t.length : Int)) then
        if inb i s then
          if inb i t then
            if (gd s i 0) != (gd t i 0) then
              if inb i s then
                if inb i t then
                  if decide ((gd s i 0) < (gd t i 0)) then
                    some (.inr (-1))
                  else
                    some (.inr 1)
                else none
              else none
            else
              impl_compareLists_L2 n (s, t, w64 (i + 1))
          else none
        else none
      else
        some (.inl (s, t))
    else
      some (.inl (s, t))
def impl_compareLists (s : List Int) (t : List Int) : Option (Int) :=
  (impl_compareLists_L2 fuel (s, t, 0)).bind fun s1 =>
    match s1 with
    | .inl s2 =>
      if decide ((s2.1.length : Int) < (s2.2.length : Int)) then
        some (-1)
      else
        if decide ((s2.1.length : Int) > (s2.2.length : Int)) then
          some 1
        else
          some 0
    | .inr s3 =>
      some s3
end T
open Go Go.Va
namespace T
theorem szIntS_ok {a : List Int} {left : Int} (h0 : 0 ≤ left) (h1 : left ≤ 4611686018427387904) (ha : a.length ≤ 9223372036854775807) : laws_szIntS a left = some (szR a.length left) := by
  unfold laws_szIntS szR
  rw [w64_id (by omega) (by omega)]
  by_cases h : (a.length : Int) ≤ left
  · rw [if_neg (by simp; omega), if_pos h]
  · rw [if_pos (by simp; omega), if_neg h]
/-- all numbers, and the rows -/
def totSS (a : List (List Int)) : Nat := a.length + (a.map List.length).sum
theorem szIntSS_ok {a : List (List Int)} {left : Int} (h0 : 0 ≤ left) (h1 : left ≤ 1099511627775) (ha : a.length ≤ 9223372036854775807) (hr : ∀ r ∈ a, r.length ≤ 9223372036854775807) : laws_szIntSS a left = some (szR (totSS a) left) := by
  unfold laws_szIntSS
  rw [w64_id (by omega) (by omega)]
  by_cases h : (a.length : Int) ≤ left
  · rw [if_neg (by simp; omega)]
    have key := loopX0 a (fun n s i => laws_szIntSS_L5 n (a, s, i)) (fun s r => (laws_szIntS r s).bind fun q => if q < 0 then some (.inr (.inr (-1))) else some (.inl q)) (fun s => some (.inl s)) ?_ ?_ (n := fuel) (by unfold fuel; omega) (left - a.length)
    · rw [key]
      have run : ∀ (l : List (List Int)) (s : Int), 0 ≤ s → s ≤ 1099511627775 → (∀ r ∈ l, r.length ≤ 9223372036854775807) →
          runX (fun s r => (laws_szIntS r s).bind fun q => if q < 0 then some (.inr (.inr (-1))) else some (.inl q)) (fun s => some (.inl s)) l s = some (if ((l.map List.length).sum : Int) ≤ s then (.inl (s - (l.map List.length).sum) : Int ⊕ Int) else .inr (-1)) := by
        intro l
        induction l with
        | nil => intro s h0 _ _; simp [runX, h0]
        | cons r l ih =>
          intro s h0 h1 hr
          simp only [runX]
          rw [szIntS_ok h0 (by omega) (hr r (by simp))]
          unfold szR
          by_cases h : (r.length : Int) ≤ s
          · rw [if_pos h]
            simp only [Option.bind_some]
            rw [if_neg (by omega)]
            dsimp only
            rw [ih (s - r.length) (by omega) (by omega) fun r hr' => hr r (List.mem_cons_of_mem _ hr')]
            simp only [List.map_cons, List.sum_cons]
            congr 1
            by_cases h2 : (((l.map List.length).sum : Nat) : Int) ≤ s - r.length
            · rw [if_pos h2, if_pos (by omega)]; congr 1; omega
            · rw [if_neg h2, if_neg (by omega)]
          · rw [if_neg h]
            simp only [List.map_cons, List.sum_cons]
            rw [if_neg (by omega)]
            rfl
      rw [run a _ (by omega) (by omega) hr]
      unfold szR totSS
      by_cases h2 : (((a.map List.length).sum : Nat) : Int) ≤ left - a.length
      · rw [if_pos h2, if_pos (by omega)]
        simp only [Option.bind_some, Option.some.injEq]; omega
      · rw [if_neg h2, if_neg (by omega)]; rfl
    · intro n s k hk
      simp only [laws_szIntSS_L5, inb_nat, gd_nat hk, w64_succ (show k < 4611686018427387904 by omega)]
      simp [hk]
      cases laws_szIntS a[k] s with
      | none => rfl
      | some q => by_cases hq : q < 0 <;> simp [hq]
    · intro n s
      simp [laws_szIntSS_L5]
  · rw [if_pos (by simp; omega)]
    unfold szR totSS
    rw [if_neg (by omega)]
theorem toIntS_ok {a : List Int} (ha : a.length ≤ 1099511627775) : laws_toIntS a = some a := by
  unfold laws_toIntS
  rw [if_pos (by unfold lim; omega)]
  have key := fillX0 a (fun n out i => laws_toIntS_L3 n (a, out, i)) id some ?_ ?_ (n := fuel) (out := List.replicate (Int.toNat (a.length : Int)) (0 : Int)) (by simp) (by unfold fuel; omega)
  · rw [key]; simp
  · intro n out k hk hl
    simp only [laws_toIntS_L3, inb_nat, gd_nat hk, stt_nat, w64_succ (show k < 4611686018427387904 by omega)]
    simp [hk, hl]
  · intro n out hl
    simp [laws_toIntS_L3]
theorem toIntSS_ok {a : List (List Int)} (ha : a.length ≤ 1099511627775) (hr : ∀ r ∈ a, r.length ≤ 1099511627775) : laws_toIntSS a = some a := by
  unfold laws_toIntSS
  rw [if_pos (by unfold lim; omega)]
  have key := fillX0 a (fun n out i => laws_toIntSS_L3 n (a, out, i)) id some ?_ ?_ (n := fuel) (out := List.replicate (Int.toNat (a.length : Int)) ([] : List Int)) (by simp) (by unfold fuel; omega)
  · rw [key]; simp
  · intro n out k hk hl
    simp only [laws_toIntSS_L3, inb_nat, gd_nat hk, stt_nat, w64_succ (show k < 4611686018427387904 by omega)]
    simp [hk, hl, toIntS_ok (hr _ (List.getElem_mem hk))]
  · intro n out hl
    simp [laws_toIntSS_L3]
theorem eqIntS_ok {a b : List Int} (ha : a.length ≤ 1099511627775) : laws_eqIntS a b = some (decide (a = b)) := by
  unfold laws_eqIntS
  by_cases hl : a.length = b.length
  · rw [if_neg (by simp [hl]), eqX a b hl (fun n i => laws_eqIntS_L4 n (a, b, i)) ?_ ?_ (by unfold fuel; omega)]
    · by_cases h : a = b <;> simp [h]
    · intro n k h1 h2
      simp only [laws_eqIntS_L4, inb_nat, gd_nat h1, gd_nat h2, w64_succ (show k < 4611686018427387904 by omega)]
      by_cases h : a[k] = b[k] <;> simp [h1, h2, h]
    · intro n
      simp [laws_eqIntS_L4]
  · rw [if_pos (by simp; omega), decide_eq_false (fun e => hl (by rw [e]))]
theorem eqIntSS_ok {a b : List (List Int)} (ha : a.length ≤ 1099511627775) (hr : ∀ r ∈ a, r.length ≤ 1099511627775) : laws_eqIntSS a b = some (decide (a = b)) := by
  unfold laws_eqIntSS
  by_cases hl : a.length = b.length
  · rw [if_neg (by simp [hl]), eqX a b hl (fun n i => laws_eqIntSS_L4 n (a, b, i)) ?_ ?_ (by unfold fuel; omega)]
    · by_cases h : a = b <;> simp [h]
    · intro n k h1 h2
      simp only [laws_eqIntSS_L4, inb_nat, gd_nat h1, gd_nat h2, w64_succ (show k < 4611686018427387904 by omega), eqIntS_ok (hr _ (List.getElem_mem h1))]
      by_cases h : a[k] = b[k] <;> simp [h1, h2, h]
    · intro n
      simp [laws_eqIntSS_L4]
  · rw [if_pos (by simp; omega), decide_eq_false (fun e => hl (by rw [e]))]
theorem mem_sum {l : List (List Int)} : ∀ {r : List Int}, r ∈ l → r.length ≤ (l.map List.length).sum := by
  induction l with
  | nil => intro r h; cases h
  | cons x l ih =>
    intro r h
    rw [List.map_cons, List.sum_cons]
    rcases List.mem_cons.1 h with rfl | h
    · omega
    · have := ih h; omega
theorem spec_l1In_ok (x a b : Int) : spec_l1In x a b = some (decide (a ≤ x ∧ x ≤ b)) := by
  unfold spec_l1In
  by_cases h : a ≤ x <;> simp [h]
/-- all numbers are below n -/
def belowB (n : Int) (l : List Int) : Bool := l.all fun x => decide (0 ≤ x ∧ x < n)
theorem impl_inSize_ok {l : List Int} (n : Int) (hl : l.length ≤ 1099511627775) : impl_inSize l n = some (belowB n l) := by
  unfold impl_inSize
  rw [allX l (fun m i => impl_inSize_L2 m (n, l, (l.length : Int), i)) (fun x => decide (0 ≤ x ∧ x < n)) (.inr false) (.inl ()) ?_ ?_ (by unfold fuel; omega)]
  · unfold belowB; cases l.all (fun x => decide (0 ≤ x ∧ x < n)) <;> simp
  · intro m k hk
    simp only [impl_inSize_L2, inb_nat, gd_nat hk, w64_succ (show k < 4611686018427387904 by omega)]
    by_cases h1 : l[k] < 0
    · simp [hk, h1, show ¬ 0 ≤ l[k] by omega]
    · by_cases h2 : n ≤ l[k]
      · simp [hk, h1, h2, show ¬ l[k] < n by omega]
      · simp [hk, h1, h2, show 0 ≤ l[k] ∧ l[k] < n by omega]
  · intro m
    simp [impl_inSize_L2]
theorem spec_l2Elements_ok {l : List Int} {n : Int} (hn : -9223372036854775808 < n) (hn' : n ≤ 9223372036854775807) (hl : l.length ≤ 1099511627775) : spec_l2Elements n l = some (belowB n l) := by
  unfold spec_l2Elements
  rw [allX l (fun m i => spec_l2Elements_L2 m (n, l, i)) (fun x => decide (0 ≤ x ∧ x < n)) (.inr false) (.inl ()) ?_ ?_ (by unfold fuel; omega)]
  · unfold belowB; cases l.all (fun x => decide (0 ≤ x ∧ x < n)) <;> simp
  · intro m k hk
    simp only [spec_l2Elements_L2, inb_nat, gd_nat hk, w64_succ (show k < 4611686018427387904 by omega), spec_l1In_ok, w64_id (show -9223372036854775808 ≤ n - 1 by omega) (show n - 1 ≤ 9223372036854775807 by omega)]
    by_cases h1 : 0 ≤ l[k] ∧ l[k] < n
    · simp [hk, h1, show l[k] ≤ n - 1 by omega]
    · have : ¬ (0 ≤ l[k] ∧ l[k] ≤ n - 1) := by omega
      simp [hk, h1, this]
  · intro m
    simp [spec_l2Elements_L2]
theorem spec_l8Tuple_ok {l : List Int} {n : Int} (k : Int) (hn : -9223372036854775808 < n) (hn' : n ≤ 9223372036854775807) (hl : l.length ≤ 1099511627775) : spec_l8Tuple n k l = some (decide ((l.length : Int) = k) && belowB n l) := by
  unfold spec_l8Tuple
  rw [spec_l2Elements_ok hn hn' hl]
  by_cases h : (l.length : Int) = k <;> simp [h]
end T
open Go Go.Va
namespace T
theorem belowB_get {n : Int} {l : List Int} (h : belowB n l = true) (k : Nat) (hk : k < l.length) : 0 ≤ l[k] ∧ l[k] < n := by
  have := (List.all_eq_true.1 h) l[k] (List.getElem_mem hk)
  simpa using this
section
variable {p v : Int} {rows : List (List Int)} {y : List Int}
end
end T
open Go Go.Va
namespace T
/- lists in order -/
/-- -1, 0 or 1 by the first place where two lists part -/
def cmpL : List Int → List Int → Int
  | [], [] => 0
  | [], _ :: _ => -1
  | _ :: _, [] => 1
  | a :: s, b :: t => if a = b then cmpL s t else if a < b then -1 else 1
theorem compare_L2 {s t : List Int} (hs : s.length ≤ 1099511627775) : ∀ (n k : Nat), k ≤ s.length → k ≤ t.length → s.length - k < n →
    (impl_compareLists_L2 n (s, t, (k : Int))).bind (fun s1 => match s1 with
      | .inl s2 => if decide ((s2.1.length : Int) < (s2.2.length : Int)) then some (-1) else if decide ((s2.1.length : Int) > (s2.2.length : Int)) then some 1 else some 0
      | .inr s3 => some s3) = some (cmpL (s.drop k) (t.drop k)) := by
  intro n
  induction n with
  | zero => intro k _ _ h; omega
  | succ n ih =>
    intro k h1 h2 hn
    by_cases k1 : k < s.length
    · by_cases k2 : k < t.length
      · rw [List.drop_eq_getElem_cons k1, List.drop_eq_getElem_cons k2]
        simp only [impl_compareLists_L2, inb_nat, gd_nat k1, gd_nat k2, w64_succ (show k < 4611686018427387904 by omega), cmpL]
        by_cases he : s[k] = t[k]
        · have := ih (k + 1) k1 k2 (by omega)
          simp [k1, k2, he]
          simpa using this
        · by_cases hl : s[k] < t[k] <;> simp [k1, k2, he, hl]
      · rw [List.drop_eq_getElem_cons k1, List.drop_of_length_le (show t.length ≤ k by omega)]
        have e : k = t.length := by omega
        simp only [impl_compareLists_L2, cmpL]
        simp [k1, k2, show ¬ s.length < t.length by omega, show t.length < s.length by omega]
    · rw [List.drop_of_length_le (show s.length ≤ k by omega)]
      simp only [impl_compareLists_L2]
      by_cases k2 : k < t.length
      · rw [List.drop_eq_getElem_cons k2]
        simp [k1, cmpL, show s.length < t.length by omega]
      · rw [List.drop_of_length_le (show t.length ≤ k by omega)]
        simp [k1, cmpL, show ¬ s.length < t.length by omega, show ¬ t.length < s.length by omega]
theorem impl_compareLists_ok {s t : List Int} (hs : s.length ≤ 1099511627775) : impl_compareLists s t = some (cmpL s t) := by
  have := compare_L2 (t := t) hs fuel 0 (Nat.zero_le _) (Nat.zero_le _) (by unfold fuel; omega)
  rw [List.drop_zero, List.drop_zero] at this
  exact this
theorem spec_l3Less_ok {s t : List Int} (hs : s.length ≤ 1099511627775) (hl : s.length = t.length) : spec_l3Less s t = some (decide (cmpL s t < 0)) := by
  have key : ∀ (n k : Nat), k ≤ s.length → s.length - k < n → (spec_l3Less_L2 n (s, t, (k : Int))).bind (fun s1 => match s1 with | .inl _ => some false | .inr s3 => some s3) = some (decide (cmpL (s.drop k) (t.drop k) < 0)) := by
    intro n
    induction n with
    | zero => intro k _ h; omega
    | succ n ih =>
      intro k h1 hn
      by_cases k1 : k < s.length
      · have k2 : k < t.length := by omega
        rw [List.drop_eq_getElem_cons k1, List.drop_eq_getElem_cons k2]
        simp only [spec_l3Less_L2, inb_nat, gd_nat k1, gd_nat k2, w64_succ (show k < 4611686018427387904 by omega), cmpL]
        by_cases he : s[k] = t[k]
        · have := ih (k + 1) k1 (by omega)
          simp [k1, k2, he]
          simpa using this
        · by_cases hl : s[k] < t[k] <;> simp [k1, k2, he, hl]
      · rw [List.drop_of_length_le (show s.length ≤ k by omega), List.drop_of_length_le (show t.length ≤ k by omega)]
        simp [spec_l3Less_L2, k1, cmpL]
  have := key fuel 0 (Nat.zero_le _) (by unfold fuel; omega)
  rw [List.drop_zero, List.drop_zero] at this
  exact this
theorem spec_l1Same_ok {a b : List Int} (ha : a.length ≤ 1099511627775) : spec_l1Same a b = some (decide (a = b)) := by
  unfold spec_l1Same
  by_cases hl : a.length = b.length
  · rw [if_neg (by simp [hl]), eqX a b hl (fun n i => spec_l1Same_L4 n (a, b, i)) ?_ ?_ (by unfold fuel; omega)]
    · by_cases h : a = b <;> simp [h]
    · intro n k h1 h2
      simp only [spec_l1Same_L4, inb_nat, gd_nat h1, gd_nat h2, w64_succ (show k < 4611686018427387904 by omega)]
      by_cases h : a[k] = b[k] <;> simp [h1, h2, h]
    · intro n
      simp [spec_l1Same_L4]
  · rw [if_pos (by simp; omega), decide_eq_false (fun e => hl (by rw [e]))]
theorem cmpL_refl : ∀ s, cmpL s s = 0
  | [] => rfl
  | a :: s => by simp [cmpL, cmpL_refl s]
theorem cmpL_trans : ∀ {s t u}, cmpL s t < 0 → cmpL t u < 0 → cmpL s u < 0
  | [], [], _, h, _ => by simp [cmpL] at h
  | [], _ :: _, [], _, h => by simp [cmpL] at h
  | [], _ :: _, _ :: _, _, _ => by simp [cmpL]
  | _ :: _, [], _, h, _ => by simp [cmpL] at h
  | _ :: _, _ :: _, [], _, h => by simp [cmpL] at h
  | a :: s, b :: t, c :: u, h1, h2 => by
    simp only [cmpL] at *
    by_cases e1 : a = b
    · rw [if_pos e1] at h1
      by_cases e2 : b = c
      · rw [if_pos e2] at h2; rw [if_pos (e1.trans e2)]; exact cmpL_trans h1 h2
      · rw [if_neg e2] at h2; rw [e1, if_neg e2]; exact h2
    · rw [if_neg e1] at h1
      have l1 : a < b := by
        by_cases h : a < b
        · exact h
        · rw [if_neg h] at h1; omega
      by_cases e2 : b = c
      · rw [← e2, if_neg e1, if_pos l1]; omega
      · rw [if_neg e2] at h2
        have l2 : b < c := by
          by_cases h : b < c
          · exact h
          · rw [if_neg h] at h2; omega
        rw [if_neg (by omega), if_pos (by omega)]; omega
/-- each is less than the next -/
def incB : List (List Int) → Bool
  | a :: b :: l => decide (cmpL a b < 0) && incB (b :: l)
  | _ => true
theorem incB_tail {a : List Int} {l : List (List Int)} (h : incB (a :: l) = true) : incB l = true := by
  cases l with
  | nil => rfl
  | cons b l => simp only [incB, Bool.and_eq_true] at h; exact h.2
theorem incB_head : ∀ {a : List Int} {l : List (List Int)}, incB (a :: l) = true → ∀ b ∈ l, cmpL a b < 0
  | a, [], _, b, hb => by cases hb
  | a, c :: l, h, b, hb => by
    simp only [incB, Bool.and_eq_true, decide_eq_true_eq] at h
    rcases List.mem_cons.1 hb with rfl | hb
    · exact h.1
    · exact cmpL_trans h.1 (incB_head h.2 b hb)
theorem incB_lt : ∀ {l : List (List Int)}, incB l = true → ∀ (i j : Nat) (hi : i < j) (hj : j < l.length), cmpL (l[i]'(by omega)) l[j] < 0
  | [], _, i, j, _, hj => by simp at hj
  | a :: l, h, 0, j + 1, _, hj => by
    simp only [List.getElem_cons_zero, List.getElem_cons_succ]
    exact incB_head h _ (List.getElem_mem _)
  | a :: l, h, i + 1, j + 1, hi, hj => by
    simp only [List.getElem_cons_succ]
    exact incB_lt (incB_tail h) i j (by omega) (by simpa using hj)
theorem incB_iff {l : List (List Int)} : incB l = true ↔ ∀ (i : Nat) (hi : i + 1 < l.length), cmpL (l[i]'(by omega)) l[i + 1] < 0 := by
  constructor
  · exact fun h i hi => incB_lt h i (i + 1) (by omega) hi
  · induction l with
    | nil => intro _; rfl
    | cons a l ih =>
      intro h
      cases l with
      | nil => rfl
      | cons b l =>
        simp only [incB, Bool.and_eq_true, decide_eq_true_eq]
        exact ⟨h 0 (by simp), ih fun i hi => by have := h (i + 1) (by simpa using hi); simpa using this⟩
end T
open Go Go.Va
namespace T
/- powers and places -/
theorem pow_le_of {n : Int} (h0 : 0 ≤ n) (h8 : n ≤ 8) : ∀ k : Nat, 0 ≤ n ^ k ∧ n ^ k ≤ 8 ^ k
  | 0 => by simp
  | k + 1 => by
    obtain ⟨h1, h2⟩ := pow_le_of h0 h8 k
    rw [Int.pow_succ, Int.pow_succ]
    exact ⟨Int.mul_nonneg h1 h0, Int.mul_le_mul h2 h8 h0 (by have : (0 : Int) ≤ 8 ^ k := Int.le_trans h1 h2; exact this)⟩
theorem pow8_le : ∀ k : Nat, k ≤ 20 → (8 : Int) ^ k ≤ 8 ^ 20 := by
  intro k hk
  have : ((8 ^ k : Nat) : Int) ≤ ((8 ^ 20 : Nat) : Int) := Int.ofNat_le.2 (Nat.pow_le_pow_right (by omega) hk)
  simpa using this
theorem pow_bd {n : Int} (h0 : 0 ≤ n) (h8 : n ≤ 8) {k : Nat} (hk : k ≤ 20) : 0 ≤ n ^ k ∧ n ^ k ≤ 1152921504606846976 := by
  obtain ⟨h1, h2⟩ := pow_le_of h0 h8 k
  have := pow8_le k hk
  exact ⟨h1, by have e : (8 : Int) ^ 20 = 1152921504606846976 := by decide
                omega⟩
theorem l2Pow_L2 {n : Int} (h0 : 0 ≤ n) (h8 : n ≤ 8) : ∀ (m k j : Nat), j + k ≤ 20 → k < m → spec_l2Pow_L2 m (n, (k : Int), n ^ j) = some (n ^ (j + k)) := by
  intro m
  induction m with
  | zero => intro k j _ h; omega
  | succ m ih =>
    intro k j hj hk
    simp only [spec_l2Pow_L2]
    cases k with
    | zero => simp
    | succ k =>
      have e : w64 (((k + 1 : Nat) : Int) - 1) = (k : Int) := by rw [w64_id (by omega) (by omega)]; omega
      have hb := pow_bd h0 h8 (k := j + 1) (by omega)
      rw [Int.pow_succ] at hb
      rw [e, w64_id (by omega) (by omega), ← Int.pow_succ, if_pos (by simp), ih k (j + 1) (by omega) (by omega)]
      congr 2 <;> omega
theorem spec_l2Pow_ok {n : Int} (h0 : 0 ≤ n) (h8 : n ≤ 8) {k : Nat} (hk : k ≤ 20) : spec_l2Pow n (k : Int) = some (n ^ k) := by
  unfold spec_l2Pow
  have := l2Pow_L2 h0 h8 fuel k 0 (by omega) (by unfold fuel; omega)
  rw [Int.pow_zero] at this
  rw [this]; simp
/-- the place of a list among all lists of its length -/
def idxA (n : Int) : Int → List Int → Int
  | i, [] => i
  | i, a :: l => idxA n (i * n + a) l
def idx (n : Int) (l : List Int) : Int := idxA n 0 l
theorem idxA_eq (n : Int) : ∀ (l : List Int) (i : Int), idxA n i l = i * n ^ l.length + idxA n 0 l
  | [], i => by simp [idxA]
  | a :: l, i => by
    simp only [idxA, List.length_cons]
    rw [idxA_eq n l (i * n + a), idxA_eq n l (0 * n + a), Int.pow_succ]
    simp only [Int.zero_mul, Int.zero_add]
    rw [Int.add_mul, Int.mul_assoc, Int.mul_comm n (n ^ l.length)]
    omega
theorem idx_cons (n a : Int) (l : List Int) : idx n (a :: l) = a * n ^ l.length + idx n l := by
  unfold idx
  simp only [idxA]
  rw [idxA_eq]; simp
theorem belowB_cons {n a : Int} {l : List Int} : belowB n (a :: l) = true ↔ (0 ≤ a ∧ a < n) ∧ belowB n l = true := by
  unfold belowB; simp [List.all_cons]
theorem idx_bd {n : Int} : ∀ {l : List Int}, belowB n l = true → 0 ≤ idx n l ∧ idx n l < n ^ l.length
  | [], _ => by simp [idx, idxA]
  | a :: l, h => by
    obtain ⟨h1, h2⟩ := belowB_cons.1 h
    obtain ⟨h3, h4⟩ := idx_bd h2
    rw [idx_cons, List.length_cons, Int.pow_succ]
    have hp : 0 ≤ n ^ l.length := by omega
    have k1 := Int.mul_nonneg h1.1 hp
    have k2 := Int.mul_le_mul_of_nonneg_right (show a + 1 ≤ n by omega) hp
    rw [Int.add_mul, Int.one_mul, Int.mul_comm n] at k2
    exact ⟨by omega, by omega⟩
theorem idx_cmp {n : Int} : ∀ {s t : List Int}, belowB n s = true → belowB n t = true → s.length = t.length → (cmpL s t < 0 ↔ idx n s < idx n t) ∧ (cmpL s t = 0 ↔ idx n s = idx n t)
  | [], [], _, _, _ => by simp [cmpL, idx, idxA]
  | [], _ :: _, _, _, h => by simp at h
  | _ :: _, [], _, _, h => by simp at h
  | a :: s, b :: t, hs, ht, hl => by
    obtain ⟨s1, s2⟩ := belowB_cons.1 hs
    obtain ⟨t1, t2⟩ := belowB_cons.1 ht
    have hl' : s.length = t.length := by simpa using hl
    have ih := idx_cmp s2 t2 hl'
    obtain ⟨b1, b2⟩ := idx_bd s2
    obtain ⟨c1, c2⟩ := idx_bd t2
    rw [idx_cons, idx_cons, hl']
    rw [hl'] at b2
    simp only [cmpL]
    have hp : 0 ≤ n ^ t.length := by omega
    rcases Int.lt_trichotomy a b with h | h | h
    · have := Int.mul_le_mul_of_nonneg_right (show a + 1 ≤ b by omega) hp
      rw [Int.add_mul, Int.one_mul] at this
      rw [if_neg (by omega), if_pos h]
      exact ⟨by constructor <;> intro <;> omega, by constructor <;> intro <;> omega⟩
    · subst h
      rw [if_pos rfl]
      exact ⟨by rw [ih.1]; constructor <;> intro <;> omega, by rw [ih.2]; constructor <;> intro <;> omega⟩
    · have := Int.mul_le_mul_of_nonneg_right (show b + 1 ≤ a by omega) hp
      rw [Int.add_mul, Int.one_mul] at this
      rw [if_neg (by omega), if_neg (by omega)]
      exact ⟨by constructor <;> intro <;> omega, by constructor <;> intro <;> omega⟩
/-- lists in order are no more than there are -/
theorem inc_count {n : Int} {k : Nat} {l : List (List Int)} (hi : incB l = true) (hv : ∀ t ∈ l, t.length = k ∧ belowB n t = true) : (l.length : Int) ≤ n ^ k ∨ l = [] := by
  have key : ∀ (i : Nat) (h : i < l.length), (i : Int) ≤ idx n l[i] := by
    intro i
    induction i with
    | zero => intro h; exact (idx_bd (hv _ (List.getElem_mem h)).2).1
    | succ i ih =>
      intro h
      have h1 := ih (by omega)
      obtain ⟨l1, b1⟩ := hv _ (List.getElem_mem (show i < l.length by omega))
      obtain ⟨l2, b2⟩ := hv _ (List.getElem_mem h)
      have := (idx_cmp b1 b2 (l1.trans l2.symm)).1.1 (incB_lt hi i (i + 1) (by omega) h)
      omega
  cases hn : l.length with
  | zero => exact .inr (List.length_eq_zero_iff.1 hn)
  | succ m =>
    left
    have h := key m (by omega)
    obtain ⟨l1, b1⟩ := hv _ (List.getElem_mem (show m < l.length by omega))
    have := (idx_bd b1).2
    rw [l1] at this
    omega
/- finding in a list in order -/
theorem find_L2 {list : List (List Int)} {t : List Int} {k : Nat} (hl : list.length ≤ 1099511627775) (hk : k ≤ 1099511627775) (hv : ∀ u ∈ list, u.length = k) (ht : t.length = k) (hi : incB list = true) : ∀ (m a b : Nat), a ≤ b → b ≤ list.length → b - a < m →
    (∀ i (h : i < list.length), i < a → cmpL list[i] t < 0) → (∀ i (h : i < list.length), b ≤ i → ¬ cmpL list[i] t < 0) →
    ∃ c : Nat, spec_l8Find_L2 m (list, t, (a : Int), (b : Int)) = some (list, t, (c : Int)) ∧ c ≤ list.length ∧ (∀ i (h : i < list.length), i < c → cmpL list[i] t < 0) ∧ (∀ i (h : i < list.length), c ≤ i → ¬ cmpL list[i] t < 0) := by
  intro m
  induction m with
  | zero => intro a b _ _ h; omega
  | succ m ih =>
    intro a b hab hb hm h1 h2
    simp only [spec_l8Find_L2]
    by_cases hlt : a < b
    · have emid : w64 (Int.tdiv (w64 ((a : Int) + b)) 2) = (((a + b) / 2 : Nat) : Int) := by
        rw [w64_id (x := (a : Int) + b) (by omega) (by omega), Int.tdiv_eq_ediv_of_nonneg (by omega), w64_id (by omega) (by omega)]; omega
      have hmid : (a + b) / 2 < list.length := by omega
      rw [emid]
      have hless := spec_l3Less_ok (s := list[(a + b) / 2]) (t := t) (by rw [hv _ (List.getElem_mem hmid)]; omega) (by rw [hv _ (List.getElem_mem hmid), ht])
      simp only [inb_nat, gd_nat hmid, hless, Option.bind_some, w64_succ (show (a + b) / 2 < 4611686018427387904 by omega)]
      by_cases hc : cmpL list[(a + b) / 2] t < 0
      · obtain ⟨c, e, k1, k2, k3⟩ := ih ((a + b) / 2 + 1) b (by omega) hb (by omega) (fun i h hi' => by
          rcases Nat.lt_or_ge i ((a + b) / 2) with h' | h'
          · exact cmpL_trans (incB_lt hi i ((a + b) / 2) h' hmid) hc
          · have : i = (a + b) / 2 := by omega
            subst this; exact hc) h2
        exact ⟨c, by simpa [hlt, hmid, hc] using e, k1, k2, k3⟩
      · obtain ⟨c, e, k1, k2, k3⟩ := ih a ((a + b) / 2) (by omega) (by omega) (by omega) h1 (fun i h hi' hneg => by
          rcases Nat.lt_or_ge ((a + b) / 2) i with h' | h'
          · exact hc (cmpL_trans (incB_lt hi ((a + b) / 2) i h' h) hneg)
          · have : i = (a + b) / 2 := by omega
            subst this; exact hc hneg)
        exact ⟨c, by simpa [hlt, hmid, hc] using e, k1, k2, k3⟩
    · have : a = b := by omega
      subst this
      exact ⟨a, by simp, hb, h1, h2⟩
theorem spec_l8Find_ok {list : List (List Int)} {t : List Int} {k : Nat} (hl : list.length ≤ 1099511627774) (hk : k ≤ 1099511627775) (hv : ∀ u ∈ list, u.length = k) (ht : t.length = k) (hi : incB list = true) :
    ∃ c : Nat, spec_l8Find list t = some ((c : Int), decide (t ∈ list)) ∧ c ≤ list.length ∧ (∀ i (h : i < list.length), i < c → cmpL list[i] t < 0) ∧ (∀ i (h : i < list.length), c ≤ i → ¬ cmpL list[i] t < 0) := by
  obtain ⟨c, e, k1, k2, k3⟩ := find_L2 (by omega) hk hv ht hi fuel 0 list.length (Nat.zero_le _) (Nat.le_refl _) (by unfold fuel; omega) (fun i _ h => by omega) (fun i h h' => by omega)
  refine ⟨c, ?_, k1, k2, k3⟩
  unfold spec_l8Find
  have e' : spec_l8Find_L2 fuel (list, t, 0, (list.length : Int)) = some (list, t, (c : Int)) := e
  rw [e']
  simp only [Option.bind_some]
  by_cases hc : c < list.length
  · have hs := spec_l1Same_ok (a := list[c]) (b := t) (by rw [hv _ (List.getElem_mem hc)]; omega)
    simp only [inb_nat, gd_nat hc, hs, Option.bind_some]
    have : decide (list[c] = t) = decide (t ∈ list) := by
      by_cases h : list[c] = t
      · rw [decide_eq_true h, decide_eq_true (h ▸ List.getElem_mem hc)]
      · rw [decide_eq_false h]
        symm; rw [decide_eq_false_iff_not]
        intro hm
        obtain ⟨j, hj, rfl⟩ := List.mem_iff_getElem.1 hm
        have hne : j ≠ c := fun e => h (by subst e; rfl)
        rcases Nat.lt_or_ge j c with hlt | hge
        · have := k2 j hj hlt; rw [cmpL_refl] at this; omega
        · exact k3 c hc (Nat.le_refl _) (incB_lt hi c j (by omega) hj)
    simp [hc, this]
  · have : decide (t ∈ list) = false := by
      rw [decide_eq_false_iff_not]
      intro hm
      obtain ⟨j, hj, rfl⟩ := List.mem_iff_getElem.1 hm
      have := k2 j hj (by omega); rw [cmpL_refl] at this; omega
    rw [if_neg (by simp; omega), this]
end T
set_option linter.unusedVariables false
open Go Go.Va
namespace T
def laws_szRelation (a : Int × (List (List Int))) (left : Int) : Option (Int) :=
  (laws_szIntSS a.2 left).bind fun r1 =>
    if decide (r1 < 0) then
      some (-1)
    else
      some r1
def laws_szConstraint (a : (List Int) × Int × (List (List Int))) (left : Int) : Option (Int) :=
  (laws_szIntS a.1 left).bind fun r1 =>
    if decide (r1 < 0) then
      some (-1)
    else
      (laws_szRelation (a.2.1, a.2.2) r1).bind fun r2 =>
        if decide (r2 < 0) then
          some (-1)
        else
          some r2
def laws_szConstraintS_L5 : Nat → ((List ((List Int) × Int × (List (List Int)))) × Int × Int) → Option ((Int) ⊕ (Int))
  | 0, _ => none
  | n + 1, (a, left, i) =>
    if decide (i < (a.length : Int)) then
      if inb i a then
        (laws_szConstraint (gd a i ([], (0, []))) left).bind fun r1 =>
          if decide (r1 < 0) then
            some (.inr (-1))
          else
            laws_szConstraintS_L5 n (a, r1, w64 (i + 1))
      else none
    else
      some (.inl left)
def laws_szConstraintS (a : List ((List Int) × Int × (List (List Int)))) (left : Int) : Option (Int) :=
  if decide ((w64 (left - (a.length : Int))) < 0) then
    some (-1)
  else
    (laws_szConstraintS_L5 fuel (a, w64 (left - (a.length : Int)), 0)).bind fun s1 =>
      match s1 with
      | .inl s2 =>
        some s2
      | .inr s3 =>
        some s3
def laws_szNetwork (a : Int × Int × (List ((List Int) × Int × (List (List Int))))) (left : Int) : Option (Int) :=
  (laws_szConstraintS a.2.2 left).bind fun r1 =>
    if decide (r1 < 0) then
      some (-1)
    else
      some r1
def laws_toRelation (a : Int × (List (List Int))) : Option ((Int × (List (List Int)))) :=
  (laws_toIntSS a.2).bind fun r1 =>
    some (a.1, r1)
def laws_toConstraint (a : (List Int) × Int × (List (List Int))) : Option (((List Int) × (Int × (List (List Int))))) :=
  (laws_toIntS a.1).bind fun r1 =>
    (laws_toRelation (a.2.1, a.2.2)).bind fun r2 =>
      some (r1, (r2.1, r2.2))
def laws_toConstraintS_L3 : Nat → ((List ((List Int) × Int × (List (List Int)))) × (List ((List Int) × Int × (List (List Int)))) × Int) → Option ((List ((List Int) × Int × (List (List Int)))))
  | 0, _ => none
  | n + 1, (a, out, i) =>
    if decide (i < (a.length : Int)) then
      if inb i a then
        (laws_toConstraint (gd a i ([], (0, [])))).bind fun r1 =>
          if inb i out then
            laws_toConstraintS_L3 n (a, stt out i (r1.1, (r1.2.1, r1.2.2)), w64 (i + 1))
          else none
      else none
    else
      some out
def laws_toConstraintS (a : List ((List Int) × Int × (List (List Int)))) : Option ((List ((List Int) × Int × (List (List Int))))) :=
  if 0 ≤ (a.length : Int) ∧ (a.length : Int) ≤ (a.length : Int) ∧ (a.length : Int) ≤ lim then
    (laws_toConstraintS_L3 fuel (a, List.replicate (Int.toNat (a.length : Int)) (([], (0, [])) : (List Int) × Int × (List (List Int))), 0)).bind fun s1 =>
      some s1
  else none
def laws_toNetwork (a : Int × Int × (List ((List Int) × Int × (List (List Int))))) : Option ((Int × (Int × (List ((List Int) × Int × (List (List Int))))))) :=
  (laws_toConstraintS a.2.2).bind fun r1 =>
    some (a.1, (a.2.1, r1))
def spec_l13Good_L4 : Nat → (Int × (Int × (List (List Int))) × Int) → Option ((Unit) ⊕ (Bool))
  | 0, _ => none
  | n + 1, (n_, r, i) =>
    if decide (i < (r.2.length : Int)) then
      if inb i r.2 then
        (spec_l8Tuple n_ r.1 (gd r.2 i [])).bind fun r3 =>
          if !r3 then
            some (.inr false)
          else
            if decide (i > 0) then
              if inb (w64 (i - 1)) r.2 then
                if inb i r.2 then
                  (spec_l3Less (gd r.2 (w64 (i - 1)) []) (gd r.2 i [])).bind fun r4 =>
                    if !r4 then
                      some (.inr false)
                    else
                      spec_l13Good_L4 n (n_, (r.1, r.2), w64 (i + 1))
                else none
              else none
            else
              spec_l13Good_L4 n (n_, (r.1, r.2), w64 (i + 1))
      else none
    else
      some (.inl ())
def spec_l13Good (n_ : Int) (r : Int × (List (List Int))) : Option (Bool) :=
  (spec_l1In r.1 1 3).bind fun r1 =>
    if !r1 then
      some false
    else
      (spec_l2Pow n_ r.1).bind fun r2 =>
        if decide ((r.2.length : Int) > r2) then
          some false
        else
          (spec_l13Good_L4 fuel (n_, (r.1, r.2), 0)).bind fun s3 =>
            match s3 with
            | .inl s4 =>
              some true
            | .inr s5 =>
              some s5
def spec_l19Is (vars : Int) (size : Int) (c : (List Int) × Int × (List (List Int))) : Option (Bool) :=
  (spec_l13Good size (c.2.1, c.2.2)).bind fun r1 =>
    if r1 then
      if (c.1.length : Int) == c.2.1 then
        (spec_l2Elements vars c.1).bind fun r2 =>
          some r2
      else
        some false
    else
      some false
def spec_l19Good_L4 : Nat → ((Int × Int × (List ((List Int) × Int × (List (List Int))))) × Int) → Option ((Unit) ⊕ (Bool))
  | 0, _ => none
  | n + 1, (net, i) =>
    if decide (i < (net.2.2.length : Int)) then
      if inb i net.2.2 then
        (spec_l19Is net.1 net.2.1 (gd net.2.2 i ([], (0, [])))).bind fun r3 =>
          if !r3 then
            some (.inr false)
          else
            spec_l19Good_L4 n ((net.1, (net.2.1, net.2.2)), w64 (i + 1))
      else none
    else
      some (.inl ())
def spec_l19Good (net : Int × Int × (List ((List Int) × Int × (List (List Int))))) : Option (Bool) :=
  (spec_l1In net.1 0 9).bind fun r1 =>
    if !r1 then
      some false
    else
      (spec_l1In net.2.1 1 4).bind fun r2 =>
        if !r2 then
          some false
        else
          if decide ((net.2.2.length : Int) > 40) then
            some false
          else
            (spec_l19Good_L4 fuel ((net.1, (net.2.1, net.2.2)), 0)).bind fun s3 =>
              match s3 with
              | .inl s4 =>
                some true
              | .inr s5 =>
                some s5
def impl_isTemplateSize (n_ : Int) : Option (Bool) :=
  if decide (n_ ≥ 1) then
    some (decide (n_ ≤ 4))
  else
    some false
def impl_isRelation_L4 : Nat → (Int × (Int × (List (List Int))) × (List (List Int)) × Int × Int) → Option ((Unit) ⊕ (Bool))
  | 0, _ => none
  | n + 1, (n_, r, t16, t17, t18) =>
    if decide (t18 < t17) then
      if inb t18 t16 then
        if ((gd t16 t18 []).length : Int) != r.1 then
          some (.inr false)
        else
          (impl_inSize (gd t16 t18 []) n_).bind fun r1 =>
            if !r1 then
              some (.inr false)
            else
              if decide (t18 > 0) then
                if inb (w64 (t18 - 1)) r.2 then
                  (impl_compareLists (gd r.2 (w64 (t18 - 1)) []) (gd t16 t18 [])).bind fun r2 =>
                    if decide (r2 ≥ 0) then
                      some (.inr false)
                    else
                      impl_isRelation_L4 n (n_, (r.1, r.2), t16, t17, w64 (t18 + 1))
                else none
              else
                impl_isRelation_L4 n (n_, (r.1, r.2), t16, t17, w64 (t18 + 1))
      else none
    else
      some (.inl ())
def impl_isRelation (n_ : Int) (r : Int × (List (List Int))) : Option (Bool) :=
  if decide (r.1 < 1) then
    some false
  else
    if decide (r.1 > 3) then
      some false
    else
      (impl_isRelation_L4 fuel (n_, (r.1, r.2), r.2, (r.2.length : Int), 0)).bind fun s1 =>
        match s1 with
        | .inl s2 =>
          some true
        | .inr s3 =>
          some s3
def impl_isConstraint (vars : Int) (size : Int) (c : (List Int) × Int × (List (List Int))) : Option (Bool) :=
  (impl_isRelation size (c.2.1, c.2.2)).bind fun r1 =>
    if r1 then
      if (c.1.length : Int) == c.2.1 then
        (impl_inSize c.1 vars).bind fun r2 =>
          some r2
      else
        some false
    else
      some false
def impl_IsNetwork_L4 : Nat → ((Int × Int × (List ((List Int) × Int × (List (List Int))))) × (List ((List Int) × Int × (List (List Int)))) × Int × Int) → Option ((Unit) ⊕ (Bool))
  | 0, _ => none
  | n + 1, (net, t26, t27, t28) =>
    if decide (t28 < t27) then
      if inb t28 t26 then
        (impl_isConstraint net.1 net.2.1 ((gd t26 t28 ([], (0, []))).1, (((gd t26 t28 ([], (0, []))).2).1, ((gd t26 t28 ([], (0, []))).2).2))).bind fun r2 =>
          if !r2 then
            some (.inr false)
          else
            impl_IsNetwork_L4 n ((net.1, (net.2.1, net.2.2)), t26, t27, w64 (t28 + 1))
      else none
    else
      some (.inl ())
def impl_IsNetwork (net : Int × Int × (List ((List Int) × Int × (List (List Int))))) : Option (Bool) :=
  if decide (net.1 < 0) then
    some false
  else
    if decide (net.1 > 9) then
      some false
    else
      (impl_isTemplateSize net.2.1).bind fun r1 =>
        if !r1 then
          some false
        else
          if decide ((net.2.2.length : Int) > 40) then
            some false
          else
            (impl_IsNetwork_L4 fuel ((net.1, (net.2.1, net.2.2)), net.2.2, (net.2.2.length : Int), 0)).bind fun s2 =>
              match s2 with
              | .inl s3 =>
                some true
              | .inr s4 =>
                some s4
def laws_eqRelation (a : Int × (List (List Int))) (b : Int × (List (List Int))) : Option (Bool) :=
  if a.1 != b.1 then
    some false
  else
    (laws_eqIntSS a.2 b.2).bind fun r1 =>
      if !r1 then
        some false
      else
        some true
def laws_eqConstraint (a : (List Int) × Int × (List (List Int))) (b : (List Int) × Int × (List (List Int))) : Option (Bool) :=
  (laws_eqIntS a.1 b.1).bind fun r1 =>
    if !r1 then
      some false
    else
      (laws_eqRelation (a.2.1, a.2.2) (b.2.1, b.2.2)).bind fun r2 =>
        if !r2 then
          some false
        else
          some true
def laws_eqConstraintS_L4 : Nat → ((List ((List Int) × Int × (List (List Int)))) × (List ((List Int) × Int × (List (List Int)))) × Int) → Option ((Unit) ⊕ (Bool))
  | 0, _ => none
  | n + 1, (a, b, i) =>
    if decide (i < (a.length : Int)) then
      if inb i a then
        if inb i b then
          (laws_eqConstraint (gd a i ([], (0, []))) (gd b i ([], (0, [])))).bind fun r1 =>
            if !r1 then
              some (.inr false)
            else
              laws_eqConstraintS_L4 n (a, b, w64 (i + 1))
        else none
      else none
    else
      some (.inl ())
def laws_eqConstraintS (a : List ((List Int) × Int × (List (List Int)))) (b : List ((List Int) × Int × (List (List Int)))) : Option (Bool) :=
  if (a.length : Int) != (b.length : Int) then
    some false
  else
    (laws_eqConstraintS_L4 fuel (a, b, 0)).bind fun s1 =>
      match s1 with
      | .inl s2 =>
        some true
      | .inr s3 =>
        some s3
def laws_eqNetwork (a : Int × Int × (List ((List Int) × Int × (List (List Int))))) (b : Int × Int × (List ((List Int) × Int × (List (List Int))))) : Option (Bool) :=
  if a.1 != b.1 then
    some false
  else
    if a.2.1 != b.2.1 then
      some false
    else
      (laws_eqConstraintS a.2.2 b.2.2).bind fun r1 =>
        if !r1 then
          some false
        else
          some true
def spec_l1Has_L2 : Nat → ((List Int) × Int × Int) → Option ((Unit) ⊕ (Bool))
  | 0, _ => none
  | n + 1, (l, n_, i) =>
    if decide (i < (l.length : Int)) then
      if inb i l then
        if (gd l i 0) == n_ then
          some (.inr true)
        else
          spec_l1Has_L2 n (l, n_, w64 (i + 1))
      else none
    else
      some (.inl ())
def spec_l1Has (l : List Int) (n_ : Int) : Option (Bool) :=
  (spec_l1Has_L2 fuel (l, n_, 0)).bind fun s1 =>
    match s1 with
    | .inl s2 =>
      some false
    | .inr s3 =>
      some s3
def impl_marked_L3 : Nat → ((List Int) × (List Bool) × Int × Int) → Option ((List Int))
  | 0, _ => none
  | n + 1, (list, t7, t8, t9) =>
    if decide (t9 < t8) then
      if inb t9 t7 then
        if gd t7 t9 false then
          if list.length + [t9].length ≤ lim then
            impl_marked_L3 n (list ++ [t9], t7, t8, w64 (t9 + 1))
          else none
        else
          impl_marked_L3 n (list, t7, t8, w64 (t9 + 1))
      else none
    else
      some list
def impl_marked (have_ : List Bool) : Option ((List Int)) :=
  (impl_marked_L3 fuel ([], have_, (have_.length : Int), 0)).bind fun s1 =>
    some s1
def laws_markIntS_L2 : Nat → ((List Int) × Int × Int) → Option ((List Int) × Int)
  | 0, _ => none
  | n + 1, (a, k, i) =>
    if decide (i < (a.length : Int)) then
      if inb i a then
        laws_markIntS_L2 n (stt a i k, w64 (k + 1), w64 (i + 1))
      else none
    else
      some (a, k)
def laws_markIntS (a : List Int) (k : Int) : Option ((List Int) × Int) :=
  (laws_markIntS_L2 fuel (a, k, 0)).bind fun s1 =>
    some (s1.1, s1.2)
def laws_markIntSS_L2 : Nat → ((List (List Int)) × Int × Int) → Option ((List (List Int)) × Int)
  | 0, _ => none
  | n + 1, (a, k, i) =>
    if decide (i < (a.length : Int)) then
      if inb i a then
        (laws_markIntS (gd a i []) k).bind fun r1 =>
          laws_markIntSS_L2 n (stt a i r1.1, r1.2, w64 (i + 1))
      else none
    else
      some (a, k)
def laws_markIntSS (a : List (List Int)) (k : Int) : Option ((List (List Int)) × Int) :=
  (laws_markIntSS_L2 fuel (a, k, 0)).bind fun s1 =>
    some (s1.1, s1.2)
def laws_markConstraintS_L2 : Nat → ((List ((List Int) × Int × (List (List Int)))) × Int × Int) → Option ((List ((List Int) × Int × (List (List Int)))) × Int)
  | 0, _ => none
  | n + 1, (a, k, i) =>
    if decide (i < (a.length : Int)) then
      if inb i a then
        (laws_markIntS ((gd a i ([], (0, []))).1) k).bind fun r1 =>
          if inb i (stt a i (r1.1, (gd a i ([], (0, []))).2)) then
            if inb i (stt (stt a i (r1.1, (gd a i ([], (0, []))).2)) i ((gd (stt a i (r1.1, (gd a i ([], (0, []))).2)) i ([], (0, []))).1, (r1.2, ((gd (stt a i (r1.1, (gd a i ([], (0, []))).2)) i ([], (0, []))).2).2))) then
              (laws_markIntSS (((gd (stt (stt a i (r1.1, (gd a i ([], (0, []))).2)) i ((gd (stt a i (r1.1, (gd a i ([], (0, []))).2)) i ([], (0, []))).1, (r1.2, ((gd (stt a i (r1.1, (gd a i ([], (0, []))).2)) i ([], (0, []))).2).2))) i ([], (0, []))).2).2) (w64 (r1.2 + 1))).bind fun r2 =>
                laws_markConstraintS_L2 n (stt (stt (stt a i (r1.1, (gd a i ([], (0, []))).2)) i ((gd (stt a i (r1.1, (gd a i ([], (0, []))).2)) i ([], (0, []))).1, (r1.2, ((gd (stt a i (r1.1, (gd a i ([], (0, []))).2)) i ([], (0, []))).2).2))) i ((gd (stt (stt a i (r1.1, (gd a i ([], (0, []))).2)) i ((gd (stt a i (r1.1, (gd a i ([], (0, []))).2)) i ([], (0, []))).1, (r1.2, ((gd (stt a i (r1.1, (gd a i ([], (0, []))).2)) i ([], (0, []))).2).2))) i ([], (0, []))).1, (((gd (stt (stt a i (r1.1, (gd a i ([], (0, []))).2)) i ((gd (stt a i (r1.1, (gd a i ([], (0, []))).2)) i ([], (0, []))).1, (r1.2, ((gd (stt a i (r1.1, (gd a i ([], (0, []))).2)) i ([], (0, []))).2).2))) i ([], (0, []))).2).1, r2.1)), r2.2, w64 (i + 1))
            else none
          else none
      else none
    else
      some (a, k)
def laws_markConstraintS (a : List ((List Int) × Int × (List (List Int)))) (k : Int) : Option ((List ((List Int) × Int × (List (List Int)))) × Int) :=
  (laws_markConstraintS_L2 fuel (a, k, 0)).bind fun s1 =>
    some (s1.1, s1.2)
def laws_markNetwork (a : Int × (Int × (List ((List Int) × Int × (List (List Int)))))) (k : Int) : Option ((Unit × (Unit × (List ((List Int) × Int × (List (List Int)))))) × Int) :=
  (laws_markConstraintS a.2.2 k).bind fun r1 =>
    some (((), ((), r1.1)), r1.2)
def laws_heldIntS_L2 : Nat → ((List Int) × Int × Int) → Option ((Int) ⊕ (Int))
  | 0, _ => none
  | n + 1, (a, k, i) =>
    if decide (i < (a.length : Int)) then
      if inb i a then
        if (gd a i 0) != k then
          some (.inr (-1))
        else
          laws_heldIntS_L2 n (a, w64 (k + 1), w64 (i + 1))
      else none
    else
      some (.inl k)
def laws_heldIntS (a : List Int) (k : Int) : Option (Int) :=
  (laws_heldIntS_L2 fuel (a, k, 0)).bind fun s1 =>
    match s1 with
    | .inl s2 =>
      some s2
    | .inr s3 =>
      some s3
end T
open Go Go.Va
namespace T
/- sizes, in general -/
theorem szX {α : Type} (xs : List α) (f : α → Int → Option Int) (tot : α → Nat) (L : Nat → Int → Int → Option (Int ⊕ Int))
    (hf : ∀ a ∈ xs, ∀ s, 0 ≤ s → s ≤ 1099511627775 → f a s = some (szR (tot a) s))
    (hs : ∀ n s (k : Nat) (hk : k < xs.length), L (n + 1) s k = (f xs[k] s).bind fun q => if q < 0 then some (.inr (-1)) else L n q ((k + 1 : Nat) : Int))
    (he : ∀ n s, L (n + 1) s (xs.length : Nat) = some (.inl s)) : ∀ (n k : Nat) (s : Int), k ≤ xs.length → xs.length - k < n → 0 ≤ s → s ≤ 1099511627775 →
      L n s k = some (if (((xs.drop k).map tot).sum : Int) ≤ s then .inl (s - ((xs.drop k).map tot).sum) else .inr (-1)) := by
  intro n
  induction n with
  | zero => intro k s _ h; omega
  | succ n ih =>
    intro k s hk hn h0 h1
    rcases Nat.lt_or_ge k xs.length with hlt | hge
    · rw [hs n s k hlt, hf _ (List.getElem_mem hlt) s h0 h1, List.drop_eq_getElem_cons hlt, List.map_cons, List.sum_cons]
      unfold szR
      simp only [Option.bind_some]
      by_cases h : (tot xs[k] : Int) ≤ s
      · rw [if_pos h, if_neg (by omega), ih (k + 1) _ hlt (by omega) (by omega) (by omega)]
        congr 1
        by_cases h2 : ((((xs.drop (k + 1)).map tot).sum : Nat) : Int) ≤ s - tot xs[k]
        · rw [if_pos h2, if_pos (by omega)]; congr 1; omega
        · rw [if_neg h2, if_neg (by omega)]
      · rw [if_neg h, if_pos (by omega), if_neg (by omega)]
    · have : k = xs.length := by omega
      subst this
      rw [he, List.drop_length]; simp [h0]
/-- a list's size: its length and that of all members -/
theorem szX0 {α : Type} (xs : List α) (f : α → Int → Option Int) (tot : α → Nat) (L : Nat → Int → Int → Option (Int ⊕ Int)) (g : Option Int) {left : Int} (h0 : 0 ≤ left) (h1 : left ≤ 1099511627775)
    (hf : ∀ a ∈ xs, ∀ s, 0 ≤ s → s ≤ 1099511627775 → f a s = some (szR (tot a) s)) (hx : xs.length ≤ 9223372036854775807)
    (hs : ∀ n s (k : Nat) (hk : k < xs.length), k < 4611686018427387904 → L (n + 1) s k = (f xs[k] s).bind fun q => if q < 0 then some (.inr (-1)) else L n q ((k + 1 : Nat) : Int))
    (he : ∀ n s, L (n + 1) s (xs.length : Nat) = some (.inl s))
    (hg : g = if decide (w64 (left - (xs.length : Int)) < 0) then some (-1) else (L fuel (w64 (left - (xs.length : Int))) 0).bind fun s1 => match s1 with | .inl s2 => some s2 | .inr s3 => some s3) :
    g = some (szR (xs.length + (xs.map tot).sum) left) := by
  rw [hg, w64_id (by omega) (by omega)]
  by_cases h : (xs.length : Int) ≤ left
  · rw [if_neg (by simp; omega)]
    have := szX xs f tot L hf (fun n s k hk => hs n s k hk (by omega)) he fuel 0 (left - xs.length) (by omega) (by unfold fuel; omega) (by omega) (by omega)
    rw [show ((0 : Nat) : Int) = 0 from rfl, List.drop_zero] at this
    rw [this]
    unfold szR
    by_cases h2 : (((xs.map tot).sum : Nat) : Int) ≤ left - xs.length
    · rw [if_pos h2, if_pos (by omega)]
      simp only [Option.bind_some, Option.some.injEq]; omega
    · rw [if_neg h2, if_neg (by omega)]; rfl
  · rw [if_pos (by simp; omega)]
    unfold szR
    rw [if_neg (by omega)]
theorem sum_mem {α : Type} (tot : α → Nat) : ∀ {l : List α} {a : α}, a ∈ l → tot a ≤ (l.map tot).sum
  | x :: l, a, h => by
    rw [List.map_cons, List.sum_cons]
    rcases List.mem_cons.1 h with rfl | h
    · omega
    · have := sum_mem tot h; omega
/-- a list is copied -/
theorem toX {α : Type} (xs : List α) (f : α → Option α) (d : α) (L : Nat → List α → Int → Option (List α)) (g : Option (List α)) (hx : xs.length ≤ 1048576) (hf : ∀ a ∈ xs, f a = some a)
    (hs : ∀ n (out : List α) (k : Nat) (hk : k < xs.length), out.length = xs.length → k < 4611686018427387904 → L (n + 1) out k = (f xs[k]).bind fun r => L n (out.set k r) ((k + 1 : Nat) : Int))
    (he : ∀ n out, out.length = xs.length → L (n + 1) out (xs.length : Nat) = some out)
    (hg : g = if 0 ≤ (xs.length : Int) ∧ (xs.length : Int) ≤ (xs.length : Int) ∧ (xs.length : Int) ≤ lim then (L fuel (List.replicate (Int.toNat (xs.length : Int)) d) 0).bind some else none) : g = some xs := by
  rw [hg, if_pos (by unfold lim; omega)]
  have key := fillX0 xs L id some (fun n out k hk hl => by rw [hs n out k hk hl (by omega), hf _ (List.getElem_mem hk)]; rfl) he (n := fuel) (out := List.replicate (Int.toNat (xs.length : Int)) d) (by simp) (by unfold fuel; omega)
  rw [key]; simp
/-- two lists are held against each other -/
theorem eqXX {α : Type} [DecidableEq α] (a b : List α) (f : α → α → Option Bool) (L : Nat → Int → Option (Unit ⊕ Bool)) (g : Option Bool) (hx : a.length ≤ 1048576) (hf : ∀ x ∈ a, ∀ y, f x y = some (decide (x = y)))
    (hs : ∀ n (k : Nat) (h1 : k < a.length) (h2 : k < b.length), k < 4611686018427387904 → L (n + 1) k = (f a[k] b[k]).bind fun r => if !r then some (.inr false) else L n ((k + 1 : Nat) : Int))
    (he : ∀ n, L (n + 1) (a.length : Nat) = some (.inl ()))
    (hg : g = if (a.length : Int) != (b.length : Int) then some false else (L fuel 0).bind fun s1 => match s1 with | .inl _ => some true | .inr s3 => some s3) : g = some (decide (a = b)) := by
  rw [hg]
  by_cases hl : a.length = b.length
  · rw [if_neg (by simp [hl]), eqX a b hl L (fun n k h1 h2 => ?_) he (by unfold fuel; omega)]
    · by_cases h : a = b <;> simp [h]
    · rw [hs n k h1 h2 (by omega), hf _ (List.getElem_mem h1)]
      by_cases h : a[k] = b[k] <;> simp [h]
  · rw [if_pos (by simp; omega), decide_eq_false (fun e => hl (by rw [e]))]
/- networks -/
abbrev Con := List Int × Int × List (List Int)
abbrev Net := Int × Int × List Con
def rowsS (a : List (List Int)) : Prop := a.length ≤ 1048576 ∧ ∀ r ∈ a, r.length ≤ 1048576
def conS (c : Con) : Prop := c.1.length ≤ 1048576 ∧ rowsS c.2.2
def netS (a : Net) : Prop := a.2.2.length ≤ 1048576 ∧ ∀ c ∈ a.2.2, conS c
abbrev netT : Ty := .pair .int (.pair .int (.slice (.pair (.slice .int) (.pair .int (.slice (.slice .int))))))
def totC (c : Con) : Nat := c.1.length + totSS c.2.2
def totN (a : Net) : Nat := a.2.2.length + (a.2.2.map totC).sum
theorem szConstraint_ok {c : Con} {s : Int} (h0 : 0 ≤ s) (h1 : s ≤ 1099511627775) (h : c.1.length ≤ 9223372036854775807) (h2 : c.2.2.length ≤ 9223372036854775807) (hr : ∀ r ∈ c.2.2, r.length ≤ 9223372036854775807) :
    laws_szConstraint c s = some (szR (totC c) s) := by
  unfold laws_szConstraint
  rw [szIntS_ok h0 (by omega) h]
  unfold szR totC
  simp only [Option.bind_some]
  by_cases hc : (c.1.length : Int) ≤ s
  · rw [if_pos hc, if_neg (by simp; omega)]
    unfold laws_szRelation
    rw [szIntSS_ok (by omega) (by omega) h2 hr]
    unfold szR
    by_cases hd : (totSS c.2.2 : Int) ≤ s - c.1.length
    · rw [if_pos hd, if_pos (by omega)]
      simp only [Option.bind_some]
      rw [if_neg (by simp; omega)]
      simp only [Option.bind_some]
      rw [if_neg (by simp; omega)]
      congr 1; omega
    · rw [if_neg hd, if_neg (show ¬ ((c.1.length + totSS c.2.2 : Nat) : Int) ≤ s by push_cast; omega)]; rfl
  · rw [if_neg hc, if_neg (show ¬ ((c.1.length + totSS c.2.2 : Nat) : Int) ≤ s by push_cast; omega)]; rfl
theorem szNetwork_ok {a : Net} (h : wfT netT a) : laws_szNetwork a 1048576 = some (szR (totN a) 1048576) := by
  unfold laws_szNetwork
  have hc : ∀ c ∈ a.2.2, c.1.length ≤ 9223372036854775807 ∧ c.2.2.length ≤ 9223372036854775807 ∧ ∀ r ∈ c.2.2, r.length ≤ 9223372036854775807 := fun c hc => by
    have := h.2.2.2 c hc
    exact ⟨this.1.1, this.2.2.1, fun r hr => (this.2.2.2 r hr).1⟩
  have key : laws_szConstraintS a.2.2 1048576 = some (szR (totN a) 1048576) := by
    refine szX0 a.2.2 laws_szConstraint totC (fun n s i => laws_szConstraintS_L5 n (a.2.2, s, i)) _ (by omega) (by omega) (fun c hm s h0 h1 => szConstraint_ok h0 h1 (hc c hm).1 (hc c hm).2.1 (hc c hm).2.2) h.2.2.1 (fun n s k hk hk4 => ?_) (fun n s => ?_) rfl
    · simp only [laws_szConstraintS_L5, inb_nat, gd_nat hk, w64_succ hk4]
      simp [hk]
    · simp [laws_szConstraintS_L5]
  rw [key]
  unfold szR
  split
  · simp only [Option.bind_some]; rw [if_neg (by simp; omega)]
  · rfl
theorem szNetwork_small {a : Net} (h : ¬ szR (totN a) 1048576 < 0) : netS a ∧ totN a ≤ 1048576 := by
  unfold szR at h
  split at h
  · refine ⟨⟨by unfold totN at *; omega, fun c hc => ?_⟩, by omega⟩
    have h1 := sum_mem totC hc
    have h2 : totC c ≤ 1048576 := by unfold totN at *; omega
    unfold totC totSS at h2
    exact ⟨by omega, by omega, fun r hr => by have := mem_sum hr; omega⟩
  · omega
theorem toConstraint_ok {c : Con} (h : conS c) : laws_toConstraint c = some c := by
  unfold laws_toConstraint laws_toRelation
  rw [toIntS_ok (by have := h.1; omega)]
  dsimp only
  rw [toIntSS_ok (by have := h.2.1; omega) fun r hr => by have := h.2.2 r hr; omega]
  rfl
theorem toNetwork_ok {a : Net} (h : netS a) : laws_toNetwork a = some a := by
  unfold laws_toNetwork
  have key : laws_toConstraintS a.2.2 = some a.2.2 := by
    refine toX a.2.2 laws_toConstraint ([], (0, [])) (fun n out i => laws_toConstraintS_L3 n (a.2.2, out, i)) _ h.1 (fun c hc => toConstraint_ok (h.2 c hc)) (fun n out k hk hl hk4 => ?_) (fun n out hl => ?_) rfl
    · simp only [laws_toConstraintS_L3, inb_nat, gd_nat hk, stt_nat, w64_succ hk4]
      simp [hk, hl]
    · simp [laws_toConstraintS_L3]
  rw [key]; rfl
theorem eqConstraint_ok {a b : Con} (h : conS a) : laws_eqConstraint a b = some (decide (a = b)) := by
  unfold laws_eqConstraint laws_eqRelation
  rw [eqIntS_ok (by have := h.1; omega)]
  dsimp only
  rw [eqIntSS_ok (by have := h.2.1; omega) fun r hr => by have := h.2.2 r hr; omega]
  obtain ⟨a1, a2, a3⟩ := a
  obtain ⟨b1, b2, b3⟩ := b
  by_cases h1 : a1 = b1
  · by_cases h2 : a2 = b2
    · by_cases h3 : a3 = b3 <;> simp [h1, h2, h3]
    · simp [h1, h2]
  · simp [h1]
theorem eqNetwork_ok {a b : Net} (h : netS a) : laws_eqNetwork a b = some (decide (a = b)) := by
  unfold laws_eqNetwork
  have key : laws_eqConstraintS a.2.2 b.2.2 = some (decide (a.2.2 = b.2.2)) := by
    refine eqXX a.2.2 b.2.2 laws_eqConstraint (fun n i => laws_eqConstraintS_L4 n (a.2.2, b.2.2, i)) _ h.1 (fun c hc y => eqConstraint_ok (h.2 c hc)) (fun n k h1 h2 hk4 => ?_) (fun n => ?_) rfl
    · simp only [laws_eqConstraintS_L4, inb_nat, gd_nat h1, gd_nat h2, w64_succ hk4]
      simp [h1, h2]
    · simp [laws_eqConstraintS_L4]
  rw [key]
  obtain ⟨a1, a2, a3⟩ := a
  obtain ⟨b1, b2, b3⟩ := b
  by_cases h1 : a1 = b1
  · by_cases h2 : a2 = b2
    · by_cases h3 : a3 = b3 <;> simp [h1, h2, h3]
    · simp [h1, h2]
  · simp [h1]
/- a relation is valid -/
def relB (n : Int) (r : Int × List (List Int)) : Bool := decide (1 ≤ r.1 ∧ r.1 ≤ 3) && (r.2.all fun t => decide ((t.length : Int) = r.1) && belowB n t) && incB r.2
/-- the k-th tuple is valid, and greater than the one before -/
def tupAt (n : Int) (r : Int × List (List Int)) (k : Nat) : Bool := decide (((r.2.getD k []).length : Int) = r.1) && belowB n (r.2.getD k []) && (decide (k = 0) || decide (cmpL (r.2.getD (k - 1) []) (r.2.getD k []) < 0))
theorem getD_of {α : Type} {l : List α} {k : Nat} {d : α} (h : k < l.length) : l.getD k d = l[k] := by simp [List.getD_eq_getElem?_getD, h]
theorem tupAt_all {n ar : Int} {ts : List (List Int)} : (List.range ts.length).all (tupAt n (ar, ts)) = ((ts.all fun t => decide ((t.length : Int) = ar) && belowB n t) && incB ts) := by
  rw [Bool.eq_iff_iff, Bool.and_eq_true, List.all_eq_true, List.all_eq_true, incB_iff]
  unfold tupAt
  constructor
  · intro h
    refine ⟨fun t ht => ?_, fun i hi => ?_⟩
    · obtain ⟨k, hk, rfl⟩ := List.getElem_of_mem ht
      have := h k (List.mem_range.2 hk)
      rw [getD_of hk] at this
      simp only [Bool.and_eq_true] at this
      rw [Bool.and_eq_true]; exact this.1
    · have := h (i + 1) (List.mem_range.2 hi)
      rw [getD_of hi, Nat.add_sub_cancel, getD_of (show i < ts.length by omega)] at this
      simp at this
      exact this.2
  · rintro ⟨h1, h2⟩ k hk
    have hk := List.mem_range.1 hk
    have e := h1 _ (List.getElem_mem hk)
    rw [getD_of hk]
    rw [Bool.and_eq_true] at e
    rw [Bool.and_eq_true, Bool.and_eq_true]
    refine ⟨e, ?_⟩
    cases k with
    | zero => simp
    | succ i =>
      have := h2 i hk
      rw [Nat.add_sub_cancel, getD_of (show i < ts.length by omega)]
      simp [this]
theorem impl_isRelation_ok {n : Int} {r : Int × List (List Int)} (h : rowsS r.2) : impl_isRelation n r = some (relB n r) := by
  obtain ⟨ar, ts⟩ := r
  unfold impl_isRelation relB
  by_cases h1 : ar < 1
  · simp [h1, show ¬ 1 ≤ ar by omega]
  · by_cases h2 : ar > 3
    · simp [h1, h2, show ¬ ar ≤ 3 by omega]
    · rw [if_neg (by simpa using h1), if_neg (by simpa using h2)]
      have key := forA ts.length (fun m (_ : Unit) i => impl_isRelation_L4 m (n, (ar, ts), ts, (ts.length : Int), i)) (fun _ => ()) (tupAt n (ar, ts)) (r := some (.inr false)) (e := some (.inl ())) (fun m k hk => ?_) (fun m => ?_) (n := fuel) (by unfold fuel; have := h.1; simp at this; omega)
      · rw [key, tupAt_all]
        simp only [show (1 ≤ ar ∧ ar ≤ 3) = True by simp; omega, decide_true, Bool.true_and]
        cases (ts.all fun t => decide ((t.length : Int) = ar) && belowB n t) && incB ts <;> simp
      · have hx := h.2 ts[k] (List.getElem_mem hk)
        have hk' := h.1
        simp only at hk'
        simp only [impl_isRelation_L4, inb_nat, gd_nat hk, w64_succ (show k < 4611686018427387904 by omega), impl_inSize_ok n (show ts[k].length ≤ 1099511627775 by omega), tupAt, getD_of hk]
        by_cases hl : (ts[k].length : Int) = ar
        · cases hb : belowB n ts[k] with
          | false => simp [hk, hl]
          | true =>
            cases k with
            | zero => simp [hk, hl]
            | succ i =>
              have hi : i < ts.length := by omega
              have hx2 := h.2 ts[i] (List.getElem_mem hi)
              have e : w64 (((i + 1 : Nat) : Int) - 1) = (i : Int) := by rw [w64_id (by omega) (by omega)]; omega
              simp only [e, inb_nat, gd_nat hi, Nat.add_sub_cancel, getD_of hi, impl_compareLists_ok (show ts[i].length ≤ 1099511627775 by omega)]
              by_cases hc : cmpL ts[i] ts[i + 1] < 0
              · simp [hk, hl, hi, hc, show ¬ cmpL ts[i] ts[i + 1] ≥ 0 by omega]; omega
              · simp [hk, hl, hi, hc, show cmpL ts[i] ts[i + 1] ≥ 0 by omega]; omega
        · simp [hk, hl]
      · simp [impl_isRelation_L4]
theorem spec_l13Good_ok {n : Int} {r : Int × List (List Int)} (h : rowsS r.2) (hn : 1 ≤ n ∧ n ≤ 8) : spec_l13Good n r = some (relB n r) := by
  obtain ⟨ar, ts⟩ := r
  unfold spec_l13Good relB
  rw [spec_l1In_ok]
  by_cases h1 : 1 ≤ ar ∧ ar ≤ 3
  · simp only [h1, and_self, decide_true, Option.bind_some, Bool.not_true, Bool.false_eq_true, if_false, Bool.true_and]
    obtain ⟨m, rfl⟩ : ∃ m : Nat, ar = m := ⟨ar.toNat, by omega⟩
    rw [spec_l2Pow_ok (by omega) (by omega) (by omega)]
    simp only [Option.bind_some]
    have key := forB ts.length (fun m' (_ : Unit) i => spec_l13Good_L4 m' (n, ((m : Int), ts), i)) (fun _ => ()) (tupAt n ((m : Int), ts)) (r := some (.inr false)) (e := some (.inl ())) (fun m' k hk hb0 => ?_) (fun m' _ => ?_) (n := fuel) (by unfold fuel; have := h.1; simp at this; omega)
    · by_cases hc : (ts.length : Int) > n ^ m
      · rw [if_pos (by simpa using hc)]
        by_cases hv : ((ts.all fun t => decide ((t.length : Int) = m) && belowB n t) && incB ts) = true
        · rw [Bool.and_eq_true, List.all_eq_true] at hv
          rcases inc_count (k := m) hv.2 fun t ht => by have := hv.1 t ht; simp at this; exact ⟨by omega, this.2⟩ with h2 | h2
          · omega
          · subst h2
            have := pow_bd (n := n) (by omega) (by omega) (k := m) (by omega)
            simp at hc; omega
        · simp only [Bool.not_eq_true] at hv; rw [hv]
      · rw [if_neg (by simpa using hc), key, tupAt_all]
        cases (ts.all fun t => decide ((t.length : Int) = m) && belowB n t) && incB ts <;> simp
    · have hx := h.2 ts[k] (List.getElem_mem hk)
      have hk' := h.1
      simp only at hk'
      simp only [spec_l13Good_L4, inb_nat, gd_nat hk, w64_succ (show k < 4611686018427387904 by omega), spec_l8Tuple_ok (n := n) _ (by omega) (by omega) (show ts[k].length ≤ 1099511627775 by omega), tupAt, getD_of hk]
      by_cases hl : (ts[k].length : Int) = m
      · cases hb : belowB n ts[k] with
        | false => simp [hk, hl]
        | true =>
          cases k with
          | zero => simp [hk, hl]
          | succ i =>
            have hi : i < ts.length := by omega
            have hx2 := h.2 ts[i] (List.getElem_mem hi)
            have e : w64 (((i + 1 : Nat) : Int) - 1) = (i : Int) := by rw [w64_id (by omega) (by omega)]; omega
            simp only [e, inb_nat, gd_nat hi, Nat.add_sub_cancel, getD_of hi]
            have hb1 := hb0 i (by omega)
            simp only [tupAt, getD_of hi, Bool.and_eq_true, decide_eq_true_eq] at hb1
            rw [spec_l3Less_ok (s := ts[i]) (t := ts[i + 1]) (by omega) (by have := hb1.1.1; omega)]
            by_cases hc : cmpL ts[i] ts[i + 1] < 0
            · simp [hk, hl, hi, hc]; omega
            · simp [hk, hl, hi, hc]; omega
      · simp [hk, hl]
    · simp [spec_l13Good_L4]
  · have : ¬ (1 ≤ ar ∧ ar ≤ 3) := h1
    simp [this]
end T
open Go Go.Va
namespace T
/-- a constraint is valid, for v variables and n values -/
def conB (v n : Int) (c : Con) : Bool := relB n (c.2.1, c.2.2) && decide ((c.1.length : Int) = c.2.1) && belowB v c.1
def netB (a : Net) : Bool := decide (0 ≤ a.1 ∧ a.1 ≤ 9) && decide (1 ≤ a.2.1 ∧ a.2.1 ≤ 4) && decide (a.2.2.length ≤ 40) && a.2.2.all (conB a.1 a.2.1)
theorem impl_isConstraint_ok {v n : Int} {c : Con} (h : conS c) : impl_isConstraint v n c = some (conB v n c) := by
  unfold impl_isConstraint conB
  rw [impl_isRelation_ok (r := (c.2.1, c.2.2)) h.2]
  cases relB n (c.2.1, c.2.2) with
  | false => simp
  | true =>
    by_cases hl : (c.1.length : Int) = c.2.1
    · simp [hl, impl_inSize_ok v (show c.1.length ≤ 1099511627775 by have := h.1; omega)]
    · simp [hl]
theorem spec_l19Is_ok {v n : Int} {c : Con} (h : conS c) (hv : 0 ≤ v ∧ v ≤ 9) (hn : 1 ≤ n ∧ n ≤ 8) : spec_l19Is v n c = some (conB v n c) := by
  unfold spec_l19Is conB
  rw [spec_l13Good_ok (r := (c.2.1, c.2.2)) h.2 hn]
  cases relB n (c.2.1, c.2.2) with
  | false => simp
  | true =>
    by_cases hl : (c.1.length : Int) = c.2.1
    · simp [hl, spec_l2Elements_ok (l := c.1) (n := v) (by omega) (by omega) (show c.1.length ≤ 1099511627775 by have := h.1; omega)]
    · simp [hl]
theorem impl_IsNetwork_ok {a : Net} (h : netS a) : impl_IsNetwork a = some (netB a) := by
  obtain ⟨v, n, cs⟩ := a
  unfold impl_IsNetwork netB
  by_cases h1 : v < 0
  · simp [h1, show ¬ 0 ≤ v by omega]
  · by_cases h2 : v > 9
    · simp [h1, h2, show ¬ v ≤ 9 by omega]
    · rw [if_neg (by simpa using h1), if_neg (by simpa using h2)]
      unfold impl_isTemplateSize
      by_cases h3 : 1 ≤ n ∧ n ≤ 4
      · by_cases h4 : cs.length > 40
        · simp [h3, show ¬ cs.length ≤ 40 by omega]; omega
        · have key := allX cs (fun m i => impl_IsNetwork_L4 m ((v, (n, cs)), cs, (cs.length : Int), i)) (conB v n) (.inr false) (.inl ()) ?_ ?_ (n := fuel) (by unfold fuel; omega)
          · simp only [h3, ge_iff_le, decide_true, if_true, Option.bind_some, Bool.not_true, Bool.false_eq_true, if_false]
            rw [if_neg (by simp; omega), key]
            cases cs.all (conB v n) <;> simp <;> omega
          · intro m k hk
            simp only [impl_IsNetwork_L4, inb_nat, gd_nat hk, w64_succ (show k < 4611686018427387904 by omega), impl_isConstraint_ok (c := cs[k]) (h.2 _ (List.getElem_mem hk))]
            cases hb : conB v n cs[k] <;> simp [hk, hb]
          · intro m
            simp [impl_IsNetwork_L4]
      · by_cases h5 : n ≥ 1
        · simp [h5, show ¬ n ≤ 4 by omega]
        · simp [h5, show ¬ 1 ≤ n by omega]
theorem spec_l19Good_ok {a : Net} (h : netS a) : spec_l19Good a = some (netB a) := by
  obtain ⟨v, n, cs⟩ := a
  unfold spec_l19Good netB
  rw [spec_l1In_ok, spec_l1In_ok]
  by_cases h1 : 0 ≤ v ∧ v ≤ 9
  · by_cases h3 : 1 ≤ n ∧ n ≤ 4
    · by_cases h4 : cs.length > 40
      · simp [h1, h3, show ¬ cs.length ≤ 40 by omega]; omega
      · have key := allX cs (fun m i => spec_l19Good_L4 m ((v, (n, cs)), i)) (conB v n) (.inr false) (.inl ()) ?_ ?_ (n := fuel) (by unfold fuel; omega)
        · simp only [h1, h3, and_self, decide_true, Option.bind_some, Bool.not_true, Bool.false_eq_true, if_false]
          rw [if_neg (by simp; omega), key]
          cases cs.all (conB v n) <;> simp <;> omega
        · intro m k hk
          simp only [spec_l19Good_L4, inb_nat, gd_nat hk, w64_succ (show k < 4611686018427387904 by omega), spec_l19Is_ok (c := cs[k]) (h.2 _ (List.getElem_mem hk)) h1 (show 1 ≤ n ∧ n ≤ 8 by omega)]
          cases hb : conB v n cs[k] <;> simp [hk, hb]
        · intro m
          simp [spec_l19Good_L4]
    · simp [h1, h3]
  · simp [h1]
/-- a valid constraint's parts -/
structure ConOk (v n : Int) (c : Con) : Prop where
  ar : 1 ≤ c.2.1 ∧ c.2.1 ≤ 3
  sl : (c.1.length : Int) = c.2.1
  sv : ∀ (i : Nat) (hi : i < c.1.length), 0 ≤ c.1[i] ∧ c.1[i] < v
  tl : ∀ t ∈ c.2.2, t.length = c.1.length
  tv : ∀ t ∈ c.2.2, ∀ (i : Nat) (hi : i < t.length), 0 ≤ t[i] ∧ t[i] < n
  inc : incB c.2.2 = true
  many : c.2.2.length ≤ 64
structure NetOk (a : Net) : Prop where
  hv : 0 ≤ a.1 ∧ a.1 ≤ 9
  hn : 1 ≤ a.2.1 ∧ a.2.1 ≤ 4
  hc : a.2.2.length ≤ 40
  con : ∀ c ∈ a.2.2, ConOk a.1 a.2.1 c
theorem con_of {v n : Int} {c : Con} (hn : 1 ≤ n ∧ n ≤ 4) (h : conB v n c = true) : ConOk v n c := by
  unfold conB relB at h
  simp only [Bool.and_eq_true, decide_eq_true_eq, List.all_eq_true] at h
  obtain ⟨⟨⟨⟨h1, h2⟩, h3⟩, h4⟩, h5⟩ := h
  refine ⟨h1, h4, fun i hi => belowB_get h5 i hi, fun t ht => by have := (h2 t ht).1; omega, fun t ht i hi => belowB_get (h2 t ht).2 i hi, h3, ?_⟩
  rcases inc_count (n := n) (k := c.2.1.toNat) h3 fun t ht => ⟨by have := (h2 t ht).1; omega, (h2 t ht).2⟩ with h6 | h6
  · have : n ^ c.2.1.toNat ≤ 64 := by
      have h7 : c.2.1.toNat = 1 ∨ c.2.1.toNat = 2 ∨ c.2.1.toNat = 3 := by omega
      have h8 : n = 1 ∨ n = 2 ∨ n = 3 ∨ n = 4 := by omega
      rcases h7 with h7 | h7 | h7 <;> rcases h8 with h8 | h8 | h8 | h8 <;> rw [h7, h8] <;> decide
    omega
  · rw [h6]; simp
theorem net_of {a : Net} (h : netB a = true) : NetOk a := by
  unfold netB at h
  simp only [Bool.and_eq_true, decide_eq_true_eq, List.all_eq_true] at h
  obtain ⟨⟨⟨h1, h2⟩, h3⟩, h4⟩ := h
  exact ⟨h1, h2, h3, fun c hc => con_of h2 (h4 c hc)⟩
end T
open Go Go.Va
namespace T
/-- a loop that gathers with and -/
theorem accX {β : Type} (N : Nat) (L : Nat → Bool → Int → Option β) (p : Nat → Bool) (f : Bool → Option β)
    (hs : ∀ n b (k : Nat), k < N → L (n + 1) b k = L n (b && p k) ((k + 1 : Nat) : Int)) (he : ∀ n b, L (n + 1) b (N : Nat) = f b) {n : Nat} (hn : N < n) (b : Bool) : L n b 0 = f (b && (List.range N).all p) := by
  have key : ∀ (n k : Nat) (b : Bool), k ≤ N → N - k < n → L n b k = f (b && (List.range' k (N - k)).all p) := by
    intro n
    induction n with
    | zero => intro k b _ h; omega
    | succ n ih =>
      intro k b hk hn
      rcases Nat.lt_or_ge k N with hlt | hge
      · rw [hs n b k hlt, ih (k + 1) _ hlt (by omega), show N - k = (N - (k + 1)) + 1 by omega, List.range'_succ, List.all_cons, Bool.and_assoc]
      · have : k = N := by omega
        subst this; rw [he]; simp
  have := key n 0 b (Nat.zero_le _) (by omega)
  rw [List.range_eq_range']
  simpa using this
/- a constraint is taken -/
def g0 (l : List Int) (i : Nat) : Int := l.getD i 0
theorem g0_of {l : List Int} {i : Nat} (h : i < l.length) : l[i] = g0 l i := (getD_of h).symm
section
variable {v n up : Int} {c : Con} {vals : List Int}
end
end T
open Go Go.Va
namespace T
/- which values each variable may have -/
abbrev Dom := List (List Bool)
/-- the places that are true -/
def mk (bs : List Bool) : List Int := ((List.range bs.length).filter fun i => bs.getD i false).map fun i : Nat => (i : Int)
def d2 (d : Dom) (v x : Nat) : Bool := (d.getD v []).getD x false
def set2 (d : Dom) (v x : Nat) : Dom := d.set v ((d.getD v []).set x false)
theorem mk_len {bs : List Bool} : (mk bs).length ≤ bs.length := by
  unfold mk
  rw [List.length_map]
  have := List.length_filter_le (fun i => bs.getD i false) (List.range bs.length)
  simpa using this
theorem getD_set_of {α : Type} {l : List α} {i j : Nat} {y d : α} : (l.set i y).getD j d = if i = j ∧ j < l.length then y else l.getD j d := by
  simp only [List.getD_eq_getElem?_getD, List.getElem?_set]
  by_cases h : i = j
  · subst h
    by_cases h2 : i < l.length
    · simp [h2]
    · simp [h2]
  · simp [h]
/-- how many values are there -/
def mu (d : Dom) : Nat := (d.map fun r => r.countP id).sum
theorem sum_set {α : Type} (f : α → Nat) : ∀ (l : List α) (i : Nat) (y : α) (hi : i < l.length), ((l.set i y).map f).sum + f l[i] = (l.map f).sum + f y
  | x :: l, 0, y, _ => by simp; omega
  | x :: l, i + 1, y, hi => by
    have := sum_set f l i y (by simpa using hi)
    simp only [List.set_cons_succ, List.map_cons, List.sum_cons, List.getElem_cons_succ]; omega
theorem count_set : ∀ (r : List Bool) (x : Nat), r.getD x false = true → (r.set x false).countP id + 1 = r.countP id
  | [], x, h => by simp at h
  | b :: r, 0, h => by simp at h; subst h; simp
  | b :: r, x + 1, h => by
    have := count_set r x (by simpa using h)
    rw [List.set_cons_succ, List.countP_cons, List.countP_cons]; omega
theorem mu_set2 {d : Dom} {v x : Nat} (h : d2 d v x = true) : mu (set2 d v x) + 1 = mu d := by
  unfold d2 at h
  rcases Nat.lt_or_ge v d.length with hv | hv
  · have h1 := sum_set (fun r : List Bool => r.countP id) d v ((d.getD v []).set x false) hv
    have h2 := count_set _ _ h
    rw [getD_of hv] at h1 h2
    unfold mu set2
    rw [getD_of hv]
    omega
  · rw [List.getD_eq_getElem?_getD (l := d), List.getElem?_eq_none hv] at h; simp at h
/- the reference's lists -/
theorem spec_l1Has_ok {l : List Int} {x : Int} (h : l.length ≤ 1048576) : spec_l1Has l x = some (decide (x ∈ l)) := by
  unfold spec_l1Has
  rw [allX l (fun n i => spec_l1Has_L2 n (l, x, i)) (fun y => !decide (y = x)) (.inr true) (.inl ()) ?_ ?_ (by unfold fuel; omega)]
  · by_cases hx : x ∈ l
    · rw [if_neg]
      · simp [hx]
      · rw [List.all_eq_true]; intro h; have := h x hx; simp at this
    · rw [if_pos]
      · simp [hx]
      · rw [List.all_eq_true]; intro y hy; have : y ≠ x := fun e => hx (e ▸ hy)
        simp [this]
  · intro n k hk
    simp only [spec_l1Has_L2, inb_nat, gd_nat hk, w64_succ (show k < 4611686018427387904 by omega)]
    by_cases e : l[k] = x <;> simp [hk, e]
  · intro n; simp [spec_l1Has_L2]
end T
open Go Go.Va
namespace T
section
variable {a : Net} {K : Nat}
theorem impl_marked_ok {r : List Bool} (h : r.length ≤ 1048576) : impl_marked r = some (mk r) := by
  unfold impl_marked
  have e : ∀ k, k < r.length → mk (r.take (k + 1)) = mk (r.take k) ++ if r.getD k false then [(k : Int)] else [] := fun k hk => by
    unfold mk
    have h1 : (r.take (k + 1)).length = k + 1 := by simp; omega
    have h2 : (r.take k).length = k := by simp; omega
    rw [h1, h2, List.range_succ, List.filter_append, List.map_append]
    have h3 : (List.range k).filter (fun i => (r.take (k + 1)).getD i false) = (List.range k).filter (fun i => (r.take k).getD i false) := by
      apply List.filter_congr
      intro i hi
      have := List.mem_range.1 hi
      simp [List.getD_eq_getElem?_getD, List.getElem?_take, this, show i < k + 1 by omega]
    rw [h3]
    have h4 : (r.take (k + 1)).getD k false = r.getD k false := by simp [List.getD_eq_getElem?_getD, List.getElem?_take]
    simp only [List.filter_cons, List.filter_nil, h4]
    cases r.getD k false <;> simp
  have hlen : ∀ k, (mk (r.take k)).length ≤ k := fun k => Nat.le_trans mk_len (by simp; omega)
  have := forS r.length (fun n o i => impl_marked_L3 n (o, r, (r.length : Int), i)) (fun k => mk (r.take k)) (r := some (mk r)) (fun n k hk => ?_) (fun n => ?_) (n := fuel) (by unfold fuel; omega)
  · have e0 : mk (r.take 0) = [] := by simp [mk]
    rw [e0] at this; rw [this]; rfl
  · have hl1 : (mk (r.take k)).length + 1 ≤ lim := by have := hlen k; unfold lim; omega
    simp only [impl_marked_L3, inb_nat, gd_nat hk, w64_succ (show k < 4611686018427387904 by omega), e k hk, getD_of hk]
    cases r[k] <;> simp [hk, hl1]
  · simp [impl_marked_L3]
end
end T
open Go Go.Va
namespace T
/- marks: each place gets the next number -/
def mkL {α : Type} (f : α → Int → α × Int) : List α → Int → List α × Int
  | [], k => ([], k)
  | x :: l, k => ((f x k).1 :: (mkL f l (f x k).2).1, (mkL f l (f x k).2).2)
theorem mkL_snoc {α : Type} (f : α → Int → α × Int) : ∀ (l : List α) (x : α) (k : Int), mkL f (l ++ [x]) k = ((mkL f l k).1 ++ [(f x (mkL f l k).2).1], (f x (mkL f l k).2).2)
  | [], x, k => by simp [mkL]
  | y :: l, x, k => by
    simp only [List.cons_append, mkL]
    rw [mkL_snoc f l x]
theorem mkL_len {α : Type} (f : α → Int → α × Int) : ∀ (l : List α) (k : Int), (mkL f l k).1.length = l.length
  | [], _ => rfl
  | x :: l, k => by simp [mkL, mkL_len f l]
/-- how far the numbers go -/
theorem mkL_far {α : Type} {f : α → Int → α × Int} {w : α → Nat} : ∀ (l : List α) (k : Int), (∀ x ∈ l, ∀ k, (f x k).2 = k + w x) → (mkL f l k).2 = k + ((l.map w).sum : Nat)
  | [], k, _ => by simp [mkL]
  | x :: l, k, h => by
    simp only [mkL, List.map_cons, List.sum_cons]
    rw [mkL_far l _ fun y hy => h y (List.mem_cons_of_mem _ hy), h x (by simp)]; push_cast; omega
/-- a loop that marks -/
theorem markX {α β : Type} (N : Nat) (L : Nat → List α → Int → Int → Option β) (f : α → Int → α × Int) (w : α → Nat) (B : Int) (fin : List α → Int → Option β) (xs : List α) (k0 : Int) (hN : xs.length = N) (hw : ∀ x ∈ xs, ∀ k, (f x k).2 = k + w x)
    (h0 : 0 ≤ k0) (hB : k0 + ((xs.map w).sum : Nat) ≤ B)
    (hs : ∀ n (a : List α) (k : Int) (i : Nat) (hi : i < N) (hl : a.length = N), a[i]'(by omega) ∈ xs → 0 ≤ k → k + w (a[i]'(by omega)) ≤ B → L (n + 1) a k i = L n (a.set i (f (a[i]'(by omega)) k).1) (f (a[i]'(by omega)) k).2 ((i + 1 : Nat) : Int))
    (he : ∀ n a k, a.length = N → L (n + 1) a k (N : Nat) = fin a k) {n : Nat} (hn : N < n) : L n xs k0 0 = fin (mkL f xs k0).1 (mkL f xs k0).2 := by
  have far : ∀ i, i ≤ N → (mkL f (xs.take i) k0).2 = k0 + (((xs.take i).map w).sum : Nat) := fun i _ => mkL_far _ _ fun x hx => hw x (List.mem_of_mem_take hx)
  have := forS N (fun n (s : List α × Int) i => L n s.1 s.2 i) (fun i => ((mkL f (xs.take i) k0).1 ++ xs.drop i, (mkL f (xs.take i) k0).2)) (r := fin (mkL f xs k0).1 (mkL f xs k0).2) (fun n i hi => ?_) (fun n => ?_) hn
  · simpa [mkL] using this
  · have hix : i < xs.length := by omega
    have hlen : (mkL f (xs.take i) k0).1.length = i := by rw [mkL_len]; simp; omega
    have hl2 : ((mkL f (xs.take i) k0).1 ++ xs.drop i).length = N := by simp [hlen]; omega
    have hget : ((mkL f (xs.take i) k0).1 ++ xs.drop i)[i]'(by omega) = xs[i] := by
      rw [List.getElem_append_right (by omega)]; simp [hlen]
    have hsum : (((xs.take i).map w).sum : Nat) + w xs[i] ≤ (xs.map w).sum := by
      have h1 : xs = xs.take i ++ xs[i] :: xs.drop (i + 1) := by rw [← List.drop_eq_getElem_cons hix, List.take_append_drop]
      have h2 : (xs.map w).sum = ((xs.take i).map w).sum + (w xs[i] + ((xs.drop (i + 1)).map w).sum) := by
        conv => lhs; rw [h1]
        rw [List.map_append, List.sum_append, List.map_cons, List.sum_cons]
      omega
    have hf := far i (by omega)
    dsimp only
    rw [hs n _ _ i hi hl2 (by rw [hget]; exact List.getElem_mem hix) (by omega) (by rw [hget, hf]; omega), hget, List.take_succ_eq_append_getElem hix, mkL_snoc]
    congr 1
    rw [List.set_append_right _ _ (by omega), hlen, Nat.sub_self, List.drop_eq_getElem_cons hix, List.set_cons_zero, List.append_assoc]; rfl
  · dsimp only
    rw [List.take_of_length_le (by omega), List.drop_of_length_le (by omega), List.append_nil]
    exact he n _ _ (by rw [mkL_len]; exact hN)
/-- a loop that looks for the marks finds them -/
theorem heldX {α : Type} (f : α → Int → α × Int) (h : α → Int → Option Int) (w : α → Nat) (B : Int) : ∀ (xs : List α) (k0 : Int) (L : Nat → Int → Int → Option (Int ⊕ Int)) (j : Nat), (∀ x ∈ xs, ∀ k, (f x k).2 = k + w x) → 0 ≤ k0 → k0 + ((xs.map w).sum : Nat) ≤ B →
    (∀ x ∈ xs, ∀ k, 0 ≤ k → k + w x ≤ B → h (f x k).1 k = some (f x k).2) →
    (∀ n k (i : Nat) (hi : i < xs.length), 0 ≤ k → k + w xs[i] ≤ B → L (n + 1) k ((j + i : Nat) : Int) = (h ((mkL f xs k0).1[i]'(by rw [mkL_len]; exact hi)) k).bind fun q => if q < 0 then some (.inr (-1)) else L n q ((j + i + 1 : Nat) : Int)) →
    (∀ n k, L (n + 1) k ((j + xs.length : Nat) : Int) = some (.inl k)) → ∀ n, xs.length < n → L n k0 (j : Int) = some (.inl (mkL f xs k0).2)
  | [], k0, L, j, _, _, _, _, _, he, n, hn => by
    obtain ⟨n, rfl⟩ : ∃ m, n = m + 1 := ⟨n - 1, by simp at hn; omega⟩
    have := he n k0
    simpa [mkL] using this
  | x :: xs, k0, L, j, hw, h0, hB, hh, hs, he, n, hn => by
    obtain ⟨n, rfl⟩ : ∃ m, n = m + 1 := ⟨n - 1, by simp at hn; omega⟩
    rw [List.map_cons, List.sum_cons] at hB
    have hx := hw x (by simp) k0
    have h1 := hs n k0 0 (by simp) h0 (by simp only [List.getElem_cons_zero]; omega)
    simp only [Nat.add_zero, mkL, List.getElem_cons_zero] at h1
    rw [h1, hh x (by simp) k0 h0 (by omega)]
    simp only [Option.bind_some]
    rw [if_neg (by omega)]
    have := heldX f h w B xs (f x k0).2 L (j + 1) (fun y hy => hw y (List.mem_cons_of_mem _ hy)) (by omega) (by rw [hx]; omega) (fun y hy => hh y (List.mem_cons_of_mem _ hy))
      (fun n k i hi hk0 hkB => by
        have := hs n k (i + 1) (by simpa using hi) hk0 (by simpa using hkB)
        simp only [mkL, List.getElem_cons_succ] at this
        rw [show j + 1 + i = j + (i + 1) by omega]; exact this)
      (fun n k => by have := he n k; rw [List.length_cons] at this; rw [show j + 1 + xs.length = j + (xs.length + 1) by omega]; exact this) n (by simp at hn; omega)
    exact this
abbrev BM : Int := 1152921504606846976
def mInt (_ : Int) (k : Int) : Int × Int := (k, k + 1)
def mIntS (l : List Int) (k : Int) : List Int × Int := mkL mInt l k
def mIntSS (l : List (List Int)) (k : Int) : List (List Int) × Int := mkL mIntS l k
theorem sum_one {α : Type} : ∀ (l : List α), (l.map fun _ => 1).sum = l.length
  | [] => rfl
  | _ :: l => by rw [List.map_cons, List.sum_cons, sum_one l, List.length_cons]; omega
theorem mIntS_far (l : List Int) (k : Int) : (mIntS l k).2 = k + (l.length : Nat) := by
  unfold mIntS
  rw [mkL_far (w := fun _ => 1) l k fun _ _ _ => rfl, sum_one]
theorem mIntSS_far (l : List (List Int)) (k : Int) : (mIntSS l k).2 = k + ((l.map List.length).sum : Nat) := by
  unfold mIntSS
  rw [mkL_far (w := List.length) l k fun x _ k => mIntS_far x k]
theorem markIntS_ok {l : List Int} {k : Int} (hl : l.length ≤ 1048576) (h0 : 0 ≤ k) (hB : k + l.length ≤ BM) : laws_markIntS l k = some (mIntS l k) := by
  unfold laws_markIntS
  have := markX l.length (fun n a k i => laws_markIntS_L2 n (a, k, i)) mInt (fun _ => 1) BM (fun a k => some (a, k)) l k rfl (fun _ _ _ => rfl) h0 (by rw [sum_one]; exact hB) (fun n a k i hi hl' _ hk0 hkB => ?_) (fun n a k hl' => ?_) (n := fuel) (by unfold fuel; omega)
  · rw [this]; rfl
  · have hk1 : w64 (k + 1) = k + 1 := w64_id (by omega) (by unfold BM at hkB; omega)
    simp only [laws_markIntS_L2, inb_nat, stt_nat, w64_succ (show i < 4611686018427387904 by omega), hk1, mInt]
    simp [hl', hi]
  · simp [laws_markIntS_L2, hl']
theorem heldIntS_ok {l : List Int} {k : Int} (hl : l.length ≤ 1048576) (h0 : 0 ≤ k) (hB : k + l.length ≤ BM) : laws_heldIntS (mIntS l k).1 k = some (mIntS l k).2 := by
  unfold laws_heldIntS
  have hlen : (mIntS l k).1.length = l.length := mkL_len _ _ _
  have := heldX mInt (fun x k => if x = k then some (k + 1) else some (-1)) (fun _ => 1) BM l k (fun n k' i => laws_heldIntS_L2 n ((mIntS l k).1, k', i)) 0 (fun _ _ _ => rfl) h0 (by rw [sum_one]; exact hB) (fun x _ k' _ _ => by simp [mInt])
    (fun n k' i hi hk0 hkB => by
      have hi' : i < (mIntS l k).1.length := by omega
      have hk1 : w64 (k' + 1) = k' + 1 := w64_id (by omega) (by unfold BM at hkB; omega)
      rw [Nat.zero_add]
      simp only [laws_heldIntS_L2, inb_nat, gd_nat hi', w64_succ (show i < 4611686018427387904 by omega), hk1]
      have e : (mkL mInt l k).1[i]'(by rw [mkL_len]; exact hi) = (mIntS l k).1[i] := rfl
      rw [e]
      by_cases h : (mIntS l k).1[i] = k'
      · simp [hi', hi, h, hlen, show ¬ k' + 1 < 0 by omega]
      · simp [hi', hi, h, hlen])
    (fun n k' => by rw [Nat.zero_add]; simp [laws_heldIntS_L2, hlen]) fuel (by unfold fuel; omega)
  rw [show ((0 : Nat) : Int) = 0 from rfl] at this
  rw [this]; rfl
theorem markIntSS_ok {l : List (List Int)} {k : Int} (hl : l.length ≤ 1048576) (hr : ∀ r ∈ l, r.length ≤ 1048576) (h0 : 0 ≤ k) (hB : k + ((l.map List.length).sum : Nat) ≤ BM) : laws_markIntSS l k = some (mIntSS l k) := by
  unfold laws_markIntSS
  have := markX l.length (fun n a k i => laws_markIntSS_L2 n (a, k, i)) mIntS List.length BM (fun a k => some (a, k)) l k rfl (fun x _ k => mIntS_far x k) h0 hB (fun n a k i hi hl' hm hk0 hkB => ?_) (fun n a k hl' => ?_) (n := fuel) (by unfold fuel; omega)
  · rw [this]; rfl
  · have hia : i < a.length := by omega
    simp only [laws_markIntSS_L2, inb_nat, stt_nat, gd_nat hia, w64_succ (show i < 4611686018427387904 by omega), markIntS_ok (hr _ hm) hk0 hkB, Option.bind_some]
    simp [hl', hi]
  · simp [laws_markIntSS_L2, hl']
/- networks -/
def wC (c : Con) : Nat := c.1.length + 1 + (c.2.2.map List.length).sum
def mCon (c : Con) (k : Int) : Con × Int :=
  (((mIntS c.1 k).1, (mIntS c.1 k).2, (mIntSS c.2.2 ((mIntS c.1 k).2 + 1)).1), (mIntSS c.2.2 ((mIntS c.1 k).2 + 1)).2)
theorem mCon_far (c : Con) (k : Int) : (mCon c k).2 = k + wC c := by
  unfold mCon wC; dsimp only
  rw [mIntSS_far, mIntS_far]; push_cast; omega
theorem markConstraintS_ok {l : List Con} {k : Int} (hl : l.length ≤ 1048576) (hr : ∀ c ∈ l, conS c) (h0 : 0 ≤ k) (hB : k + ((l.map wC).sum : Nat) ≤ BM) : laws_markConstraintS l k = some (mkL mCon l k) := by
  unfold laws_markConstraintS
  have := markX l.length (fun n a k i => laws_markConstraintS_L2 n (a, k, i)) mCon wC BM (fun a k => some (a, k)) l k rfl (fun x _ k => mCon_far x k) h0 hB (fun n a k i hi hl' hm hk0 hkB => ?_) (fun n a k hl' => ?_) (n := fuel) (by unfold fuel; omega)
  · rw [this]; rfl
  · have hia : i < a.length := by omega
    have hc := hr _ hm
    have hkB' : k + (a[i].1.length : Int) + 1 + ((a[i].2.2.map List.length).sum : Nat) ≤ BM := by unfold wC at hkB; push_cast at hkB; omega
    have e1 := mIntS_far a[i].1 k
    have hk1 : w64 ((mIntS a[i].1 k).2 + 1) = (mIntS a[i].1 k).2 + 1 := w64_id (by omega) (by unfold BM at hkB'; omega)
    have hia1 : ∀ y, i < (a.set i y).length := fun y => by simpa using hia
    simp only [laws_markConstraintS_L2, inb_nat, stt_nat, gd_nat hia, w64_succ (show i < 4611686018427387904 by omega), markIntS_ok hc.1 hk0 (show k + (a[i].1.length : Int) ≤ BM by omega), Option.bind_some, gd_nat (hia1 _), List.getElem_set_self, List.set_set, hk1,
      markIntSS_ok hc.2.1 hc.2.2 (show 0 ≤ (mIntS a[i].1 k).2 + 1 by omega) (show (mIntS a[i].1 k).2 + 1 + ((a[i].2.2.map List.length).sum : Nat) ≤ BM by omega)]
    simp [hl', hi, mCon]
  · simp [laws_markConstraintS_L2, hl']
theorem sum_wC {a : Net} : (a.2.2.map wC).sum ≤ 2 * totN a := by
  unfold totN
  have : ∀ l : List Con, (l.map wC).sum ≤ l.length + (l.map totC).sum := by
    intro l
    induction l with
    | nil => simp
    | cons c l ih =>
      simp only [List.map_cons, List.sum_cons, List.length_cons]
      have : wC c ≤ 1 + totC c := by unfold wC totC totSS; omega
      omega
  have := this a.2.2; omega
theorem markNetwork_ok {a : Net} (h : netS a) (ht : totN a ≤ 1048576) : ∃ b k, laws_markNetwork a 1 = some (b, k) ∧ 0 ≤ k ∧ k ≤ 2097153 := by
  unfold laws_markNetwork
  have h1 := @sum_wC a
  rw [markConstraintS_ok h.1 h.2 (by omega) (by unfold BM; omega)]
  refine ⟨_, _, rfl, ?_, ?_⟩
  · rw [mkL_far (w := wC) _ _ fun c _ k => mCon_far c k]; omega
  · rw [mkL_far (w := wC) _ _ fun c _ k => mCon_far c k]; omega
end T
open Go Go.Va
namespace T
theorem w1 : w64 1 = 1 := by rw [w64_def]; rfl
theorem w2 : w64 2 = 2 := by rw [w64_def]; rfl
section
variable {a : Net}
end
end T
set_option linter.unusedVariables false
open Go Go.Va
namespace T
def spec_l20Inside_L7 : Nat → ((List Int) × (Int × Int × (List ((List Int) × Int × (List (List Int))))) × (List ((List Int) × Int × (List (List Int)))) × Int × Bool × Int) → Option ((List Int) × (Int × Int × (List ((List Int) × Int × (List (List Int))))) × (List ((List Int) × Int × (List (List Int)))) × Int × Bool)
  | 0, _ => none
  | n + 1, (vars, net, out, i, inside, k) =>
    if inb i net.2.2 then
      if decide (k < (((gd net.2.2 i ([], (0, []))).1).length : Int)) then
        if inside then
          if inb i net.2.2 then
            if inb k ((gd net.2.2 i ([], (0, []))).1) then
              (spec_l1Has vars (gd ((gd net.2.2 i ([], (0, []))).1) k 0)).bind fun r1 =>
                spec_l20Inside_L7 n (vars, (net.1, (net.2.1, net.2.2)), out, i, r1, w64 (k + 1))
            else none
          else none
        else
          spec_l20Inside_L7 n (vars, (net.1, (net.2.1, net.2.2)), out, i, false, w64 (k + 1))
      else
        some (vars, (net.1, (net.2.1, net.2.2)), out, i, inside)
    else none
def spec_l20Inside_L3 : Nat → ((List Int) × (Int × Int × (List ((List Int) × Int × (List (List Int))))) × (List ((List Int) × Int × (List (List Int)))) × Int) → Option ((List ((List Int) × Int × (List (List Int)))))
  | 0, _ => none
  | n + 1, (vars, net, out, i) =>
    if decide (i < (net.2.2.length : Int)) then
      (spec_l20Inside_L7 fuel (vars, (net.1, (net.2.1, net.2.2)), out, i, true, 0)).bind fun s1 =>
        if s1.2.2.2.2 then
          if inb s1.2.2.2.1 s1.2.1.2.2 then
            if s1.2.2.1.length + [gd s1.2.1.2.2 s1.2.2.2.1 ([], (0, []))].length ≤ lim then
              spec_l20Inside_L3 n (s1.1, (s1.2.1.1, (s1.2.1.2.1, s1.2.1.2.2)), s1.2.2.1 ++ [gd s1.2.1.2.2 s1.2.2.2.1 ([], (0, []))], w64 (s1.2.2.2.1 + 1))
            else none
          else none
        else
          spec_l20Inside_L3 n (s1.1, (s1.2.1.1, (s1.2.1.2.1, s1.2.1.2.2)), s1.2.2.1, w64 (s1.2.2.2.1 + 1))
    else
      some out
def spec_l20Inside (net : Int × Int × (List ((List Int) × Int × (List (List Int))))) (vars : List Int) : Option ((List ((List Int) × Int × (List (List Int))))) :=
  (spec_l20Inside_L3 fuel (vars, (net.1, (net.2.1, net.2.2)), [], 0)).bind fun s1 =>
    some s1
def spec_l13Has (r : Int × (List (List Int))) (t : List Int) : Option (Bool) :=
  if (t.length : Int) != r.1 then
    some false
  else
    (spec_l8Find r.2 t).bind fun r1 =>
      some r1.2
def spec_l19Satisfies_L3 : Nat → ((List Int) × ((List Int) × Int × (List (List Int))) × (List Int) × Int) → Option (((List Int) × Int × (List (List Int))) × (List Int))
  | 0, _ => none
  | n + 1, (values, c, t, i) =>
    if decide (i < (c.1.length : Int)) then
      if inb i c.1 then
        if inb (gd c.1 i 0) values then
          if t.length + [gd values (gd c.1 i 0) 0].length ≤ lim then
            spec_l19Satisfies_L3 n (values, (c.1, (c.2.1, c.2.2)), t ++ [gd values (gd c.1 i 0) 0], w64 (i + 1))
          else none
        else none
      else none
    else
      some ((c.1, (c.2.1, c.2.2)), t)
def spec_l19Satisfies (c : (List Int) × Int × (List (List Int))) (values : List Int) : Option (Bool) :=
  (spec_l19Satisfies_L3 fuel (values, (c.1, (c.2.1, c.2.2)), [], 0)).bind fun s1 =>
    (spec_l13Has (s1.1.2.1, s1.1.2.2) s1.2).bind fun r2 =>
      some r2
def spec_l20Hold_L2 : Nat → ((List ((List Int) × Int × (List (List Int)))) × (List Int) × Int) → Option ((Unit) ⊕ (Bool))
  | 0, _ => none
  | n + 1, (list, values, i) =>
    if decide (i < (list.length : Int)) then
      if inb i list then
        (spec_l19Satisfies (gd list i ([], (0, []))) values).bind fun r1 =>
          if !r1 then
            some (.inr false)
          else
            spec_l20Hold_L2 n (list, values, w64 (i + 1))
      else none
    else
      some (.inl ())
def spec_l20Hold (list : List ((List Int) × Int × (List (List Int)))) (values : List Int) : Option (Bool) :=
  (spec_l20Hold_L2 fuel (list, values, 0)).bind fun s1 =>
    match s1 with
    | .inl s2 =>
      some true
    | .inr s3 =>
      some s3
def spec_l20At (there : List (List (List Bool))) (size : Int) (i : Int) (a : Int) (j : Int) (b : Int) : Option (Bool) :=
  if decide (i < j) then
    if inb i there then
      if inb j (gd there i []) then
        if inb (w64 ((w64 (a * size)) + b)) (gd (gd there i []) j []) then
          some (gd (gd (gd there i []) j []) (w64 ((w64 (a * size)) + b)) false)
        else none
      else none
    else none
  else
    if inb j there then
      if inb i (gd there j []) then
        if inb (w64 ((w64 (b * size)) + a)) (gd (gd there j []) i []) then
          some (gd (gd (gd there j []) i []) (w64 ((w64 (b * size)) + a)) false)
        else none
      else none
    else none
def spec_l20Shrink_L10 : Nat → ((List (List (List Bool))) × Int × Int × Int × (Int × Int × (List ((List Int) × Int × (List (List Int))))) × Int × (List ((List Int) × Int × (List (List Int)))) × Bool × Int × Bool × Int) → Option ((List (List (List Bool))) × Int × Int × Int × (Int × Int × (List ((List Int) × Int × (List (List Int))))) × Int × (List ((List Int) × Int × (List (List Int)))) × Bool × Int × Bool)
  | 0, _ => none
  | n + 1, (t1, t2, t3, t4, t5, t11, t12, t13, t14, t15, t16) =>
    if decide (t16 < t11) then
      if !t15 then
        if 0 ≤ t5.1 ∧ t5.1 ≤ t5.1 ∧ t5.1 ≤ lim then
          if t11 ≠ 0 then
            if inb t2 (List.replicate (Int.toNat t5.1) (0 : Int)) then
              if t11 ≠ 0 then
                if inb t3 (stt (List.replicate (Int.toNat t5.1) (0 : Int)) t2 (w64 (Int.tdiv t14 t11))) then
                  if inb t4 (stt (stt (List.replicate (Int.toNat t5.1) (0 : Int)) t2 (w64 (Int.tdiv t14 t11))) t3 (Int.tmod t14 t11)) then
                    if inb t2 (stt (stt (stt (List.replicate (Int.toNat t5.1) (0 : Int)) t2 (w64 (Int.tdiv t14 t11))) t3 (Int.tmod t14 t11)) t4 t16) then
                      (spec_l20At t1 t11 t2 (gd (stt (stt (stt (List.replicate (Int.toNat t5.1) (0 : Int)) t2 (w64 (Int.tdiv t14 t11))) t3 (Int.tmod t14 t11)) t4 t16) t2 0) t4 t16).bind fun r2 =>
                        if r2 then
                          if inb t3 (stt (stt (stt (List.replicate (Int.toNat t5.1) (0 : Int)) t2 (w64 (Int.tdiv t14 t11))) t3 (Int.tmod t14 t11)) t4 t16) then
                            (spec_l20At t1 t11 t3 (gd (stt (stt (stt (List.replicate (Int.toNat t5.1) (0 : Int)) t2 (w64 (Int.tdiv t14 t11))) t3 (Int.tmod t14 t11)) t4 t16) t3 0) t4 t16).bind fun r3 =>
                              if r3 then
                                (spec_l20Hold t12 (stt (stt (stt (List.replicate (Int.toNat t5.1) (0 : Int)) t2 (w64 (Int.tdiv t14 t11))) t3 (Int.tmod t14 t11)) t4 t16)).bind fun r4 =>
                                  spec_l20Shrink_L10 n (t1, t2, t3, t4, (t5.1, (t5.2.1, t5.2.2)), t11, t12, t13, t14, r4, w64 (t16 + 1))
                              else
                                spec_l20Shrink_L10 n (t1, t2, t3, t4, (t5.1, (t5.2.1, t5.2.2)), t11, t12, t13, t14, false, w64 (t16 + 1))
                          else none
                        else
                          spec_l20Shrink_L10 n (t1, t2, t3, t4, (t5.1, (t5.2.1, t5.2.2)), t11, t12, t13, t14, false, w64 (t16 + 1))
                    else none
                  else none
                else none
              else none
            else none
          else none
        else none
      else
        some (t1, t2, t3, t4, (t5.1, (t5.2.1, t5.2.2)), t11, t12, t13, t14, t15)
    else
      some (t1, t2, t3, t4, (t5.1, (t5.2.1, t5.2.2)), t11, t12, t13, t14, t15)
def spec_l20Shrink_L5 : Nat → ((List (List (List Bool))) × Int × Int × Int × (Int × Int × (List ((List Int) × Int × (List (List Int))))) × Int × (List ((List Int) × Int × (List (List Int)))) × Bool × Int) → Option ((List (List (List Bool))) × Bool)
  | 0, _ => none
  | n + 1, (t1, t2, t3, t4, t5, t11, t12, t13, t14) =>
    if decide (t14 < (w64 (t11 * t11))) then
      if inb t2 t1 then
        if inb t3 (gd t1 t2 []) then
          if inb t14 (gd (gd t1 t2 []) t3 []) then
            if !(gd (gd (gd t1 t2 []) t3 []) t14 false) then
              spec_l20Shrink_L5 n (t1, t2, t3, t4, (t5.1, (t5.2.1, t5.2.2)), t11, t12, t13, w64 (t14 + 1))
            else
              (spec_l20Shrink_L10 fuel (t1, t2, t3, t4, (t5.1, (t5.2.1, t5.2.2)), t11, t12, t13, t14, false, 0)).bind fun s2 =>
                if !s2.2.2.2.2.2.2.2.2.2 then
                  if inb s2.2.1 s2.1 then
                    if inb s2.2.2.1 (gd s2.1 s2.2.1 []) then
                      if inb s2.2.2.2.2.2.2.2.2.1 (gd (gd s2.1 s2.2.1 []) s2.2.2.1 []) then
                        spec_l20Shrink_L5 n (stt s2.1 s2.2.1 (stt (gd s2.1 s2.2.1 []) s2.2.2.1 (stt (gd (gd s2.1 s2.2.1 []) s2.2.2.1 []) s2.2.2.2.2.2.2.2.2.1 false)), s2.2.1, s2.2.2.1, s2.2.2.2.1, (s2.2.2.2.2.1.1, (s2.2.2.2.2.1.2.1, s2.2.2.2.2.1.2.2)), s2.2.2.2.2.2.1, s2.2.2.2.2.2.2.1, true, w64 (s2.2.2.2.2.2.2.2.2.1 + 1))
                      else none
                    else none
                  else none
                else
                  spec_l20Shrink_L5 n (s2.1, s2.2.1, s2.2.2.1, s2.2.2.2.1, (s2.2.2.2.2.1.1, (s2.2.2.2.2.1.2.1, s2.2.2.2.2.1.2.2)), s2.2.2.2.2.2.1, s2.2.2.2.2.2.2.1, s2.2.2.2.2.2.2.2.1, w64 (s2.2.2.2.2.2.2.2.2.1 + 1))
          else none
        else none
      else none
    else
      some (t1, t13)
def spec_l20Shrink (t0 : Int × Int × (List ((List Int) × Int × (List (List Int))))) (t1 : List (List (List Bool))) (t2 : Int) (t3 : Int) (t4 : Int) : Option ((List (List (List Bool))) × Bool) :=
  (spec_l20Inside (t0.1, (t0.2.1, t0.2.2)) [t2, t3, t4]).bind fun r1 =>
    (spec_l20Shrink_L5 fuel (t1, t2, t3, t4, (t0.1, (t0.2.1, t0.2.2)), t0.2.1, r1, false, 0)).bind fun s2 =>
      some (s2.1, s2.2)
def spec_l20Pairs_L13 : Nat → ((Int × Int × (List ((List Int) × Int × (List (List Int))))) × Int × Int × (List (List (List Bool))) × Int × (List (List Bool)) × Int × (List Bool) × (List ((List Int) × Int × (List (List Int)))) × Int) → Option ((Int × Int × (List ((List Int) × Int × (List (List Int))))) × Int × Int × (List (List (List Bool))) × Int × (List (List Bool)) × Int × (List Bool))
  | 0, _ => none
  | n + 1, (t1, t3, t4, t5, t6, t7, t8, t9, t10, t11) =>
    if decide (t11 < (w64 (t4 * t4))) then
      if decide (t6 < t8) then
        if 0 ≤ t3 ∧ t3 ≤ t3 ∧ t3 ≤ lim then
          if t4 ≠ 0 then
            if inb t6 (List.replicate (Int.toNat t3) (0 : Int)) then
              if t4 ≠ 0 then
                if inb t8 (stt (List.replicate (Int.toNat t3) (0 : Int)) t6 (w64 (Int.tdiv t11 t4))) then
                  (spec_l20Hold t10 (stt (stt (List.replicate (Int.toNat t3) (0 : Int)) t6 (w64 (Int.tdiv t11 t4))) t8 (Int.tmod t11 t4))).bind fun r2 =>
                    if inb t11 t9 then
                      spec_l20Pairs_L13 n ((t1.1, (t1.2.1, t1.2.2)), t3, t4, t5, t6, t7, t8, stt t9 t11 r2, t10, w64 (t11 + 1))
                    else none
                else none
              else none
            else none
          else none
        else none
      else
        some ((t1.1, (t1.2.1, t1.2.2)), t3, t4, t5, t6, t7, t8, t9)
    else
      some ((t1.1, (t1.2.1, t1.2.2)), t3, t4, t5, t6, t7, t8, t9)
def spec_l20Pairs_L8 : Nat → ((Int × Int × (List ((List Int) × Int × (List (List Int))))) × Int × Int × (List (List (List Bool))) × Int × (List (List Bool)) × Int) → Option ((Int × Int × (List ((List Int) × Int × (List (List Int))))) × Int × Int × (List (List (List Bool))) × Int × (List (List Bool)))
  | 0, _ => none
  | n + 1, (t1, t3, t4, t5, t6, t7, t8) =>
    if decide (t8 < t3) then
      if 0 ≤ (w64 (t4 * t4)) ∧ (w64 (t4 * t4)) ≤ (w64 (t4 * t4)) ∧ (w64 (t4 * t4)) ≤ lim then
        (spec_l20Inside (t1.1, (t1.2.1, t1.2.2)) [t6, t8]).bind fun r1 =>
          (spec_l20Pairs_L13 fuel ((t1.1, (t1.2.1, t1.2.2)), t3, t4, t5, t6, t7, t8, List.replicate (Int.toNat (w64 (t4 * t4))) (false : Bool), r1, 0)).bind fun s2 =>
            if s2.2.2.2.2.2.1.length + [s2.2.2.2.2.2.2.2].length ≤ lim then
              spec_l20Pairs_L8 n ((s2.1.1, (s2.1.2.1, s2.1.2.2)), s2.2.1, s2.2.2.1, s2.2.2.2.1, s2.2.2.2.2.1, s2.2.2.2.2.2.1 ++ [s2.2.2.2.2.2.2.2], w64 (s2.2.2.2.2.2.2.1 + 1))
            else none
      else none
    else
      some ((t1.1, (t1.2.1, t1.2.2)), t3, t4, t5, t6, t7)
def spec_l20Pairs_L4 : Nat → ((Int × Int × (List ((List Int) × Int × (List (List Int))))) × Int × Int × (List (List (List Bool))) × Int) → Option ((Int × Int × (List ((List Int) × Int × (List (List Int))))) × Int × (List (List (List Bool))))
  | 0, _ => none
  | n + 1, (t1, t3, t4, t5, t6) =>
    if decide (t6 < t3) then
      (spec_l20Pairs_L8 fuel ((t1.1, (t1.2.1, t1.2.2)), t3, t4, t5, t6, [], 0)).bind fun s1 =>
        if s1.2.2.2.1.length + [s1.2.2.2.2.2].length ≤ lim then
          spec_l20Pairs_L4 n ((s1.1.1, (s1.1.2.1, s1.1.2.2)), s1.2.1, s1.2.2.1, s1.2.2.2.1 ++ [s1.2.2.2.2.2], w64 (s1.2.2.2.2.1 + 1))
        else none
    else
      some ((t1.1, (t1.2.1, t1.2.2)), t3, t5)
def spec_l20Pairs_L31 : Nat → ((Int × Int × (List ((List Int) × Int × (List (List Int))))) × Int × (List (List (List Bool))) × Bool × Int × Int × Int) → Option ((Int × Int × (List ((List Int) × Int × (List (List Int))))) × Int × (List (List (List Bool))) × Bool × Int × Int)
  | 0, _ => none
  | n + 1, (t1, t3, t5, t13, t14, t15, t16) =>
    if decide (t16 < t3) then
      if t16 != t14 then
        if t16 != t15 then
          (spec_l20Shrink (t1.1, (t1.2.1, t1.2.2)) t5 t14 t15 t16).bind fun r3 =>
            if r3.2 then
              spec_l20Pairs_L31 n ((t1.1, (t1.2.1, t1.2.2)), t3, r3.1, true, t14, t15, w64 (t16 + 1))
            else
              spec_l20Pairs_L31 n ((t1.1, (t1.2.1, t1.2.2)), t3, r3.1, t13, t14, t15, w64 (t16 + 1))
        else
          spec_l20Pairs_L31 n ((t1.1, (t1.2.1, t1.2.2)), t3, t5, t13, t14, t15, w64 (t16 + 1))
      else
        spec_l20Pairs_L31 n ((t1.1, (t1.2.1, t1.2.2)), t3, t5, t13, t14, t15, w64 (t16 + 1))
    else
      some ((t1.1, (t1.2.1, t1.2.2)), t3, t5, t13, t14, t15)
def spec_l20Pairs_L28 : Nat → ((Int × Int × (List ((List Int) × Int × (List (List Int))))) × Int × (List (List (List Bool))) × Bool × Int × Int) → Option ((Int × Int × (List ((List Int) × Int × (List (List Int))))) × Int × (List (List (List Bool))) × Bool × Int)
  | 0, _ => none
  | n + 1, (t1, t3, t5, t13, t14, t15) =>
    if decide (t15 < t3) then
      (spec_l20Pairs_L31 fuel ((t1.1, (t1.2.1, t1.2.2)), t3, t5, t13, t14, t15, 0)).bind fun s3 =>
        spec_l20Pairs_L28 n ((s3.1.1, (s3.1.2.1, s3.1.2.2)), s3.2.1, s3.2.2.1, s3.2.2.2.1, s3.2.2.2.2.1, w64 (s3.2.2.2.2.2 + 1))
    else
      some ((t1.1, (t1.2.1, t1.2.2)), t3, t5, t13, t14)
def spec_l20Pairs_L25 : Nat → ((Int × Int × (List ((List Int) × Int × (List (List Int))))) × Int × (List (List (List Bool))) × Bool × Int) → Option ((Int × Int × (List ((List Int) × Int × (List (List Int))))) × Int × (List (List (List Bool))) × Bool)
  | 0, _ => none
  | n + 1, (t1, t3, t5, t13, t14) =>
    if decide (t14 < t3) then
      (spec_l20Pairs_L28 fuel ((t1.1, (t1.2.1, t1.2.2)), t3, t5, t13, t14, w64 (t14 + 1))).bind fun s3 =>
        spec_l20Pairs_L25 n ((s3.1.1, (s3.1.2.1, s3.1.2.2)), s3.2.1, s3.2.2.1, s3.2.2.2.1, w64 (s3.2.2.2.2 + 1))
    else
      some ((t1.1, (t1.2.1, t1.2.2)), t3, t5, t13)
def spec_l20Pairs_L22 : Nat → ((Int × Int × (List ((List Int) × Int × (List (List Int))))) × Int × (List (List (List Bool))) × Bool) → Option ((List (List (List Bool))))
  | 0, _ => none
  | n + 1, (t1, t3, t5, t13) =>
    if t13 then
      (spec_l20Pairs_L25 fuel ((t1.1, (t1.2.1, t1.2.2)), t3, t5, false, 0)).bind fun s3 =>
        spec_l20Pairs_L22 n ((s3.1.1, (s3.1.2.1, s3.1.2.2)), s3.2.1, s3.2.2.1, s3.2.2.2)
    else
      some t5
def spec_l20Pairs (t0 : Int × Int × (List ((List Int) × Int × (List (List Int))))) : Option ((List (List (List Bool)))) :=
  (spec_l20Pairs_L4 fuel ((t0.1, (t0.2.1, t0.2.2)), t0.1, t0.2.1, [], 0)).bind fun s1 =>
    (spec_l20Pairs_L22 fuel ((s1.1.1, (s1.1.2.1, s1.1.2.2)), s1.2.1, s1.2.2, true)).bind fun s2 =>
      some s2
def impl_hasNot_L2 : Nat → (Int × (List Int) × Int × Int) → Option ((Unit) ⊕ (Bool))
  | 0, _ => none
  | n + 1, (x, t7, t8, t9) =>
    if decide (t9 < t8) then
      if inb t9 t7 then
        if x == (gd t7 t9 0) then
          some (.inr false)
        else
          impl_hasNot_L2 n (x, t7, t8, w64 (t9 + 1))
      else none
    else
      some (.inl ())
def impl_hasNot (list : List Int) (x : Int) : Option (Bool) :=
  (impl_hasNot_L2 fuel (x, list, (list.length : Int), 0)).bind fun s1 =>
    match s1 with
    | .inl s2 =>
      some true
    | .inr s3 =>
      some s3
def impl_isPart_L2 : Nat → ((List Int) × (List Int) × Int × Int) → Option ((Unit) ⊕ (Bool))
  | 0, _ => none
  | n + 1, (y, t7, t8, t9) =>
    if decide (t9 < t8) then
      if inb t9 t7 then
        (impl_hasNot y (gd t7 t9 0)).bind fun r1 =>
          if r1 then
            some (.inr false)
          else
            impl_isPart_L2 n (y, t7, t8, w64 (t9 + 1))
      else none
    else
      some (.inl ())
def impl_isPart (x : List Int) (y : List Int) : Option (Bool) :=
  (impl_isPart_L2 fuel (y, x, (x.length : Int), 0)).bind fun s1 =>
    match s1 with
    | .inl s2 =>
      some true
    | .inr s3 =>
      some s3
def impl_within_L3 : Nat → ((List Int) × (List ((List Int) × Int × (List (List Int)))) × (List ((List Int) × Int × (List (List Int)))) × Int × Int) → Option ((List ((List Int) × Int × (List (List Int)))))
  | 0, _ => none
  | n + 1, (vars, list, t10, t11, t12) =>
    if decide (t12 < t11) then
      if inb t12 t10 then
        (impl_isPart ((gd t10 t12 ([], (0, []))).1) vars).bind fun r1 =>
          if r1 then
            if list.length + [((gd t10 t12 ([], (0, []))).1, (((gd t10 t12 ([], (0, []))).2).1, ((gd t10 t12 ([], (0, []))).2).2))].length ≤ lim then
              impl_within_L3 n (vars, list ++ [((gd t10 t12 ([], (0, []))).1, (((gd t10 t12 ([], (0, []))).2).1, ((gd t10 t12 ([], (0, []))).2).2))], t10, t11, w64 (t12 + 1))
            else none
          else
            impl_within_L3 n (vars, list, t10, t11, w64 (t12 + 1))
      else none
    else
      some list
def impl_within (net : Int × Int × (List ((List Int) × Int × (List (List Int))))) (vars : List Int) : Option ((List ((List Int) × Int × (List (List Int))))) :=
  (impl_within_L3 fuel (vars, [], net.2.2, (net.2.2.length : Int), 0)).bind fun s1 =>
    some s1
def impl_compose_L3 : Nat → ((List Int) × (List Int) × (List Int) × Int × Int) → Option ((List Int))
  | 0, _ => none
  | n + 1, (g, h, t11, t12, t13) =>
    if decide (t13 < t12) then
      if inb t13 t11 then
        if inb (gd t11 t13 0) g then
          if inb t13 h then
            impl_compose_L3 n (g, stt h t13 (gd g (gd t11 t13 0) 0), t11, t12, w64 (t13 + 1))
          else none
        else none
      else none
    else
      some h
def impl_compose (f : List Int) (g : List Int) : Option ((List Int)) :=
  if 0 ≤ (f.length : Int) ∧ (f.length : Int) ≤ (f.length : Int) ∧ (f.length : Int) ≤ lim then
    (impl_compose_L3 fuel (g, List.replicate (Int.toNat (f.length : Int)) (0 : Int), f, (f.length : Int), 0)).bind fun s1 =>
      some s1
  else none
def impl_sameList_L4 : Nat → ((List Int) × (List Int) × Int × Int) → Option ((Unit) ⊕ (Bool))
  | 0, _ => none
  | n + 1, (b, t12, t13, t14) =>
    if decide (t14 < t13) then
      if inb t14 t12 then
        if inb t14 b then
          if (gd b t14 0) != (gd t12 t14 0) then
            some (.inr false)
          else
            impl_sameList_L4 n (b, t12, t13, w64 (t14 + 1))
        else none
      else none
    else
      some (.inl ())
def impl_sameList (a : List Int) (b : List Int) : Option (Bool) :=
  if (a.length : Int) != (b.length : Int) then
    some false
  else
    (impl_sameList_L4 fuel (b, a, (a.length : Int), 0)).bind fun s1 =>
      match s1 with
      | .inl s2 =>
        some true
      | .inr s3 =>
        some s3
def impl_hasRow_L2 : Nat → ((List Int) × (List (List Int)) × Int × Int) → Option ((Unit) ⊕ (Bool))
  | 0, _ => none
  | n + 1, (t, t8, t9, t10) =>
    if decide (t10 < t9) then
      if inb t10 t8 then
        (impl_sameList t (gd t8 t10 [])).bind fun r1 =>
          if r1 then
            some (.inr true)
          else
            impl_hasRow_L2 n (t, t8, t9, w64 (t10 + 1))
      else none
    else
      some (.inl ())
def impl_hasRow (r : Int × (List (List Int))) (t : List Int) : Option (Bool) :=
  (impl_hasRow_L2 fuel (t, r.2, (r.2.length : Int), 0)).bind fun s1 =>
    match s1 with
    | .inl s2 =>
      some false
    | .inr s3 =>
      some s3
def impl_satisfies_L2 : Nat → ((List Int) × (List ((List Int) × Int × (List (List Int)))) × Int × Int) → Option ((Unit) ⊕ (Bool))
  | 0, _ => none
  | n + 1, (values, t7, t8, t9) =>
    if decide (t9 < t8) then
      if inb t9 t7 then
        (impl_compose ((gd t7 t9 ([], (0, []))).1) values).bind fun r1 =>
          (impl_hasRow (((gd t7 t9 ([], (0, []))).2).1, ((gd t7 t9 ([], (0, []))).2).2) r1).bind fun r2 =>
            if !r2 then
              some (.inr false)
            else
              impl_satisfies_L2 n (values, t7, t8, w64 (t9 + 1))
      else none
    else
      some (.inl ())
def impl_satisfies (list : List ((List Int) × Int × (List (List Int)))) (values : List Int) : Option (Bool) :=
  (impl_satisfies_L2 fuel (values, list, (list.length : Int), 0)).bind fun s1 =>
    match s1 with
    | .inl s2 =>
      some true
    | .inr s3 =>
      some s3
def impl_firstPairs_L11 : Nat → ((Int × Int × (List ((List Int) × Int × (List (List Int))))) × (List (List (List (List Bool)))) × Int × Int × Int × Int × Int × Int × Int × Int) → Option ((Int × Int × (List ((List Int) × Int × (List (List Int))))) × (List (List (List (List Bool)))) × Int × Int × Int × Int × Int)
  | 0, _ => none
  | n + 1, (t1, t3, t4, t5, t18, t19, t32, t33, t52, t53) =>
    if decide (t53 < t52) then
      if inb t4 t3 then
        if inb t5 (gd t3 t4 []) then
          if 0 ≤ t1.2.1 ∧ t1.2.1 ≤ t1.2.1 ∧ t1.2.1 ≤ lim then
            if inb t53 (gd (gd t3 t4 []) t5 []) then
              impl_firstPairs_L11 n ((t1.1, (t1.2.1, t1.2.2)), stt t3 t4 (stt (gd t3 t4 []) t5 (stt (gd (gd t3 t4 []) t5 []) t53 (List.replicate (Int.toNat t1.2.1) (false : Bool)))), t4, t5, t18, t19, t32, t33, t52, w64 (t53 + 1))
            else none
          else none
        else none
      else none
    else
      some ((t1.1, (t1.2.1, t1.2.2)), t3, t4, t18, t19, t32, t33)
def impl_firstPairs_L7 : Nat → ((Int × Int × (List ((List Int) × Int × (List (List Int))))) × (List (List (List (List Bool)))) × Int × Int × Int × Int × Int) → Option ((Int × Int × (List ((List Int) × Int × (List (List Int))))) × (List (List (List (List Bool)))) × Int × Int)
  | 0, _ => none
  | n + 1, (t1, t3, t4, t18, t19, t32, t33) =>
    if decide (t33 < t32) then
      if inb t4 t3 then
        if 0 ≤ t1.2.1 ∧ t1.2.1 ≤ t1.2.1 ∧ t1.2.1 ≤ lim then
          if inb t33 (gd t3 t4 []) then
            if inb t4 (stt t3 t4 (stt (gd t3 t4 []) t33 (List.replicate (Int.toNat t1.2.1) ([] : List Bool)))) then
              if inb t33 (gd (stt t3 t4 (stt (gd t3 t4 []) t33 (List.replicate (Int.toNat t1.2.1) ([] : List Bool)))) t4 []) then
                (impl_firstPairs_L11 fuel ((t1.1, (t1.2.1, t1.2.2)), stt t3 t4 (stt (gd t3 t4 []) t33 (List.replicate (Int.toNat t1.2.1) ([] : List Bool))), t4, t33, t18, t19, t32, t33, ((gd (gd (stt t3 t4 (stt (gd t3 t4 []) t33 (List.replicate (Int.toNat t1.2.1) ([] : List Bool)))) t4 []) t33 []).length : Int), 0)).bind fun s1 =>
                  impl_firstPairs_L7 n ((s1.1.1, (s1.1.2.1, s1.1.2.2)), s1.2.1, s1.2.2.1, s1.2.2.2.1, s1.2.2.2.2.1, s1.2.2.2.2.2.1, w64 (s1.2.2.2.2.2.2 + 1))
              else none
            else none
          else none
        else none
      else none
    else
      some ((t1.1, (t1.2.1, t1.2.2)), t3, t18, t19)
def impl_firstPairs_L3 : Nat → ((Int × Int × (List ((List Int) × Int × (List (List Int))))) × (List (List (List (List Bool)))) × Int × Int) → Option ((Int × Int × (List ((List Int) × Int × (List (List Int))))) × (List (List (List (List Bool)))))
  | 0, _ => none
  | n + 1, (t1, t3, t18, t19) =>
    if decide (t19 < t18) then
      if 0 ≤ t1.1 ∧ t1.1 ≤ t1.1 ∧ t1.1 ≤ lim then
        if inb t19 t3 then
          if inb t19 (stt t3 t19 (List.replicate (Int.toNat t1.1) ([] : List (List Bool)))) then
            (impl_firstPairs_L7 fuel ((t1.1, (t1.2.1, t1.2.2)), stt t3 t19 (List.replicate (Int.toNat t1.1) ([] : List (List Bool))), t19, t18, t19, ((gd (stt t3 t19 (List.replicate (Int.toNat t1.1) ([] : List (List Bool)))) t19 []).length : Int), 0)).bind fun s1 =>
              impl_firstPairs_L3 n ((s1.1.1, (s1.1.2.1, s1.1.2.2)), s1.2.1, s1.2.2.1, w64 (s1.2.2.2 + 1))
          else none
        else none
      else none
    else
      some ((t1.1, (t1.2.1, t1.2.2)), t3)
def impl_firstPairs_L29 : Nat → ((Int × Int × (List ((List Int) × Int × (List (List Int))))) × (List (List (List (List Bool)))) × (List Int) × Int × Int × (List ((List Int) × Int × (List (List Int)))) × Int × Int × Int × Int) → Option ((Int × Int × (List ((List Int) × Int × (List (List Int))))) × (List (List (List (List Bool)))) × (List Int) × Int × Int × (List ((List Int) × Int × (List (List Int)))) × Int × Int × Int)
  | 0, _ => none
  | n + 1, (t1, t3, t7, t8, t9, t10, t11, t12, t75, t76) =>
    if decide (t12 < t1.2.1) then
      if inb t8 t7 then
        if inb t9 (stt t7 t8 t11) then
          (impl_satisfies t10 (stt (stt t7 t8 t11) t9 t12)).bind fun r4 =>
            if inb t8 t3 then
              if inb t9 (gd t3 t8 []) then
                if inb t11 (gd (gd t3 t8 []) t9 []) then
                  if inb t9 t3 then
                    if inb t8 (gd t3 t9 []) then
                      if inb t12 (gd (gd t3 t9 []) t8 []) then
                        if inb t12 (gd (gd (gd t3 t8 []) t9 []) t11 []) then
                          if inb t11 (gd (gd (gd (stt t3 t8 (stt (gd t3 t8 []) t9 (stt (gd (gd t3 t8 []) t9 []) t11 (stt (gd (gd (gd t3 t8 []) t9 []) t11 []) t12 r4)))) t9 []) t8 []) t12 []) then
                            impl_firstPairs_L29 n ((t1.1, (t1.2.1, t1.2.2)), stt (stt t3 t8 (stt (gd t3 t8 []) t9 (stt (gd (gd t3 t8 []) t9 []) t11 (stt (gd (gd (gd t3 t8 []) t9 []) t11 []) t12 r4)))) t9 (stt (gd (stt t3 t8 (stt (gd t3 t8 []) t9 (stt (gd (gd t3 t8 []) t9 []) t11 (stt (gd (gd (gd t3 t8 []) t9 []) t11 []) t12 r4)))) t9 []) t8 (stt (gd (gd (stt t3 t8 (stt (gd t3 t8 []) t9 (stt (gd (gd t3 t8 []) t9 []) t11 (stt (gd (gd (gd t3 t8 []) t9 []) t11 []) t12 r4)))) t9 []) t8 []) t12 (stt (gd (gd (gd (stt t3 t8 (stt (gd t3 t8 []) t9 (stt (gd (gd t3 t8 []) t9 []) t11 (stt (gd (gd (gd t3 t8 []) t9 []) t11 []) t12 r4)))) t9 []) t8 []) t12 []) t11 r4))), stt (stt t7 t8 t11) t9 t12, t8, t9, t10, t11, w64 (t12 + 1), t75, t76)
                          else none
                        else none
                      else none
                    else none
                  else none
                else none
              else none
            else none
        else none
      else none
    else
      some ((t1.1, (t1.2.1, t1.2.2)), t3, t7, t8, t9, t10, t11, t75, t76)
def impl_firstPairs_L26 : Nat → ((Int × Int × (List ((List Int) × Int × (List (List Int))))) × (List (List (List (List Bool)))) × (List Int) × Int × Int × (List ((List Int) × Int × (List (List Int)))) × Int × Int × Int) → Option ((Int × Int × (List ((List Int) × Int × (List (List Int))))) × (List (List (List (List Bool)))) × (List Int) × Int × Int × Int × Int)
  | 0, _ => none
  | n + 1, (t1, t3, t7, t8, t9, t10, t11, t75, t76) =>
    if decide (t11 < t1.2.1) then
      (impl_firstPairs_L29 fuel ((t1.1, (t1.2.1, t1.2.2)), t3, t7, t8, t9, t10, t11, 0, t75, t76)).bind fun s4 =>
        impl_firstPairs_L26 n ((s4.1.1, (s4.1.2.1, s4.1.2.2)), s4.2.1, s4.2.2.1, s4.2.2.2.1, s4.2.2.2.2.1, s4.2.2.2.2.2.1, w64 (s4.2.2.2.2.2.2.1 + 1), s4.2.2.2.2.2.2.2.1, s4.2.2.2.2.2.2.2.2)
    else
      some ((t1.1, (t1.2.1, t1.2.2)), t3, t7, t8, t9, t75, t76)
def impl_firstPairs_L22 : Nat → ((Int × Int × (List ((List Int) × Int × (List (List Int))))) × (List (List (List (List Bool)))) × (List Int) × Int × Int × Int × Int) → Option ((Int × Int × (List ((List Int) × Int × (List (List Int))))) × (List (List (List (List Bool)))) × (List Int) × Int × Int)
  | 0, _ => none
  | n + 1, (t1, t3, t7, t8, t9, t75, t76) =>
    if decide (t9 < t1.1) then
      (impl_within (t1.1, (t1.2.1, t1.2.2)) [t8, t9]).bind fun r3 =>
        (impl_firstPairs_L26 fuel ((t1.1, (t1.2.1, t1.2.2)), t3, t7, t8, t9, r3, 0, t75, t76)).bind fun s4 =>
          impl_firstPairs_L22 n ((s4.1.1, (s4.1.2.1, s4.1.2.2)), s4.2.1, s4.2.2.1, s4.2.2.2.1, w64 (s4.2.2.2.2.1 + 1), s4.2.2.2.2.2.1, s4.2.2.2.2.2.2)
    else
      some ((t1.1, (t1.2.1, t1.2.2)), t3, t7, t75, t76)
def impl_firstPairs_L19 : Nat → ((Int × Int × (List ((List Int) × Int × (List (List Int))))) × (List (List (List (List Bool)))) × (List Int) × Int × Int) → Option ((List (List (List (List Bool)))))
  | 0, _ => none
  | n + 1, (t1, t3, t7, t75, t76) =>
    if decide (t76 < t75) then
      (impl_firstPairs_L22 fuel ((t1.1, (t1.2.1, t1.2.2)), t3, t7, t76, w64 (t76 + 1), t75, t76)).bind fun s3 =>
        impl_firstPairs_L19 n ((s3.1.1, (s3.1.2.1, s3.1.2.2)), s3.2.1, s3.2.2.1, s3.2.2.2.1, w64 (s3.2.2.2.2 + 1))
    else
      some t3
def impl_firstPairs (t0 : Int × Int × (List ((List Int) × Int × (List (List Int))))) : Option ((List (List (List (List Bool))))) :=
  if 0 ≤ t0.1 ∧ t0.1 ≤ t0.1 ∧ t0.1 ≤ lim then
    (impl_firstPairs_L3 fuel ((t0.1, (t0.2.1, t0.2.2)), List.replicate (Int.toNat t0.1) ([] : List (List (List Bool))), ((List.replicate (Int.toNat t0.1) ([] : List (List (List Bool)))).length : Int), 0)).bind fun s1 =>
      if 0 ≤ s1.1.1 ∧ s1.1.1 ≤ s1.1.1 ∧ s1.1.1 ≤ lim then
        (impl_firstPairs_L19 fuel ((s1.1.1, (s1.1.2.1, s1.1.2.2)), s1.2, List.replicate (Int.toNat s1.1.1) (0 : Int), (s1.2.length : Int), 0)).bind fun s2 =>
          some s2
      else none
  else none
def impl_pairTable_holds_L2 : Nat → ((List (List (List (List Bool)))) × (List ((List Int) × Int × (List (List Int)))) × (List Int) × Int × Int × Int × (Int × Int × (List ((List Int) × Int × (List (List Int))))) × Int) → Option (((List Int)) ⊕ ((List Int) × Bool))
  | 0, _ => none
  | n + 1, (t0, t2, t3, t4, t5, t6, t8, t15) =>
    if decide (t15 < t8.2.1) then
      if inb t6 t3 then
        if inb t4 t0 then
          if inb t6 (gd t0 t4 []) then
            if inb t4 (stt t3 t6 t15) then
              if inb (gd (stt t3 t6 t15) t4 0) (gd (gd t0 t4 []) t6 []) then
                if inb t15 (gd (gd (gd t0 t4 []) t6 []) (gd (stt t3 t6 t15) t4 0) []) then
                  if gd (gd (gd (gd t0 t4 []) t6 []) (gd (stt t3 t6 t15) t4 0) []) t15 false then
                    if inb t5 t0 then
                      if inb t6 (gd t0 t5 []) then
                        if inb t5 (stt t3 t6 t15) then
                          if inb (gd (stt t3 t6 t15) t5 0) (gd (gd t0 t5 []) t6 []) then
                            if inb t15 (gd (gd (gd t0 t5 []) t6 []) (gd (stt t3 t6 t15) t5 0) []) then
                              if gd (gd (gd (gd t0 t5 []) t6 []) (gd (stt t3 t6 t15) t5 0) []) t15 false then
                                (impl_satisfies t2 (stt t3 t6 t15)).bind fun r1 =>
                                  if r1 then
                                    some (.inr (stt t3 t6 t15, true))
                                  else
                                    impl_pairTable_holds_L2 n (t0, t2, stt t3 t6 t15, t4, t5, t6, (t8.1, (t8.2.1, t8.2.2)), w64 (t15 + 1))
                              else
                                impl_pairTable_holds_L2 n (t0, t2, stt t3 t6 t15, t4, t5, t6, (t8.1, (t8.2.1, t8.2.2)), w64 (t15 + 1))
                            else none
                          else none
                        else none
                      else none
                    else none
                  else
                    impl_pairTable_holds_L2 n (t0, t2, stt t3 t6 t15, t4, t5, t6, (t8.1, (t8.2.1, t8.2.2)), w64 (t15 + 1))
                else none
              else none
            else none
          else none
        else none
      else none
    else
      some (.inl t3)
def impl_pairTable_holds (t0 : List (List (List (List Bool)))) (t1 : Int × Int × (List ((List Int) × Int × (List (List Int))))) (t2 : List ((List Int) × Int × (List (List Int)))) (t3 : List Int) (t4 : Int) (t5 : Int) (t6 : Int) : Option ((List Int) × Bool) :=
  (impl_pairTable_holds_L2 fuel (t0, t2, t3, t4, t5, t6, (t1.1, (t1.2.1, t1.2.2)), 0)).bind fun s1 =>
    match s1 with
    | .inl s2 =>
      some (s2, false)
    | .inr s3 =>
      some (s3.1, s3.2)
def impl_minimalPairs_L18 : Nat → ((Int × Int × (List ((List Int) × Int × (List (List Int))))) × (List (List (List (List Bool)))) × (List Int) × Bool × Int × Int × Int × (List ((List Int) × Int × (List (List Int)))) × Int × Int × Int × Int × Int) → Option ((Int × Int × (List ((List Int) × Int × (List (List Int))))) × (List (List (List (List Bool)))) × (List Int) × Bool × Int × Int × Int × Int × Int × Int)
  | 0, _ => none
  | n + 1, (t1, t3, t4, t5, t6, t7, t8, t9, t10, t18, t19, t31, t32) =>
    if decide (t10 < (w64 (t1.2.1 * t1.2.1))) then
      if t1.2.1 ≠ 0 then
        if t1.2.1 ≠ 0 then
          if inb t6 t4 then
            if inb t7 (stt t4 t6 (w64 (Int.tdiv t10 t1.2.1))) then
              if inb t6 t3 then
                if inb t7 (gd t3 t6 []) then
                  if inb t6 (stt (stt t4 t6 (w64 (Int.tdiv t10 t1.2.1))) t7 (Int.tmod t10 t1.2.1)) then
                    if inb (gd (stt (stt t4 t6 (w64 (Int.tdiv t10 t1.2.1))) t7 (Int.tmod t10 t1.2.1)) t6 0) (gd (gd t3 t6 []) t7 []) then
                      if inb t7 (stt (stt t4 t6 (w64 (Int.tdiv t10 t1.2.1))) t7 (Int.tmod t10 t1.2.1)) then
                        if inb (gd (stt (stt t4 t6 (w64 (Int.tdiv t10 t1.2.1))) t7 (Int.tmod t10 t1.2.1)) t7 0) (gd (gd (gd t3 t6 []) t7 []) (gd (stt (stt t4 t6 (w64 (Int.tdiv t10 t1.2.1))) t7 (Int.tmod t10 t1.2.1)) t6 0) []) then
                          if gd (gd (gd (gd t3 t6 []) t7 []) (gd (stt (stt t4 t6 (w64 (Int.tdiv t10 t1.2.1))) t7 (Int.tmod t10 t1.2.1)) t6 0) []) (gd (stt (stt t4 t6 (w64 (Int.tdiv t10 t1.2.1))) t7 (Int.tmod t10 t1.2.1)) t7 0) false then
                            (impl_pairTable_holds t3 (t1.1, (t1.2.1, t1.2.2)) t9 (stt (stt t4 t6 (w64 (Int.tdiv t10 t1.2.1))) t7 (Int.tmod t10 t1.2.1)) t6 t7 t8).bind fun r3 =>
                              if !r3.2 then
                                if inb t6 t3 then
                                  if inb t7 (gd t3 t6 []) then
                                    if inb t6 r3.1 then
                                      if inb (gd r3.1 t6 0) (gd (gd t3 t6 []) t7 []) then
                                        if inb t7 r3.1 then
                                          if inb (gd r3.1 t7 0) (gd (gd (gd t3 t6 []) t7 []) (gd r3.1 t6 0) []) then
                                            if inb t7 (stt t3 t6 (stt (gd t3 t6 []) t7 (stt (gd (gd t3 t6 []) t7 []) (gd r3.1 t6 0) (stt (gd (gd (gd t3 t6 []) t7 []) (gd r3.1 t6 0) []) (gd r3.1 t7 0) false)))) then
                                              if inb t6 (gd (stt t3 t6 (stt (gd t3 t6 []) t7 (stt (gd (gd t3 t6 []) t7 []) (gd r3.1 t6 0) (stt (gd (gd (gd t3 t6 []) t7 []) (gd r3.1 t6 0) []) (gd r3.1 t7 0) false)))) t7 []) then
                                                if inb t7 r3.1 then
                                                  if inb (gd r3.1 t7 0) (gd (gd (stt t3 t6 (stt (gd t3 t6 []) t7 (stt (gd (gd t3 t6 []) t7 []) (gd r3.1 t6 0) (stt (gd (gd (gd t3 t6 []) t7 []) (gd r3.1 t6 0) []) (gd r3.1 t7 0) false)))) t7 []) t6 []) then
                                                    if inb t6 r3.1 then
                                                      if inb (gd r3.1 t6 0) (gd (gd (gd (stt t3 t6 (stt (gd t3 t6 []) t7 (stt (gd (gd t3 t6 []) t7 []) (gd r3.1 t6 0) (stt (gd (gd (gd t3 t6 []) t7 []) (gd r3.1 t6 0) []) (gd r3.1 t7 0) false)))) t7 []) t6 []) (gd r3.1 t7 0) []) then
                                                        impl_minimalPairs_L18 n ((t1.1, (t1.2.1, t1.2.2)), stt (stt t3 t6 (stt (gd t3 t6 []) t7 (stt (gd (gd t3 t6 []) t7 []) (gd r3.1 t6 0) (stt (gd (gd (gd t3 t6 []) t7 []) (gd r3.1 t6 0) []) (gd r3.1 t7 0) false)))) t7 (stt (gd (stt t3 t6 (stt (gd t3 t6 []) t7 (stt (gd (gd t3 t6 []) t7 []) (gd r3.1 t6 0) (stt (gd (gd (gd t3 t6 []) t7 []) (gd r3.1 t6 0) []) (gd r3.1 t7 0) false)))) t7 []) t6 (stt (gd (gd (stt t3 t6 (stt (gd t3 t6 []) t7 (stt (gd (gd t3 t6 []) t7 []) (gd r3.1 t6 0) (stt (gd (gd (gd t3 t6 []) t7 []) (gd r3.1 t6 0) []) (gd r3.1 t7 0) false)))) t7 []) t6 []) (gd r3.1 t7 0) (stt (gd (gd (gd (stt t3 t6 (stt (gd t3 t6 []) t7 (stt (gd (gd t3 t6 []) t7 []) (gd r3.1 t6 0) (stt (gd (gd (gd t3 t6 []) t7 []) (gd r3.1 t6 0) []) (gd r3.1 t7 0) false)))) t7 []) t6 []) (gd r3.1 t7 0) []) (gd r3.1 t6 0) false))), r3.1, true, t6, t7, t8, t9, w64 (t10 + 1), t18, t19, t31, t32)
                                                      else none
                                                    else none
                                                  else none
                                                else none
                                              else none
                                            else none
                                          else none
                                        else none
                                      else none
                                    else none
                                  else none
                                else none
                              else
                                impl_minimalPairs_L18 n ((t1.1, (t1.2.1, t1.2.2)), t3, r3.1, t5, t6, t7, t8, t9, w64 (t10 + 1), t18, t19, t31, t32)
                          else
                            impl_minimalPairs_L18 n ((t1.1, (t1.2.1, t1.2.2)), t3, stt (stt t4 t6 (w64 (Int.tdiv t10 t1.2.1))) t7 (Int.tmod t10 t1.2.1), t5, t6, t7, t8, t9, w64 (t10 + 1), t18, t19, t31, t32)
                        else none
                      else none
                    else none
                  else none
                else none
              else none
            else none
          else none
        else none
      else none
    else
      some ((t1.1, (t1.2.1, t1.2.2)), t3, t4, t5, t6, t7, t18, t19, t31, t32)
def impl_minimalPairs_L13 : Nat → ((Int × Int × (List ((List Int) × Int × (List (List Int))))) × (List (List (List (List Bool)))) × (List Int) × Bool × Int × Int × Int × Int × Int × Int) → Option ((Int × Int × (List ((List Int) × Int × (List (List Int))))) × (List (List (List (List Bool)))) × (List Int) × Bool × Int × Int × Int × Int)
  | 0, _ => none
  | n + 1, (t1, t3, t4, t5, t6, t7, t18, t19, t31, t32) =>
    if decide (t32 < t31) then
      if t32 == t6 then
        impl_minimalPairs_L13 n ((t1.1, (t1.2.1, t1.2.2)), t3, t4, t5, t6, t7, t18, t19, t31, w64 (t32 + 1))
      else
        if t32 == t7 then
          impl_minimalPairs_L13 n ((t1.1, (t1.2.1, t1.2.2)), t3, t4, t5, t6, t7, t18, t19, t31, w64 (t32 + 1))
        else
          (impl_within (t1.1, (t1.2.1, t1.2.2)) [t6, t7, t32]).bind fun r2 =>
            (impl_minimalPairs_L18 fuel ((t1.1, (t1.2.1, t1.2.2)), t3, t4, t5, t6, t7, t32, r2, 0, t18, t19, t31, t32)).bind fun s3 =>
              impl_minimalPairs_L13 n ((s3.1.1, (s3.1.2.1, s3.1.2.2)), s3.2.1, s3.2.2.1, s3.2.2.2.1, s3.2.2.2.2.1, s3.2.2.2.2.2.1, s3.2.2.2.2.2.2.1, s3.2.2.2.2.2.2.2.1, s3.2.2.2.2.2.2.2.2.1, w64 (s3.2.2.2.2.2.2.2.2.2 + 1))
    else
      some ((t1.1, (t1.2.1, t1.2.2)), t3, t4, t5, t6, t7, t18, t19)
def impl_minimalPairs_L10 : Nat → ((Int × Int × (List ((List Int) × Int × (List (List Int))))) × (List (List (List (List Bool)))) × (List Int) × Bool × Int × Int × Int × Int) → Option ((Int × Int × (List ((List Int) × Int × (List (List Int))))) × (List (List (List (List Bool)))) × (List Int) × Bool × Int × Int)
  | 0, _ => none
  | n + 1, (t1, t3, t4, t5, t6, t7, t18, t19) =>
    if decide (t7 < t1.1) then
      (impl_minimalPairs_L13 fuel ((t1.1, (t1.2.1, t1.2.2)), t3, t4, t5, t6, t7, t18, t19, (t3.length : Int), 0)).bind fun s2 =>
        impl_minimalPairs_L10 n ((s2.1.1, (s2.1.2.1, s2.1.2.2)), s2.2.1, s2.2.2.1, s2.2.2.2.1, s2.2.2.2.2.1, w64 (s2.2.2.2.2.2.1 + 1), s2.2.2.2.2.2.2.1, s2.2.2.2.2.2.2.2)
    else
      some ((t1.1, (t1.2.1, t1.2.2)), t3, t4, t5, t18, t19)
def impl_minimalPairs_L7 : Nat → ((Int × Int × (List ((List Int) × Int × (List (List Int))))) × (List (List (List (List Bool)))) × (List Int) × Bool × Int × Int) → Option ((Int × Int × (List ((List Int) × Int × (List (List Int))))) × (List (List (List (List Bool)))) × (List Int) × Bool)
  | 0, _ => none
  | n + 1, (t1, t3, t4, t5, t18, t19) =>
    if decide (t19 < t18) then
      (impl_minimalPairs_L10 fuel ((t1.1, (t1.2.1, t1.2.2)), t3, t4, t5, t19, w64 (t19 + 1), t18, t19)).bind fun s2 =>
        impl_minimalPairs_L7 n ((s2.1.1, (s2.1.2.1, s2.1.2.2)), s2.2.1, s2.2.2.1, s2.2.2.2.1, s2.2.2.2.2.1, w64 (s2.2.2.2.2.2 + 1))
    else
      some ((t1.1, (t1.2.1, t1.2.2)), t3, t4, t5)
def impl_minimalPairs_L4 : Nat → ((Int × Int × (List ((List Int) × Int × (List (List Int))))) × (List (List (List (List Bool)))) × (List Int) × Bool) → Option ((List (List (List (List Bool)))))
  | 0, _ => none
  | n + 1, (t1, t3, t4, t5) =>
    if t5 then
      (impl_minimalPairs_L7 fuel ((t1.1, (t1.2.1, t1.2.2)), t3, t4, false, (t3.length : Int), 0)).bind fun s2 =>
        impl_minimalPairs_L4 n ((s2.1.1, (s2.1.2.1, s2.1.2.2)), s2.2.1, s2.2.2.1, s2.2.2.2)
    else
      some t3
def impl_minimalPairs (t0 : Int × Int × (List ((List Int) × Int × (List (List Int))))) : Option ((List (List (List (List Bool))))) :=
  (impl_firstPairs (t0.1, (t0.2.1, t0.2.2))).bind fun r1 =>
    if 0 ≤ t0.1 ∧ t0.1 ≤ t0.1 ∧ t0.1 ≤ lim then
      (impl_minimalPairs_L4 fuel ((t0.1, (t0.2.1, t0.2.2)), r1, List.replicate (Int.toNat t0.1) (0 : Int), true)).bind fun s2 =>
        some s2
    else none
def spec_GreedyByPairs_L14 : Nat → ((Int × Int × (List ((List Int) × Int × (List (List Int))))) × (List (List (List Bool))) × (List Int) × Int × Int × Int × Bool × Int) → Option ((Int × Int × (List ((List Int) × Int × (List (List Int))))) × (List (List (List Bool))) × (List Int) × Int × Int × Int × Bool)
  | 0, _ => none
  | n + 1, (t1, t4, t5, t6, t7, t8, t9, t10) =>
    if decide (t10 < t6) then
      if t9 then
        if inb t10 t5 then
          (spec_l20At t4 t1.2.1 t10 (gd t5 t10 0) t6 t8).bind fun r3 =>
            spec_GreedyByPairs_L14 n ((t1.1, (t1.2.1, t1.2.2)), t4, t5, t6, t7, t8, r3, w64 (t10 + 1))
        else none
      else
        spec_GreedyByPairs_L14 n ((t1.1, (t1.2.1, t1.2.2)), t4, t5, t6, t7, t8, false, w64 (t10 + 1))
    else
      some ((t1.1, (t1.2.1, t1.2.2)), t4, t5, t6, t7, t8, t9)
def spec_GreedyByPairs_L20 : Nat → ((Int × Int × (List ((List Int) × Int × (List (List Int))))) × (List (List (List Bool))) × (List Int) × Int × Int × Int × Bool × Int) → Option ((Int × Int × (List ((List Int) × Int × (List (List Int))))) × (List (List (List Bool))) × (List Int) × Int × Int × Int × Bool)
  | 0, _ => none
  | n + 1, (t1, t4, t5, t6, t7, t8, t9, t11) =>
    if decide (t11 < t1.2.1) then
      if t9 then
        spec_GreedyByPairs_L20 n ((t1.1, (t1.2.1, t1.2.2)), t4, t5, t6, t7, t8, true, w64 (t11 + 1))
      else
        if inb 0 t4 then
          if inb 1 (gd t4 0 []) then
            if inb (w64 ((w64 (t8 * t1.2.1)) + t11)) (gd (gd t4 0 []) 1 []) then
              spec_GreedyByPairs_L20 n ((t1.1, (t1.2.1, t1.2.2)), t4, t5, t6, t7, t8, gd (gd (gd t4 0 []) 1 []) (w64 ((w64 (t8 * t1.2.1)) + t11)) false, w64 (t11 + 1))
            else none
          else none
        else none
    else
      some ((t1.1, (t1.2.1, t1.2.2)), t4, t5, t6, t7, t8, t9)
def spec_GreedyByPairs_L10 : Nat → ((Int × Int × (List ((List Int) × Int × (List (List Int))))) × (List (List (List Bool))) × (List Int) × Int × Int × Int) → Option ((Int × Int × (List ((List Int) × Int × (List (List Int))))) × (List (List (List Bool))) × (List Int) × Int × Int)
  | 0, _ => none
  | n + 1, (t1, t4, t5, t6, t7, t8) =>
    if decide (t8 ≥ 0) then
      (spec_GreedyByPairs_L14 fuel ((t1.1, (t1.2.1, t1.2.2)), t4, t5, t6, t7, t8, true, 0)).bind fun s3 =>
        if s3.2.2.2.1 == 0 then
          (spec_GreedyByPairs_L20 fuel ((s3.1.1, (s3.1.2.1, s3.1.2.2)), s3.2.1, s3.2.2.1, s3.2.2.2.1, s3.2.2.2.2.1, s3.2.2.2.2.2.1, false, 0)).bind fun s4 =>
            if s4.2.2.2.2.2.2 then
              spec_GreedyByPairs_L10 n ((s4.1.1, (s4.1.2.1, s4.1.2.2)), s4.2.1, s4.2.2.1, s4.2.2.2.1, s4.2.2.2.2.2.1, w64 (s4.2.2.2.2.2.1 - 1))
            else
              spec_GreedyByPairs_L10 n ((s4.1.1, (s4.1.2.1, s4.1.2.2)), s4.2.1, s4.2.2.1, s4.2.2.2.1, s4.2.2.2.2.1, w64 (s4.2.2.2.2.2.1 - 1))
        else
          if s3.2.2.2.2.2.2 then
            spec_GreedyByPairs_L10 n ((s3.1.1, (s3.1.2.1, s3.1.2.2)), s3.2.1, s3.2.2.1, s3.2.2.2.1, s3.2.2.2.2.2.1, w64 (s3.2.2.2.2.2.1 - 1))
          else
            spec_GreedyByPairs_L10 n ((s3.1.1, (s3.1.2.1, s3.1.2.2)), s3.2.1, s3.2.2.1, s3.2.2.2.1, s3.2.2.2.2.1, w64 (s3.2.2.2.2.2.1 - 1))
    else
      some ((t1.1, (t1.2.1, t1.2.2)), t4, t5, t6, t7)
def spec_GreedyByPairs_L6 : Nat → ((Int × Int × (List ((List Int) × Int × (List (List Int))))) × (List (List (List Bool))) × (List Int) × Int) → Option (((List Int)) ⊕ ((List Int) × Bool))
  | 0, _ => none
  | n + 1, (t1, t4, t5, t6) =>
    if decide (t6 < t1.1) then
      (spec_GreedyByPairs_L10 fuel ((t1.1, (t1.2.1, t1.2.2)), t4, t5, t6, (-1), w64 (t1.2.1 - 1))).bind fun s3 =>
        if decide (s3.2.2.2.2 < 0) then
          some (.inr ([], false))
        else
          if s3.2.2.1.length + [s3.2.2.2.2].length ≤ lim then
            spec_GreedyByPairs_L6 n ((s3.1.1, (s3.1.2.1, s3.1.2.2)), s3.2.1, s3.2.2.1 ++ [s3.2.2.2.2], w64 (s3.2.2.2.1 + 1))
          else none
    else
      some (.inl t5)
def spec_GreedyByPairs (t0 : Int × Int × (List ((List Int) × Int × (List (List Int))))) : Option ((List Int) × Bool) :=
  (spec_l19Good (t0.1, (t0.2.1, t0.2.2))).bind fun r1 =>
    if !r1 then
      some ([], false)
    else
      if decide (t0.1 < 2) then
        some ([], false)
      else
        (spec_l20Pairs (t0.1, (t0.2.1, t0.2.2))).bind fun r2 =>
          (spec_GreedyByPairs_L6 fuel ((t0.1, (t0.2.1, t0.2.2)), r2, [], 0)).bind fun s3 =>
            match s3 with
            | .inl s4 =>
              some (s4, true)
            | .inr s5 =>
              some (s5.1, s5.2)
end T
open Go Go.Va
namespace T
/- which tuples constraints ask for, at values of all variables -/
def valI (vs : List Int) (v : Int) : Int := vs.getD v.toNat 0
def conH (vs : List Int) (c : Con) : Bool := decide (c.1.map (valI vs) ∈ c.2.2)
def satB (l : List Con) (vs : List Int) : Bool := l.all (conH vs)
def insB (vars : List Int) (c : Con) : Bool := c.1.all fun v => decide (v ∈ vars)
def insL (a : Net) (vars : List Int) : List Con := a.2.2.filter (insB vars)
theorem impl_hasNot_ok {l : List Int} {x : Int} (h : l.length ≤ 1048576) : impl_hasNot l x = some (!decide (x ∈ l)) := by
  unfold impl_hasNot
  rw [allX l (fun n i => impl_hasNot_L2 n (x, l, (l.length : Int), i)) (fun y => !decide (x = y)) (.inr false) (.inl ()) ?_ ?_ (by unfold fuel; omega)]
  · by_cases hx : x ∈ l
    · rw [if_neg]
      · simp [hx]
      · rw [List.all_eq_true]; intro h; have := h x hx; simp at this
    · rw [if_pos]
      · simp [hx]
      · rw [List.all_eq_true]; intro y hy; have : x ≠ y := fun e => hx (e ▸ hy)
        simp [this]
  · intro n k hk
    simp only [impl_hasNot_L2, inb_nat, gd_nat hk, w64_succ (show k < 4611686018427387904 by omega)]
    by_cases e : x = l[k] <;> simp [hk, e]
  · intro n; simp [impl_hasNot_L2]
theorem impl_isPart_ok {l vars : List Int} (h : l.length ≤ 1048576) (hv : vars.length ≤ 1048576) : impl_isPart l vars = some (l.all fun v => decide (v ∈ vars)) := by
  unfold impl_isPart
  rw [allX l (fun n i => impl_isPart_L2 n (vars, l, (l.length : Int), i)) (fun y => decide (y ∈ vars)) (.inr false) (.inl ()) ?_ ?_ (by unfold fuel; omega)]
  · cases l.all fun v => decide (v ∈ vars) <;> simp
  · intro n k hk
    simp only [impl_isPart_L2, inb_nat, gd_nat hk, w64_succ (show k < 4611686018427387904 by omega), impl_hasNot_ok hv, Option.bind_some]
    by_cases e : l[k] ∈ vars <;> simp [hk, e]
  · intro n; simp [impl_isPart_L2]
section
variable {a : Net}
theorem impl_within_ok (hN : NetOk a) {vars : List Int} (hv : vars.length ≤ 1048576) : impl_within (a.1, (a.2.1, a.2.2)) vars = some (insL a vars) := by
  unfold impl_within
  have hc := hN.hc
  have := forS a.2.2.length (fun n (o : List Con) i => impl_within_L3 n (vars, o, a.2.2, (a.2.2.length : Int), i)) (fun k => (a.2.2.take k).filter (insB vars)) (r := some (insL a vars)) (fun n k hk => ?_) (fun n => ?_) (n := fuel) (by unfold fuel; omega)
  · simp only [List.take_zero, List.filter_nil] at this
    simp only [this, Option.bind_some]
  · have hlen : ((a.2.2.take k).filter (insB vars)).length ≤ k := Nat.le_trans (List.length_filter_le _ _) (by simp; omega)
    have hcon := hN.con _ (List.getElem_mem hk)
    have hsl : (a.2.2[k]).1.length ≤ 1048576 := by have := hcon.sl; have := hcon.ar; omega
    simp only [impl_within_L3, inb_nat, gd_nat hk, w64_succ (show k < 4611686018427387904 by omega), impl_isPart_ok hsl hv, Option.bind_some]
    rw [List.take_succ_eq_append_getElem hk, List.filter_append]
    have e0 : ((a.2.2[k]).1.all fun v => decide (v ∈ vars)) = insB vars a.2.2[k] := rfl
    rw [e0]
    cases e : insB vars a.2.2[k] with
    | false => simp [hk, e]
    | true =>
      have : ((a.2.2.take k).filter (insB vars)).length + 1 ≤ lim := by unfold lim; omega
      simp [hk, e, this]
  · simp only [impl_within_L3, List.take_length]
    rw [if_neg (by simp)]; rfl
theorem spec_inside_L7 {c : Con} {vars : List Int} (hs : c.1.length ≤ 1048576) (hv : vars.length ≤ 1048576) {i : Nat} (hi : i < a.2.2.length) (hc : a.2.2[i] = c) (out : List Con) :
    spec_l20Inside_L7 fuel (vars, (a.1, (a.2.1, a.2.2)), out, (i : Int), true, 0) = some (vars, (a.1, (a.2.1, a.2.2)), out, (i : Int), insB vars c) := by
  have := accX c.1.length (fun n b k => spec_l20Inside_L7 n (vars, (a.1, (a.2.1, a.2.2)), out, (i : Int), b, k)) (fun k => decide (g0 c.1 k ∈ vars)) (fun b => some (vars, (a.1, (a.2.1, a.2.2)), out, (i : Int), b)) (fun n b k hk => ?_) (fun n b => ?_) (n := fuel) (by unfold fuel; omega) true
  · rw [this]
    congr 1
    have : (true && (List.range c.1.length).all fun k => decide (g0 c.1 k ∈ vars)) = insB vars c := by
      rw [Bool.true_and, Bool.eq_iff_iff]
      unfold insB
      rw [List.all_eq_true, List.all_eq_true]
      constructor
      · intro h v hv
        obtain ⟨j, hj, rfl⟩ := List.mem_iff_getElem.1 hv
        rw [g0_of hj]; exact h j (List.mem_range.2 hj)
      · intro h j hj
        have hj := List.mem_range.1 hj
        rw [← g0_of hj]; exact h _ (List.getElem_mem hj)
    rw [this]
  · have hk' : k < (a.2.2[i]).1.length := by rw [hc]; exact hk
    simp only [spec_l20Inside_L7, inb_nat, gd_nat hi, w64_succ (show k < 4611686018427387904 by omega), hc, gd_nat hk, g0_of hk, spec_l1Has_ok hv, Option.bind_some]
    cases b <;> simp [hi, hk]
  · simp only [spec_l20Inside_L7, inb_nat, gd_nat hi, hc]
    simp [hi]
theorem spec_l20Inside_ok (hN : NetOk a) {vars : List Int} (hv : vars.length ≤ 1048576) : spec_l20Inside (a.1, (a.2.1, a.2.2)) vars = some (insL a vars) := by
  unfold spec_l20Inside
  have hc := hN.hc
  have := forS a.2.2.length (fun n (o : List Con) i => spec_l20Inside_L3 n (vars, (a.1, (a.2.1, a.2.2)), o, i)) (fun k => (a.2.2.take k).filter (insB vars)) (r := some (insL a vars)) (fun n k hk => ?_) (fun n => ?_) (n := fuel) (by unfold fuel; omega)
  · simp only [List.take_zero, List.filter_nil] at this
    simp only [this, Option.bind_some]
  · have hlen : ((a.2.2.take k).filter (insB vars)).length ≤ k := Nat.le_trans (List.length_filter_le _ _) (by simp; omega)
    have hcon := hN.con _ (List.getElem_mem hk)
    have hsl : (a.2.2[k]).1.length ≤ 1048576 := by have := hcon.sl; have := hcon.ar; omega
    simp only [spec_l20Inside_L3, inb_nat, spec_inside_L7 hsl hv hk rfl, gd_nat hk, w64_succ (show k < 4611686018427387904 by omega), Option.bind_some]
    rw [List.take_succ_eq_append_getElem hk, List.filter_append]
    cases e : insB vars a.2.2[k] with
    | false => simp [hk, e]
    | true =>
      have : ((a.2.2.take k).filter (insB vars)).length + 1 ≤ lim := by unfold lim; omega
      simp [hk, e, this]
  · simp only [spec_l20Inside_L3, List.take_length]
    rw [if_neg (by simp)]; rfl
theorem impl_compose_ok {f g : List Int} (hf : f.length ≤ 1048576) (hg : ∀ v ∈ f, 0 ≤ v ∧ v < g.length) : impl_compose f g = some (f.map (valI g)) := by
  unfold impl_compose
  rw [if_pos (by unfold lim; omega)]
  have := fillX0 f (fun n o i => impl_compose_L3 n (g, o, f, (f.length : Int), i)) (valI g) some (fun n o k hk hlo => ?_) (fun n o hlo => ?_) (n := fuel) (out := List.replicate (Int.toNat (f.length : Int)) (0 : Int)) (by simp) (by unfold fuel; omega)
  · simp only [this, Option.bind_some]
  · have hko : k < o.length := by omega
    have hv := hg _ (List.getElem_mem hk)
    have e : gd g f[k] 0 = valI g f[k] := rfl
    simp only [impl_compose_L3, inb_nat, gd_nat hk, stt_nat, w64_succ (show k < 4611686018427387904 by omega), e]
    rw [if_pos (by simp; omega), if_pos hk, if_pos (show inb f[k] g from hv), if_pos hko]
  · simp [impl_compose_L3]
theorem impl_sameList_ok {x y : List Int} (h : x.length ≤ 1048576) : impl_sameList x y = some (decide (x = y)) := by
  unfold impl_sameList
  by_cases hl : x.length = y.length
  · rw [if_neg (by simp [hl])]
    rw [eqX x y hl (fun n i => impl_sameList_L4 n (y, x, (x.length : Int), i)) (fun n k h1 h2 => ?_) (fun n => ?_) (n := fuel) (by unfold fuel; omega)]
    · by_cases e : x = y <;> simp [e]
    · simp only [impl_sameList_L4, inb_nat, gd_nat h1, gd_nat h2, w64_succ (show k < 4611686018427387904 by omega)]
      by_cases e : x[k] = y[k]
      · simp [h1, h2, e]
      · have e' : y[k] ≠ x[k] := fun h => e h.symm
        simp [h1, h2, e, e']
    · simp [impl_sameList_L4]
  · have : x ≠ y := fun e => hl (by rw [e])
    rw [if_pos (by simp; omega)]; simp [this]
theorem impl_hasRow_ok {r : Int × List (List Int)} {t : List Int} (ht : t.length ≤ 1048576) (hr : r.2.length ≤ 1048576) : impl_hasRow r t = some (decide (t ∈ r.2)) := by
  unfold impl_hasRow
  rw [allX r.2 (fun n i => impl_hasRow_L2 n (t, r.2, (r.2.length : Int), i)) (fun y => !decide (t = y)) (.inr true) (.inl ()) ?_ ?_ (by unfold fuel; omega)]
  · by_cases hx : t ∈ r.2
    · rw [if_neg]
      · simp [hx]
      · rw [List.all_eq_true]; intro h; have := h t hx; simp at this
    · rw [if_pos]
      · simp [hx]
      · rw [List.all_eq_true]; intro y hy; have : t ≠ y := fun e => hx (e ▸ hy)
        simp [this]
  · intro n k hk
    simp only [impl_hasRow_L2, inb_nat, gd_nat hk, w64_succ (show k < 4611686018427387904 by omega), impl_sameList_ok ht, Option.bind_some]
    by_cases e : t = (r.2)[k] <;> simp [hk, e]
  · intro n; simp [impl_hasRow_L2]
theorem impl_satisfies_ok (hN : NetOk a) {l : List Con} (hl : l.length ≤ 40) (hs : ∀ c ∈ l, c ∈ a.2.2) {vs : List Int} (hv : (vs.length : Int) = a.1) : impl_satisfies l vs = some (satB l vs) := by
  unfold impl_satisfies
  rw [allX l (fun n i => impl_satisfies_L2 n (vs, l, (l.length : Int), i)) (conH vs) (.inr false) (.inl ()) ?_ ?_ (by unfold fuel; omega)]
  · unfold satB; cases l.all (conH vs) <;> simp
  · intro n k hk
    have hcon := hN.con _ (hs _ (List.getElem_mem hk))
    have hsl := hcon.sl
    have har := hcon.ar
    have hm := hcon.many
    have e := impl_compose_ok (f := (l[k]).1) (g := vs) (by omega) (fun v hvv => by
      obtain ⟨j, hj, rfl⟩ := List.mem_iff_getElem.1 hvv
      have := hcon.sv j hj; omega)
    have e2 := impl_hasRow_ok (r := ((l[k]).2.1, (l[k]).2.2)) (t := (l[k]).1.map (valI vs)) (by rw [List.length_map]; omega) (show (l[k]).2.2.length ≤ 1048576 by omega)
    simp only [impl_satisfies_L2, inb_nat, gd_nat hk, w64_succ (show k < 4611686018427387904 by omega), e, e2, Option.bind_some]
    have e3 : decide ((l[k]).1.map (valI vs) ∈ (l[k]).2.2) = conH vs l[k] := rfl
    rw [e3]
    cases conH vs l[k] <;> simp [hk]
  · intro n; simp [impl_satisfies_L2]
theorem spec_l19Satisfies_ok {v n : Int} {c : Con} (h : ConOk v n c) {vs : List Int} (hv : (vs.length : Int) = v) : spec_l19Satisfies c vs = some (conH vs c) := by
  unfold spec_l19Satisfies
  have hsl := h.sl
  have har := h.ar
  have hm := h.many
  have := forS c.1.length (fun n (o : List Int) i => spec_l19Satisfies_L3 n (vs, (c.1, (c.2.1, c.2.2)), o, i)) (fun k => (c.1.take k).map (valI vs)) (r := some ((c.1, (c.2.1, c.2.2)), c.1.map (valI vs))) (fun n k hk => ?_) (fun n => ?_) (n := fuel) (by unfold fuel; omega)
  · simp only [List.take_zero, List.map_nil] at this
    simp only [this, Option.bind_some]
    unfold spec_l13Has
    have hl : ((c.1.map (valI vs)).length : Int) = c.2.1 := by rw [List.length_map]; exact hsl
    rw [if_neg (by simpa using hsl)]
    obtain ⟨q, e, _⟩ := spec_l8Find_ok (list := c.2.2) (t := c.1.map (valI vs)) (k := c.1.length) (by omega) (by omega) h.tl (by simp) h.inc
    simp only [e, Option.bind_some]; rfl
  · have hvk := h.sv k hk
    have e : gd vs c.1[k] 0 = valI vs c.1[k] := rfl
    have hi : inb c.1[k] vs := by unfold inb; omega
    simp only [spec_l19Satisfies_L3, inb_nat, gd_nat hk, e, w64_succ (show k < 4611686018427387904 by omega)]
    rw [List.take_succ_eq_append_getElem hk, List.map_append]
    rw [if_pos (by simp; omega), if_pos hk, if_pos hi, if_pos (by unfold lim; simp; omega)]; rfl
  · simp only [spec_l19Satisfies_L3, List.take_length]
    rw [if_neg (by simp)]
theorem spec_l20Hold_ok (hN : NetOk a) {l : List Con} (hl : l.length ≤ 40) (hs : ∀ c ∈ l, c ∈ a.2.2) {vs : List Int} (hv : (vs.length : Int) = a.1) : spec_l20Hold l vs = some (satB l vs) := by
  unfold spec_l20Hold
  rw [allX l (fun n i => spec_l20Hold_L2 n (l, vs, i)) (conH vs) (.inr false) (.inl ()) ?_ ?_ (by unfold fuel; omega)]
  · unfold satB; cases l.all (conH vs) <;> simp
  · intro n k hk
    have hcon := hN.con _ (hs _ (List.getElem_mem hk))
    simp only [spec_l20Hold_L2, inb_nat, gd_nat hk, w64_succ (show k < 4611686018427387904 by omega), spec_l19Satisfies_ok hcon hv, Option.bind_some]
    cases conH vs l[k] <;> simp [hk]
  · intro n; simp [spec_l20Hold_L2]
theorem insL_in {vars : List Int} : ∀ c ∈ insL a vars, c ∈ a.2.2 := fun _ h => (List.mem_filter.1 h).1
theorem insL_len (hN : NetOk a) {vars : List Int} : (insL a vars).length ≤ 40 := Nat.le_trans (List.length_filter_le _ _) hN.hc
/-- constraints of some variables see no others -/
theorem satB_congr {vars vs ws : List Int} (h : ∀ v ∈ vars, valI vs v = valI ws v) : satB (insL a vars) vs = satB (insL a vars) ws := by
  unfold satB
  rw [Bool.eq_iff_iff, List.all_eq_true, List.all_eq_true]
  have key : ∀ c ∈ insL a vars, conH vs c = conH ws c := fun c hc => by
    have hc := (List.mem_filter.1 hc).2
    unfold insB at hc
    rw [List.all_eq_true] at hc
    unfold conH
    have : c.1.map (valI vs) = c.1.map (valI ws) := List.map_congr_left fun v hv => h v (by simpa using hc v hv)
    rw [this]
  exact ⟨fun h c hc => (key c hc) ▸ h c hc, fun h c hc => (key c hc) ▸ h c hc⟩
end
end T
open Go Go.Va
namespace T
/- loops by an invariant alone -/
theorem forI {σ β : Type} (N : Nat) (L : Nat → σ → Int → Option β) (I : Nat → σ → Prop) (f : σ → Option β)
    (hs : ∀ k s, k < N → I k s → ∃ s', I (k + 1) s' ∧ ∀ n, L (n + 1) s k = L n s' ((k + 1 : Nat) : Int)) (he : ∀ n s, I N s → L (n + 1) s (N : Nat) = f s) :
    ∀ (d k n : Nat) (s : σ), k + d = N → d < n → I k s → ∃ s', I N s' ∧ L n s k = f s' := by
  intro d
  induction d with
  | zero =>
    intro k n s hk hn hi
    obtain ⟨n, rfl⟩ : ∃ m, n = m + 1 := ⟨n - 1, by omega⟩
    have : k = N := by omega
    subst this
    exact ⟨s, hi, he n s hi⟩
  | succ d ih =>
    intro k n s hk hn hi
    obtain ⟨n, rfl⟩ : ∃ m, n = m + 1 := ⟨n - 1, by omega⟩
    obtain ⟨s', h1, h2⟩ := hs k s (by omega) hi
    rw [h2 n]
    exact ih (k + 1) n s' (by omega) (by omega) h1
/-- two loops side by side -/
theorem forR {σ τ β γ : Type} (N : Nat) (L : Nat → σ → Int → Option β) (M : Nat → τ → Int → Option γ) (I : Nat → σ → τ → Prop) (f : σ → Option β) (g : τ → Option γ)
    (hs : ∀ k s t, k < N → I k s t → ∃ s' t', I (k + 1) s' t' ∧ (∀ n, L (n + 1) s k = L n s' ((k + 1 : Nat) : Int)) ∧ ∀ n, M (n + 1) t k = M n t' ((k + 1 : Nat) : Int))
    (he : ∀ n s t, I N s t → L (n + 1) s (N : Nat) = f s) (he' : ∀ n s t, I N s t → M (n + 1) t (N : Nat) = g t) :
    ∀ (d k n m : Nat) (s : σ) (t : τ), k + d = N → d < n → d < m → I k s t → ∃ s' t', I N s' t' ∧ L n s k = f s' ∧ M m t k = g t' := by
  intro d
  induction d with
  | zero =>
    intro k n m s t hk hn hm hi
    obtain ⟨n, rfl⟩ : ∃ m, n = m + 1 := ⟨n - 1, by omega⟩
    obtain ⟨m, rfl⟩ : ∃ k, m = k + 1 := ⟨m - 1, by omega⟩
    have : k = N := by omega
    subst this
    exact ⟨s, t, hi, he n s t hi, he' m s t hi⟩
  | succ d ih =>
    intro k n m s t hk hn hm hi
    obtain ⟨n, rfl⟩ : ∃ m, n = m + 1 := ⟨n - 1, by omega⟩
    obtain ⟨m, rfl⟩ : ∃ k, m = k + 1 := ⟨m - 1, by omega⟩
    obtain ⟨s', t', h1, h2, h3⟩ := hs k s t (by omega) hi
    rw [h2 n, h3 m]
    exact ih (k + 1) n m s' t' (by omega) (by omega) (by omega) h1
theorem gd_D {α : Type} {k : Nat} {xs : List α} {d : α} : gd xs (k : Int) d = xs.getD k d := rfl
/- tables -/
abbrev T3 := List (List (List Bool))
abbrev T4 := List (List (List (List Bool)))
def Cell4 (s : Nat) (c : List (List Bool)) : Prop := c.length = s ∧ ∀ x, x < s → (c.getD x []).length = s
def Row4 (n s : Nat) (r : T3) : Prop := r.length = n ∧ ∀ j, j < n → Cell4 s (r.getD j [])
def Ok4 (n s : Nat) (t : T4) : Prop := t.length = n ∧ ∀ i, i < n → Row4 n s (t.getD i [])
def r4 (t : T4) (i j x y : Nat) : Bool := (((t.getD i []).getD j []).getD x []).getD y false
def s4 (t : T4) (i j x y : Nat) (b : Bool) : T4 := t.set i ((t.getD i []).set j (((t.getD i []).getD j []).set x ((((t.getD i []).getD j []).getD x []).set y b)))
def Ok3 (n m : Nat) (u : T3) : Prop := u.length = n ∧ ∀ i, i < n → (u.getD i []).length = n ∧ ∀ j, j < n → ((u.getD i []).getD j []).length = m
def r3 (u : T3) (i j p : Nat) : Bool := ((u.getD i []).getD j []).getD p false
def s3 (u : T3) (i j p : Nat) (b : Bool) : T3 := u.set i ((u.getD i []).set j (((u.getD i []).getD j []).set p b))
def mu3 (u : T3) : Nat := (u.map mu).sum
section
variable {n s m : Nat} {t : T4} {u : T3}
theorem Ok4.at (h : Ok4 n s t) {i j x : Nat} (hi : i < n) (hj : j < n) (hx : x < s) : i < t.length ∧ j < (t.getD i []).length ∧ x < ((t.getD i []).getD j []).length ∧ (((t.getD i []).getD j []).getD x []).length = s :=
  ⟨by rw [h.1]; exact hi, by rw [(h.2 i hi).1]; exact hj, by rw [((h.2 i hi).2 j hj).1]; exact hx, ((h.2 i hi).2 j hj).2 x hx⟩
theorem Ok3.at (h : Ok3 n m u) {i j : Nat} (hi : i < n) (hj : j < n) : i < u.length ∧ j < (u.getD i []).length ∧ ((u.getD i []).getD j []).length = m :=
  ⟨by rw [h.1]; exact hi, by rw [(h.2 i hi).1]; exact hj, (h.2 i hi).2 j hj⟩
theorem s4_ok (h : Ok4 n s t) {i j x y : Nat} {b : Bool} : Ok4 n s (s4 t i j x y b) := by
  unfold s4
  refine ⟨by rw [List.length_set]; exact h.1, fun i' hi' => ?_⟩
  rw [getD_set_of]
  split
  · rename_i hc
    obtain ⟨rfl, _⟩ := hc
    have hr := h.2 i hi'
    refine ⟨by rw [List.length_set]; exact hr.1, fun j' hj' => ?_⟩
    rw [getD_set_of]
    split
    · rename_i hc
      obtain ⟨rfl, _⟩ := hc
      have hcl := hr.2 j hj'
      refine ⟨by rw [List.length_set]; exact hcl.1, fun x' hx' => ?_⟩
      rw [getD_set_of]
      split
      · rename_i hc
        obtain ⟨rfl, _⟩ := hc
        rw [List.length_set]; exact hcl.2 x hx'
      · exact hcl.2 x' hx'
    · exact hr.2 j' hj'
  · exact h.2 i' hi'
theorem s3_ok (h : Ok3 n m u) {i j p : Nat} {b : Bool} : Ok3 n m (s3 u i j p b) := by
  unfold s3
  refine ⟨by rw [List.length_set]; exact h.1, fun i' hi' => ?_⟩
  rw [getD_set_of]
  split
  · rename_i hc
    obtain ⟨rfl, _⟩ := hc
    have hr := h.2 i hi'
    refine ⟨by rw [List.length_set]; exact hr.1, fun j' hj' => ?_⟩
    rw [getD_set_of]
    split
    · rename_i hc
      obtain ⟨rfl, _⟩ := hc
      rw [List.length_set]; exact hr.2 j hj'
    · exact hr.2 j' hj'
  · exact h.2 i' hi'
theorem r4_s4 (h : Ok4 n s t) {i j x y : Nat} {b : Bool} (hi : i < n) (hj : j < n) (hx : x < s) (hy : y < s) (i' j' x' y' : Nat) :
    r4 (s4 t i j x y b) i' j' x' y' = if i = i' ∧ j = j' ∧ x = x' ∧ y = y' then b else r4 t i' j' x' y' := by
  obtain ⟨h1, h2, h3, h4⟩ := h.at hi hj hx
  unfold r4 s4
  rw [getD_set_of]
  by_cases e1 : i = i'
  · subst e1
    rw [if_pos ⟨rfl, h1⟩, getD_set_of]
    by_cases e2 : j = j'
    · subst e2
      rw [if_pos ⟨rfl, h2⟩, getD_set_of]
      by_cases e3 : x = x'
      · subst e3
        rw [if_pos ⟨rfl, h3⟩, getD_set_of]
        by_cases e4 : y = y'
        · subst e4; rw [if_pos ⟨rfl, by omega⟩, if_pos ⟨rfl, rfl, rfl, rfl⟩]
        · rw [if_neg (by omega), if_neg (by omega)]
      · rw [if_neg (by omega), if_neg (by omega)]
    · rw [if_neg (by omega), if_neg (by omega)]
  · rw [if_neg (by omega), if_neg (by omega)]
theorem r3_s3 (h : Ok3 n m u) {i j p : Nat} {b : Bool} (hi : i < n) (hj : j < n) (hp : p < m) (i' j' p' : Nat) :
    r3 (s3 u i j p b) i' j' p' = if i = i' ∧ j = j' ∧ p = p' then b else r3 u i' j' p' := by
  obtain ⟨h1, h2, h3⟩ := h.at hi hj
  unfold r3 s3
  rw [getD_set_of]
  by_cases e1 : i = i'
  · subst e1
    rw [if_pos ⟨rfl, h1⟩, getD_set_of]
    by_cases e2 : j = j'
    · subst e2
      rw [if_pos ⟨rfl, h2⟩, getD_set_of]
      by_cases e3 : p = p'
      · subst e3; rw [if_pos ⟨rfl, by omega⟩, if_pos ⟨rfl, rfl, rfl⟩]
      · rw [if_neg (by omega), if_neg (by omega)]
    · rw [if_neg (by omega), if_neg (by omega)]
  · rw [if_neg (by omega), if_neg (by omega)]
theorem mu3_set {i j p : Nat} (h : r3 u i j p = true) : mu3 (s3 u i j p false) + 1 = mu3 u := by
  rcases Nat.lt_or_ge i u.length with hi | hi
  · have h1 := sum_set mu u i (set2 (u.getD i []) j p) hi
    have h2 : mu (set2 (u.getD i []) j p) + 1 = mu (u.getD i []) := mu_set2 h
    rw [getD_of hi] at h1 h2
    have e : s3 u i j p false = u.set i (set2 (u.getD i []) j p) := rfl
    unfold mu3
    rw [e, getD_of hi]
    omega
  · unfold r3 at h
    rw [List.getD_eq_getElem?_getD (l := u), List.getElem?_eq_none hi] at h; simp at h
theorem sum_le {α : Type} (f : α → Nat) (K : Nat) : ∀ (l : List α), (∀ x ∈ l, f x ≤ K) → (l.map f).sum ≤ l.length * K
  | [], _ => by simp
  | x :: l, h => by
    have h1 := h x (by simp)
    have h2 := sum_le f K l fun y hy => h y (List.mem_cons_of_mem _ hy)
    simp only [List.map_cons, List.sum_cons, List.length_cons, Nat.succ_mul]; omega
theorem mu3_le (h : Ok3 n m u) : mu3 u ≤ n * (n * m) := by
  unfold mu3
  rw [← h.1]
  refine sum_le mu _ u fun r hr => ?_
  obtain ⟨i, hi, rfl⟩ := List.mem_iff_getElem.1 hr
  have hi' : i < n := by rw [← h.1]; exact hi
  have hrow := h.2 i hi'
  rw [getD_of hi] at hrow
  unfold mu
  rw [h.1, ← hrow.1]
  refine sum_le _ _ _ fun c hc => ?_
  obtain ⟨j, hj, rfl⟩ := List.mem_iff_getElem.1 hc
  have := hrow.2 j (by rw [← hrow.1]; exact hj)
  rw [getD_of hj] at this
  rw [← this]; exact List.countP_le_length
end
/-- the two tables tell the same -/
structure Rel34 (n s : Nat) (t : T4) (u : T3) : Prop where
  o4 : Ok4 n s t
  o3 : Ok3 n (s * s) u
  eq : ∀ i j x y, i < j → j < n → x < s → y < s → r4 t i j x y = r3 u i j (x * s + y) ∧ r4 t j i y x = r3 u i j (x * s + y)
theorem cell_lt {s x y : Nat} (hx : x < s) (hy : y < s) : x * s + y < s * s := by
  have : (x + 1) * s ≤ s * s := Nat.mul_le_mul_right _ hx
  rw [Nat.succ_mul] at this; omega
theorem cell_inj {s x y x' y' : Nat} (hy : y < s) (hy' : y' < s) (h : x * s + y = x' * s + y') : x = x' ∧ y = y' := by
  have h1 : (x * s + y) / s = x := by rw [Nat.mul_comm, Nat.mul_add_div (by omega), Nat.div_eq_of_lt hy]; omega
  have h2 : (x' * s + y') / s = x' := by rw [Nat.mul_comm, Nat.mul_add_div (by omega), Nat.div_eq_of_lt hy']; omega
  have : x = x' := by rw [← h1, ← h2, h]
  subst this
  exact ⟨rfl, by omega⟩
theorem Rel34.drop {n s : Nat} {t : T4} {u : T3} (h : Rel34 n s t u) {i j x y : Nat} (hij : i < j) (hj : j < n) (hx : x < s) (hy : y < s) :
    Rel34 n s (s4 (s4 t i j x y false) j i y x false) (s3 u i j (x * s + y) false) := by
  refine ⟨s4_ok (s4_ok h.o4), s3_ok h.o3, fun i' j' x' y' h1 h2 h3 h4 => ?_⟩
  have hi : i < n := by omega
  rw [r4_s4 (s4_ok h.o4) hj hi hy hx, r4_s4 h.o4 hi hj hx hy, r4_s4 (s4_ok h.o4) hj hi hy hx, r4_s4 h.o4 hi hj hx hy, r3_s3 h.o3 hi hj (cell_lt hx hy)]
  obtain ⟨e1, e2⟩ := h.eq i' j' x' y' h1 h2 h3 h4
  by_cases e : i = i' ∧ j = j' ∧ x = x' ∧ y = y'
  · obtain ⟨rfl, rfl, rfl, rfl⟩ := e
    simp
  · have e3 : ¬ (i = i' ∧ j = j' ∧ x * s + y = x' * s + y') := fun ⟨q1, q2, q3⟩ => by
      have := cell_inj hy h4 q3
      exact e ⟨q1, q2, this.1, this.2⟩
    have e4 : ¬ (j = i' ∧ i = j' ∧ y = x' ∧ x = y') := by omega
    have e5 : ¬ (i = j' ∧ j = i' ∧ x = y' ∧ y = x') := by omega
    have e6 : ¬ (j = j' ∧ i = i' ∧ y = y' ∧ x = x') := by omega
    simp only [if_neg e, if_neg e3, if_neg e4, if_neg e5, if_neg e6]
    exact ⟨e1, e2⟩
end T
open Go Go.Va
namespace T
theorem valI_set {l : List Int} {i w : Nat} {x : Int} (hi : i < l.length) : valI (l.set i x) (w : Int) = if i = w then x else valI l (w : Int) := by
  unfold valI
  rw [Int.toNat_natCast, getD_set_of]
  by_cases e : i = w
  · subst e; simp [hi]
  · simp [e]
def V3 (n i j k x y z : Nat) : List Int := (((List.replicate n (0 : Int)).set i (x : Int)).set j (y : Int)).set k (z : Int)
section
variable {a : Net} {n s : Nat} {t : T4} {u : T3}
def hP (a : Net) (n : Nat) (t : T4) (i j k x y z : Nat) : Bool := r4 t i k x z && r4 t j k y z && satB (insL a [(i : Int), (j : Int), (k : Int)]) (V3 n i j k x y z)
theorem holds_L2 (hN : NetOk a) (ha : a.1 = (n : Int)) (hb : a.2.1 = (s : Int)) (h4 : Ok4 n s t) {i j k x y : Nat} (hi : i < n) (hj : j < n) (hk : k < n) (hx : x < s) (hy : y < s) (hij : i ≠ j) (hik : i ≠ k) (hjk : j ≠ k) :
    ∀ (d z : Nat) (vs : List Int), z + d = s → vs.length = n → valI vs (i : Int) = (x : Int) → valI vs (j : Int) = (y : Int) → ∀ m, d < m →
      ∃ vs', vs'.length = n ∧ (∀ w : Nat, w ≠ k → valI vs' (w : Int) = valI vs (w : Int)) ∧
        impl_pairTable_holds_L2 m (t, insL a [(i : Int), (j : Int), (k : Int)], vs, (i : Int), (j : Int), (k : Int), (a.1, (a.2.1, a.2.2)), (z : Int)) = some (if (List.range' z d).any (hP a n t i j k x y) then .inr (vs', true) else .inl vs') := by
  have hs4 : s ≤ 4 := by have := hN.hn; omega
  intro d
  induction d with
  | zero =>
    intro z vs hz hl _ _ m hm
    obtain ⟨m, rfl⟩ : ∃ q, m = q + 1 := ⟨m - 1, by omega⟩
    refine ⟨vs, hl, fun _ _ => rfl, ?_⟩
    simp only [impl_pairTable_holds_L2, hb]
    rw [if_neg (by simp; omega)]; rfl
  | succ d ih =>
    intro z vs hz hl hvi hvj m hm
    obtain ⟨m, rfl⟩ : ∃ q, m = q + 1 := ⟨m - 1, by omega⟩
    have hzs : z < s := by omega
    have hkl : k < vs.length := by omega
    have hl' : (vs.set k (z : Int)).length = n := by rw [List.length_set]; exact hl
    have wi : valI (vs.set k (z : Int)) (i : Int) = (x : Int) := by rw [valI_set hkl, if_neg (by omega)]; exact hvi
    have wj : valI (vs.set k (z : Int)) (j : Int) = (y : Int) := by rw [valI_set hkl, if_neg (by omega)]; exact hvj
    have wk : valI (vs.set k (z : Int)) (k : Int) = (z : Int) := by rw [valI_set hkl, if_pos rfl]
    have g1 : (vs.set k (z : Int)).getD i 0 = (x : Int) := wi
    have g2 : (vs.set k (z : Int)).getD j 0 = (y : Int) := wj
    obtain ⟨a1, a2, a3, a4⟩ := h4.at hi hk hx
    obtain ⟨b1, b2, b3, b4⟩ := h4.at hj hk hy
    have c1 : z < ((((t.getD i []).getD k []).getD x [])).length := by omega
    have c2 : z < ((((t.getD j []).getD k []).getD y [])).length := by omega
    have d1 : i < (vs.set k (z : Int)).length := by omega
    have d2 : j < (vs.set k (z : Int)).length := by omega
    have e1 : (((t.getD i []).getD k []).getD x []).getD z false = r4 t i k x z := rfl
    have e2 : (((t.getD j []).getD k []).getD y []).getD z false = r4 t j k y z := rfl
    have hsat := impl_satisfies_ok hN (l := insL a [(i : Int), (j : Int), (k : Int)]) (insL_len hN) insL_in (vs := vs.set k (z : Int)) (by rw [hl', ha])
    have hcong : satB (insL a [(i : Int), (j : Int), (k : Int)]) (vs.set k (z : Int)) = satB (insL a [(i : Int), (j : Int), (k : Int)]) (V3 n i j k x y z) := by
      refine satB_congr fun v hv => ?_
      have q1 : i < (List.replicate n (0 : Int)).length := by simpa using hi
      have q2 : j < ((List.replicate n (0 : Int)).set i (x : Int)).length := by simpa using hj
      have q3 : k < (((List.replicate n (0 : Int)).set i (x : Int)).set j (y : Int)).length := by simpa using hk
      simp only [List.mem_cons, List.not_mem_nil, or_false] at hv
      unfold V3
      rcases hv with rfl | rfl | rfl
      · rw [wi, valI_set q3, if_neg (by omega), valI_set q2, if_neg (by omega), valI_set q1, if_pos rfl]
      · rw [wj, valI_set q3, if_neg (by omega), valI_set q2, if_pos rfl]
      · rw [wk, valI_set q3, if_pos rfl]
    rw [hcong] at hsat
    obtain ⟨vs', h1, h2, h3⟩ := ih (z + 1) (vs.set k (z : Int)) (by omega) hl' wi wj m (by omega)
    rw [List.range'_succ, List.any_cons]
    have hkeep : ∀ w : Nat, w ≠ k → valI (vs.set k (z : Int)) (w : Int) = valI vs (w : Int) := fun w hw => by rw [valI_set hkl, if_neg (by omega)]
    simp only [impl_pairTable_holds_L2, hb, inb_nat, gd_D, stt_nat, g1, g2, hkl, a1, a2, a3, b1, b2, b3, c1, c2, d1, d2, e1, e2, hsat, if_true, Option.bind_some, w64_succ (show z < 4611686018427387904 by omega), decide_eq_true (show (z : Int) < (s : Int) by omega)]
    rw [hb] at h3
    have hrec : ∃ vs', vs'.length = n ∧ (∀ w : Nat, w ≠ k → valI vs' (w : Int) = valI vs (w : Int)) ∧
        impl_pairTable_holds_L2 m (t, insL a [(i : Int), (j : Int), (k : Int)], vs.set k (z : Int), (i : Int), (j : Int), (k : Int), (a.1, ((s : Int), a.2.2)), ((z + 1 : Nat) : Int)) = some (if (List.range' (z + 1) d).any (hP a n t i j k x y) then .inr (vs', true) else .inl vs') :=
      ⟨vs', h1, fun w hw => (h2 w hw).trans (hkeep w hw), h3⟩
    have hPz : hP a n t i j k x y z = (r4 t i k x z && r4 t j k y z && satB (insL a [(i : Int), (j : Int), (k : Int)]) (V3 n i j k x y z)) := rfl
    rw [hPz]
    generalize (List.range' (z + 1) d).any (hP a n t i j k x y) = W at hrec ⊢
    cases r4 t i k x z with
    | false => exact hrec
    | true =>
      cases r4 t j k y z with
      | false => exact hrec
      | true =>
        cases satB (insL a [(i : Int), (j : Int), (k : Int)]) (V3 n i j k x y z) with
        | false => exact hrec
        | true => exact ⟨vs.set k (z : Int), hl', hkeep, rfl⟩
theorem impl_holds_ok (hN : NetOk a) (ha : a.1 = (n : Int)) (hb : a.2.1 = (s : Int)) (h4 : Ok4 n s t) {i j k x y : Nat} (hi : i < n) (hj : j < n) (hk : k < n) (hx : x < s) (hy : y < s) (hij : i ≠ j) (hik : i ≠ k) (hjk : j ≠ k)
    {vs : List Int} (hl : vs.length = n) (hvi : valI vs (i : Int) = (x : Int)) (hvj : valI vs (j : Int) = (y : Int)) :
    ∃ vs', vs'.length = n ∧ (∀ w : Nat, w ≠ k → valI vs' (w : Int) = valI vs (w : Int)) ∧
      impl_pairTable_holds t (a.1, (a.2.1, a.2.2)) (insL a [(i : Int), (j : Int), (k : Int)]) vs (i : Int) (j : Int) (k : Int) = some (vs', (List.range' 0 s).any (hP a n t i j k x y)) := by
  have hs4 : s ≤ 4 := by have := hN.hn; omega
  obtain ⟨vs', h1, h2, h3⟩ := holds_L2 hN ha hb h4 hi hj hk hx hy hij hik hjk s 0 vs (by omega) hl hvi hvj fuel (by unfold fuel; omega)
  refine ⟨vs', h1, h2, ?_⟩
  unfold impl_pairTable_holds
  have h3 : impl_pairTable_holds_L2 fuel (t, insL a [(i : Int), (j : Int), (k : Int)], vs, (i : Int), (j : Int), (k : Int), (a.1, (a.2.1, a.2.2)), 0) = _ := h3
  rw [h3]
  cases (List.range' 0 s).any (hP a n t i j k x y) <;> simp
theorem cell_w64 {s x y : Nat} (hs : s ≤ 4) (hx : x < s) (hy : y < s) : w64 (w64 ((x : Int) * (s : Int)) + (y : Int)) = ((x * s + y : Nat) : Int) := by
  have h1 := cell_lt hx hy
  have h2 : s * s ≤ 4 * 4 := Nat.mul_le_mul hs hs
  have e : (x : Int) * (s : Int) = ((x * s : Nat) : Int) := by push_cast; rfl
  rw [e, w64_id (x := ((x * s : Nat) : Int)) (by omega) (by omega), w64_id (by omega) (by omega)]
  push_cast; rfl
theorem cell_div {s x y : Nat} (hs : s ≤ 4) (hx : x < s) (hy : y < s) : w64 (Int.tdiv ((x * s + y : Nat) : Int) (s : Int)) = (x : Int) ∧ Int.tmod ((x * s + y : Nat) : Int) (s : Int) = (y : Int) := by
  have h1 : (x * s + y) / s = x := by rw [Nat.mul_comm, Nat.mul_add_div (by omega), Nat.div_eq_of_lt hy]; omega
  have h2 : (x * s + y) % s = y := by rw [Nat.mul_comm, Nat.mul_add_mod, Nat.mod_eq_of_lt hy]
  constructor
  · rw [Int.tdiv_eq_ediv_of_nonneg (by omega)]
    have : ((x * s + y : Nat) : Int) / (s : Int) = (x : Int) := by rw [← Int.natCast_ediv, h1]
    rw [this, w64_id (by omega) (by omega)]
  · rw [Int.tmod_eq_emod_of_nonneg (by omega), ← Int.natCast_emod, h2]
theorem spec_l20At_ok (hs : s ≤ 4) (hR : Rel34 n s t u) {i k x z : Nat} (hi : i < n) (hk : k < n) (hx : x < s) (hz : z < s) (hik : i ≠ k) : spec_l20At u (s : Int) (i : Int) (x : Int) (k : Int) (z : Int) = some (r4 t i k x z) := by
  unfold spec_l20At
  by_cases h : i < k
  · obtain ⟨h1, h2, h3⟩ := hR.o3.at hi hk
    have hc := cell_lt hx hz
    have h4 : x * s + z < ((u.getD i []).getD k []).length := by omega
    rw [if_pos (by simpa using h), cell_w64 hs hx hz]
    simp only [inb_nat, gd_D, h1, h2, h4, if_true]
    rw [(hR.eq i k x z h hk hx hz).1]; rfl
  · have h : k < i := by omega
    obtain ⟨h1, h2, h3⟩ := hR.o3.at hk hi
    have hc := cell_lt hz hx
    have h4 : z * s + x < ((u.getD k []).getD i []).length := by omega
    rw [if_neg (by simp; omega), cell_w64 hs hz hx]
    simp only [inb_nat, gd_D, h1, h2, h4, if_true]
    rw [(hR.eq k i z x h hi hz hx).2]; rfl
theorem shrink_L10 (hN : NetOk a) (ha : a.1 = (n : Int)) (hb : a.2.1 = (s : Int)) (hR : Rel34 n s t u) {i j k x y : Nat} (hi : i < n) (hj : j < n) (hk : k < n) (hx : x < s) (hy : y < s) (hij : i ≠ j) (hik : i ≠ k) (hjk : j ≠ k) (sm : Bool) :
    ∀ (d z : Nat), z + d = s → ∀ m, d < m →
      spec_l20Shrink_L10 m (u, (i : Int), (j : Int), (k : Int), (a.1, (a.2.1, a.2.2)), (s : Int), insL a [(i : Int), (j : Int), (k : Int)], sm, ((x * s + y : Nat) : Int), false, (z : Int)) =
        some (u, (i : Int), (j : Int), (k : Int), (a.1, (a.2.1, a.2.2)), (s : Int), insL a [(i : Int), (j : Int), (k : Int)], sm, ((x * s + y : Nat) : Int), (List.range' z d).any (hP a n t i j k x y)) := by
  have hs4 : s ≤ 4 := by have := hN.hn; omega
  have hn9 : n ≤ 9 := by have := hN.hv; omega
  intro d
  induction d with
  | zero =>
    intro z hz m hm
    obtain ⟨m, rfl⟩ : ∃ q, m = q + 1 := ⟨m - 1, by omega⟩
    simp only [spec_l20Shrink_L10]
    rw [if_neg (by simp; omega)]; rfl
  | succ d ih =>
    intro z hz m hm
    obtain ⟨m, rfl⟩ : ∃ q, m = q + 1 := ⟨m - 1, by omega⟩
    have hzs : z < s := by omega
    have q1 : i < (List.replicate n (0 : Int)).length := by simpa using hi
    have q2 : j < ((List.replicate n (0 : Int)).set i (x : Int)).length := by simpa using hj
    have q3 : k < (((List.replicate n (0 : Int)).set i (x : Int)).set j (y : Int)).length := by simpa using hk
    have q4 : i < (V3 n i j k x y z).length := by unfold V3; simpa using hi
    have q5 : j < (V3 n i j k x y z).length := by unfold V3; simpa using hj
    have g1 : (V3 n i j k x y z).getD i 0 = (x : Int) := by
      have : valI (V3 n i j k x y z) (i : Int) = (x : Int) := by unfold V3; rw [valI_set q3, if_neg (by omega), valI_set q2, if_neg (by omega), valI_set q1, if_pos rfl]
      exact this
    have g2 : (V3 n i j k x y z).getD j 0 = (y : Int) := by
      have : valI (V3 n i j k x y z) (j : Int) = (y : Int) := by unfold V3; rw [valI_set q3, if_neg (by omega), valI_set q2, if_pos rfl]
      exact this
    have hV : (((List.replicate n (0 : Int)).set i (x : Int)).set j (y : Int)).set k (z : Int) = V3 n i j k x y z := rfl
    obtain ⟨c1, c2⟩ := cell_div hs4 hx hy
    have hat1 := spec_l20At_ok hs4 hR hi hk hx hzs hik
    have hat2 := spec_l20At_ok hs4 hR hj hk hy hzs hjk
    have hhold := spec_l20Hold_ok hN (l := insL a [(i : Int), (j : Int), (k : Int)]) (insL_len hN) insL_in (vs := V3 n i j k x y z) (by unfold V3; simp [ha])
    have hsn : ¬ ((s : Int) = 0) := by omega
    have hlim : 0 ≤ (n : Int) ∧ (n : Int) ≤ (n : Int) ∧ (n : Int) ≤ (lim : Int) := by unfold lim; omega
    have ihz := ih (z + 1) (by omega) m (by omega)
    rw [List.range'_succ, List.any_cons]
    rw [ha] at ihz ⊢
    simp only [spec_l20Shrink_L10, decide_eq_true (show (z : Int) < (s : Int) by omega), if_true, Bool.not_false, hlim, and_self, ne_eq, hsn, not_false_eq_true, Int.toNat_natCast, inb_nat, q1, c1, c2, stt_nat, q2, q3, hV, q4, q5, gd_D, g1, g2, hat1, hat2, hhold, Option.bind_some, w64_succ (show z < 4611686018427387904 by omega)]
    have hend : ∀ (q : Nat), spec_l20Shrink_L10 m (u, (i : Int), (j : Int), (k : Int), ((n : Int), (a.2.1, a.2.2)), (s : Int), insL a [(i : Int), (j : Int), (k : Int)], sm, ((x * s + y : Nat) : Int), true, (q : Int)) =
        some (u, (i : Int), (j : Int), (k : Int), ((n : Int), (a.2.1, a.2.2)), (s : Int), insL a [(i : Int), (j : Int), (k : Int)], sm, ((x * s + y : Nat) : Int), true) := fun q => by
      obtain ⟨m, rfl⟩ : ∃ q, m = q + 1 := ⟨m - 1, by omega⟩
      simp only [spec_l20Shrink_L10]
      cases decide ((q : Int) < (s : Int)) <;> simp
    have hPz : hP a n t i j k x y z = (r4 t i k x z && r4 t j k y z && satB (insL a [(i : Int), (j : Int), (k : Int)]) (V3 n i j k x y z)) := rfl
    rw [hPz]
    generalize (List.range' (z + 1) d).any (hP a n t i j k x y) = W at ihz ⊢
    cases r4 t i k x z with
    | false => exact ihz
    | true =>
      cases r4 t j k y z with
      | false => exact ihz
      | true =>
        cases satB (insL a [(i : Int), (j : Int), (k : Int)]) (V3 n i j k x y z) with
        | false => exact ihz
        | true => exact hend (z + 1)
end
end T
open Go Go.Va
namespace T
section
variable {a : Net} {n s : Nat} {t : T4} {u : T3}
/-- one side's round beside the other's -/
def CInv (n s mu0 : Nat) (c0 : Bool) (q : T4 × List Int × Bool) (r : T3 × Bool) : Prop :=
  Rel34 n s q.1 r.1 ∧ q.2.1.length = n ∧ q.2.2 = (c0 || r.2) ∧ r.2 = decide (mu3 r.1 < mu0) ∧ mu3 r.1 ≤ mu0
theorem cell_of {s p : Nat} (hp : p < s * s) : ∃ x y, p = x * s + y ∧ x < s ∧ y < s := by
  have hs : 0 < s := Nat.pos_of_ne_zero fun e => by subst e; simp at hp
  exact ⟨p / s, p % s, by rw [Nat.mul_comm]; exact (Nat.div_add_mod p s).symm, Nat.div_lt_of_lt_mul hp, Nat.mod_lt _ hs⟩
theorem shrink_sim (hN : NetOk a) (ha : a.1 = (n : Int)) (hb : a.2.1 = (s : Int)) {i j k : Nat} (hij : i < j) (hj : j < n) (hk : k < n) (hik : i ≠ k) (hjk : j ≠ k) (t18 t19 t31 t32 : Int) {mu0 : Nat} {c0 : Bool} {q : T4 × List Int × Bool} {r : T3 × Bool} (h : CInv n s mu0 c0 q r) :
    ∃ q' r', CInv n s mu0 c0 q' r' ∧
      impl_minimalPairs_L18 fuel ((a.1, (a.2.1, a.2.2)), q.1, q.2.1, q.2.2, (i : Int), (j : Int), (k : Int), insL a [(i : Int), (j : Int), (k : Int)], 0, t18, t19, t31, t32) = some ((a.1, (a.2.1, a.2.2)), q'.1, q'.2.1, q'.2.2, (i : Int), (j : Int), t18, t19, t31, t32) ∧
      spec_l20Shrink_L5 fuel (r.1, (i : Int), (j : Int), (k : Int), (a.1, (a.2.1, a.2.2)), (s : Int), insL a [(i : Int), (j : Int), (k : Int)], r.2, 0) = some (r'.1, r'.2) := by
  have hs4 : s ≤ 4 := by have := hN.hn; omega
  have hs0 : 0 < s := by have := hN.hn; omega
  have hss : s * s ≤ 4 * 4 := Nat.mul_le_mul hs4 hs4
  have hi : i < n := by omega
  have ess : w64 ((s : Int) * (s : Int)) = ((s * s : Nat) : Int) := by
    have e : (s : Int) * (s : Int) = ((s * s : Nat) : Int) := by push_cast; rfl
    rw [e, w64_id (by omega) (by omega)]
  have hsn : ¬ ((s : Int) = 0) := by omega
  refine forR (s * s) (fun m (q : T4 × List Int × Bool) p => impl_minimalPairs_L18 m ((a.1, (a.2.1, a.2.2)), q.1, q.2.1, q.2.2, (i : Int), (j : Int), (k : Int), insL a [(i : Int), (j : Int), (k : Int)], p, t18, t19, t31, t32))
    (fun m (r : T3 × Bool) p => spec_l20Shrink_L5 m (r.1, (i : Int), (j : Int), (k : Int), (a.1, (a.2.1, a.2.2)), (s : Int), insL a [(i : Int), (j : Int), (k : Int)], r.2, p))
    (fun _ q r => CInv n s mu0 c0 q r) (fun q' => some ((a.1, (a.2.1, a.2.2)), q'.1, q'.2.1, q'.2.2, (i : Int), (j : Int), t18, t19, t31, t32)) (fun r' => some (r'.1, r'.2))
    ?_ ?_ ?_ (s * s) 0 fuel fuel q r (by omega) (by unfold fuel; omega) (by unfold fuel; omega) h
  · rintro p ⟨t, vs, c⟩ ⟨u, sm⟩ hp ⟨hR, hl, hc, hsm, hmu⟩
    dsimp only at hR hl hc hsm hmu ⊢
    obtain ⟨x, y, rfl, hx, hy⟩ := cell_of hp
    obtain ⟨w1, w2⟩ := cell_div hs4 hx hy
    obtain ⟨a1, a2, a3, a4⟩ := hR.o4.at hi hj hx
    obtain ⟨b1, b2, b3⟩ := hR.o3.at hi hj
    obtain ⟨e1, e2⟩ := hR.eq i j x y hij hj hx hy
    have d1 : i < vs.length := by omega
    have d2 : j < (vs.set i (x : Int)).length := by simp; omega
    have hl2 : ((vs.set i (x : Int)).set j (y : Int)).length = n := by simpa using hl
    have v1 : valI ((vs.set i (x : Int)).set j (y : Int)) (i : Int) = (x : Int) := by rw [valI_set d2, if_neg (by omega), valI_set d1, if_pos rfl]
    have v2 : valI ((vs.set i (x : Int)).set j (y : Int)) (j : Int) = (y : Int) := by rw [valI_set d2, if_pos rfl]
    have g1 : ((vs.set i (x : Int)).set j (y : Int)).getD i 0 = (x : Int) := v1
    have g2 : ((vs.set i (x : Int)).set j (y : Int)).getD j 0 = (y : Int) := v2
    have d3 : i < ((vs.set i (x : Int)).set j (y : Int)).length := by omega
    have d4 : j < ((vs.set i (x : Int)).set j (y : Int)).length := by omega
    have a5 : y < (((t.getD i []).getD j []).getD x []).length := by omega
    have b4 : x * s + y < ((u.getD i []).getD j []).length := by omega
    have f1 : (((t.getD i []).getD j []).getD x []).getD y false = r4 t i j x y := rfl
    have f2 : ((u.getD i []).getD j []).getD (x * s + y) false = r3 u i j (x * s + y) := rfl
    obtain ⟨vs', l1, l2, l3⟩ := impl_holds_ok hN ha hb hR.o4 hi hj hk hx hy (by omega) hik hjk hl2 v1 v2
    have l10 := fun m hm => shrink_L10 hN ha hb hR hi hj hk hx hy (by omega) hik hjk sm s 0 (by omega) m hm
    have l10 := l10 fuel (by unfold fuel; omega)
    have l10 : spec_l20Shrink_L10 fuel (u, (i : Int), (j : Int), (k : Int), (a.1, (a.2.1, a.2.2)), (s : Int), insL a [(i : Int), (j : Int), (k : Int)], sm, ((x * s + y : Nat) : Int), false, 0) = _ := l10
    have k1 : vs'.getD i 0 = (x : Int) := (l2 i hik).trans v1
    have k2 : vs'.getD j 0 = (y : Int) := (l2 j hjk).trans v2
    have k3 : i < vs'.length := by omega
    have k4 : j < vs'.length := by omega
    have hp' : ((x * s + y : Nat) : Int) < ((s * s : Nat) : Int) := by omega
    have hq : x * s + y < 4611686018427387904 := by omega
    rw [hb] at l3 l10
    cases hcell : r4 t i j x y with
    | false =>
      refine ⟨(t, (vs.set i (x : Int)).set j (y : Int), c), (u, sm), ⟨hR, hl2, hc, hsm, hmu⟩, fun m => ?_, fun m => ?_⟩
      · simp only [impl_minimalPairs_L18, hb, ess, decide_eq_true hp', ne_eq, hsn, not_false_eq_true, if_true, w1, w2, inb_nat, gd_D, stt_nat, d1, d2, d3, d4, g1, g2, a1, a2, a3, a5, f1, hcell, Bool.false_eq_true, if_false, w64_succ hq]
      · have e1' : r3 u i j (x * s + y) = false := by rw [← e1]; exact hcell
        simp only [spec_l20Shrink_L5, ess, decide_eq_true hp', if_true, inb_nat, gd_D, b1, b2, b4, f2, e1', Bool.not_false, w64_succ hq]
    | true =>
      have e1' : r3 u i j (x * s + y) = true := by rw [← e1]; exact hcell
      cases hP : (List.range' 0 s).any (hP a n t i j k x y) with
      | true =>
        rw [hP] at l3 l10
        refine ⟨(t, vs', c), (u, sm), ⟨hR, l1, hc, hsm, hmu⟩, fun m => ?_, fun m => ?_⟩
        · simp only [impl_minimalPairs_L18, hb, ess, decide_eq_true hp', ne_eq, hsn, not_false_eq_true, if_true, w1, w2, inb_nat, gd_D, stt_nat, d1, d2, d3, d4, g1, g2, a1, a2, a3, a5, f1, hcell, l3, Option.bind_some, Bool.not_true, Bool.false_eq_true, if_false, w64_succ hq]
        · simp only [spec_l20Shrink_L5, hb, ess, decide_eq_true hp', if_true, inb_nat, gd_D, b1, b2, b4, f2, e1', Bool.not_true, Bool.false_eq_true, if_false, l10, Option.bind_some, w64_succ hq]
      | false =>
        rw [hP] at l3 l10
        have hR' := hR.drop hij hj hx hy
        have hmu' := mu3_set e1'
        refine ⟨(s4 (s4 t i j x y false) j i y x false, vs', true), (s3 u i j (x * s + y) false, true), ⟨hR', l1, by simp, ?_, by dsimp only; omega⟩, fun m => ?_, fun m => ?_⟩
        · dsimp only; rw [decide_eq_true (by omega)]
        · have hs4' := s4_ok hR.o4 (i := i) (j := j) (x := x) (y := y) (b := false)
          obtain ⟨m1, m2, m3, m4⟩ := hs4'.at hj hi hy
          have m5 : x < ((((s4 t i j x y false).getD j []).getD i []).getD y []).length := by omega
          have es : t.set i ((t.getD i []).set j (((t.getD i []).getD j []).set x ((((t.getD i []).getD j []).getD x []).set y false))) = s4 t i j x y false := rfl
          have es2 : (s4 t i j x y false).set j (((s4 t i j x y false).getD j []).set i ((((s4 t i j x y false).getD j []).getD i []).set y (((((s4 t i j x y false).getD j []).getD i []).getD y []).set x false))) = s4 (s4 t i j x y false) j i y x false := rfl
          simp only [impl_minimalPairs_L18, hb, ess, decide_eq_true hp', ne_eq, hsn, not_false_eq_true, if_true, w1, w2, inb_nat, gd_D, stt_nat, d1, d2, d3, d4, g1, g2, a1, a2, a3, a5, f1, hcell, l3, Option.bind_some, Bool.not_false, k1, k2, k3, k4, es, m1, m2, m3, m5, es2, w64_succ hq]
        · have es3 : u.set i ((u.getD i []).set j (((u.getD i []).getD j []).set (x * s + y) false)) = s3 u i j (x * s + y) false := rfl
          simp only [spec_l20Shrink_L5, hb, ess, decide_eq_true hp', if_true, inb_nat, gd_D, b1, b2, b4, f2, e1', Bool.not_true, Bool.false_eq_true, if_false, l10, Option.bind_some, Bool.not_false, stt_nat, es3, w64_succ hq]
  · rintro m ⟨t, vs, c⟩ ⟨u, sm⟩ _
    simp only [impl_minimalPairs_L18, hb, ess]
    rw [if_neg (by simp)]
  · rintro m ⟨t, vs, c⟩ ⟨u, sm⟩ _
    simp only [spec_l20Shrink_L5, ess]
    rw [if_neg (by simp)]
end
end T
open Go Go.Va
namespace T
section
variable {a : Net} {n s : Nat} {t : T4} {u : T3}
def DInv (n s mu0 : Nat) (q : T4 × List Int × Bool) (r : T3 × Bool) : Prop :=
  Rel34 n s q.1 r.1 ∧ q.2.1.length = n ∧ q.2.2 = r.2 ∧ r.2 = decide (mu3 r.1 < mu0) ∧ mu3 r.1 ≤ mu0
theorem third_sim (hN : NetOk a) (ha : a.1 = (n : Int)) (hb : a.2.1 = (s : Int)) {i j : Nat} (hij : i < j) (hj : j < n) (t18 t19 : Int) {mu0 : Nat} {q : T4 × List Int × Bool} {r : T3 × Bool} (h : DInv n s mu0 q r) :
    ∃ q' r', DInv n s mu0 q' r' ∧
      impl_minimalPairs_L13 fuel ((a.1, (a.2.1, a.2.2)), q.1, q.2.1, q.2.2, (i : Int), (j : Int), t18, t19, (n : Int), 0) = some ((a.1, (a.2.1, a.2.2)), q'.1, q'.2.1, q'.2.2, (i : Int), (j : Int), t18, t19) ∧
      spec_l20Pairs_L31 fuel ((a.1, (a.2.1, a.2.2)), (n : Int), r.1, r.2, (i : Int), (j : Int), 0) = some ((a.1, (a.2.1, a.2.2)), (n : Int), r'.1, r'.2, (i : Int), (j : Int)) := by
  have hn9 : n ≤ 9 := by have := hN.hv; omega
  refine forR n (fun m (q : T4 × List Int × Bool) p => impl_minimalPairs_L13 m ((a.1, (a.2.1, a.2.2)), q.1, q.2.1, q.2.2, (i : Int), (j : Int), t18, t19, (n : Int), p))
    (fun m (r : T3 × Bool) p => spec_l20Pairs_L31 m ((a.1, (a.2.1, a.2.2)), (n : Int), r.1, r.2, (i : Int), (j : Int), p))
    (fun _ q r => DInv n s mu0 q r) (fun q' => some ((a.1, (a.2.1, a.2.2)), q'.1, q'.2.1, q'.2.2, (i : Int), (j : Int), t18, t19)) (fun r' => some ((a.1, (a.2.1, a.2.2)), (n : Int), r'.1, r'.2, (i : Int), (j : Int)))
    ?_ ?_ ?_ n 0 fuel fuel q r (by omega) (by unfold fuel; omega) (by unfold fuel; omega) h
  · rintro k ⟨t, vs, c⟩ ⟨u, g⟩ hk ⟨hR, hl, hc, hg, hmu⟩
    dsimp only at hR hl hc hg hmu ⊢
    have hk' : (k : Int) < (n : Int) := by omega
    have hq : k < 4611686018427387904 := by omega
    by_cases e1 : k = i
    · refine ⟨(t, vs, c), (u, g), ⟨hR, hl, hc, hg, hmu⟩, fun m => ?_, fun m => ?_⟩
      · simp only [impl_minimalPairs_L13, decide_eq_true hk', if_true, w64_succ hq, show ((k : Int) == (i : Int)) = true by simp [e1]]
      · simp only [spec_l20Pairs_L31, decide_eq_true hk', if_true, w64_succ hq, show ((k : Int) != (i : Int)) = false by simp [e1], Bool.false_eq_true, if_false]
    by_cases e2 : k = j
    · refine ⟨(t, vs, c), (u, g), ⟨hR, hl, hc, hg, hmu⟩, fun m => ?_, fun m => ?_⟩
      · simp only [impl_minimalPairs_L13, decide_eq_true hk', if_true, w64_succ hq, show ((k : Int) == (i : Int)) = false by simp; omega, show ((k : Int) == (j : Int)) = true by simp [e2], Bool.false_eq_true, if_false]
      · simp only [spec_l20Pairs_L31, decide_eq_true hk', if_true, w64_succ hq, show ((k : Int) != (i : Int)) = true by simp; omega, show ((k : Int) != (j : Int)) = false by simp [e2], Bool.false_eq_true, if_false]
    · -- the pairs are held against a third variable
      obtain ⟨⟨t', vs', c'⟩, ⟨u', sm⟩, ⟨hR', hl', hc', hsm, hmu'⟩, h1, h2⟩ := shrink_sim hN ha hb hij hj hk (by omega) (by omega) t18 t19 (n : Int) (k : Int) (mu0 := mu3 u) (c0 := c) (q := (t, vs, c)) (r := (u, false)) ⟨hR, hl, by simp, by simp, Nat.le_refl _⟩
      dsimp only at hR' hl' hc' hsm hmu' h1 h2
      have hw := impl_within_ok hN (vars := [(i : Int), (j : Int), (k : Int)]) (by simp)
      have hw2 := spec_l20Inside_ok hN (vars := [(i : Int), (j : Int), (k : Int)]) (by simp)
      have hshr : spec_l20Shrink (a.1, (a.2.1, a.2.2)) u (i : Int) (j : Int) (k : Int) = some (u', sm) := by
        unfold spec_l20Shrink
        dsimp only
        rw [hw2, Option.bind_some]
        rw [← hb] at h2
        rw [h2]; rfl
      have hgg : (if sm = true then true else g) = decide (mu3 u' < mu0) := by
        cases sm with
        | true => have := of_decide_eq_true hsm.symm; rw [if_pos rfl, decide_eq_true (by omega)]
        | false =>
          have := of_decide_eq_false hsm.symm
          have e : mu3 u' = mu3 u := by omega
          rw [if_neg (by simp), hg, e]
      refine ⟨(t', vs', c'), (u', if sm = true then true else g), ⟨hR', hl', ?_, hgg, by dsimp only; omega⟩, fun m => ?_, fun m => ?_⟩
      · dsimp only; rw [hc', hc]; cases sm <;> simp
      · simp only [impl_minimalPairs_L13, decide_eq_true hk', if_true, w64_succ hq, show ((k : Int) == (i : Int)) = false by simp; omega, show ((k : Int) == (j : Int)) = false by simp; omega, Bool.false_eq_true, if_false, hw, h1, Option.bind_some]
      · simp only [spec_l20Pairs_L31, decide_eq_true hk', if_true, w64_succ hq, show ((k : Int) != (i : Int)) = true by simp; omega, show ((k : Int) != (j : Int)) = true by simp; omega, hshr, Option.bind_some]
        cases sm <;> simp
  · rintro m ⟨t, vs, c⟩ ⟨u, g⟩ _
    simp only [impl_minimalPairs_L13]
    rw [if_neg (by simp)]
  · rintro m ⟨t, vs, c⟩ ⟨u, g⟩ _
    simp only [spec_l20Pairs_L31]
    rw [if_neg (by simp)]
theorem second_sim (hN : NetOk a) (ha : a.1 = (n : Int)) (hb : a.2.1 = (s : Int)) {i : Nat} (hi : i < n) (t18 t19 : Int) {mu0 : Nat} {q : T4 × List Int × Bool} {r : T3 × Bool} (h : DInv n s mu0 q r) :
    ∃ q' r', DInv n s mu0 q' r' ∧
      impl_minimalPairs_L10 fuel ((a.1, (a.2.1, a.2.2)), q.1, q.2.1, q.2.2, (i : Int), ((i + 1 : Nat) : Int), t18, t19) = some ((a.1, (a.2.1, a.2.2)), q'.1, q'.2.1, q'.2.2, t18, t19) ∧
      spec_l20Pairs_L28 fuel ((a.1, (a.2.1, a.2.2)), (n : Int), r.1, r.2, (i : Int), ((i + 1 : Nat) : Int)) = some ((a.1, (a.2.1, a.2.2)), (n : Int), r'.1, r'.2, (i : Int)) := by
  have hn9 : n ≤ 9 := by have := hN.hv; omega
  have key := forR n (fun m (q : T4 × List Int × Bool) p => impl_minimalPairs_L10 m ((a.1, (a.2.1, a.2.2)), q.1, q.2.1, q.2.2, (i : Int), p, t18, t19))
    (fun m (r : T3 × Bool) p => spec_l20Pairs_L28 m ((a.1, (a.2.1, a.2.2)), (n : Int), r.1, r.2, (i : Int), p))
    (fun k q r => i < k ∧ DInv n s mu0 q r) (fun q' => some ((a.1, (a.2.1, a.2.2)), q'.1, q'.2.1, q'.2.2, t18, t19)) (fun r' => some ((a.1, (a.2.1, a.2.2)), (n : Int), r'.1, r'.2, (i : Int)))
    ?_ ?_ ?_ (n - (i + 1)) (i + 1) fuel fuel q r (by omega) (by unfold fuel; omega) (by unfold fuel; omega) ⟨by omega, h⟩
  · obtain ⟨q', r', hI, h1, h2⟩ := key
    exact ⟨q', r', hI.2, h1, h2⟩
  · rintro j ⟨t, vs, c⟩ ⟨u, g⟩ hj ⟨hij, hD⟩
    obtain ⟨q', r', hD', h1, h2⟩ := third_sim hN ha hb hij hj t18 t19 hD
    have hlen : ((t.length : Nat) : Int) = (n : Int) := by have := hD.1.o4.1; dsimp only at this; omega
    have hj' : (j : Int) < (n : Int) := by omega
    have hq : j < 4611686018427387904 := by omega
    refine ⟨q', r', ⟨by omega, hD'⟩, fun m => ?_, fun m => ?_⟩
    · dsimp only at h1 ⊢
      simp only [impl_minimalPairs_L10, ha, decide_eq_true hj', if_true, hlen]
      rw [ha] at h1
      rw [h1]
      simp only [Option.bind_some, w64_succ hq]
    · dsimp only at h2 ⊢
      simp only [spec_l20Pairs_L28, decide_eq_true hj', if_true, h2, Option.bind_some, w64_succ hq]
  · rintro m ⟨t, vs, c⟩ ⟨u, g⟩ _
    simp only [impl_minimalPairs_L10, ha]
    rw [if_neg (by simp)]
  · rintro m ⟨t, vs, c⟩ ⟨u, g⟩ _
    simp only [spec_l20Pairs_L28]
    rw [if_neg (by simp)]
theorem first_sim (hN : NetOk a) (ha : a.1 = (n : Int)) (hb : a.2.1 = (s : Int)) {mu0 : Nat} {q : T4 × List Int × Bool} {r : T3 × Bool} (h : DInv n s mu0 q r) :
    ∃ q' r', DInv n s mu0 q' r' ∧
      impl_minimalPairs_L7 fuel ((a.1, (a.2.1, a.2.2)), q.1, q.2.1, q.2.2, (n : Int), 0) = some ((a.1, (a.2.1, a.2.2)), q'.1, q'.2.1, q'.2.2) ∧
      spec_l20Pairs_L25 fuel ((a.1, (a.2.1, a.2.2)), (n : Int), r.1, r.2, 0) = some ((a.1, (a.2.1, a.2.2)), (n : Int), r'.1, r'.2) := by
  have hn9 : n ≤ 9 := by have := hN.hv; omega
  refine forR n (fun m (q : T4 × List Int × Bool) p => impl_minimalPairs_L7 m ((a.1, (a.2.1, a.2.2)), q.1, q.2.1, q.2.2, (n : Int), p))
    (fun m (r : T3 × Bool) p => spec_l20Pairs_L25 m ((a.1, (a.2.1, a.2.2)), (n : Int), r.1, r.2, p))
    (fun _ q r => DInv n s mu0 q r) (fun q' => some ((a.1, (a.2.1, a.2.2)), q'.1, q'.2.1, q'.2.2)) (fun r' => some ((a.1, (a.2.1, a.2.2)), (n : Int), r'.1, r'.2))
    ?_ ?_ ?_ n 0 fuel fuel q r (by omega) (by unfold fuel; omega) (by unfold fuel; omega) h
  · rintro i ⟨t, vs, c⟩ ⟨u, g⟩ hi hD
    obtain ⟨q', r', hD', h1, h2⟩ := second_sim hN ha hb hi (n : Int) (i : Int) hD
    have hi' : (i : Int) < (n : Int) := by omega
    have hq : i < 4611686018427387904 := by omega
    refine ⟨q', r', hD', fun m => ?_, fun m => ?_⟩
    · dsimp only at h1 ⊢
      simp only [impl_minimalPairs_L7, decide_eq_true hi', if_true, w64_succ hq, h1, Option.bind_some]
    · dsimp only at h2 ⊢
      simp only [spec_l20Pairs_L25, decide_eq_true hi', if_true, w64_succ hq, h2, Option.bind_some]
  · rintro m ⟨t, vs, c⟩ ⟨u, g⟩ _
    simp only [impl_minimalPairs_L7]
    rw [if_neg (by simp)]
  · rintro m ⟨t, vs, c⟩ ⟨u, g⟩ _
    simp only [spec_l20Pairs_L25]
    rw [if_neg (by simp)]
theorem again_sim (hN : NetOk a) (ha : a.1 = (n : Int)) (hb : a.2.1 = (s : Int)) : ∀ (K : Nat) (t : T4) (vs : List Int) (u : T3), Rel34 n s t u → vs.length = n → mu3 u < K → ∀ m m', K < m → K < m' →
    ∃ t' u', Rel34 n s t' u' ∧ impl_minimalPairs_L4 m ((a.1, (a.2.1, a.2.2)), t, vs, true) = some t' ∧ spec_l20Pairs_L22 m' ((a.1, (a.2.1, a.2.2)), (n : Int), u, true) = some u' := by
  intro K
  induction K with
  | zero => intro t vs u _ _ h; omega
  | succ K ih =>
    intro t vs u hR hl hmu m m' hm hm'
    obtain ⟨m, rfl⟩ : ∃ q, m = q + 1 := ⟨m - 1, by omega⟩
    obtain ⟨m', rfl⟩ : ∃ q, m' = q + 1 := ⟨m' - 1, by omega⟩
    obtain ⟨⟨t', vs', c'⟩, ⟨u', g⟩, ⟨hR', hl', hc, hg, hmu'⟩, h1, h2⟩ := first_sim hN ha hb (mu0 := mu3 u) (q := (t, vs, false)) (r := (u, false)) ⟨hR, hl, rfl, by simp, Nat.le_refl _⟩
    dsimp only at hR' hl' hc hg hmu' h1 h2
    have hlen : ((t.length : Nat) : Int) = (n : Int) := by have := hR.o4.1; omega
    subst hc
    simp only [impl_minimalPairs_L4, spec_l20Pairs_L22, if_true, hlen, h1, h2, Option.bind_some]
    cases c' with
    | true =>
      have := of_decide_eq_true hg.symm
      exact ih t' vs' u' hR' hl' (by omega) m m' (by omega) (by omega)
    | false =>
      obtain ⟨m, rfl⟩ : ∃ q, m = q + 1 := ⟨m - 1, by omega⟩
      obtain ⟨m', rfl⟩ : ∃ q, m' = q + 1 := ⟨m' - 1, by omega⟩
      exact ⟨t', u', hR', by simp [impl_minimalPairs_L4], by simp [spec_l20Pairs_L22]⟩
end
end T
open Go Go.Va
namespace T
section
variable {a : Net} {n s : Nat} {t : T4} {u : T3}
def V2 (n i j x y : Nat) : List Int := ((List.replicate n (0 : Int)).set i (x : Int)).set j (y : Int)
/-- a pair satisfies the constraints of its two variables -/
def fB (a : Net) (n i j x y : Nat) : Bool := satB (insL a [(i : Int), (j : Int)]) (V2 n i j x y)
def cells0 (a : Net) (n s i j : Nat) : List Bool := (List.range (s * s)).map fun p => decide (i < j) && fB a n i j (p / s) (p % s)
def first3 (a : Net) (n s : Nat) : T3 := (List.range n).map fun i => (List.range n).map (cells0 a n s i)
theorem div_w64 {s p : Nat} (hs : s ≤ 4) (hp : p < s * s) : w64 (Int.tdiv (p : Int) (s : Int)) = ((p / s : Nat) : Int) ∧ Int.tmod (p : Int) (s : Int) = ((p % s : Nat) : Int) := by
  obtain ⟨x, y, rfl, hx, hy⟩ := cell_of hp
  obtain ⟨h1, h2⟩ := cell_div hs hx hy
  rw [h1, h2]
  have e1 : (x * s + y) / s = x := by rw [Nat.mul_comm, Nat.mul_add_div (by omega), Nat.div_eq_of_lt hy]; omega
  have e2 : (x * s + y) % s = y := by rw [Nat.mul_comm, Nat.mul_add_mod, Nat.mod_eq_of_lt hy]
  rw [e1, e2]; exact ⟨rfl, rfl⟩
theorem cells_L13 (hN : NetOk a) (ha : a.1 = (n : Int)) (hb : a.2.1 = (s : Int)) {i j : Nat} (hi : i < n) (hj : j < n) (there row : List (List (List Bool))) (row' : List (List Bool)) :
    spec_l20Pairs_L13 fuel ((a.1, (a.2.1, a.2.2)), (n : Int), (s : Int), there, (i : Int), row', (j : Int), List.replicate (Int.toNat (w64 ((s : Int) * (s : Int)))) (false : Bool), insL a [(i : Int), (j : Int)], 0) =
      some ((a.1, (a.2.1, a.2.2)), (n : Int), (s : Int), there, (i : Int), row', (j : Int), cells0 a n s i j) := by
  have hn9 : n ≤ 9 := by have := hN.hv; omega
  have hs4 : s ≤ 4 := by have := hN.hn; omega
  have hs0 : 0 < s := by have := hN.hn; omega
  have hss : s * s ≤ 4 * 4 := Nat.mul_le_mul hs4 hs4
  have ess : w64 ((s : Int) * (s : Int)) = ((s * s : Nat) : Int) := by
    have e : (s : Int) * (s : Int) = ((s * s : Nat) : Int) := by push_cast; rfl
    rw [e, w64_id (by omega) (by omega)]
  have hsn : ¬ ((s : Int) = 0) := by omega
  rw [ess, Int.toNat_natCast]
  by_cases hij : i < j
  · have := fillX0 (List.range (s * s)) (fun m o p => spec_l20Pairs_L13 m ((a.1, (a.2.1, a.2.2)), (n : Int), (s : Int), there, (i : Int), row', (j : Int), o, insL a [(i : Int), (j : Int)], p))
      (fun p => fB a n i j (p / s) (p % s)) (fun o => some ((a.1, (a.2.1, a.2.2)), (n : Int), (s : Int), there, (i : Int), row', (j : Int), o)) (fun m o p hp hlo => ?_) (fun m o hlo => ?_) (n := fuel) (out := List.replicate (s * s) false) (by simp) (by unfold fuel; simp; omega)
    · have e : cells0 a n s i j = (List.range (s * s)).map fun p => fB a n i j (p / s) (p % s) := by
        unfold cells0; simp [hij]
      rw [e]; exact this
    · rw [List.length_range] at hp hlo
      have hpo : p < o.length := by omega
      have hij' : (i : Int) < (j : Int) := by omega
      have hp' : (p : Int) < ((s * s : Nat) : Int) := by omega
      obtain ⟨w1, w2⟩ := div_w64 hs4 hp
      have hlim : 0 ≤ (n : Int) ∧ (n : Int) ≤ (n : Int) ∧ (n : Int) ≤ (lim : Int) := by unfold lim; omega
      have q1 : i < (List.replicate n (0 : Int)).length := by simpa using hi
      have q2 : j < ((List.replicate n (0 : Int)).set i ((p / s : Nat) : Int)).length := by simpa using hj
      have hV : ((List.replicate n (0 : Int)).set i ((p / s : Nat) : Int)).set j ((p % s : Nat) : Int) = V2 n i j (p / s) (p % s) := rfl
      have hh := spec_l20Hold_ok hN (l := insL a [(i : Int), (j : Int)]) (insL_len hN) insL_in (vs := V2 n i j (p / s) (p % s)) (by unfold V2; simp [ha])
      have e0 : satB (insL a [(i : Int), (j : Int)]) (V2 n i j (p / s) (p % s)) = fB a n i j (p / s) (p % s) := rfl
      simp only [spec_l20Pairs_L13, ess, decide_eq_true hp', decide_eq_true hij', if_true, hlim, and_self, ne_eq, hsn, not_false_eq_true, Int.toNat_natCast, inb_nat, q1, w1, w2, stt_nat, q2, hV, hh, e0, Option.bind_some, hpo, List.getElem_range, w64_succ (show p < 4611686018427387904 by omega)]
    · simp only [spec_l20Pairs_L13, ess, List.length_range]
      rw [if_neg (by simp)]
  · have hij' : ¬ (i : Int) < (j : Int) := by omega
    have e : List.replicate (s * s) false = cells0 a n s i j := by
      unfold cells0
      simp only [decide_eq_false hij, Bool.false_and]
      rw [List.map_const', List.length_range]
    obtain ⟨f, hf⟩ : ∃ f, fuel = f + 1 := ⟨fuel - 1, rfl⟩
    rw [hf]
    simp only [spec_l20Pairs_L13, ess, decide_eq_false hij', Bool.false_eq_true, if_false, e]
    cases decide ((0 : Int) < ((s * s : Nat) : Int)) <;> simp
theorem first_L8 (hN : NetOk a) (ha : a.1 = (n : Int)) (hb : a.2.1 = (s : Int)) {i : Nat} (hi : i < n) (there : T3) :
    spec_l20Pairs_L8 fuel ((a.1, (a.2.1, a.2.2)), (n : Int), (s : Int), there, (i : Int), [], 0) = some ((a.1, (a.2.1, a.2.2)), (n : Int), (s : Int), there, (i : Int), (List.range n).map (cells0 a n s i)) := by
  have hn9 : n ≤ 9 := by have := hN.hv; omega
  have hs4 : s ≤ 4 := by have := hN.hn; omega
  have hss : s * s ≤ 4 * 4 := Nat.mul_le_mul hs4 hs4
  have ess : w64 ((s : Int) * (s : Int)) = ((s * s : Nat) : Int) := by
    have e : (s : Int) * (s : Int) = ((s * s : Nat) : Int) := by push_cast; rfl
    rw [e, w64_id (by omega) (by omega)]
  have := forS n (fun m o p => spec_l20Pairs_L8 m ((a.1, (a.2.1, a.2.2)), (n : Int), (s : Int), there, (i : Int), o, p)) (fun k => (List.range k).map (cells0 a n s i))
    (r := some ((a.1, (a.2.1, a.2.2)), (n : Int), (s : Int), there, (i : Int), (List.range n).map (cells0 a n s i))) (fun m j hj => ?_) (fun m => ?_) (n := fuel) (by unfold fuel; omega)
  · exact this
  · have key := cells_L13 hN ha hb hi hj there [] ((List.range j).map (cells0 a n s i))
    have hw := spec_l20Inside_ok hN (vars := [(i : Int), (j : Int)]) (by simp)
    have hj' : (j : Int) < (n : Int) := by omega
    have hlim : 0 ≤ w64 ((s : Int) * (s : Int)) ∧ w64 ((s : Int) * (s : Int)) ≤ w64 ((s : Int) * (s : Int)) ∧ w64 ((s : Int) * (s : Int)) ≤ (lim : Int) := by rw [ess]; unfold lim; omega
    rw [List.range_succ, List.map_append]
    simp only [spec_l20Pairs_L8, decide_eq_true hj', if_true, hlim, and_self, hw, key, Option.bind_some, w64_succ (show j < 4611686018427387904 by omega)]
    rw [if_pos (by unfold lim; simp; omega)]; rfl
  · simp only [spec_l20Pairs_L8]
    rw [if_neg (by simp)]
theorem first_L4 (hN : NetOk a) (ha : a.1 = (n : Int)) (hb : a.2.1 = (s : Int)) :
    spec_l20Pairs_L4 fuel ((a.1, (a.2.1, a.2.2)), (n : Int), (s : Int), [], 0) = some ((a.1, (a.2.1, a.2.2)), (n : Int), first3 a n s) := by
  have hn9 : n ≤ 9 := by have := hN.hv; omega
  have := forS n (fun m o p => spec_l20Pairs_L4 m ((a.1, (a.2.1, a.2.2)), (n : Int), (s : Int), o, p)) (fun k => (List.range k).map fun i => (List.range n).map (cells0 a n s i))
    (r := some ((a.1, (a.2.1, a.2.2)), (n : Int), first3 a n s)) (fun m i hi => ?_) (fun m => ?_) (n := fuel) (by unfold fuel; omega)
  · exact this
  · have hi' : (i : Int) < (n : Int) := by omega
    rw [List.range_succ, List.map_append]
    simp only [spec_l20Pairs_L4, decide_eq_true hi', if_true, first_L8 hN ha hb hi, Option.bind_some, w64_succ (show i < 4611686018427387904 by omega)]
    rw [if_pos (by unfold lim; simp; omega)]; rfl
  · simp only [spec_l20Pairs_L4]
    rw [if_neg (by simp)]; rfl
theorem first3_ok : Ok3 n (s * s) (first3 a n s) := by
  unfold first3
  refine ⟨by simp, fun i hi => ?_⟩
  rw [getD_of (by simpa using hi)]
  simp only [List.getElem_map, List.getElem_range]
  refine ⟨by simp, fun j hj => ?_⟩
  rw [getD_of (by simpa using hj)]
  simp [cells0]
theorem first3_r3 {i j x y : Nat} (hij : i < j) (hj : j < n) (hx : x < s) (hy : y < s) : r3 (first3 a n s) i j (x * s + y) = fB a n i j x y := by
  have hi : i < n := by omega
  have hp := cell_lt hx hy
  have e1 : (x * s + y) / s = x := by rw [Nat.mul_comm, Nat.mul_add_div (by omega), Nat.div_eq_of_lt hy]; omega
  have e2 : (x * s + y) % s = y := by rw [Nat.mul_comm, Nat.mul_add_mod, Nat.mod_eq_of_lt hy]
  have f1 : (first3 a n s).getD i [] = (List.range n).map (cells0 a n s i) := by
    unfold first3; rw [getD_of (by simpa using hi)]; simp
  have f2 : ((List.range n).map (cells0 a n s i)).getD j [] = cells0 a n s i j := by
    rw [getD_of (by simpa using hj)]; simp
  have f3 : (cells0 a n s i j).getD (x * s + y) false = fB a n i j x y := by
    rw [getD_of (by unfold cells0; simpa using hp)]
    simp [cells0, hij, e1, e2]
  unfold r3
  rw [f1, f2, f3]
end
end T
open Go Go.Va
namespace T
section
variable {a : Net} {n s : Nat} {t : T4} {u : T3}
/- the program's empty table -/
def PA (n s i : Nat) (t : T4) : Prop := t.length = n ∧ ∀ i', i' < i → Row4 n s (t.getD i' [])
def PB (n s i j : Nat) (t : T4) : Prop := PA n s i t ∧ (t.getD i []).length = n ∧ ∀ j', j' < j → Cell4 s ((t.getD i []).getD j' [])
def PC (n s i j x : Nat) (t : T4) : Prop := PB n s i j t ∧ ((t.getD i []).getD j []).length = s ∧ ∀ x', x' < x → (((t.getD i []).getD j []).getD x' []).length = s
theorem PA.set {i : Nat} (h : PA n s i t) (r : T3) : PA n s i (t.set i r) := by
  refine ⟨by rw [List.length_set]; exact h.1, fun i' hi' => ?_⟩
  rw [getD_set_of, if_neg (by omega)]; exact h.2 i' hi'
theorem PB.set {i j : Nat} (h : PB n s i j t) (hi : i < n) (c : List (List Bool)) : PB n s i j (t.set i ((t.getD i []).set j c)) := by
  have hl := h.1.1
  refine ⟨h.1.set _, ?_, fun j' hj' => ?_⟩
  · rw [getD_set_of, if_pos ⟨rfl, by omega⟩, List.length_set]; exact h.2.1
  · rw [getD_set_of, if_pos ⟨rfl, by omega⟩, getD_set_of, if_neg (by omega)]; exact h.2.2 j' hj'
theorem empty_L11 (hN : NetOk a) (ha : a.1 = (n : Int)) (hb : a.2.1 = (s : Int)) {i j : Nat} (hi : i < n) (hj : j < n) (t18 t19 t32 t33 : Int) (h : PC n s i j 0 t) :
    ∃ t', PC n s i j s t' ∧ impl_firstPairs_L11 fuel ((a.1, (a.2.1, a.2.2)), t, (i : Int), (j : Int), t18, t19, t32, t33, (s : Int), 0) = some ((a.1, (a.2.1, a.2.2)), t', (i : Int), t18, t19, t32, t33) := by
  have hs4 : s ≤ 4 := by have := hN.hn; omega
  refine forI s (fun m t p => impl_firstPairs_L11 m ((a.1, (a.2.1, a.2.2)), t, (i : Int), (j : Int), t18, t19, t32, t33, (s : Int), p)) (fun x t => PC n s i j x t)
    (fun t' => some ((a.1, (a.2.1, a.2.2)), t', (i : Int), t18, t19, t32, t33)) ?_ ?_ s 0 fuel t (by omega) (by unfold fuel; omega) h
  · intro x t hx h
    obtain ⟨hB, hl, hr⟩ := h
    have l1 : i < t.length := by rw [hB.1.1]; exact hi
    have l2 : j < (t.getD i []).length := by rw [hB.2.1]; exact hj
    have l3 : x < ((t.getD i []).getD j []).length := by omega
    have hx' : (x : Int) < (s : Int) := by omega
    have hlim : 0 ≤ (s : Int) ∧ (s : Int) ≤ (s : Int) ∧ (s : Int) ≤ (lim : Int) := by unfold lim; omega
    refine ⟨t.set i ((t.getD i []).set j (((t.getD i []).getD j []).set x (List.replicate s false))), ⟨hB.set hi _, ?_, fun x' hx'' => ?_⟩, fun m => ?_⟩
    · rw [getD_set_of, if_pos ⟨rfl, l1⟩, getD_set_of, if_pos ⟨rfl, l2⟩, List.length_set]; exact hl
    · rw [getD_set_of, if_pos ⟨rfl, l1⟩, getD_set_of, if_pos ⟨rfl, l2⟩, getD_set_of]
      split
      · simp
      · exact hr x' (by omega)
    · simp only [impl_firstPairs_L11, hb, decide_eq_true hx', if_true, inb_nat, gd_D, l1, l2, l3, hlim, and_self, Int.toNat_natCast, stt_nat, w64_succ (show x < 4611686018427387904 by omega)]
  · intro m t _
    simp only [impl_firstPairs_L11]
    rw [if_neg (by simp)]
theorem empty_L7 (hN : NetOk a) (ha : a.1 = (n : Int)) (hb : a.2.1 = (s : Int)) {i : Nat} (hi : i < n) (t18 t19 : Int) (h : PB n s i 0 t) :
    ∃ t', PB n s i n t' ∧ impl_firstPairs_L7 fuel ((a.1, (a.2.1, a.2.2)), t, (i : Int), t18, t19, (n : Int), 0) = some ((a.1, (a.2.1, a.2.2)), t', t18, t19) := by
  have hs4 : s ≤ 4 := by have := hN.hn; omega
  have hn9 : n ≤ 9 := by have := hN.hv; omega
  refine forI n (fun m t p => impl_firstPairs_L7 m ((a.1, (a.2.1, a.2.2)), t, (i : Int), t18, t19, (n : Int), p)) (fun j t => PB n s i j t)
    (fun t' => some ((a.1, (a.2.1, a.2.2)), t', t18, t19)) ?_ ?_ n 0 fuel t (by omega) (by unfold fuel; omega) h
  · intro j t hj h
    have l1 : i < t.length := by rw [h.1.1]; exact hi
    have l2 : j < (t.getD i []).length := by rw [h.2.1]; exact hj
    have hj' : (j : Int) < (n : Int) := by omega
    have hlim : 0 ≤ (s : Int) ∧ (s : Int) ≤ (s : Int) ∧ (s : Int) ≤ (lim : Int) := by unfold lim; omega
    have hset := h.set hi (List.replicate s [])
    have k1 : i < (t.set i ((t.getD i []).set j (List.replicate s ([] : List Bool)))).length := by rw [List.length_set]; exact l1
    have k2 : j < ((t.set i ((t.getD i []).set j (List.replicate s ([] : List Bool)))).getD i []).length := by rw [hset.2.1]; exact hj
    have hl : (((t.set i ((t.getD i []).set j (List.replicate s ([] : List Bool)))).getD i []).getD j []).length = s := by
      rw [getD_set_of, if_pos ⟨rfl, l1⟩, getD_set_of, if_pos ⟨rfl, l2⟩]; simp
    obtain ⟨t', hC, e⟩ := empty_L11 hN ha hb hi hj t18 t19 (n : Int) (j : Int) (t := t.set i ((t.getD i []).set j (List.replicate s ([] : List Bool)))) ⟨hset, hl, fun x' h => by omega⟩
    refine ⟨t', ⟨hC.1.1, hC.1.2.1, fun j' hj'' => ?_⟩, fun m => ?_⟩
    · rcases Nat.lt_or_ge j' j with h' | h'
      · exact hC.1.2.2 j' h'
      · have : j' = j := by omega
        subst this; exact ⟨hC.2.1, hC.2.2⟩
    · rw [hb] at e
      simp only [impl_firstPairs_L7, hb, decide_eq_true hj', if_true, inb_nat, gd_D, l1, l2, hlim, and_self, Int.toNat_natCast, stt_nat, k1, k2, hl, e, Option.bind_some, w64_succ (show j < 4611686018427387904 by omega)]
  · intro m t _
    simp only [impl_firstPairs_L7]
    rw [if_neg (by simp)]
theorem empty_L3 (hN : NetOk a) (ha : a.1 = (n : Int)) (hb : a.2.1 = (s : Int)) (h : PA n s 0 t) :
    ∃ t', Ok4 n s t' ∧ impl_firstPairs_L3 fuel ((a.1, (a.2.1, a.2.2)), t, (n : Int), 0) = some ((a.1, (a.2.1, a.2.2)), t') := by
  have hn9 : n ≤ 9 := by have := hN.hv; omega
  refine forI n (fun m t p => impl_firstPairs_L3 m ((a.1, (a.2.1, a.2.2)), t, (n : Int), p)) (fun i t => PA n s i t)
    (fun t' => some ((a.1, (a.2.1, a.2.2)), t')) ?_ ?_ n 0 fuel t (by omega) (by unfold fuel; omega) h
  · intro i t hi h
    have l1 : i < t.length := by rw [h.1]; exact hi
    have hi' : (i : Int) < (n : Int) := by omega
    have hlim : 0 ≤ (n : Int) ∧ (n : Int) ≤ (n : Int) ∧ (n : Int) ≤ (lim : Int) := by unfold lim; omega
    have k1 : i < (t.set i (List.replicate n ([] : List (List Bool)))).length := by rw [List.length_set]; exact l1
    have hl : ((t.set i (List.replicate n ([] : List (List Bool)))).getD i []).length = n := by
      rw [getD_set_of, if_pos ⟨rfl, l1⟩]; simp
    obtain ⟨t', hB, e⟩ := empty_L7 hN ha hb hi (n : Int) (i : Int) (t := t.set i (List.replicate n ([] : List (List Bool)))) ⟨h.set _, hl, fun j' h => by omega⟩
    refine ⟨t', ⟨hB.1.1, fun i' hi'' => ?_⟩, fun m => ?_⟩
    · rcases Nat.lt_or_ge i' i with h' | h'
      · exact hB.1.2 i' h'
      · have : i' = i := by omega
        subst this; exact ⟨hB.2.1, hB.2.2⟩
    · rw [ha] at e
      simp only [impl_firstPairs_L3, ha, decide_eq_true hi', if_true, inb_nat, gd_D, l1, hlim, and_self, Int.toNat_natCast, stt_nat, k1, hl, e, Option.bind_some, w64_succ (show i < 4611686018427387904 by omega)]
  · intro m t _
    simp only [impl_firstPairs_L3]
    rw [if_neg (by simp)]
/- the program's first table -/
def Lt4 (i' j' x' y' i j x y : Nat) : Prop := i' < i ∨ (i' = i ∧ (j' < j ∨ (j' = j ∧ (x' < x ∨ (x' = x ∧ y' < y)))))
theorem lt4_step {i' j' x' y' i j x y : Nat} (h : Lt4 i' j' x' y' i j x (y + 1)) (e : ¬ (i = i' ∧ j = j' ∧ x = x' ∧ y = y')) : Lt4 i' j' x' y' i j x y := by
  unfold Lt4 at h ⊢
  rcases h with h | ⟨h1, h | ⟨h2, h | ⟨h3, h⟩⟩⟩
  · exact .inl h
  · exact .inr ⟨h1, .inl h⟩
  · exact .inr ⟨h1, .inr ⟨h2, .inl h⟩⟩
  · exact .inr ⟨h1, .inr ⟨h2, .inr ⟨h3, by omega⟩⟩⟩
def Done (a : Net) (n s : Nat) (i j x y : Nat) (q : T4 × List Int) : Prop := Ok4 n s q.1 ∧ q.2.length = n ∧
  ∀ i' j' x' y', i' < j' → j' < n → x' < s → y' < s → Lt4 i' j' x' y' i j x y → r4 q.1 i' j' x' y' = fB a n i' j' x' y' ∧ r4 q.1 j' i' y' x' = fB a n i' j' x' y'
theorem fill_L29 (hN : NetOk a) (ha : a.1 = (n : Int)) (hb : a.2.1 = (s : Int)) {i j x : Nat} (hij : i < j) (hj : j < n) (hx : x < s) (t75 t76 : Int) {q : T4 × List Int} (h : Done a n s i j x 0 q) :
    ∃ q', Done a n s i j (x + 1) 0 q' ∧ impl_firstPairs_L29 fuel ((a.1, (a.2.1, a.2.2)), q.1, q.2, (i : Int), (j : Int), insL a [(i : Int), (j : Int)], (x : Int), 0, t75, t76) =
      some ((a.1, (a.2.1, a.2.2)), q'.1, q'.2, (i : Int), (j : Int), insL a [(i : Int), (j : Int)], (x : Int), t75, t76) := by
  have hs4 : s ≤ 4 := by have := hN.hn; omega
  have hi : i < n := by omega
  have key := forI s (fun m (q : T4 × List Int) p => impl_firstPairs_L29 m ((a.1, (a.2.1, a.2.2)), q.1, q.2, (i : Int), (j : Int), insL a [(i : Int), (j : Int)], (x : Int), p, t75, t76)) (fun y q => Done a n s i j x y q)
    (fun q' => some ((a.1, (a.2.1, a.2.2)), q'.1, q'.2, (i : Int), (j : Int), insL a [(i : Int), (j : Int)], (x : Int), t75, t76)) ?_ ?_ s 0 fuel q (by omega) (by unfold fuel; omega) h
  · obtain ⟨q', ⟨h1, h2, h3⟩, e⟩ := key
    refine ⟨q', ⟨h1, h2, fun i' j' x' y' g1 g2 g3 g4 g5 => h3 i' j' x' y' g1 g2 g3 g4 ?_⟩, e⟩
    unfold Lt4 at g5 ⊢; omega
  · rintro y ⟨t, vs⟩ hy ⟨h4, hl, hd⟩
    dsimp only at h4 hl hd ⊢
    obtain ⟨a1, a2, a3, a4⟩ := h4.at hi hj hx
    obtain ⟨b1, b2, b3, b4⟩ := h4.at hj hi hy
    have a5 : y < (((t.getD i []).getD j []).getD x []).length := by omega
    have d1 : i < vs.length := by omega
    have d2 : j < (vs.set i (x : Int)).length := by simp; omega
    have hl2 : ((vs.set i (x : Int)).set j (y : Int)).length = n := by simpa using hl
    have v1 : valI ((vs.set i (x : Int)).set j (y : Int)) (i : Int) = (x : Int) := by rw [valI_set d2, if_neg (by omega), valI_set d1, if_pos rfl]
    have v2 : valI ((vs.set i (x : Int)).set j (y : Int)) (j : Int) = (y : Int) := by rw [valI_set d2, if_pos rfl]
    have hsat := impl_satisfies_ok hN (l := insL a [(i : Int), (j : Int)]) (insL_len hN) insL_in (vs := (vs.set i (x : Int)).set j (y : Int)) (by rw [hl2, ha])
    have hcong : satB (insL a [(i : Int), (j : Int)]) ((vs.set i (x : Int)).set j (y : Int)) = fB a n i j x y := by
      refine satB_congr fun v hv => ?_
      have q1 : i < (List.replicate n (0 : Int)).length := by simpa using hi
      have q2 : j < ((List.replicate n (0 : Int)).set i (x : Int)).length := by simpa using hj
      simp only [List.mem_cons, List.not_mem_nil, or_false] at hv
      unfold V2
      rcases hv with rfl | rfl
      · rw [v1, valI_set q2, if_neg (by omega), valI_set q1, if_pos rfl]
      · rw [v2, valI_set q2, if_pos rfl]
    rw [hcong] at hsat
    have h5 := s4_ok h4 (i := i) (j := j) (x := x) (y := y) (b := fB a n i j x y)
    obtain ⟨m1, m2, m3, m4⟩ := h5.at hj hi hy
    have m5 : x < ((((s4 t i j x y (fB a n i j x y)).getD j []).getD i []).getD y []).length := by omega
    have es : t.set i ((t.getD i []).set j (((t.getD i []).getD j []).set x ((((t.getD i []).getD j []).getD x []).set y (fB a n i j x y)))) = s4 t i j x y (fB a n i j x y) := rfl
    have es2 : (s4 t i j x y (fB a n i j x y)).set j (((s4 t i j x y (fB a n i j x y)).getD j []).set i ((((s4 t i j x y (fB a n i j x y)).getD j []).getD i []).set y (((((s4 t i j x y (fB a n i j x y)).getD j []).getD i []).getD y []).set x (fB a n i j x y)))) = s4 (s4 t i j x y (fB a n i j x y)) j i y x (fB a n i j x y) := rfl
    have hy' : (y : Int) < (s : Int) := by omega
    refine ⟨(s4 (s4 t i j x y (fB a n i j x y)) j i y x (fB a n i j x y), (vs.set i (x : Int)).set j (y : Int)), ⟨s4_ok h5, hl2, fun i' j' x' y' g1 g2 g3 g4 g5 => ?_⟩, fun m => ?_⟩
    · dsimp only
      rw [r4_s4 h5 hj hi hy hx, r4_s4 h4 hi hj hx hy, r4_s4 h5 hj hi hy hx, r4_s4 h4 hi hj hx hy]
      by_cases e : i = i' ∧ j = j' ∧ x = x' ∧ y = y'
      · obtain ⟨rfl, rfl, rfl, rfl⟩ := e; simp
      · have e4 : ¬ (j = i' ∧ i = j' ∧ y = x' ∧ x = y') := by omega
        have e5 : ¬ (i = j' ∧ j = i' ∧ x = y' ∧ y = x') := by omega
        have e6 : ¬ (j = j' ∧ i = i' ∧ y = y' ∧ x = x') := by omega
        simp only [if_neg e, if_neg e4, if_neg e5, if_neg e6]
        exact hd i' j' x' y' g1 g2 g3 g4 (lt4_step g5 e)
    · simp only [impl_firstPairs_L29, hb, decide_eq_true hy', if_true, inb_nat, gd_D, stt_nat, d1, d2, hsat, Option.bind_some, a1, a2, a3, b1, b2, b3, a5, es, m5, es2, w64_succ (show y < 4611686018427387904 by omega)]
  · rintro m ⟨t, vs⟩ _
    simp only [impl_firstPairs_L29, hb]
    rw [if_neg (by simp)]
theorem fill_L26 (hN : NetOk a) (ha : a.1 = (n : Int)) (hb : a.2.1 = (s : Int)) {i j : Nat} (hij : i < j) (hj : j < n) (t75 t76 : Int) {q : T4 × List Int} (h : Done a n s i j 0 0 q) :
    ∃ q', Done a n s i (j + 1) 0 0 q' ∧ impl_firstPairs_L26 fuel ((a.1, (a.2.1, a.2.2)), q.1, q.2, (i : Int), (j : Int), insL a [(i : Int), (j : Int)], 0, t75, t76) =
      some ((a.1, (a.2.1, a.2.2)), q'.1, q'.2, (i : Int), (j : Int), t75, t76) := by
  have hs4 : s ≤ 4 := by have := hN.hn; omega
  have key := forI s (fun m (q : T4 × List Int) p => impl_firstPairs_L26 m ((a.1, (a.2.1, a.2.2)), q.1, q.2, (i : Int), (j : Int), insL a [(i : Int), (j : Int)], p, t75, t76)) (fun x q => Done a n s i j x 0 q)
    (fun q' => some ((a.1, (a.2.1, a.2.2)), q'.1, q'.2, (i : Int), (j : Int), t75, t76)) ?_ ?_ s 0 fuel q (by omega) (by unfold fuel; omega) h
  · obtain ⟨q', ⟨h1, h2, h3⟩, e⟩ := key
    refine ⟨q', ⟨h1, h2, fun i' j' x' y' g1 g2 g3 g4 g5 => h3 i' j' x' y' g1 g2 g3 g4 ?_⟩, e⟩
    unfold Lt4 at g5 ⊢; omega
  · rintro x ⟨t, vs⟩ hx h
    obtain ⟨q', h1, e⟩ := fill_L29 hN ha hb hij hj hx t75 t76 h
    have hx' : (x : Int) < (s : Int) := by omega
    refine ⟨q', h1, fun m => ?_⟩
    dsimp only at e ⊢
    rw [hb] at e
    simp only [impl_firstPairs_L26, hb, decide_eq_true hx', if_true, e, Option.bind_some, w64_succ (show x < 4611686018427387904 by omega)]
  · rintro m ⟨t, vs⟩ _
    simp only [impl_firstPairs_L26, hb]
    rw [if_neg (by simp)]
theorem fill_L22 (hN : NetOk a) (ha : a.1 = (n : Int)) (hb : a.2.1 = (s : Int)) {i : Nat} (hi : i < n) (t75 t76 : Int) {q : T4 × List Int} (h : Done a n s i 0 0 0 q) :
    ∃ q', Done a n s (i + 1) 0 0 0 q' ∧ impl_firstPairs_L22 fuel ((a.1, (a.2.1, a.2.2)), q.1, q.2, (i : Int), ((i + 1 : Nat) : Int), t75, t76) =
      some ((a.1, (a.2.1, a.2.2)), q'.1, q'.2, t75, t76) := by
  have hn9 : n ≤ 9 := by have := hN.hv; omega
  have key := forI n (fun m (q : T4 × List Int) p => impl_firstPairs_L22 m ((a.1, (a.2.1, a.2.2)), q.1, q.2, (i : Int), p, t75, t76)) (fun j q => i < j ∧ Done a n s i j 0 0 q)
    (fun q' => some ((a.1, (a.2.1, a.2.2)), q'.1, q'.2, t75, t76)) ?_ ?_ (n - (i + 1)) (i + 1) fuel q (by omega) (by unfold fuel; omega) ⟨by omega, h.1, h.2.1, fun i' j' x' y' g1 g2 g3 g4 g5 => h.2.2 i' j' x' y' g1 g2 g3 g4 (by unfold Lt4 at g5 ⊢; omega)⟩
  · obtain ⟨q', ⟨_, h1, h2, h3⟩, e⟩ := key
    refine ⟨q', ⟨h1, h2, fun i' j' x' y' g1 g2 g3 g4 g5 => h3 i' j' x' y' g1 g2 g3 g4 ?_⟩, e⟩
    unfold Lt4 at g5 ⊢; omega
  · rintro j ⟨t, vs⟩ hj ⟨hij, h⟩
    obtain ⟨q', h1, e⟩ := fill_L26 hN ha hb hij hj t75 t76 h
    have hw := impl_within_ok hN (vars := [(i : Int), (j : Int)]) (by simp)
    have hj' : (j : Int) < (n : Int) := by omega
    refine ⟨q', ⟨by omega, h1⟩, fun m => ?_⟩
    dsimp only at e ⊢
    rw [ha] at e hw
    simp only [impl_firstPairs_L22, ha, decide_eq_true hj', if_true, hw, e, Option.bind_some, w64_succ (show j < 4611686018427387904 by omega)]
  · rintro m ⟨t, vs⟩ _
    simp only [impl_firstPairs_L22, ha]
    rw [if_neg (by simp)]
theorem fill_L19 (hN : NetOk a) (ha : a.1 = (n : Int)) (hb : a.2.1 = (s : Int)) {q : T4 × List Int} (h : Done a n s 0 0 0 0 q) :
    ∃ q', Done a n s n 0 0 0 q' ∧ impl_firstPairs_L19 fuel ((a.1, (a.2.1, a.2.2)), q.1, q.2, (n : Int), 0) = some q'.1 := by
  have hn9 : n ≤ 9 := by have := hN.hv; omega
  refine forI n (fun m (q : T4 × List Int) p => impl_firstPairs_L19 m ((a.1, (a.2.1, a.2.2)), q.1, q.2, (n : Int), p)) (fun i q => Done a n s i 0 0 0 q)
    (fun q' => some q'.1) ?_ ?_ n 0 fuel q (by omega) (by unfold fuel; omega) h
  · rintro i ⟨t, vs⟩ hi h
    obtain ⟨q', h1, e⟩ := fill_L22 hN ha hb hi (n : Int) (i : Int) h
    have hi' : (i : Int) < (n : Int) := by omega
    refine ⟨q', h1, fun m => ?_⟩
    dsimp only at e ⊢
    simp only [impl_firstPairs_L19, decide_eq_true hi', if_true, e, Option.bind_some, w64_succ (show i < 4611686018427387904 by omega)]
  · rintro m ⟨t, vs⟩ _
    simp only [impl_firstPairs_L19]
    rw [if_neg (by simp)]
theorem impl_firstPairs_ok (hN : NetOk a) (ha : a.1 = (n : Int)) (hb : a.2.1 = (s : Int)) : ∃ t, Rel34 n s t (first3 a n s) ∧ impl_firstPairs (a.1, (a.2.1, a.2.2)) = some t := by
  have hlim : 0 ≤ (n : Int) ∧ (n : Int) ≤ (n : Int) ∧ (n : Int) ≤ (lim : Int) := by have := hN.hv; unfold lim; omega
  obtain ⟨t1, h1, e1⟩ := empty_L3 hN ha hb (t := List.replicate n ([] : T3)) ⟨by simp, fun i' h => by omega⟩
  obtain ⟨⟨t2, vs⟩, h2, e2⟩ := fill_L19 hN ha hb (q := (t1, List.replicate n (0 : Int))) ⟨h1, by simp, fun i' j' x' y' _ _ _ _ g => by unfold Lt4 at g; omega⟩
  refine ⟨t2, ⟨h2.1, first3_ok, fun i j x y hij hj hx hy => ?_⟩, ?_⟩
  · rw [first3_r3 hij hj hx hy]
    exact h2.2.2 i j x y hij hj hx hy (by unfold Lt4; omega)
  · have hl1 : ((t1.length : Nat) : Int) = (n : Int) := by rw [h1.1]
    rw [ha] at e1 e2
    dsimp only at e2
    unfold impl_firstPairs
    simp only [ha, hlim, and_self, if_true, Int.toNat_natCast, List.length_replicate, e1, Option.bind_some, hl1, e2]
/-- the minimal pairs of both -/
theorem pairs_ok (hN : NetOk a) (ha : a.1 = (n : Int)) (hb : a.2.1 = (s : Int)) : ∃ t u, Rel34 n s t u ∧ impl_minimalPairs (a.1, (a.2.1, a.2.2)) = some t ∧ spec_l20Pairs (a.1, (a.2.1, a.2.2)) = some u := by
  have hn9 : n ≤ 9 := by have := hN.hv; omega
  have hs4 : s ≤ 4 := by have := hN.hn; omega
  have hlim : 0 ≤ (n : Int) ∧ (n : Int) ≤ (n : Int) ∧ (n : Int) ≤ (lim : Int) := by unfold lim; omega
  obtain ⟨t1, hR, e1⟩ := impl_firstPairs_ok hN ha hb
  have hmu : mu3 (first3 a n s) ≤ n * (n * (s * s)) := mu3_le first3_ok
  have hss : s * s ≤ 4 * 4 := Nat.mul_le_mul hs4 hs4
  have hb1 : n * (n * (s * s)) ≤ 9 * (9 * (4 * 4)) := Nat.mul_le_mul hn9 (Nat.mul_le_mul hn9 hss)
  obtain ⟨t2, u2, h1, e2, e3⟩ := again_sim hN ha hb 2000 t1 (List.replicate n (0 : Int)) (first3 a n s) hR (by simp) (by omega) fuel fuel (by unfold fuel; omega) (by unfold fuel; omega)
  have e4 := first_L4 hN ha hb
  refine ⟨t2, u2, h1, ?_, ?_⟩
  · rw [ha] at e1 e2
    unfold impl_minimalPairs
    simp only [ha, e1, Option.bind_some, hlim, and_self, if_true, Int.toNat_natCast, e2]
  · rw [ha, hb] at e3 e4
    unfold spec_l20Pairs
    simp only [ha, hb, e4, Option.bind_some, e3]
end
end T
set_option linter.unusedVariables false
open Go Go.Va
namespace T
def impl_GreedyByPairs_L6 : Nat → ((Int × Int × (List ((List Int) × Int × (List (List Int))))) × (List (List (List (List Bool)))) × (List Int) × Int) → Option ((Int × Int × (List ((List Int) × Int × (List (List Int))))) × (List (List (List (List Bool)))) × (List Int))
  | 0, _ => none
  | n + 1, (t1, t4, t5, t6) =>
    if decide (t6 < t1.2.1) then
      if (t5.length : Int) == 0 then
        if inb 0 t4 then
          if inb 1 (gd t4 0 []) then
            if inb t6 (gd (gd t4 0 []) 1 []) then
              (impl_marked (gd (gd (gd t4 0 []) 1 []) t6 [])).bind fun r3 =>
                if decide ((r3.length : Int) > 0) then
                  if t5.length + [t6].length ≤ lim then
                    impl_GreedyByPairs_L6 n ((t1.1, (t1.2.1, t1.2.2)), t4, t5 ++ [t6], w64 (t6 + 1))
                  else none
                else
                  impl_GreedyByPairs_L6 n ((t1.1, (t1.2.1, t1.2.2)), t4, t5, w64 (t6 + 1))
            else none
          else none
        else none
      else
        some ((t1.1, (t1.2.1, t1.2.2)), t4, t5)
    else
      some ((t1.1, (t1.2.1, t1.2.2)), t4, t5)
def impl_GreedyByPairs_L18 : Nat → (Unit × (Int × Int × (List ((List Int) × Int × (List (List Int))))) × (List (List (List (List Bool)))) × (List Int) × Int × Int × Bool × Int × Int) → Option ((Int × Int × (List ((List Int) × Int × (List (List Int))))) × (List (List (List (List Bool)))) × (List Int) × Int × Int × Bool)
  | 0, _ => none
  | n + 1, (al74, t1, t4, t5, t7, t8, t9, t75, t76) =>
    if decide (t76 < t75) then
      if inb t76 t5 then
        if t9 then
          if inb t76 t4 then
            if inb t7 (gd t4 t76 []) then
              if inb (gd t5 t76 0) (gd (gd t4 t76 []) t7 []) then
                if inb t8 (gd (gd (gd t4 t76 []) t7 []) (gd t5 t76 0) []) then
                  impl_GreedyByPairs_L18 n ((), (t1.1, (t1.2.1, t1.2.2)), t4, t5, t7, t8, gd (gd (gd (gd t4 t76 []) t7 []) (gd t5 t76 0) []) t8 false, t75, w64 (t76 + 1))
                else none
              else none
            else none
          else none
        else
          impl_GreedyByPairs_L18 n ((), (t1.1, (t1.2.1, t1.2.2)), t4, t5, t7, t8, false, t75, w64 (t76 + 1))
      else none
    else
      some ((t1.1, (t1.2.1, t1.2.2)), t4, t5, t7, t8, t9)
def impl_GreedyByPairs_L14 : Nat → ((Int × Int × (List ((List Int) × Int × (List (List Int))))) × (List (List (List (List Bool)))) × (List Int) × Int × Int) → Option ((Int × Int × (List ((List Int) × Int × (List (List Int))))) × (List (List (List (List Bool)))) × (List Int) × Int)
  | 0, _ => none
  | n + 1, (t1, t4, t5, t7, t8) =>
    if decide (t8 < t1.2.1) then
      if (t5.length : Int) == t7 then
        (impl_GreedyByPairs_L18 fuel ((), (t1.1, (t1.2.1, t1.2.2)), t4, t5, t7, t8, true, (t5.length : Int), 0)).bind fun s5 =>
          if s5.2.2.2.2.2 then
            if s5.2.2.1.length + [s5.2.2.2.2.1].length ≤ lim then
              impl_GreedyByPairs_L14 n ((s5.1.1, (s5.1.2.1, s5.1.2.2)), s5.2.1, s5.2.2.1 ++ [s5.2.2.2.2.1], s5.2.2.2.1, w64 (s5.2.2.2.2.1 + 1))
            else none
          else
            impl_GreedyByPairs_L14 n ((s5.1.1, (s5.1.2.1, s5.1.2.2)), s5.2.1, s5.2.2.1, s5.2.2.2.1, w64 (s5.2.2.2.2.1 + 1))
      else
        some ((t1.1, (t1.2.1, t1.2.2)), t4, t5, t7)
    else
      some ((t1.1, (t1.2.1, t1.2.2)), t4, t5, t7)
def impl_GreedyByPairs_L11 : Nat → ((Int × Int × (List ((List Int) × Int × (List (List Int))))) × (List (List (List (List Bool)))) × (List Int) × Int) → Option ((Int × Int × (List ((List Int) × Int × (List (List Int))))) × (List Int))
  | 0, _ => none
  | n + 1, (t1, t4, t5, t7) =>
    if decide (t7 < t1.1) then
      if (t5.length : Int) == t7 then
        (impl_GreedyByPairs_L14 fuel ((t1.1, (t1.2.1, t1.2.2)), t4, t5, t7, 0)).bind fun s5 =>
          impl_GreedyByPairs_L11 n ((s5.1.1, (s5.1.2.1, s5.1.2.2)), s5.2.1, s5.2.2.1, w64 (s5.2.2.2 + 1))
      else
        some ((t1.1, (t1.2.1, t1.2.2)), t5)
    else
      some ((t1.1, (t1.2.1, t1.2.2)), t5)
def impl_GreedyByPairs (t0 : Int × Int × (List ((List Int) × Int × (List (List Int))))) : Option ((List Int) × Bool) :=
  (impl_IsNetwork (t0.1, (t0.2.1, t0.2.2))).bind fun r1 =>
    if !r1 then
      some ([], false)
    else
      if decide (t0.1 < 2) then
        some ([], false)
      else
        (impl_minimalPairs (t0.1, (t0.2.1, t0.2.2))).bind fun r2 =>
          (impl_GreedyByPairs_L6 fuel ((t0.1, (t0.2.1, t0.2.2)), r2, [], 0)).bind fun s3 =>
            (impl_GreedyByPairs_L11 fuel ((s3.1.1, (s3.1.2.1, s3.1.2.2)), s3.2.1, s3.2.2, 1)).bind fun s4 =>
              if decide ((s4.2.length : Int) < s4.1.1) then
                some ([], false)
              else
                some (s4.2, true)
def laws_FnExactGreedyByPairs (t0 : Int × Int × (List ((List Int) × Int × (List (List Int))))) : Option (Bool) :=
  (laws_szNetwork (t0.1, (t0.2.1, t0.2.2)) 1048576).bind fun r1 =>
    if decide (r1 < 0) then
      some true
    else
      (laws_toNetwork (t0.1, (t0.2.1, t0.2.2))).bind fun r2 =>
        (spec_GreedyByPairs (r2.1, (r2.2.1, r2.2.2))).bind fun r3 =>
          (laws_toNetwork (t0.1, (t0.2.1, t0.2.2))).bind fun r4 =>
            (impl_GreedyByPairs (r4.1, (r4.2.1, r4.2.2))).bind fun r5 =>
              (laws_eqIntS r5.1 r3.1).bind fun r6 =>
                if !r6 then
                  some false
                else
                  if r5.2 != r3.2 then
                    some false
                  else
                    (laws_toNetwork (t0.1, (t0.2.1, t0.2.2))).bind fun r7 =>
                      (laws_eqNetwork (r4.1, (r4.2.1, r4.2.2)) (r7.1, (r7.2.1, r7.2.2))).bind fun r8 =>
                        if !r8 then
                          some false
                        else
                          (laws_markNetwork (r4.1, (r4.2.1, r4.2.2)) 1).bind fun r9 =>
                            if decide (r9.2 < 0) then
                              some false
                            else
                              (laws_eqIntS r5.1 r3.1).bind fun r10 =>
                                if !r10 then
                                  some false
                                else
                                  if r5.2 != r3.2 then
                                    some false
                                  else
                                    (laws_markIntS r5.1 1).bind fun r11 =>
                                      (laws_heldIntS r11.1 1).bind fun r12 =>
                                        if decide (r12 < 0) then
                                          some false
                                        else
                                          if r12 != r11.2 then
                                            some false
                                          else
                                            (laws_toNetwork (t0.1, (t0.2.1, t0.2.2))).bind fun r13 =>
                                              (impl_GreedyByPairs (r13.1, (r13.2.1, r13.2.2))).bind fun r14 =>
                                                (laws_eqIntS r14.1 r3.1).bind fun r15 =>
                                                  if !r15 then
                                                    some false
                                                  else
                                                    if r14.2 != r3.2 then
                                                      some false
                                                    else
                                                      (laws_heldIntS r11.1 1).bind fun r16 =>
                                                        if decide (r16 < 0) then
                                                          some false
                                                        else
                                                          if r16 != r11.2 then
                                                            some false
                                                          else
                                                            some true
end T
open Go Go.Va
namespace T
theorem accO {β : Type} (N : Nat) (L : Nat → Bool → Int → Option β) (p : Nat → Bool) (f : Bool → Option β)
    (hs : ∀ n b (k : Nat), k < N → L (n + 1) b k = L n (b || p k) ((k + 1 : Nat) : Int)) (he : ∀ n b, L (n + 1) b (N : Nat) = f b) {n : Nat} (hn : N < n) (b : Bool) : L n b 0 = f (b || (List.range N).any p) := by
  have key : ∀ (n k : Nat) (b : Bool), k ≤ N → N - k < n → L n b k = f (b || (List.range' k (N - k)).any p) := by
    intro n
    induction n with
    | zero => intro k b _ h; omega
    | succ n ih =>
      intro k b hk hn
      rcases Nat.lt_or_ge k N with hlt | hge
      · rw [hs n b k hlt, ih (k + 1) _ hlt (by omega), show N - k = (N - (k + 1)) + 1 by omega, List.range'_succ, List.any_cons, Bool.or_assoc]
      · have : k = N := by omega
        subst this; rw [he]; simp
  have := key n 0 b (Nat.zero_le _) (by omega)
  rw [Nat.sub_zero, ← List.range_eq_range'] at this
  exact this
theorem mk_any {bs : List Bool} : decide (((mk bs).length : Int) > 0) = (List.range bs.length).any fun i => bs.getD i false := by
  unfold mk
  rw [List.length_map, Bool.eq_iff_iff, decide_eq_true_eq, List.any_eq_true]
  constructor
  · intro h
    have h : 0 < ((List.range bs.length).filter fun i => bs.getD i false).length := by omega
    obtain ⟨i, hi⟩ := List.length_pos_iff_exists_mem.1 h
    rw [List.mem_filter] at hi
    exact ⟨i, hi.1, hi.2⟩
  · rintro ⟨i, h1, h2⟩
    have : i ∈ (List.range bs.length).filter fun i => bs.getD i false := List.mem_filter.2 ⟨h1, h2⟩
    have := List.length_pos_of_mem this
    omega
section
variable {a : Net} {n s : Nat} {t : T4} {u : T3}
def cI (o : List Nat) : List Int := o.map fun x : Nat => (x : Int)
theorem cI_get {o : List Nat} {i : Nat} (h : i < o.length) : (cI o).getD i 0 = ((o.getD i 0 : Nat) : Int) := by
  unfold cI; rw [getD_of (by simpa using h), getD_of h]; simp
/-- which values go with those before -/
def goB (t : T4) (s : Nat) (o : List Nat) (v x : Nat) : Bool :=
  if v = 0 then (List.range s).any fun y => r4 t 0 1 x y else (List.range v).all fun w => r4 t w v (o.getD w 0) x
def greedy (t : T4) (s : Nat) : Nat → Option (List Nat)
  | 0 => some []
  | v + 1 => match greedy t s v with
    | none => none
    | some o => match (List.range s).find? (goB t s o v) with
      | some x => some (o ++ [x])
      | none => none
theorem greedy_ok : ∀ {v : Nat} {o : List Nat}, greedy t s v = some o → o.length = v ∧ ∀ x ∈ o, x < s
  | 0, o, h => by cases h; simp
  | v + 1, o, h => by
    simp only [greedy] at h
    split at h
    · cases h
    · rename_i o' h'
      obtain ⟨g1, g2⟩ := greedy_ok h'
      split at h
      · rename_i x hx
        cases h
        refine ⟨by simp [g1], fun y hy => ?_⟩
        rcases List.mem_append.1 hy with hy | hy
        · exact g2 y hy
        · simp at hy; subst hy
          have := List.mem_of_find?_eq_some hx
          exact List.mem_range.1 this
      · cases h
/- the reference's -/
theorem sg_L14 (hs4 : s ≤ 4) (hb : a.2.1 = (s : Int)) (hn9 : n ≤ 9) (hR : Rel34 n s t u) {v x : Nat} (hv : v < n) (hx : x < s) {o : List Nat} (ho : o.length = v) (hos : ∀ y ∈ o, y < s) (bst : Int) :
    spec_GreedyByPairs_L14 fuel ((a.1, (a.2.1, a.2.2)), u, cI o, (v : Int), bst, (x : Int), true, 0) = some ((a.1, (a.2.1, a.2.2)), u, cI o, (v : Int), bst, (x : Int), (List.range v).all fun w => r4 t w v (o.getD w 0) x) := by
  have := accX v (fun m b k => spec_GreedyByPairs_L14 m ((a.1, (a.2.1, a.2.2)), u, cI o, (v : Int), bst, (x : Int), b, k)) (fun w => r4 t w v (o.getD w 0) x) (fun b => some ((a.1, (a.2.1, a.2.2)), u, cI o, (v : Int), bst, (x : Int), b)) (fun m b w hw => ?_) (fun m b => ?_) (n := fuel) (by unfold fuel; omega) true
  · simpa using this
  · have hwl : w < (cI o).length := by unfold cI; simp; omega
    have hget := cI_get (o := o) (i := w) (by omega)
    have hlt : o.getD w 0 < s := by rw [getD_of (by omega)]; exact hos _ (List.getElem_mem _)
    have hat := spec_l20At_ok hs4 hR (i := w) (k := v) (x := o.getD w 0) (z := x) (by omega) hv hlt hx (by omega)
    simp only [spec_GreedyByPairs_L14, hb, decide_eq_true (show (w : Int) < (v : Int) by omega), if_true, inb_nat, hwl, gd_D, hget, hat, Option.bind_some, w64_succ (show w < 4611686018427387904 by omega)]
    cases b <;> simp
  · simp only [spec_GreedyByPairs_L14]
    rw [if_neg (by simp)]
theorem sg_L20 (hs4 : s ≤ 4) (hb : a.2.1 = (s : Int)) (hn2 : 2 ≤ n) (hR : Rel34 n s t u) {x : Nat} (hx : x < s) (o : List Int) (v bst : Int) :
    spec_GreedyByPairs_L20 fuel ((a.1, (a.2.1, a.2.2)), u, o, v, bst, (x : Int), false, 0) = some ((a.1, (a.2.1, a.2.2)), u, o, v, bst, (x : Int), (List.range s).any fun y => r4 t 0 1 x y) := by
  have := accO s (fun m b k => spec_GreedyByPairs_L20 m ((a.1, (a.2.1, a.2.2)), u, o, v, bst, (x : Int), b, k)) (fun y => r4 t 0 1 x y) (fun b => some ((a.1, (a.2.1, a.2.2)), u, o, v, bst, (x : Int), b)) (fun m b y hy => ?_) (fun m b => ?_) (n := fuel) (by unfold fuel; omega) false
  · simpa using this
  · obtain ⟨h1, h2, h3⟩ := hR.o3.at (i := 0) (j := 1) (by omega) (by omega)
    have hc := cell_lt hx hy
    have h4 : x * s + y < ((u.getD 0 []).getD 1 []).length := by omega
    have e := (hR.eq 0 1 x y (by omega) (by omega) hx hy).1
    have e2 : ((u.getD 0 []).getD 1 []).getD (x * s + y) false = r4 t 0 1 x y := e.symm
    have g0 : gd u 0 [] = u.getD 0 [] := rfl
    have g1 : gd (u.getD 0 []) 1 [] = (u.getD 0 []).getD 1 [] := rfl
    have i0 : inb 0 u := by unfold inb; omega
    have i1 : inb 1 (u.getD 0 []) := by unfold inb; omega
    simp only [spec_GreedyByPairs_L20, hb, decide_eq_true (show (y : Int) < (s : Int) by omega), if_true, i0, g0, i1, g1, cell_w64 hs4 hx hy, inb_nat, h4, gd_D, e2, w64_succ (show y < 4611686018427387904 by omega)]
    cases b <;> simp
  · simp only [spec_GreedyByPairs_L20, hb]
    rw [if_neg (by simp)]
theorem sg_L10 (hs4 : s ≤ 4) (hb : a.2.1 = (s : Int)) (hn9 : n ≤ 9) (hn2 : 2 ≤ n) (hR : Rel34 n s t u) {v : Nat} (hv : v < n) {o : List Nat} (ho : o.length = v) (hos : ∀ y ∈ o, y < s) :
    ∀ (k : Nat) (bst : Int) (m : Nat), k ≤ s → k < m → spec_GreedyByPairs_L10 m ((a.1, (a.2.1, a.2.2)), u, cI o, (v : Int), bst, (k : Int) - 1) =
      some ((a.1, (a.2.1, a.2.2)), u, cI o, (v : Int), match (List.range k).find? (goB t s o v) with | some x => (x : Int) | none => bst) := by
  intro k
  induction k with
  | zero =>
    intro bst m _ hm
    obtain ⟨m, rfl⟩ : ∃ q, m = q + 1 := ⟨m - 1, by omega⟩
    simp only [spec_GreedyByPairs_L10]
    rw [if_neg (by simp)]; rfl
  | succ k ih =>
    intro bst m hk hm
    obtain ⟨m, rfl⟩ : ∃ q, m = q + 1 := ⟨m - 1, by omega⟩
    have hx : k < s := by omega
    have e1 : ((k + 1 : Nat) : Int) - 1 = (k : Int) := by omega
    have e2 : w64 ((k : Int) - 1) = (k : Int) - 1 := w64_id (by omega) (by omega)
    have h14 := sg_L14 (a := a) hs4 hb hn9 hR hv hx ho hos bst
    have h20 := sg_L20 (a := a) hs4 hb hn2 hR hx (cI o) (v : Int) bst
    have hfind : (match (List.range (k + 1)).find? (goB t s o v) with | some x => (x : Int) | none => bst) = (match (List.range k).find? (goB t s o v) with | some x => (x : Int) | none => if goB t s o v k then (k : Int) else bst) := by
      rw [List.range_succ, List.find?_append]
      cases (List.range k).find? (goB t s o v) with
      | some x => simp
      | none =>
        simp only [Option.none_or, List.find?_cons, List.find?_nil]
        cases goB t s o v k <;> simp
    rw [hfind, e1]
    simp only [spec_GreedyByPairs_L10]
    rw [if_pos (by simp), h14]
    simp only [Option.bind_some]
    by_cases hv0 : v = 0
    · have hg : goB t s o v k = (List.range s).any fun y => r4 t 0 1 k y := by unfold goB; rw [if_pos hv0]
      rw [if_pos (by simp [hv0]), h20]
      simp only [Option.bind_some, e2]
      rw [hg]
      cases (List.range s).any fun y => r4 t 0 1 k y with
      | true => simp only [if_true]; exact ih (k : Int) m (by omega) (by omega)
      | false => simp only [Bool.false_eq_true, if_false]; exact ih bst m (by omega) (by omega)
    · have hg : goB t s o v k = (List.range v).all fun w => r4 t w v (o.getD w 0) k := by unfold goB; rw [if_neg hv0]
      rw [if_neg (by simp; omega)]
      simp only [e2]
      rw [hg]
      cases (List.range v).all fun w => r4 t w v (o.getD w 0) k with
      | true => simp only [if_true]; exact ih (k : Int) m (by omega) (by omega)
      | false => simp only [Bool.false_eq_true, if_false]; exact ih bst m (by omega) (by omega)
theorem sg_L6 (hs4 : s ≤ 4) (ha : a.1 = (n : Int)) (hb : a.2.1 = (s : Int)) (hn9 : n ≤ 9) (hn2 : 2 ≤ n) (hR : Rel34 n s t u) :
    ∀ (d v : Nat) (o : List Nat) (m : Nat), v + d = n → d < m → greedy t s v = some o → spec_GreedyByPairs_L6 m ((a.1, (a.2.1, a.2.2)), u, cI o, (v : Int)) = some (match greedy t s n with | some o => .inl (cI o) | none => .inr ([], false)) := by
  intro d
  induction d with
  | zero =>
    intro v o m hv hm hg
    obtain ⟨m, rfl⟩ : ∃ q, m = q + 1 := ⟨m - 1, by omega⟩
    have : v = n := by omega
    subst this
    rw [hg]
    simp only [spec_GreedyByPairs_L6, ha]
    rw [if_neg (by simp)]
  | succ d ih =>
    intro v o m hv hm hg
    obtain ⟨m, rfl⟩ : ∃ q, m = q + 1 := ⟨m - 1, by omega⟩
    obtain ⟨ho, hos⟩ := greedy_ok hg
    have h10 := sg_L10 (a := a) hs4 hb hn9 hn2 hR (v := v) (by omega) ho hos s (-1) fuel (by omega) (by unfold fuel; omega)
    have e1 : w64 (a.2.1 - 1) = (s : Int) - 1 := by rw [hb]; exact w64_id (by omega) (by omega)
    have hlen : (cI o).length = v := by unfold cI; simpa using ho
    have hstep : greedy t s (v + 1) = match (List.range s).find? (goB t s o v) with | some x => some (o ++ [x]) | none => none := by simp only [greedy, hg]
    simp only [spec_GreedyByPairs_L6, e1]
    rw [if_pos (by simp; omega), h10]
    simp only [Option.bind_some]
    cases hf : (List.range s).find? (goB t s o v) with
    | none =>
      rw [hf] at hstep
      have hnone : ∀ k, v + 1 ≤ k → greedy t s k = none := by
        intro k hk
        induction k with
        | zero => omega
        | succ k ihk =>
          rcases Nat.lt_or_ge k (v + 1) with h | h
          · have : k = v := by omega
            subst this; exact hstep
          · simp only [greedy, ihk h]
      rw [hnone n (by omega)]
      simp
    | some x =>
      rw [hf] at hstep
      have hxs := List.mem_range.1 (List.mem_of_find?_eq_some hf)
      have := ih (v + 1) (o ++ [x]) m (by omega) (by omega) hstep
      dsimp only
      rw [if_neg (by simp), if_pos (by unfold lim; simp; omega)]
      rw [← this]
      have e : cI (o ++ [x]) = cI o ++ [(x : Int)] := by unfold cI; simp
      rw [e, w64_succ (show v < 4611686018427387904 by omega)]
/- the program's -/
theorem ig_L6 (hs4 : s ≤ 4) (hb : a.2.1 = (s : Int)) (hn2 : 2 ≤ n) (hR : Rel34 n s t u) :
    ∀ (d x : Nat) (m : Nat), x + d = s → d < m → impl_GreedyByPairs_L6 m ((a.1, (a.2.1, a.2.2)), t, [], (x : Int)) =
      some ((a.1, (a.2.1, a.2.2)), t, match (List.range' x d).find? (goB t s [] 0) with | some x => [(x : Int)] | none => []) := by
  intro d
  induction d with
  | zero =>
    intro x m hx hm
    obtain ⟨m, rfl⟩ : ∃ q, m = q + 1 := ⟨m - 1, by omega⟩
    simp only [impl_GreedyByPairs_L6, hb]
    rw [if_neg (by simp; omega)]; rfl
  | succ d ih =>
    intro x m hx hm
    obtain ⟨m, rfl⟩ : ∃ q, m = q + 1 := ⟨m - 1, by omega⟩
    obtain ⟨h1, h2, h3, h4⟩ := hR.o4.at (i := 0) (j := 1) (x := x) (by omega) (by omega) (by omega)
    have g0 : gd t 0 [] = t.getD 0 [] := rfl
    have g1 : gd (t.getD 0 []) 1 [] = (t.getD 0 []).getD 1 [] := rfl
    have i0 : inb 0 t := by unfold inb; omega
    have i1 : inb 1 (t.getD 0 []) := by unfold inb; omega
    have hmk := impl_marked_ok (r := ((t.getD 0 []).getD 1 []).getD x []) (by omega)
    have hg : goB t s [] 0 x = decide (((mk (((t.getD 0 []).getD 1 []).getD x [])).length : Int) > 0) := by
      rw [mk_any, h4]; unfold goB; rw [if_pos rfl]; rfl
    have ihx := ih (x + 1) m (by omega) (by omega)
    rw [List.range'_succ, List.find?_cons, hg]
    simp only [impl_GreedyByPairs_L6, hb, decide_eq_true (show (x : Int) < (s : Int) by omega), if_true, List.length_nil, i0, g0, i1, g1, inb_nat, h3, gd_D, hmk, Option.bind_some]
    rw [if_pos (by simp)]
    cases decide (((mk (((t.getD 0 []).getD 1 []).getD x [])).length : Int) > 0) with
    | false =>
      simp only [Bool.false_eq_true, if_false, w64_succ (show x < 4611686018427387904 by omega)]
      rw [hb] at ihx; exact ihx
    | true =>
      obtain ⟨m, rfl⟩ : ∃ q, m = q + 1 := ⟨m - 1, by omega⟩
      rw [if_pos rfl, if_pos (by unfold lim; simp)]
      simp only [impl_GreedyByPairs_L6]
      have hne : ¬ ((([] : List Int) ++ [(x : Int)]).length : Int) == 0 := by simp
      rw [if_neg hne]
      cases decide (w64 ((x : Int) + 1) < ((a.1, ((s : Int), a.2.2)) : Net).2.1) <;> simp
theorem ig_L18 (hs4 : s ≤ 4) (hn9 : n ≤ 9) (hR : Rel34 n s t u) {v x : Nat} (hv : v < n) (hx : x < s) {o : List Nat} (ho : o.length = v) (hos : ∀ y ∈ o, y < s) :
    impl_GreedyByPairs_L18 fuel ((), (a.1, (a.2.1, a.2.2)), t, cI o, (v : Int), (x : Int), true, (v : Int), 0) = some ((a.1, (a.2.1, a.2.2)), t, cI o, (v : Int), (x : Int), (List.range v).all fun w => r4 t w v (o.getD w 0) x) := by
  have := accX v (fun m b k => impl_GreedyByPairs_L18 m ((), (a.1, (a.2.1, a.2.2)), t, cI o, (v : Int), (x : Int), b, (v : Int), k)) (fun w => r4 t w v (o.getD w 0) x) (fun b => some ((a.1, (a.2.1, a.2.2)), t, cI o, (v : Int), (x : Int), b)) (fun m b w hw => ?_) (fun m b => ?_) (n := fuel) (by unfold fuel; omega) true
  · simpa using this
  · have hwl : w < (cI o).length := by unfold cI; simp; omega
    have hget := cI_get (o := o) (i := w) (by omega)
    have hlt : o.getD w 0 < s := by rw [getD_of (by omega)]; exact hos _ (List.getElem_mem _)
    obtain ⟨h1, h2, h3, h4⟩ := hR.o4.at (i := w) (j := v) (x := o.getD w 0) (by omega) hv hlt
    have h5 : x < (((t.getD w []).getD v []).getD (o.getD w 0) []).length := by omega
    have e : (((t.getD w []).getD v []).getD (o.getD w 0) []).getD x false = r4 t w v (o.getD w 0) x := rfl
    simp only [impl_GreedyByPairs_L18, decide_eq_true (show (w : Int) < (v : Int) by omega), if_true, inb_nat, hwl, gd_D, hget, h1, h2, h3, h5, e, w64_succ (show w < 4611686018427387904 by omega)]
    cases b <;> simp
  · simp only [impl_GreedyByPairs_L18]
    rw [if_neg (by simp)]
theorem ig_L14 (hs4 : s ≤ 4) (hb : a.2.1 = (s : Int)) (hn9 : n ≤ 9) (hR : Rel34 n s t u) {v : Nat} (hv : v < n) (hv1 : 1 ≤ v) {o : List Nat} (ho : o.length = v) (hos : ∀ y ∈ o, y < s) :
    ∀ (d x : Nat) (m : Nat), x + d = s → d < m → impl_GreedyByPairs_L14 m ((a.1, (a.2.1, a.2.2)), t, cI o, (v : Int), (x : Int)) =
      some ((a.1, (a.2.1, a.2.2)), t, (match (List.range' x d).find? (goB t s o v) with | some x => cI (o ++ [x]) | none => cI o), (v : Int)) := by
  have hlen : ((cI o).length : Int) = (v : Int) := by unfold cI; simp [ho]
  intro d
  induction d with
  | zero =>
    intro x m hx hm
    obtain ⟨m, rfl⟩ : ∃ q, m = q + 1 := ⟨m - 1, by omega⟩
    simp only [impl_GreedyByPairs_L14, hb]
    rw [if_neg (by simp; omega)]; rfl
  | succ d ih =>
    intro x m hx hm
    obtain ⟨m, rfl⟩ : ∃ q, m = q + 1 := ⟨m - 1, by omega⟩
    have h18 := ig_L18 (a := a) hs4 hn9 hR hv (x := x) (by omega) ho hos
    have hg : goB t s o v x = (List.range v).all fun w => r4 t w v (o.getD w 0) x := by unfold goB; rw [if_neg (by omega)]
    have ihx := ih (x + 1) m (by omega) (by omega)
    rw [List.range'_succ, List.find?_cons, hg]
    rw [hb] at h18 ihx
    simp only [impl_GreedyByPairs_L14, hb, decide_eq_true (show (x : Int) < (s : Int) by omega), if_true, hlen, h18, Option.bind_some]
    rw [if_pos (by simp)]
    cases (List.range v).all fun w => r4 t w v (o.getD w 0) x with
    | false =>
      simp only [Bool.false_eq_true, if_false, w64_succ (show x < 4611686018427387904 by omega)]
      exact ihx
    | true =>
      obtain ⟨m, rfl⟩ : ∃ q, m = q + 1 := ⟨m - 1, by omega⟩
      have hl : (cI o).length = v := by omega
      rw [if_pos rfl, if_pos (by unfold lim; simp; omega)]
      simp only [impl_GreedyByPairs_L14]
      have hne : ¬ (((cI o ++ [(x : Int)]).length : Int) == (v : Int)) = true := by simp; omega
      rw [if_neg hne]
      have e : cI (o ++ [x]) = cI o ++ [(x : Int)] := by unfold cI; simp
      rw [e]
      cases decide (w64 ((x : Int) + 1) < ((a.1, ((s : Int), a.2.2)) : Net).2.1) <;> simp
theorem ig_L11 (hs4 : s ≤ 4) (ha : a.1 = (n : Int)) (hb : a.2.1 = (s : Int)) (hn9 : n ≤ 9) (hR : Rel34 n s t u) :
    ∀ (d v : Nat) (o : List Nat) (m : Nat), v + d = n → 1 ≤ v → d < m → greedy t s v = some o → ∃ r, impl_GreedyByPairs_L11 m ((a.1, (a.2.1, a.2.2)), t, cI o, (v : Int)) = some ((a.1, (a.2.1, a.2.2)), r) ∧ (match greedy t s n with | some o => r = cI o | none => r.length < n) := by
  intro d
  induction d with
  | zero =>
    intro v o m hv hv1 hm hg
    obtain ⟨m, rfl⟩ : ∃ q, m = q + 1 := ⟨m - 1, by omega⟩
    have : v = n := by omega
    subst this
    refine ⟨cI o, ?_, by rw [hg]⟩
    simp only [impl_GreedyByPairs_L11, ha]
    rw [if_neg (by simp)]
  | succ d ih =>
    intro v o m hv hv1 hm hg
    obtain ⟨m, rfl⟩ : ∃ q, m = q + 1 := ⟨m - 1, by omega⟩
    obtain ⟨ho, hos⟩ := greedy_ok hg
    have h14 := ig_L14 (a := a) hs4 hb hn9 hR (v := v) (by omega) hv1 ho hos s 0 fuel (by omega) (by unfold fuel; omega)
    have h14 : impl_GreedyByPairs_L14 fuel ((a.1, (a.2.1, a.2.2)), t, cI o, (v : Int), 0) = _ := h14
    have hlen : ((cI o).length : Int) = (v : Int) := by unfold cI; simp [ho]
    rw [← List.range_eq_range'] at h14
    have hstep : greedy t s (v + 1) = match (List.range s).find? (goB t s o v) with | some x => some (o ++ [x]) | none => none := by simp only [greedy, hg]
    rw [ha] at h14
    simp only [impl_GreedyByPairs_L11, ha, decide_eq_true (show (v : Int) < (n : Int) by omega), if_true, hlen, h14, Option.bind_some, w64_succ (show v < 4611686018427387904 by omega)]
    rw [if_pos (by simp)]
    cases hf : (List.range s).find? (goB t s o v) with
    | some x =>
      rw [hf] at hstep
      obtain ⟨r, h1, h2⟩ := ih (v + 1) (o ++ [x]) m (by omega) (by omega) (by omega) hstep
      rw [ha] at h1
      exact ⟨r, h1, h2⟩
    | none =>
      rw [hf] at hstep
      have hnone : ∀ k, v + 1 ≤ k → greedy t s k = none := by
        intro k hk
        induction k with
        | zero => omega
        | succ k ihk =>
          rcases Nat.lt_or_ge k (v + 1) with h | h
          · have : k = v := by omega
            subst this; exact hstep
          · simp only [greedy, ihk h]
      refine ⟨cI o, ?_, by rw [hnone n (by omega)]; dsimp only; omega⟩
      dsimp only
      obtain ⟨m, rfl⟩ : ∃ q, m = q + 1 := ⟨m - 1, by omega⟩
      simp only [impl_GreedyByPairs_L11]
      have hne : ¬ (((cI o).length : Int) == ((v + 1 : Nat) : Int)) = true := by simp; omega
      rw [if_neg hne]
      cases decide (((v + 1 : Nat) : Int) < (((n : Int), (a.2.1, a.2.2)) : Net).1) <;> simp
theorem GreedyByPairs_ok (h : netS a) : ∃ R : List Int × Bool, impl_GreedyByPairs a = some R ∧ spec_GreedyByPairs a = some R ∧ R.1.length ≤ 9 := by
  unfold impl_GreedyByPairs spec_GreedyByPairs
  rw [impl_IsNetwork_ok (a := (a.1, (a.2.1, a.2.2))) h, spec_l19Good_ok (a := (a.1, (a.2.1, a.2.2))) h, show netB (a.1, (a.2.1, a.2.2)) = netB a from rfl]
  cases hb : netB a with
  | false => exact ⟨([], false), by simp, by simp, by simp⟩
  | true =>
    have hN := net_of hb
    by_cases h2 : a.1 < 2
    · exact ⟨([], false), by simp [h2], by simp [h2], by simp⟩
    · obtain ⟨n, ha⟩ : ∃ n : Nat, a.1 = (n : Int) := ⟨a.1.toNat, by have := hN.hv; omega⟩
      obtain ⟨s, hs⟩ : ∃ n : Nat, a.2.1 = (n : Int) := ⟨a.2.1.toNat, by have := hN.hn; omega⟩
      have hn9 : n ≤ 9 := by have := hN.hv; omega
      have hs4 : s ≤ 4 := by have := hN.hn; omega
      have hn2 : 2 ≤ n := by omega
      obtain ⟨t, u, hR, e1, e2⟩ := pairs_ok hN ha hs
      have e3 := sg_L6 (a := a) hs4 ha hs hn9 hn2 hR n 0 [] fuel (by omega) (by unfold fuel; omega) rfl
      have e3 : spec_GreedyByPairs_L6 fuel ((a.1, (a.2.1, a.2.2)), u, [], 0) = _ := e3
      have e4 := ig_L6 (a := a) hs4 hs hn2 hR s 0 fuel (by omega) (by unfold fuel; omega)
      have e4 : impl_GreedyByPairs_L6 fuel ((a.1, (a.2.1, a.2.2)), t, [], 0) = _ := e4
      rw [← List.range_eq_range'] at e4
      simp only [e1, e2, e3, e4, Option.bind_some, decide_eq_false h2, Bool.not_true, Bool.false_eq_true, if_false]
      have hg1 : greedy t s 1 = match (List.range s).find? (goB t s [] 0) with | some x => some [x] | none => none := by simp only [greedy]; rfl
      cases hf : (List.range s).find? (goB t s [] 0) with
      | none =>
        rw [hf] at hg1
        have hnone : ∀ k, 1 ≤ k → greedy t s k = none := by
          intro k hk
          induction k with
          | zero => omega
          | succ k ihk =>
            rcases Nat.lt_or_ge k 1 with h | h
            · have : k = 0 := by omega
              subst this; exact hg1
            · simp only [greedy, ihk h]
        rw [hnone n (by omega)]
        refine ⟨([], false), ?_, rfl, by simp⟩
        obtain ⟨f, hff⟩ : ∃ f, fuel = f + 1 := ⟨fuel - 1, rfl⟩
        have e5 : impl_GreedyByPairs_L11 fuel ((a.1, (a.2.1, a.2.2)), t, [], 1) = some ((a.1, (a.2.1, a.2.2)), []) := by
          rw [hff]; simp only [impl_GreedyByPairs_L11]
          cases decide ((1 : Int) < ((a.1, (a.2.1, a.2.2)) : Net).1) <;> simp
        dsimp only
        rw [e5]
        simp only [Option.bind_some]
        rw [if_pos (by simp; omega)]
      | some x =>
        rw [hf] at hg1
        obtain ⟨r, h1, h3⟩ := ig_L11 (a := a) hs4 ha hs hn9 hR (n - 1) 1 [x] fuel (by omega) (by omega) (by unfold fuel; omega) hg1
        have h1 : impl_GreedyByPairs_L11 fuel ((a.1, (a.2.1, a.2.2)), t, [(x : Int)], 1) = _ := h1
        dsimp only
        rw [h1]
        simp only [Option.bind_some]
        cases hg : greedy t s n with
        | none =>
          rw [hg] at h3
          dsimp only at h3
          refine ⟨([], false), ?_, rfl, by simp⟩
          rw [if_pos (by simp; omega)]
        | some o =>
          rw [hg] at h3
          dsimp only at h3
          subst h3
          obtain ⟨ho, _⟩ := greedy_ok hg
          have hl : (cI o).length = n := by unfold cI; simpa using ho
          refine ⟨(cI o, true), ?_, rfl, by dsimp only; omega⟩
          rw [if_neg (by simp; omega)]
theorem FnExactGreedyByPairs_law (h : wfT netT a) : laws_FnExactGreedyByPairs a = some true := by
  unfold laws_FnExactGreedyByPairs
  rw [szNetwork_ok (a := (a.1, (a.2.1, a.2.2))) h]
  simp only [Option.bind_some]
  rw [show totN (a.1, (a.2.1, a.2.2)) = totN a from rfl]
  by_cases h : szR (totN a) 1048576 < 0
  · rw [if_pos (by simpa using h)]
  · obtain ⟨hs, ht⟩ := szNetwork_small h
    obtain ⟨b, k, hm, hk0, hk1⟩ := markNetwork_ok hs ht
    obtain ⟨R, e1, e2, hl⟩ := GreedyByPairs_ok hs
    rw [if_neg (by simpa using h)]
    have e3 := mIntS_far R.1 1
    have e4 : ¬ (mIntS R.1 1).2 < 0 := by omega
    simp only [toNetwork_ok hs, e1, e2, eqNetwork_ok hs, Option.bind_some, eqIntS_ok (a := R.1) (show R.1.length ≤ 1099511627775 by omega), hm, markIntS_ok (l := R.1) (k := 1) (by omega) (by omega) (by unfold BM; omega), heldIntS_ok (l := R.1) (k := 1) (by omega) (by omega) (by unfold BM; omega)]
    simp [show ¬ k < 0 by omega, e4]
end
end T
