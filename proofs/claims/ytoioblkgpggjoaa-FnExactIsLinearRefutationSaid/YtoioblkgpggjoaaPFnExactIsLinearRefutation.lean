/- Plain lemmas on the typed functions of the program, and the plain law of FnExactIsLinearRefutation; no conditions. -/
import Derived.Test.YtoioblkgpggjoaaV1
import Derived.Test.YtoioblkgpggjoaaV5
set_option linter.all false
namespace Go.Va
theorem w64_def (x : Int) : w64 x = (x + 9223372036854775808) % 18446744073709551616 - 9223372036854775808 := by
  simp [w64, IntKind.wrap, IntKind.bits, IntKind.signed]
  split <;> omega
theorem w64_id {x : Int} (h1 : -9223372036854775808 ≤ x) (h2 : x ≤ 9223372036854775807) : w64 x = x := by
  rw [w64_def]; omega
theorem w64_succ {k : Nat} (h : k < 4611686018427387904) : w64 ((k : Int) + 1) = ((k + 1 : Nat) : Int) := by
  rw [w64_id (by omega) (by omega)]; rfl
theorem inb_nat {α : Type} {k : Nat} {xs : List α} : inb (k : Int) xs ↔ k < xs.length := by
  unfold inb; omega
theorem gd_nat {α : Type} {k : Nat} {xs : List α} {d : α} (h : k < xs.length) : gd xs (k : Int) d = xs[k] := by
  unfold gd; simp [h]
theorem stt_nat {α : Type} {k : Nat} {xs : List α} {x : α} : stt xs (k : Int) x = xs.set k x := by
  unfold stt; simp
/-- a loop over a list, from one place on -/
def runX {α σ β : Type} (step : σ → α → Option (σ ⊕ β)) (fin : σ → Option β) : List α → σ → Option β
  | [], s => fin s
  | a :: l, s => match step s a with | some (.inl s') => runX step fin l s' | some (.inr r) => some r | none => none
theorem loopX {α σ β : Type} (xs : List α) (L : Nat → σ → Int → Option β) (step : σ → α → Option (σ ⊕ β)) (fin : σ → Option β)
    (hs : ∀ n s (k : Nat) (hk : k < xs.length), L (n + 1) s k = match step s xs[k] with | some (.inl s') => L n s' ((k + 1 : Nat) : Int) | some (.inr r) => some r | none => none)
    (he : ∀ n s, L (n + 1) s (xs.length : Nat) = fin s) : ∀ (n k : Nat) (s : σ), k ≤ xs.length → xs.length - k < n → L n s k = runX step fin (xs.drop k) s := by
  intro n
  induction n with
  | zero => intro k s _ h; omega
  | succ n ih =>
    intro k s hk hn
    rcases Nat.lt_or_ge k xs.length with hlt | hge
    · rw [hs n s k hlt, List.drop_eq_getElem_cons hlt]
      simp only [runX]
      cases step s xs[k] with
      | none => rfl
      | some q =>
        cases q with
        | inl s' => exact ih (k + 1) s' hlt (by omega)
        | inr r => rfl
    · have : k = xs.length := by omega
      subst this
      rw [he, List.drop_length]; rfl
/-- .. from its start on -/
theorem loopX0 {α σ β : Type} (xs : List α) (L : Nat → σ → Int → Option β) (step : σ → α → Option (σ ⊕ β)) (fin : σ → Option β)
    (hs : ∀ n s (k : Nat) (hk : k < xs.length), L (n + 1) s k = match step s xs[k] with | some (.inl s') => L n s' ((k + 1 : Nat) : Int) | some (.inr r) => some r | none => none)
    (he : ∀ n s, L (n + 1) s (xs.length : Nat) = fin s) {n : Nat} (hn : xs.length < n) (s : σ) : L n s 0 = runX step fin xs s := by
  have := loopX xs L step fin hs he n 0 s (Nat.zero_le _) (by omega)
  simpa using this
/-- a loop that leaves at the first that fails -/
theorem runX_all {α β : Type} {p : α → Bool} {step : Unit → α → Option (Unit ⊕ β)} {fin : Unit → Option β} {r : β} : ∀ {l : List α}, (∀ a ∈ l, step () a = if p a then some (.inl ()) else some (.inr r)) → runX step fin l () = if l.all p then fin () else some r
  | [], _ => rfl
  | a :: l, h => by
    simp only [runX]
    rw [h a (by simp)]
    cases hp : p a with
    | true => simp only [if_true, List.all_cons, hp, Bool.true_and]; exact runX_all fun b hb => h b (List.mem_cons_of_mem _ hb)
    | false => simp [List.all_cons, hp]
/-- a loop that fills a list of the same length -/
theorem fillX {α β γ : Type} (xs : List α) (L : Nat → List β → Int → Option γ) (g : α → β) (fin : List β → Option γ)
    (hs : ∀ n (out : List β) (k : Nat) (hk : k < xs.length), out.length = xs.length → L (n + 1) out k = L n (out.set k (g xs[k])) ((k + 1 : Nat) : Int))
    (he : ∀ n out, out.length = xs.length → L (n + 1) out (xs.length : Nat) = fin out) : ∀ (n k : Nat) (out : List β), out.length = xs.length → k ≤ xs.length → xs.length - k < n → L n out k = fin (out.take k ++ (xs.drop k).map g) := by
  intro n
  induction n with
  | zero => intro k out _ _ h; omega
  | succ n ih =>
    intro k out hl hk hn
    rcases Nat.lt_or_ge k xs.length with hlt | hge
    · have : (out.set k (g xs[k])).take (k + 1) = out.take k ++ [g xs[k]] := by
        rw [List.take_succ_eq_append_getElem (by simp; omega), List.take_set_of_le (Nat.le_refl _), List.getElem_set_self]
      rw [hs n out k hlt hl, ih (k + 1) _ (by simpa using hl) hlt (by omega), List.drop_eq_getElem_cons hlt, this, List.map_cons, List.append_assoc, List.singleton_append]
    · have : k = xs.length := by omega
      subst this
      rw [he _ _ hl, List.drop_length, List.take_of_length_le (by omega)]; simp
theorem fillX0 {α β γ : Type} (xs : List α) (L : Nat → List β → Int → Option γ) (g : α → β) (fin : List β → Option γ)
    (hs : ∀ n (out : List β) (k : Nat) (hk : k < xs.length), out.length = xs.length → L (n + 1) out k = L n (out.set k (g xs[k])) ((k + 1 : Nat) : Int))
    (he : ∀ n out, out.length = xs.length → L (n + 1) out (xs.length : Nat) = fin out) {n : Nat} {out : List β} (hl : out.length = xs.length) (hn : xs.length < n) : L n out 0 = fin (xs.map g) := by
  have := fillX xs L g fin hs he n 0 out hl (Nat.zero_le _) (by omega)
  simpa using this
/-- a loop that holds two lists against each other -/
theorem eqX {α : Type} [DecidableEq α] (a b : List α) (hl : a.length = b.length) (L : Nat → Int → Option (Unit ⊕ Bool))
    (hs : ∀ n (k : Nat) (h1 : k < a.length) (h2 : k < b.length), L (n + 1) k = if a[k] = b[k] then L n ((k + 1 : Nat) : Int) else some (.inr false)) (he : ∀ n, L (n + 1) (a.length : Nat) = some (.inl ())) {n : Nat} (hn : a.length < n) :
    L n 0 = some (if a = b then .inl () else .inr false) := by
  have key : ∀ (n k : Nat), k ≤ a.length → a.length - k < n → L n k = some (if a.drop k = b.drop k then .inl () else .inr false) := by
    intro n
    induction n with
    | zero => intro k _ h; omega
    | succ n ih =>
      intro k hk hn
      rcases Nat.lt_or_ge k a.length with hlt | hge
      · have h2 : k < b.length := by omega
        have e : (a.drop k = b.drop k) ↔ (a[k] = b[k] ∧ a.drop (k + 1) = b.drop (k + 1)) := by
          rw [List.drop_eq_getElem_cons hlt, List.drop_eq_getElem_cons h2]; exact List.cons_eq_cons
        rw [hs n k hlt h2]
        by_cases h : a[k] = b[k]
        · rw [if_pos h, ih (k + 1) hlt (by omega)]
          by_cases h3 : a.drop (k + 1) = b.drop (k + 1)
          · rw [if_pos h3, if_pos (e.2 ⟨h, h3⟩)]
          · rw [if_neg h3, if_neg fun h' => h3 (e.1 h').2]
        · rw [if_neg h, if_neg fun h' => h (e.1 h').1]
      · have : k = a.length := by omega
        subst this
        rw [he, List.drop_length, hl, List.drop_length]; rfl
  have := key n 0 (Nat.zero_le _) (by omega)
  simpa using this
/-- a loop that asks of each element -/
theorem allX {α β : Type} (xs : List α) (L : Nat → Int → Option β) (p : α → Bool) (r e : β)
    (hs : ∀ n (k : Nat) (hk : k < xs.length), L (n + 1) k = if p xs[k] then L n ((k + 1 : Nat) : Int) else some r) (he : ∀ n, L (n + 1) (xs.length : Nat) = some e) {n : Nat} (hn : xs.length < n) :
    L n 0 = some (if xs.all p then e else r) := by
  have := loopX0 xs (fun n (_ : Unit) i => L n i) (fun _ a => if p a then some (.inl ()) else some (.inr r)) (fun _ => some e) (fun n s k hk => by rw [hs n k hk]; cases p xs[k] <;> simp) (fun n s => he n) hn ()
  rw [this, runX_all (p := p) (r := r) fun a _ => by cases p a <;> simp]
  cases xs.all p <;> simp
/-- a loop whose states are known -/
theorem forS {σ β : Type} (N : Nat) (L : Nat → σ → Int → Option β) (S : Nat → σ) {r : Option β}
    (hs : ∀ n (k : Nat), k < N → L (n + 1) (S k) k = L n (S (k + 1)) ((k + 1 : Nat) : Int)) (he : ∀ n, L (n + 1) (S N) (N : Nat) = r) {n : Nat} (hn : N < n) : L n (S 0) 0 = r := by
  have key : ∀ (n k : Nat), k ≤ N → N - k < n → L n (S k) k = r := by
    intro n
    induction n with
    | zero => intro k _ h; omega
    | succ n ih =>
      intro k hk hn
      rcases Nat.lt_or_ge k N with hlt | hge
      · rw [hs n k hlt]; exact ih (k + 1) hlt (by omega)
      · have : k = N := by omega
        subst this; exact he n
  exact key n 0 (Nat.zero_le _) (by omega)
/-- .. that leaves where p fails -/
theorem forA {σ β : Type} (N : Nat) (L : Nat → σ → Int → Option β) (S : Nat → σ) (p : Nat → Bool) {r e : Option β}
    (hs : ∀ n (k : Nat), k < N → L (n + 1) (S k) k = if p k then L n (S (k + 1)) ((k + 1 : Nat) : Int) else r) (he : ∀ n, L (n + 1) (S N) (N : Nat) = e) {n : Nat} (hn : N < n) :
    L n (S 0) 0 = if (List.range N).all p then e else r := by
  have key : ∀ (n k : Nat), k ≤ N → N - k < n → L n (S k) k = if (List.range' k (N - k)).all p then e else r := by
    intro n
    induction n with
    | zero => intro k _ h; omega
    | succ n ih =>
      intro k hk hn
      rcases Nat.lt_or_ge k N with hlt | hge
      · rw [hs n k hlt, show N - k = (N - (k + 1)) + 1 by omega, List.range'_succ, List.all_cons]
        cases hp : p k with
        | false => simp
        | true => simp only [if_true, Bool.true_and]; exact ih (k + 1) hlt (by omega)
      · have : k = N := by omega
        subst this; rw [he]; simp
  have := key n 0 (Nat.zero_le _) (by omega)
  rw [List.range_eq_range']
  simpa using this
/-- sizes -/
def szR (t : Nat) (left : Int) : Int := if (t : Int) ≤ left then left - t else -1
end Go.Va
set_option linter.unusedVariables false
open Go Go.Va
namespace T
def fuel : Nat := 1099511627776
def laws_szIntS (a : List Int) (left : Int) : Option (Int) :=
  if decide ((w64 (left - (a.length : Int))) < 0) then
    some (-1)
  else
    some (w64 (left - (a.length : Int)))
def laws_szIntSS_L5 : Nat → ((List (List Int)) × Int × Int) → Option ((Int) ⊕ (Int))
  | 0, _ => none
  | n + 1, (a, left, i) =>
    if decide (i < (a.length : Int)) then
      if inb i a then
        (laws_szIntS (gd a i []) left).bind fun r1 =>
          if decide (r1 < 0) then
            some (.inr (-1))
          else
            laws_szIntSS_L5 n (a, r1, w64 (i + 1))
      else none
    else
      some (.inl left)
def laws_szIntSS (a : List (List Int)) (left : Int) : Option (Int) :=
  if decide ((w64 (left - (a.length : Int))) < 0) then
    some (-1)
  else
    (laws_szIntSS_L5 fuel (a, w64 (left - (a.length : Int)), 0)).bind fun s1 =>
      match s1 with
      | .inl s2 =>
        some s2
      | .inr s3 =>
        some s3
def laws_szLinear (a : Int × Int × (List (List Int))) (left : Int) : Option (Int) :=
  (laws_szIntSS a.2.2 left).bind fun r1 =>
    if decide (r1 < 0) then
      some (-1)
    else
      some r1
def laws_toIntS_L3 : Nat → ((List Int) × (List Int) × Int) → Option ((List Int))
  | 0, _ => none
  | n + 1, (a, out, i) =>
    if decide (i < (a.length : Int)) then
      if inb i a then
        if inb i out then
          laws_toIntS_L3 n (a, stt out i (gd a i 0), w64 (i + 1))
        else none
      else none
    else
      some out
def laws_toIntS (a : List Int) : Option ((List Int)) :=
  if 0 ≤ (a.length : Int) ∧ (a.length : Int) ≤ (a.length : Int) ∧ (a.length : Int) ≤ lim then
    (laws_toIntS_L3 fuel (a, List.replicate (Int.toNat (a.length : Int)) (0 : Int), 0)).bind fun s1 =>
      some s1
  else none
def laws_toIntSS_L3 : Nat → ((List (List Int)) × (List (List Int)) × Int) → Option ((List (List Int)))
  | 0, _ => none
  | n + 1, (a, out, i) =>
    if decide (i < (a.length : Int)) then
      if inb i a then
        (laws_toIntS (gd a i [])).bind fun r1 =>
          if inb i out then
            laws_toIntSS_L3 n (a, stt out i r1, w64 (i + 1))
          else none
      else none
    else
      some out
def laws_toIntSS (a : List (List Int)) : Option ((List (List Int))) :=
  if 0 ≤ (a.length : Int) ∧ (a.length : Int) ≤ (a.length : Int) ∧ (a.length : Int) ≤ lim then
    (laws_toIntSS_L3 fuel (a, List.replicate (Int.toNat (a.length : Int)) ([] : List Int), 0)).bind fun s1 =>
      some s1
  else none
def laws_toLinear (a : Int × Int × (List (List Int))) : Option ((Int × (Int × (List (List Int))))) :=
  (laws_toIntSS a.2.2).bind fun r1 =>
    some (a.1, (a.2.1, r1))
def spec_l21Prime (p : Int) : Option (Bool) :=
  if p == 2 then
    some true
  else
    if p == 3 then
      some true
    else
      if p == 5 then
        some true
      else
        some (p == 7)
def spec_l1In (x : Int) (a : Int) (b : Int) : Option (Bool) :=
  if decide (x ≥ a) then
    some (decide (x ≤ b))
  else
    some false
def spec_l2Elements_L2 : Nat → (Int × (List Int) × Int) → Option ((Unit) ⊕ (Bool))
  | 0, _ => none
  | n + 1, (n_, list, i) =>
    if decide (i < (list.length : Int)) then
      if inb i list then
        (spec_l1In (gd list i 0) 0 (w64 (n_ - 1))).bind fun r1 =>
          if !r1 then
            some (.inr false)
          else
            spec_l2Elements_L2 n (n_, list, w64 (i + 1))
      else none
    else
      some (.inl ())
def spec_l2Elements (n_ : Int) (list : List Int) : Option (Bool) :=
  (spec_l2Elements_L2 fuel (n_, list, 0)).bind fun s1 =>
    match s1 with
    | .inl s2 =>
      some true
    | .inr s3 =>
      some s3
def spec_l8Tuple (n_ : Int) (k : Int) (t : List Int) : Option (Bool) :=
  if (t.length : Int) == k then
    (spec_l2Elements n_ t).bind fun r1 =>
      some r1
  else
    some false
def spec_l21Rows_L2 : Nat → (Int × Int × (List (List Int)) × Int) → Option ((Unit) ⊕ (Bool))
  | 0, _ => none
  | n + 1, (p, vars, rows, i) =>
    if decide (i < (rows.length : Int)) then
      if inb i rows then
        (spec_l8Tuple p (w64 (vars + 1)) (gd rows i [])).bind fun r1 =>
          if !r1 then
            some (.inr false)
          else
            spec_l21Rows_L2 n (p, vars, rows, w64 (i + 1))
      else none
    else
      some (.inl ())
def spec_l21Rows (p : Int) (vars : Int) (rows : List (List Int)) : Option (Bool) :=
  (spec_l21Rows_L2 fuel (p, vars, rows, 0)).bind fun s1 =>
    match s1 with
    | .inl s2 =>
      some true
    | .inr s3 =>
      some s3
def spec_l21Good (l : Int × Int × (List (List Int))) : Option (Bool) :=
  (spec_l21Prime l.1).bind fun r1 =>
    if r1 then
      (spec_l1In l.2.1 0 8).bind fun r2 =>
        if r2 then
          if decide ((l.2.2.length : Int) ≤ 8) then
            (spec_l21Rows l.1 l.2.1 l.2.2).bind fun r3 =>
              some r3
          else
            some false
        else
          some false
    else
      some false
def spec_IsLinear (l : Int × Int × (List (List Int))) : Option (Bool) :=
  (spec_l21Good (l.1, (l.2.1, l.2.2))).bind fun r1 =>
    some r1
def impl_isPrime (p : Int) : Option (Bool) :=
  if p == 2 then
    some true
  else
    if p == 3 then
      some true
    else
      if p == 5 then
        some true
      else
        some (p == 7)
def impl_inSize_L2 : Nat → (Int × (List Int) × Int × Int) → Option ((Unit) ⊕ (Bool))
  | 0, _ => none
  | n + 1, (n_, t7, t8, t9) =>
    if decide (t9 < t8) then
      if inb t9 t7 then
        if decide ((gd t7 t9 0) < 0) then
          some (.inr false)
        else
          if decide ((gd t7 t9 0) ≥ n_) then
            some (.inr false)
          else
            impl_inSize_L2 n (n_, t7, t8, w64 (t9 + 1))
      else none
    else
      some (.inl ())
def impl_inSize (list : List Int) (n_ : Int) : Option (Bool) :=
  (impl_inSize_L2 fuel (n_, list, (list.length : Int), 0)).bind fun s1 =>
    match s1 with
    | .inl s2 =>
      some true
    | .inr s3 =>
      some s3
def impl_IsLinear_L4 : Nat → ((Int × Int × (List (List Int))) × (List (List Int)) × Int × Int) → Option ((Unit) ⊕ (Bool))
  | 0, _ => none
  | n + 1, (l, t26, t27, t28) =>
    if decide (t28 < t27) then
      if inb t28 t26 then
        if ((gd t26 t28 []).length : Int) != (w64 (l.2.1 + 1)) then
          some (.inr false)
        else
          (impl_inSize (gd t26 t28 []) l.1).bind fun r2 =>
            if !r2 then
              some (.inr false)
            else
              impl_IsLinear_L4 n ((l.1, (l.2.1, l.2.2)), t26, t27, w64 (t28 + 1))
      else none
    else
      some (.inl ())
def impl_IsLinear (l : Int × Int × (List (List Int))) : Option (Bool) :=
  (impl_isPrime l.1).bind fun r1 =>
    if !r1 then
      some false
    else
      if decide (l.2.1 < 0) then
        some false
      else
        if decide (l.2.1 > 8) then
          some false
        else
          if decide ((l.2.2.length : Int) > 8) then
            some false
          else
            (impl_IsLinear_L4 fuel ((l.1, (l.2.1, l.2.2)), l.2.2, (l.2.2.length : Int), 0)).bind fun s2 =>
              match s2 with
              | .inl s3 =>
                some true
              | .inr s4 =>
                some s4
def laws_eqIntS_L4 : Nat → ((List Int) × (List Int) × Int) → Option ((Unit) ⊕ (Bool))
  | 0, _ => none
  | n + 1, (a, b, i) =>
    if decide (i < (a.length : Int)) then
      if inb i a then
        if inb i b then
          if (gd a i 0) != (gd b i 0) then
            some (.inr false)
          else
            laws_eqIntS_L4 n (a, b, w64 (i + 1))
        else none
      else none
    else
      some (.inl ())
def laws_eqIntS (a : List Int) (b : List Int) : Option (Bool) :=
  if (a.length : Int) != (b.length : Int) then
    some false
  else
    (laws_eqIntS_L4 fuel (a, b, 0)).bind fun s1 =>
      match s1 with
      | .inl s2 =>
        some true
      | .inr s3 =>
        some s3
def laws_eqIntSS_L4 : Nat → ((List (List Int)) × (List (List Int)) × Int) → Option ((Unit) ⊕ (Bool))
  | 0, _ => none
  | n + 1, (a, b, i) =>
    if decide (i < (a.length : Int)) then
      if inb i a then
        if inb i b then
          (laws_eqIntS (gd a i []) (gd b i [])).bind fun r1 =>
            if !r1 then
              some (.inr false)
            else
              laws_eqIntSS_L4 n (a, b, w64 (i + 1))
        else none
      else none
    else
      some (.inl ())
def laws_eqIntSS (a : List (List Int)) (b : List (List Int)) : Option (Bool) :=
  if (a.length : Int) != (b.length : Int) then
    some false
  else
    (laws_eqIntSS_L4 fuel (a, b, 0)).bind fun s1 =>
      match s1 with
      | .inl s2 =>
        some true
      | .inr s3 =>
        some s3
def laws_eqLinear (a : Int × Int × (List (List Int))) (b : Int × Int × (List (List Int))) : Option (Bool) :=
  if a.1 != b.1 then
    some false
  else
    if a.2.1 != b.2.1 then
      some false
    else
      (laws_eqIntSS a.2.2 b.2.2).bind fun r1 =>
        if !r1 then
          some false
        else
          some true
def spec_IsLinearRefutation_L10 : Nat → ((List Int) × (Int × Int × (List (List Int))) × Int × Int × Int) → Option ((List Int) × (Int × Int × (List (List Int))) × Int × Int)
  | 0, _ => none
  | n + 1, (t1, t2, t6, t7, t8) =>
    if decide (t8 < (t2.2.2.length : Int)) then
      if inb t8 t1 then
        if inb t8 t2.2.2 then
          if inb t6 (gd t2.2.2 t8 []) then
            if t2.1 ≠ 0 then
              spec_IsLinearRefutation_L10 n (t1, (t2.1, (t2.2.1, t2.2.2)), t6, Int.tmod (w64 (t7 + (w64 ((gd t1 t8 0) * (gd (gd t2.2.2 t8 []) t6 0))))) t2.1, w64 (t8 + 1))
            else none
          else none
        else none
      else none
    else
      some (t1, (t2.1, (t2.2.1, t2.2.2)), t6, t7)
def spec_IsLinearRefutation_L6 : Nat → ((List Int) × (Int × Int × (List (List Int))) × Int) → Option ((Unit) ⊕ (Bool × Bool))
  | 0, _ => none
  | n + 1, (t1, t2, t6) =>
    if decide (t6 ≤ t2.2.1) then
      (spec_IsLinearRefutation_L10 fuel (t1, (t2.1, (t2.2.1, t2.2.2)), t6, 0, 0)).bind fun s3 =>
        if decide (s3.2.2.1 < s3.2.1.2.1) then
          if s3.2.2.2 != 0 then
            some (.inr (false, true))
          else
            if s3.2.2.1 == s3.2.1.2.1 then
              if s3.2.2.2 != 1 then
                some (.inr (false, true))
              else
                spec_IsLinearRefutation_L6 n (s3.1, (s3.2.1.1, (s3.2.1.2.1, s3.2.1.2.2)), w64 (s3.2.2.1 + 1))
            else
              spec_IsLinearRefutation_L6 n (s3.1, (s3.2.1.1, (s3.2.1.2.1, s3.2.1.2.2)), w64 (s3.2.2.1 + 1))
        else
          if s3.2.2.1 == s3.2.1.2.1 then
            if s3.2.2.2 != 1 then
              some (.inr (false, true))
            else
              spec_IsLinearRefutation_L6 n (s3.1, (s3.2.1.1, (s3.2.1.2.1, s3.2.1.2.2)), w64 (s3.2.2.1 + 1))
          else
            spec_IsLinearRefutation_L6 n (s3.1, (s3.2.1.1, (s3.2.1.2.1, s3.2.1.2.2)), w64 (s3.2.2.1 + 1))
    else
      some (.inl ())
def spec_IsLinearRefutation (t0 : Int × Int × (List (List Int))) (t1 : List Int) : Option (Bool × Bool) :=
  (spec_l21Good (t0.1, (t0.2.1, t0.2.2))).bind fun r1 =>
    if !r1 then
      some (false, false)
    else
      (spec_l8Tuple t0.1 (t0.2.2.length : Int) t1).bind fun r2 =>
        if !r2 then
          some (false, true)
        else
          (spec_IsLinearRefutation_L6 fuel (t1, (t0.1, (t0.2.1, t0.2.2)), 0)).bind fun s3 =>
            match s3 with
            | .inl s4 =>
              some (true, true)
            | .inr s5 =>
              some (s5.1, s5.2)
def impl_IsLinearRefutation_L10 : Nat → ((List Int) × (Int × Int × (List (List Int))) × Int × Int × (List (List Int)) × Int × Int) → Option ((List Int) × (Int × Int × (List (List Int))) × Int × Int)
  | 0, _ => none
  | n + 1, (y, l, v, sum, t34, t35, t36) =>
    if decide (t36 < t35) then
      if inb t36 t34 then
        if inb t36 y then
          if inb v (gd t34 t36 []) then
            impl_IsLinearRefutation_L10 n (y, (l.1, (l.2.1, l.2.2)), v, w64 (sum + (w64 ((gd y t36 0) * (gd (gd t34 t36 []) v 0)))), t34, t35, w64 (t36 + 1))
          else none
        else none
      else none
    else
      some (y, (l.1, (l.2.1, l.2.2)), v, sum)
def impl_IsLinearRefutation_L6 : Nat → ((List Int) × (Int × Int × (List (List Int))) × Int) → Option ((Unit) ⊕ (Bool × Bool))
  | 0, _ => none
  | n + 1, (y, l, v) =>
    if decide (v ≤ l.2.1) then
      (impl_IsLinearRefutation_L10 fuel (y, (l.1, (l.2.1, l.2.2)), v, 0, l.2.2, (l.2.2.length : Int), 0)).bind fun s3 =>
        if s3.2.2.1 == s3.2.1.2.1 then
          if s3.2.1.1 ≠ 0 then
            if (Int.tmod s3.2.2.2 s3.2.1.1) != 1 then
              some (.inr (false, true))
            else
              impl_IsLinearRefutation_L6 n (s3.1, (s3.2.1.1, (s3.2.1.2.1, s3.2.1.2.2)), w64 (s3.2.2.1 + 1))
          else none
        else
          if s3.2.1.1 ≠ 0 then
            if (Int.tmod s3.2.2.2 s3.2.1.1) != 0 then
              some (.inr (false, true))
            else
              impl_IsLinearRefutation_L6 n (s3.1, (s3.2.1.1, (s3.2.1.2.1, s3.2.1.2.2)), w64 (s3.2.2.1 + 1))
          else none
    else
      some (.inl ())
def impl_IsLinearRefutation (l : Int × Int × (List (List Int))) (y : List Int) : Option (Bool × Bool) :=
  (impl_IsLinear (l.1, (l.2.1, l.2.2))).bind fun r1 =>
    if !r1 then
      some (false, false)
    else
      if (y.length : Int) != (l.2.2.length : Int) then
        some (false, true)
      else
        (impl_inSize y l.1).bind fun r2 =>
          if !r2 then
            some (false, true)
          else
            (impl_IsLinearRefutation_L6 fuel (y, (l.1, (l.2.1, l.2.2)), 0)).bind fun s3 =>
              match s3 with
              | .inl s4 =>
                some (true, true)
              | .inr s5 =>
                some (s5.1, s5.2)
def laws_FnExactIsLinearRefutation (aL : Int × Int × (List (List Int))) (aY : List Int) : Option (Bool) :=
  if decide ((aY.length : Int) > 1048576) then
    some true
  else
    (laws_szLinear (aL.1, (aL.2.1, aL.2.2)) 1048576).bind fun r1 =>
      if decide (r1 < 0) then
        some true
      else
        (laws_toLinear (aL.1, (aL.2.1, aL.2.2))).bind fun r2 =>
          (laws_toIntS aY).bind fun r3 =>
            (spec_IsLinearRefutation (r2.1, (r2.2.1, r2.2.2)) r3).bind fun r4 =>
              (laws_toLinear (aL.1, (aL.2.1, aL.2.2))).bind fun r5 =>
                (laws_toIntS aY).bind fun r6 =>
                  (impl_IsLinearRefutation (r5.1, (r5.2.1, r5.2.2)) r6).bind fun r7 =>
                    if r7.1 != r4.1 then
                      some false
                    else
                      if r7.2 != r4.2 then
                        some false
                      else
                        (laws_toLinear (aL.1, (aL.2.1, aL.2.2))).bind fun r8 =>
                          (laws_eqLinear (r5.1, (r5.2.1, r5.2.2)) (r8.1, (r8.2.1, r8.2.2))).bind fun r9 =>
                            if !r9 then
                              some false
                            else
                              (laws_toIntS aY).bind fun r10 =>
                                (laws_eqIntS r6 r10).bind fun r11 =>
                                  if !r11 then
                                    some false
                                  else
                                    some true
end T
open Go Go.Va
namespace T
theorem szIntS_ok {a : List Int} {left : Int} (h0 : 0 ≤ left) (h1 : left ≤ 4611686018427387904) (ha : a.length ≤ 9223372036854775807) : laws_szIntS a left = some (szR a.length left) := by
  unfold laws_szIntS szR
  rw [w64_id (by omega) (by omega)]
  by_cases h : (a.length : Int) ≤ left
  · rw [if_neg (by simp; omega), if_pos h]
  · rw [if_pos (by simp; omega), if_neg h]
/-- all numbers, and the rows -/
def totSS (a : List (List Int)) : Nat := a.length + (a.map List.length).sum
theorem szIntSS_ok {a : List (List Int)} {left : Int} (h0 : 0 ≤ left) (h1 : left ≤ 1099511627775) (ha : a.length ≤ 9223372036854775807) (hr : ∀ r ∈ a, r.length ≤ 9223372036854775807) : laws_szIntSS a left = some (szR (totSS a) left) := by
  unfold laws_szIntSS
  rw [w64_id (by omega) (by omega)]
  by_cases h : (a.length : Int) ≤ left
  · rw [if_neg (by simp; omega)]
    have key := loopX0 a (fun n s i => laws_szIntSS_L5 n (a, s, i)) (fun s r => (laws_szIntS r s).bind fun q => if q < 0 then some (.inr (.inr (-1))) else some (.inl q)) (fun s => some (.inl s)) ?_ ?_ (n := fuel) (by unfold fuel; omega) (left - a.length)
    · rw [key]
      have run : ∀ (l : List (List Int)) (s : Int), 0 ≤ s → s ≤ 1099511627775 → (∀ r ∈ l, r.length ≤ 9223372036854775807) →
          runX (fun s r => (laws_szIntS r s).bind fun q => if q < 0 then some (.inr (.inr (-1))) else some (.inl q)) (fun s => some (.inl s)) l s = some (if ((l.map List.length).sum : Int) ≤ s then (.inl (s - (l.map List.length).sum) : Int ⊕ Int) else .inr (-1)) := by
        intro l
        induction l with
        | nil => intro s h0 _ _; simp [runX, h0]
        | cons r l ih =>
          intro s h0 h1 hr
          simp only [runX]
          rw [szIntS_ok h0 (by omega) (hr r (by simp))]
          unfold szR
          by_cases h : (r.length : Int) ≤ s
          · rw [if_pos h]
            simp only [Option.bind_some]
            rw [if_neg (by omega)]
            dsimp only
            rw [ih (s - r.length) (by omega) (by omega) fun r hr' => hr r (List.mem_cons_of_mem _ hr')]
            simp only [List.map_cons, List.sum_cons]
            congr 1
            by_cases h2 : (((l.map List.length).sum : Nat) : Int) ≤ s - r.length
            · rw [if_pos h2, if_pos (by omega)]; congr 1; omega
            · rw [if_neg h2, if_neg (by omega)]
          · rw [if_neg h]
            simp only [List.map_cons, List.sum_cons]
            rw [if_neg (by omega)]
            rfl
      rw [run a _ (by omega) (by omega) hr]
      unfold szR totSS
      by_cases h2 : (((a.map List.length).sum : Nat) : Int) ≤ left - a.length
      · rw [if_pos h2, if_pos (by omega)]
        simp only [Option.bind_some, Option.some.injEq]; omega
      · rw [if_neg h2, if_neg (by omega)]; rfl
    · intro n s k hk
      simp only [laws_szIntSS_L5, inb_nat, gd_nat hk, w64_succ (show k < 4611686018427387904 by omega)]
      simp [hk]
      cases laws_szIntS a[k] s with
      | none => rfl
      | some q => by_cases hq : q < 0 <;> simp [hq]
    · intro n s
      simp [laws_szIntSS_L5]
  · rw [if_pos (by simp; omega)]
    unfold szR totSS
    rw [if_neg (by omega)]
theorem toIntS_ok {a : List Int} (ha : a.length ≤ 1099511627775) : laws_toIntS a = some a := by
  unfold laws_toIntS
  rw [if_pos (by unfold lim; omega)]
  have key := fillX0 a (fun n out i => laws_toIntS_L3 n (a, out, i)) id some ?_ ?_ (n := fuel) (out := List.replicate (Int.toNat (a.length : Int)) (0 : Int)) (by simp) (by unfold fuel; omega)
  · rw [key]; simp
  · intro n out k hk hl
    simp only [laws_toIntS_L3, inb_nat, gd_nat hk, stt_nat, w64_succ (show k < 4611686018427387904 by omega)]
    simp [hk, hl]
  · intro n out hl
    simp [laws_toIntS_L3]
theorem toIntSS_ok {a : List (List Int)} (ha : a.length ≤ 1099511627775) (hr : ∀ r ∈ a, r.length ≤ 1099511627775) : laws_toIntSS a = some a := by
  unfold laws_toIntSS
  rw [if_pos (by unfold lim; omega)]
  have key := fillX0 a (fun n out i => laws_toIntSS_L3 n (a, out, i)) id some ?_ ?_ (n := fuel) (out := List.replicate (Int.toNat (a.length : Int)) ([] : List Int)) (by simp) (by unfold fuel; omega)
  · rw [key]; simp
  · intro n out k hk hl
    simp only [laws_toIntSS_L3, inb_nat, gd_nat hk, stt_nat, w64_succ (show k < 4611686018427387904 by omega)]
    simp [hk, hl, toIntS_ok (hr _ (List.getElem_mem hk))]
  · intro n out hl
    simp [laws_toIntSS_L3]
theorem eqIntS_ok {a b : List Int} (ha : a.length ≤ 1099511627775) : laws_eqIntS a b = some (decide (a = b)) := by
  unfold laws_eqIntS
  by_cases hl : a.length = b.length
  · rw [if_neg (by simp [hl]), eqX a b hl (fun n i => laws_eqIntS_L4 n (a, b, i)) ?_ ?_ (by unfold fuel; omega)]
    · by_cases h : a = b <;> simp [h]
    · intro n k h1 h2
      simp only [laws_eqIntS_L4, inb_nat, gd_nat h1, gd_nat h2, w64_succ (show k < 4611686018427387904 by omega)]
      by_cases h : a[k] = b[k] <;> simp [h1, h2, h]
    · intro n
      simp [laws_eqIntS_L4]
  · rw [if_pos (by simp; omega), decide_eq_false (fun e => hl (by rw [e]))]
theorem eqIntSS_ok {a b : List (List Int)} (ha : a.length ≤ 1099511627775) (hr : ∀ r ∈ a, r.length ≤ 1099511627775) : laws_eqIntSS a b = some (decide (a = b)) := by
  unfold laws_eqIntSS
  by_cases hl : a.length = b.length
  · rw [if_neg (by simp [hl]), eqX a b hl (fun n i => laws_eqIntSS_L4 n (a, b, i)) ?_ ?_ (by unfold fuel; omega)]
    · by_cases h : a = b <;> simp [h]
    · intro n k h1 h2
      simp only [laws_eqIntSS_L4, inb_nat, gd_nat h1, gd_nat h2, w64_succ (show k < 4611686018427387904 by omega), eqIntS_ok (hr _ (List.getElem_mem h1))]
      by_cases h : a[k] = b[k] <;> simp [h1, h2, h]
    · intro n
      simp [laws_eqIntSS_L4]
  · rw [if_pos (by simp; omega), decide_eq_false (fun e => hl (by rw [e]))]
/- linears -/
abbrev Lin := Int × Int × List (List Int)
/-- a linear of a size that a machine holds -/
def linS (a : Lin) : Prop := a.2.2.length ≤ 1048576 ∧ ∀ r ∈ a.2.2, r.length ≤ 1048576
theorem mem_sum {l : List (List Int)} : ∀ {r : List Int}, r ∈ l → r.length ≤ (l.map List.length).sum := by
  induction l with
  | nil => intro r h; cases h
  | cons x l ih =>
    intro r h
    rw [List.map_cons, List.sum_cons]
    rcases List.mem_cons.1 h with rfl | h
    · omega
    · have := ih h; omega
theorem szLinear_ok {a : Lin} (ha : a.2.2.length ≤ 9223372036854775807) (hr : ∀ r ∈ a.2.2, r.length ≤ 9223372036854775807) : laws_szLinear a 1048576 = some (szR (totSS a.2.2) 1048576) := by
  unfold laws_szLinear
  rw [szIntSS_ok (by omega) (by omega) ha hr]
  unfold szR
  split
  · simp only [Option.bind_some]; rw [if_neg (by simp; omega)]
  · rfl
theorem szLinear_small {a : Lin} (h : ¬ szR (totSS a.2.2) 1048576 < 0) : linS a := by
  unfold szR totSS at h
  split at h
  · exact ⟨by omega, fun r hr => by have := mem_sum hr; omega⟩
  · omega
theorem toLinear_ok {a : Lin} (h : linS a) : laws_toLinear a = some a := by
  unfold laws_toLinear
  rw [toIntSS_ok (by have := h.1; omega) fun r hr => by have := h.2 r hr; omega]
  rfl
theorem eqLinear_ok {a b : Lin} (h : linS a) : laws_eqLinear a b = some (decide (a = b)) := by
  unfold laws_eqLinear
  rw [eqIntSS_ok (by have := h.1; omega) fun r hr => by have := h.2 r hr; omega]
  obtain ⟨a1, a2, a3⟩ := a
  obtain ⟨b1, b2, b3⟩ := b
  by_cases h1 : a1 = b1
  · by_cases h2 : a2 = b2
    · by_cases h3 : a3 = b3 <;> simp [h1, h2, h3]
    · simp [h1, h2]
  · simp [h1]
/- primes, sizes -/
def primeB (p : Int) : Bool := p == 2 || p == 3 || p == 5 || p == 7
theorem impl_isPrime_ok (p : Int) : impl_isPrime p = some (primeB p) := by
  unfold impl_isPrime primeB
  by_cases h2 : p = 2
  · simp [h2]
  · by_cases h3 : p = 3
    · simp [h3]
    · by_cases h5 : p = 5 <;> simp [h2, h3, h5]
theorem spec_l21Prime_ok (p : Int) : spec_l21Prime p = some (primeB p) := by
  unfold spec_l21Prime primeB
  by_cases h2 : p = 2
  · simp [h2]
  · by_cases h3 : p = 3
    · simp [h3]
    · by_cases h5 : p = 5 <;> simp [h2, h3, h5]
theorem spec_l1In_ok (x a b : Int) : spec_l1In x a b = some (decide (a ≤ x ∧ x ≤ b)) := by
  unfold spec_l1In
  by_cases h : a ≤ x <;> simp [h]
/-- all numbers are below n -/
def belowB (n : Int) (l : List Int) : Bool := l.all fun x => decide (0 ≤ x ∧ x < n)
theorem impl_inSize_ok {l : List Int} (n : Int) (hl : l.length ≤ 1099511627775) : impl_inSize l n = some (belowB n l) := by
  unfold impl_inSize
  rw [allX l (fun m i => impl_inSize_L2 m (n, l, (l.length : Int), i)) (fun x => decide (0 ≤ x ∧ x < n)) (.inr false) (.inl ()) ?_ ?_ (by unfold fuel; omega)]
  · unfold belowB; cases l.all (fun x => decide (0 ≤ x ∧ x < n)) <;> simp
  · intro m k hk
    simp only [impl_inSize_L2, inb_nat, gd_nat hk, w64_succ (show k < 4611686018427387904 by omega)]
    by_cases h1 : l[k] < 0
    · simp [hk, h1, show ¬ 0 ≤ l[k] by omega]
    · by_cases h2 : n ≤ l[k]
      · simp [hk, h1, h2, show ¬ l[k] < n by omega]
      · simp [hk, h1, h2, show 0 ≤ l[k] ∧ l[k] < n by omega]
  · intro m
    simp [impl_inSize_L2]
theorem spec_l2Elements_ok {l : List Int} {n : Int} (hn : -9223372036854775808 < n) (hn' : n ≤ 9223372036854775807) (hl : l.length ≤ 1099511627775) : spec_l2Elements n l = some (belowB n l) := by
  unfold spec_l2Elements
  rw [allX l (fun m i => spec_l2Elements_L2 m (n, l, i)) (fun x => decide (0 ≤ x ∧ x < n)) (.inr false) (.inl ()) ?_ ?_ (by unfold fuel; omega)]
  · unfold belowB; cases l.all (fun x => decide (0 ≤ x ∧ x < n)) <;> simp
  · intro m k hk
    simp only [spec_l2Elements_L2, inb_nat, gd_nat hk, w64_succ (show k < 4611686018427387904 by omega), spec_l1In_ok, w64_id (show -9223372036854775808 ≤ n - 1 by omega) (show n - 1 ≤ 9223372036854775807 by omega)]
    by_cases h1 : 0 ≤ l[k] ∧ l[k] < n
    · simp [hk, h1, show l[k] ≤ n - 1 by omega]
    · have : ¬ (0 ≤ l[k] ∧ l[k] ≤ n - 1) := by omega
      simp [hk, h1, this]
  · intro m
    simp [spec_l2Elements_L2]
theorem spec_l8Tuple_ok {l : List Int} {n : Int} (k : Int) (hn : -9223372036854775808 < n) (hn' : n ≤ 9223372036854775807) (hl : l.length ≤ 1099511627775) : spec_l8Tuple n k l = some (decide ((l.length : Int) = k) && belowB n l) := by
  unfold spec_l8Tuple
  rw [spec_l2Elements_ok hn hn' hl]
  by_cases h : (l.length : Int) = k <;> simp [h]
/-- a linear is valid -/
def goodB (a : Lin) : Bool := primeB a.1 && decide (0 ≤ a.2.1 ∧ a.2.1 ≤ 8) && decide (a.2.2.length ≤ 8) && a.2.2.all fun r => decide ((r.length : Int) = a.2.1 + 1) && belowB a.1 r
theorem primeB_bd {p : Int} (h : primeB p = true) : 2 ≤ p ∧ p ≤ 7 := by
  unfold primeB at h; simp at h; omega
theorem impl_IsLinear_ok {a : Lin} (h : linS a) : impl_IsLinear a = some (goodB a) := by
  obtain ⟨p, v, rows⟩ := a
  unfold impl_IsLinear goodB
  rw [impl_isPrime_ok]
  cases hp : primeB p with
  | false => simp [hp]
  | true =>
    by_cases h1 : v < 0
    · simp [hp, h1, show ¬ 0 ≤ v by omega]
    · by_cases h2 : v > 8
      · simp [hp, h1, h2, show ¬ v ≤ 8 by omega]
      · by_cases h3 : rows.length > 8
        · simp [hp, h1, h2, show ¬ rows.length ≤ 8 by omega, show (rows.length : Int) > 8 by omega]
        · have key := allX rows (fun m i => impl_IsLinear_L4 m ((p, (v, rows)), rows, (rows.length : Int), i)) (fun r => decide ((r.length : Int) = v + 1) && belowB p r) (.inr false) (.inl ()) ?_ ?_ (n := fuel) (by unfold fuel; omega)
          · simp only [Option.bind_some, hp, Bool.not_true, Bool.false_eq_true, if_false]
            rw [if_neg (by simpa using h1), if_neg (by simpa using h2), if_neg (by simp; omega), key]
            cases rows.all (fun r => decide ((r.length : Int) = v + 1) && belowB p r) <;> simp <;> omega
          · intro m k hk
            have hlen := h.2 rows[k] (List.getElem_mem hk)
            simp only [impl_IsLinear_L4, inb_nat, gd_nat hk, w64_succ (show k < 4611686018427387904 by omega), w64_id (show -9223372036854775808 ≤ v + 1 by omega) (show v + 1 ≤ 9223372036854775807 by omega), impl_inSize_ok p (show rows[k].length ≤ 1099511627775 by omega)]
            by_cases h4 : (rows[k].length : Int) = v + 1
            · cases hb : belowB p rows[k] <;> simp [hk, h4, hb]
            · simp [hk, h4]
          · intro m
            simp [impl_IsLinear_L4]
theorem spec_l21Rows_ok {rows : List (List Int)} {p v : Int} (hp : 2 ≤ p ∧ p ≤ 7) (hv : 0 ≤ v ∧ v ≤ 8) (hl : rows.length ≤ 8) (hr : ∀ r ∈ rows, r.length ≤ 1099511627775) : spec_l21Rows p v rows = some (rows.all fun r => decide ((r.length : Int) = v + 1) && belowB p r) := by
  unfold spec_l21Rows
  rw [allX rows (fun m i => spec_l21Rows_L2 m (p, v, rows, i)) (fun r => decide ((r.length : Int) = v + 1) && belowB p r) (.inr false) (.inl ()) ?_ ?_ (by unfold fuel; omega)]
  · cases rows.all (fun r => decide ((r.length : Int) = v + 1) && belowB p r) <;> simp
  · intro m k hk
    simp only [spec_l21Rows_L2, inb_nat, gd_nat hk, w64_succ (show k < 4611686018427387904 by omega), w64_id (show -9223372036854775808 ≤ v + 1 by omega) (show v + 1 ≤ 9223372036854775807 by omega), spec_l8Tuple_ok _ (by omega : -9223372036854775808 < p) (by omega) (hr _ (List.getElem_mem hk))]
    cases hb : (decide ((rows[k].length : Int) = v + 1) && belowB p rows[k]) <;> simp [hk]
  · intro m
    simp [spec_l21Rows_L2]
theorem spec_IsLinear_ok {a : Lin} (h : linS a) : spec_IsLinear a = some (goodB a) := by
  obtain ⟨p, v, rows⟩ := a
  unfold spec_IsLinear spec_l21Good goodB
  rw [spec_l21Prime_ok, spec_l1In_ok]
  cases hp : primeB p with
  | false => simp [hp]
  | true =>
    have hb := primeB_bd hp
    by_cases h1 : 0 ≤ v ∧ v ≤ 8
    · by_cases h3 : rows.length ≤ 8
      · rw [spec_l21Rows_ok hb h1 h3 fun r hr => by have := h.2 r hr; omega]
        simp [hp, h1, h3, show (rows.length : Int) ≤ 8 by omega]
      · simp [hp, h1, h3, show ¬ (rows.length : Int) ≤ 8 by omega]
    · simp [hp, h1]
end T
open Go Go.Va
namespace T
/-- the sum of the first k products -/
def dotK (y : List Int) (rows : List (List Int)) (v : Nat) : Nat → Int
  | 0 => 0
  | k + 1 => dotK y rows v k + y.getD k 0 * (rows.getD k []).getD v 0
theorem belowB_get {n : Int} {l : List Int} (h : belowB n l = true) (k : Nat) (hk : k < l.length) : 0 ≤ l[k] ∧ l[k] < n := by
  have := (List.all_eq_true.1 h) l[k] (List.getElem_mem hk)
  simpa using this
theorem mul_bd {x y : Int} (hx : 0 ≤ x ∧ x < 7) (hy : 0 ≤ y ∧ y < 7) : 0 ≤ x * y ∧ x * y ≤ 36 := by
  obtain ⟨a, b⟩ := hx; obtain ⟨c, d⟩ := hy
  exact ⟨Int.mul_nonneg a c, by have := Int.mul_le_mul (show x ≤ 6 by omega) (show y ≤ 6 by omega) c (by omega); omega⟩
/-- a valid linear's parts -/
structure LinOk (p v : Int) (rows : List (List Int)) : Prop where
  hp : 2 ≤ p ∧ p ≤ 7
  hv : 0 ≤ v ∧ v ≤ 8
  hn : rows.length ≤ 8
  len : ∀ (k : Nat) (hk : k < rows.length), (rows[k].length : Int) = v + 1
  el : ∀ (k : Nat) (hk : k < rows.length) (j : Nat) (hj : j < rows[k].length), 0 ≤ rows[k][j] ∧ rows[k][j] < p
theorem good_of {p v : Int} {rows : List (List Int)} (h : goodB (p, v, rows) = true) : LinOk p v rows := by
  unfold goodB at h
  simp only [Bool.and_eq_true, decide_eq_true_eq, List.all_eq_true] at h
  obtain ⟨⟨⟨h1, h2⟩, h3⟩, h4⟩ := h
  exact ⟨primeB_bd h1, h2, h3, fun k hk => (h4 _ (List.getElem_mem hk)).1, fun k hk j hj => belowB_get (h4 _ (List.getElem_mem hk)).2 j hj⟩
section
variable {p v : Int} {rows : List (List Int)} {y : List Int}
theorem dot_bd (hg : LinOk p v rows) (hy : belowB p y = true) (hl : y.length = rows.length) {c : Nat} (hc : (c : Int) ≤ v) : ∀ k, k ≤ rows.length → 0 ≤ dotK y rows c k ∧ dotK y rows c k ≤ 36 * k
  | 0, _ => by simp [dotK]
  | k + 1, hk => by
    have ih := dot_bd hg hy hl hc k (by omega)
    have hlen := hg.len k (by omega)
    have e1 := belowB_get hy k (by omega)
    have e2 := hg.el k (by omega) c (by omega)
    have hp := hg.hp
    have := mul_bd (x := y[k]'(by omega)) (y := (rows[k]'(by omega))[c]'(by omega)) (by omega) (by omega)
    simp only [dotK, List.getD_eq_getElem?_getD, List.getElem?_eq_getElem (show k < y.length by omega), List.getElem?_eq_getElem (show k < rows.length by omega), Option.getD_some, List.getElem?_eq_getElem (show c < (rows[k]'(by omega)).length by omega)]
    push_cast
    omega
theorem impl_dot (hg : LinOk p v rows) (hy : belowB p y = true) (hl : y.length = rows.length) {c : Nat} (hc : (c : Int) ≤ v) :
    impl_IsLinearRefutation_L10 fuel (y, (p, (v, rows)), (c : Int), 0, rows, (rows.length : Int), 0) = some (y, (p, (v, rows)), (c : Int), dotK y rows c rows.length) := by
  refine forS rows.length (fun n s i => impl_IsLinearRefutation_L10 n (y, (p, (v, rows)), (c : Int), s, rows, (rows.length : Int), i)) (dotK y rows c) (fun n k hk => ?_) (fun n => ?_) (by unfold fuel; have := hg.hn; omega)
  · have hlen := hg.len k hk
    have e1 := belowB_get hy k (by omega)
    have e2 := hg.el k hk c (by omega)
    have hp := hg.hp
    have hn := hg.hn
    have hm := mul_bd (x := y[k]'(by omega)) (y := rows[k][c]'(by omega)) (by omega) (by omega)
    have hd := dot_bd hg hy hl hc k (by omega)
    have hcl : c < rows[k].length := by omega
    simp only [impl_IsLinearRefutation_L10, inb_nat, gd_nat hk, gd_nat (show k < y.length by omega), gd_nat hcl, w64_succ (show k < 4611686018427387904 by omega), w64_id (show -9223372036854775808 ≤ y[k] * rows[k][c] by omega) (by omega), w64_id (show -9223372036854775808 ≤ dotK y rows c k + y[k] * rows[k][c] by omega) (by omega)]
    simp [hk, hl, hcl, dotK, show k < y.length by omega]
  · simp [impl_IsLinearRefutation_L10]
theorem spec_dot (hg : LinOk p v rows) (hy : belowB p y = true) (hl : y.length = rows.length) {c : Nat} (hc : (c : Int) ≤ v) :
    spec_IsLinearRefutation_L10 fuel (y, (p, (v, rows)), (c : Int), 0, 0) = some (y, (p, (v, rows)), (c : Int), dotK y rows c rows.length % p) := by
  have := forS rows.length (fun n s i => spec_IsLinearRefutation_L10 n (y, (p, (v, rows)), (c : Int), s, i)) (fun k => dotK y rows c k % p) (r := some (y, (p, (v, rows)), (c : Int), dotK y rows c rows.length % p)) (fun n k hk => ?_) (fun n => ?_) (n := fuel) (by unfold fuel; have := hg.hn; omega)
  · have h0 : dotK y rows c 0 % p = 0 := by simp [dotK]
    rw [h0] at this; exact this
  · have hlen := hg.len k hk
    have e1 := belowB_get hy k (by omega)
    have e2 := hg.el k hk c (by omega)
    have hp := hg.hp
    have hn := hg.hn
    have hm := mul_bd (x := y[k]'(by omega)) (y := rows[k][c]'(by omega)) (by omega) (by omega)
    have hd := dot_bd hg hy hl hc k (by omega)
    have hcl : c < rows[k].length := by omega
    have hmod : 0 ≤ dotK y rows c k % p ∧ dotK y rows c k % p < p := ⟨Int.emod_nonneg _ (by omega), Int.emod_lt_of_pos _ (by omega)⟩
    simp only [spec_IsLinearRefutation_L10, inb_nat, gd_nat hk, gd_nat (show k < y.length by omega), gd_nat hcl, w64_succ (show k < 4611686018427387904 by omega), w64_id (show -9223372036854775808 ≤ y[k] * rows[k][c] by omega) (by omega), w64_id (show -9223372036854775808 ≤ dotK y rows c k % p + y[k] * rows[k][c] by omega) (by omega)]
    rw [Int.tmod_eq_emod_of_nonneg (by omega)]
    simp [hk, hl, hcl, dotK, show k < y.length by omega, show p ≠ 0 by omega]
  · simp [spec_IsLinearRefutation_L10]
/-- factors show that there is no solution -/
def refutes (p v : Int) (rows : List (List Int)) (y : List Int) : Bool := (List.range (v.toNat + 1)).all fun c => dotK y rows c rows.length % p == if (c : Int) = v then 1 else 0
theorem impl_ref (hg : LinOk p v rows) (hy : belowB p y = true) (hl : y.length = rows.length) :
    impl_IsLinearRefutation_L6 fuel (y, (p, (v, rows)), 0) = if refutes p v rows y then some (.inl ()) else some (.inr (false, true)) := by
  refine forA (v.toNat + 1) (fun n (_ : Unit) i => impl_IsLinearRefutation_L6 n (y, (p, (v, rows)), i)) (fun _ => ()) (fun c => dotK y rows c rows.length % p == if (c : Int) = v then 1 else 0) (fun n k hk => ?_) (fun n => ?_) (by unfold fuel; have := hg.hv; omega)
  · have hp := hg.hp
    have hv := hg.hv
    have hc : (k : Int) ≤ v := by omega
    have hd := dot_bd hg hy hl hc rows.length (Nat.le_refl _)
    simp only [impl_IsLinearRefutation_L6, impl_dot hg hy hl hc, w64_succ (show k < 4611686018427387904 by omega), Option.bind_some]
    rw [Int.tmod_eq_emod_of_nonneg hd.1]
    by_cases h : (k : Int) = v
    · by_cases h2 : dotK y rows k rows.length % p = 1 <;> simp [h, h2, show p ≠ 0 by omega]
    · by_cases h2 : dotK y rows k rows.length % p = 0 <;> simp [h, h2, show p ≠ 0 by omega, hc]
  · have hv := hg.hv
    simp only [impl_IsLinearRefutation_L6]
    rw [if_neg (by simp; omega)]
theorem spec_ref (hg : LinOk p v rows) (hy : belowB p y = true) (hl : y.length = rows.length) :
    spec_IsLinearRefutation_L6 fuel (y, (p, (v, rows)), 0) = if refutes p v rows y then some (.inl ()) else some (.inr (false, true)) := by
  refine forA (v.toNat + 1) (fun n (_ : Unit) i => spec_IsLinearRefutation_L6 n (y, (p, (v, rows)), i)) (fun _ => ()) (fun c => dotK y rows c rows.length % p == if (c : Int) = v then 1 else 0) (fun n k hk => ?_) (fun n => ?_) (by unfold fuel; have := hg.hv; omega)
  · have hp := hg.hp
    have hv := hg.hv
    have hc : (k : Int) ≤ v := by omega
    simp only [spec_IsLinearRefutation_L6, spec_dot hg hy hl hc, w64_succ (show k < 4611686018427387904 by omega), Option.bind_some]
    by_cases h : (k : Int) = v
    · by_cases h2 : dotK y rows k rows.length % p = 1 <;> simp [h, h2]
    · by_cases h2 : dotK y rows k rows.length % p = 0 <;> simp [h, h2, hc, show (k : Int) < v by omega]
  · have hv := hg.hv
    simp only [spec_IsLinearRefutation_L6]
    rw [if_neg (by simp; omega)]
end
def isRefut (a : Lin) (y : List Int) : Bool × Bool :=
  if goodB a then (if decide (y.length = a.2.2.length) && belowB a.1 y then (refutes a.1 a.2.1 a.2.2 y, true) else (false, true)) else (false, false)
theorem impl_IsLinearRefutation_ok {a : Lin} {y : List Int} (h : linS a) (hy : y.length ≤ 1048576) : impl_IsLinearRefutation a y = some (isRefut a y) := by
  obtain ⟨p, v, rows⟩ := a
  unfold impl_IsLinearRefutation isRefut
  rw [impl_IsLinear_ok (a := (p, v, rows)) h]
  cases hg : goodB (p, v, rows) with
  | false => simp
  | true =>
    simp only [Option.bind_some, Bool.not_true, Bool.false_eq_true, if_false, if_true]
    rw [impl_inSize_ok p (by omega)]
    by_cases hl : y.length = rows.length
    · cases hb : belowB p y with
      | false => simp [hl]
      | true =>
        simp only [Option.bind_some]
        rw [impl_ref (good_of hg) hb hl]
        cases refutes p v rows y <;> simp [hl]
    · rw [if_pos (by simp; omega)]; simp [hl]
theorem spec_IsLinearRefutation_ok {a : Lin} {y : List Int} (h : linS a) (hy : y.length ≤ 1048576) : spec_IsLinearRefutation a y = some (isRefut a y) := by
  obtain ⟨p, v, rows⟩ := a
  have hgood := spec_IsLinear_ok (a := (p, v, rows)) h
  unfold spec_IsLinear at hgood
  unfold spec_IsLinearRefutation isRefut
  have hq : spec_l21Good (p, v, rows) = some (goodB (p, v, rows)) := by
    cases hs : spec_l21Good (p, v, rows) with
    | none => rw [hs] at hgood; cases hgood
    | some b => rw [hs] at hgood; simpa using hgood
  rw [hq]
  cases hg : goodB (p, v, rows) with
  | false => simp
  | true =>
    have hG := good_of hg
    have hp := hG.hp
    simp only [Option.bind_some, Bool.not_true, Bool.false_eq_true, if_false, if_true]
    rw [spec_l8Tuple_ok _ (by omega) (by omega) (by omega)]
    by_cases hl : y.length = rows.length
    · cases hb : belowB p y with
      | false => simp [hl]
      | true =>
        simp only [Option.bind_some, hl, decide_true, Bool.true_and, Bool.not_true, Bool.false_eq_true, if_false]
        rw [spec_ref hG hb hl]
        cases refutes p v rows y <;> simp
    · have : ¬ (y.length : Int) = rows.length := by omega
      simp [hl, this]
theorem FnExactIsLinearRefutation_law {a : Lin} {y : List Int} (h : wfT (.pair .int (.pair .int (.slice (.slice .int)))) a) (hy : wfT (.slice .int) y) : laws_FnExactIsLinearRefutation a y = some true := by
  unfold laws_FnExactIsLinearRefutation
  by_cases hyl : (y.length : Int) > 1048576
  · rw [if_pos (by simpa using hyl)]
  · rw [if_neg (by simpa using hyl)]
    rw [szLinear_ok (a := (a.1, (a.2.1, a.2.2))) h.2.2.1 fun r hr => (h.2.2.2 r hr).1]
    simp only [Option.bind_some]
    by_cases h : szR (totSS a.2.2) 1048576 < 0
    · rw [if_pos (by simpa using h)]
    · have hs := szLinear_small h
      have hy' : y.length ≤ 1048576 := by omega
      rw [if_neg (by simpa using h)]
      simp only [toLinear_ok hs, toIntS_ok (show y.length ≤ 1099511627775 by omega), impl_IsLinearRefutation_ok hs hy', spec_IsLinearRefutation_ok hs hy', eqLinear_ok hs, eqIntS_ok (show y.length ≤ 1099511627775 by omega), Option.bind_some]
      simp
end T
open Go Go.Va
namespace T
end T
open Go Go.Va
namespace T
end T
open Go Go.Va
namespace T
end T
open Go Go.Va
namespace T
section
variable {p : Int} {k : Nat} {ts : List (List Int)}
end
end T
open Go Go.Va
namespace T
section
variable {p : Int} {k : Nat} {ts : List (List Int)}
end
end T
