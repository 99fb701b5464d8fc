/- Plain lemmas on the typed functions of the program, and the plain law of FnExactIsRaiseRefutation; no conditions. -/
import Derived.Test.YtcnaanmeincmmaaV1
import Derived.Test.YtcnaanmeincmmaaV5
set_option linter.all false
namespace Go.Va
theorem w64_def (x : Int) : w64 x = (x + 9223372036854775808) % 18446744073709551616 - 9223372036854775808 := by
  simp [w64, IntKind.wrap, IntKind.bits, IntKind.signed]
  split <;> omega
theorem w64_id {x : Int} (h1 : -9223372036854775808 ≤ x) (h2 : x ≤ 9223372036854775807) : w64 x = x := by
  rw [w64_def]; omega
theorem w64_succ {k : Nat} (h : k < 4611686018427387904) : w64 ((k : Int) + 1) = ((k + 1 : Nat) : Int) := by
  rw [w64_id (by omega) (by omega)]; rfl
theorem w64_succ' {k : Nat} (h : k < 4611686018427387904) : w64 ((k : Int) + 1) = (k : Int) + 1 := w64_id (by omega) (by omega)
theorem inb_nat {α : Type} {k : Nat} {xs : List α} : inb (k : Int) xs ↔ k < xs.length := by
  unfold inb; omega
theorem gd_nat {α : Type} {k : Nat} {xs : List α} {d : α} (h : k < xs.length) : gd xs (k : Int) d = xs[k] := by
  unfold gd; simp [h]
theorem stt_nat {α : Type} {k : Nat} {xs : List α} {x : α} : stt xs (k : Int) x = xs.set k x := by
  unfold stt; simp
/-- a loop over a list, from one place on -/
def runX {α σ β : Type} (step : σ → α → Option (σ ⊕ β)) (fin : σ → Option β) : List α → σ → Option β
  | [], s => fin s
  | a :: l, s => match step s a with | some (.inl s') => runX step fin l s' | some (.inr r) => some r | none => none
theorem loopX {α σ β : Type} (xs : List α) (L : Nat → σ → Int → Option β) (step : σ → α → Option (σ ⊕ β)) (fin : σ → Option β)
    (hs : ∀ n s (k : Nat) (hk : k < xs.length), L (n + 1) s k = match step s xs[k] with | some (.inl s') => L n s' ((k + 1 : Nat) : Int) | some (.inr r) => some r | none => none)
    (he : ∀ n s, L (n + 1) s (xs.length : Nat) = fin s) : ∀ (n k : Nat) (s : σ), k ≤ xs.length → xs.length - k < n → L n s k = runX step fin (xs.drop k) s := by
  intro n
  induction n with
  | zero => intro k s _ h; omega
  | succ n ih =>
    intro k s hk hn
    rcases Nat.lt_or_ge k xs.length with hlt | hge
    · rw [hs n s k hlt, List.drop_eq_getElem_cons hlt]
      simp only [runX]
      cases step s xs[k] with
      | none => rfl
      | some q =>
        cases q with
        | inl s' => exact ih (k + 1) s' hlt (by omega)
        | inr r => rfl
    · have : k = xs.length := by omega
      subst this
      rw [he, List.drop_length]; rfl
/-- .. from its start on -/
theorem loopX0 {α σ β : Type} (xs : List α) (L : Nat → σ → Int → Option β) (step : σ → α → Option (σ ⊕ β)) (fin : σ → Option β)
    (hs : ∀ n s (k : Nat) (hk : k < xs.length), L (n + 1) s k = match step s xs[k] with | some (.inl s') => L n s' ((k + 1 : Nat) : Int) | some (.inr r) => some r | none => none)
    (he : ∀ n s, L (n + 1) s (xs.length : Nat) = fin s) {n : Nat} (hn : xs.length < n) (s : σ) : L n s 0 = runX step fin xs s := by
  have := loopX xs L step fin hs he n 0 s (Nat.zero_le _) (by omega)
  simpa using this
/-- a loop that leaves at the first that fails -/
theorem runX_all {α β : Type} {p : α → Bool} {step : Unit → α → Option (Unit ⊕ β)} {fin : Unit → Option β} {r : β} : ∀ {l : List α}, (∀ a ∈ l, step () a = if p a then some (.inl ()) else some (.inr r)) → runX step fin l () = if l.all p then fin () else some r
  | [], _ => rfl
  | a :: l, h => by
    simp only [runX]
    rw [h a (by simp)]
    cases hp : p a with
    | true => simp only [if_true, List.all_cons, hp, Bool.true_and]; exact runX_all fun b hb => h b (List.mem_cons_of_mem _ hb)
    | false => simp [List.all_cons, hp]
/-- a loop that fills a list of the same length -/
theorem fillX {α β γ : Type} (xs : List α) (L : Nat → List β → Int → Option γ) (g : α → β) (fin : List β → Option γ)
    (hs : ∀ n (out : List β) (k : Nat) (hk : k < xs.length), out.length = xs.length → L (n + 1) out k = L n (out.set k (g xs[k])) ((k + 1 : Nat) : Int))
    (he : ∀ n out, out.length = xs.length → L (n + 1) out (xs.length : Nat) = fin out) : ∀ (n k : Nat) (out : List β), out.length = xs.length → k ≤ xs.length → xs.length - k < n → L n out k = fin (out.take k ++ (xs.drop k).map g) := by
  intro n
  induction n with
  | zero => intro k out _ _ h; omega
  | succ n ih =>
    intro k out hl hk hn
    rcases Nat.lt_or_ge k xs.length with hlt | hge
    · have : (out.set k (g xs[k])).take (k + 1) = out.take k ++ [g xs[k]] := by
        rw [List.take_succ_eq_append_getElem (by simp; omega), List.take_set_of_le (Nat.le_refl _), List.getElem_set_self]
      rw [hs n out k hlt hl, ih (k + 1) _ (by simpa using hl) hlt (by omega), List.drop_eq_getElem_cons hlt, this, List.map_cons, List.append_assoc, List.singleton_append]
    · have : k = xs.length := by omega
      subst this
      rw [he _ _ hl, List.drop_length, List.take_of_length_le (by omega)]; simp
theorem fillX0 {α β γ : Type} (xs : List α) (L : Nat → List β → Int → Option γ) (g : α → β) (fin : List β → Option γ)
    (hs : ∀ n (out : List β) (k : Nat) (hk : k < xs.length), out.length = xs.length → L (n + 1) out k = L n (out.set k (g xs[k])) ((k + 1 : Nat) : Int))
    (he : ∀ n out, out.length = xs.length → L (n + 1) out (xs.length : Nat) = fin out) {n : Nat} {out : List β} (hl : out.length = xs.length) (hn : xs.length < n) : L n out 0 = fin (xs.map g) := by
  have := fillX xs L g fin hs he n 0 out hl (Nat.zero_le _) (by omega)
  simpa using this
/-- a loop that holds two lists against each other -/
theorem eqX {α : Type} [DecidableEq α] (a b : List α) (hl : a.length = b.length) (L : Nat → Int → Option (Unit ⊕ Bool))
    (hs : ∀ n (k : Nat) (h1 : k < a.length) (h2 : k < b.length), L (n + 1) k = if a[k] = b[k] then L n ((k + 1 : Nat) : Int) else some (.inr false)) (he : ∀ n, L (n + 1) (a.length : Nat) = some (.inl ())) {n : Nat} (hn : a.length < n) :
    L n 0 = some (if a = b then .inl () else .inr false) := by
  have key : ∀ (n k : Nat), k ≤ a.length → a.length - k < n → L n k = some (if a.drop k = b.drop k then .inl () else .inr false) := by
    intro n
    induction n with
    | zero => intro k _ h; omega
    | succ n ih =>
      intro k hk hn
      rcases Nat.lt_or_ge k a.length with hlt | hge
      · have h2 : k < b.length := by omega
        have e : (a.drop k = b.drop k) ↔ (a[k] = b[k] ∧ a.drop (k + 1) = b.drop (k + 1)) := by
          rw [List.drop_eq_getElem_cons hlt, List.drop_eq_getElem_cons h2]; exact List.cons_eq_cons
        rw [hs n k hlt h2]
        by_cases h : a[k] = b[k]
        · rw [if_pos h, ih (k + 1) hlt (by omega)]
          by_cases h3 : a.drop (k + 1) = b.drop (k + 1)
          · rw [if_pos h3, if_pos (e.2 ⟨h, h3⟩)]
          · rw [if_neg h3, if_neg fun h' => h3 (e.1 h').2]
        · rw [if_neg h, if_neg fun h' => h (e.1 h').1]
      · have : k = a.length := by omega
        subst this
        rw [he, List.drop_length, hl, List.drop_length]; rfl
  have := key n 0 (Nat.zero_le _) (by omega)
  simpa using this
/-- a loop that asks of each element -/
theorem allX {α β : Type} (xs : List α) (L : Nat → Int → Option β) (p : α → Bool) (r e : β)
    (hs : ∀ n (k : Nat) (hk : k < xs.length), L (n + 1) k = if p xs[k] then L n ((k + 1 : Nat) : Int) else some r) (he : ∀ n, L (n + 1) (xs.length : Nat) = some e) {n : Nat} (hn : xs.length < n) :
    L n 0 = some (if xs.all p then e else r) := by
  have := loopX0 xs (fun n (_ : Unit) i => L n i) (fun _ a => if p a then some (.inl ()) else some (.inr r)) (fun _ => some e) (fun n s k hk => by rw [hs n k hk]; cases p xs[k] <;> simp) (fun n s => he n) hn ()
  rw [this, runX_all (p := p) (r := r) fun a _ => by cases p a <;> simp]
  cases xs.all p <;> simp
/-- a loop whose states are known -/
theorem forS {σ β : Type} (N : Nat) (L : Nat → σ → Int → Option β) (S : Nat → σ) {r : Option β}
    (hs : ∀ n (k : Nat), k < N → L (n + 1) (S k) k = L n (S (k + 1)) ((k + 1 : Nat) : Int)) (he : ∀ n, L (n + 1) (S N) (N : Nat) = r) {n : Nat} (hn : N < n) : L n (S 0) 0 = r := by
  have key : ∀ (n k : Nat), k ≤ N → N - k < n → L n (S k) k = r := by
    intro n
    induction n with
    | zero => intro k _ h; omega
    | succ n ih =>
      intro k hk hn
      rcases Nat.lt_or_ge k N with hlt | hge
      · rw [hs n k hlt]; exact ih (k + 1) hlt (by omega)
      · have : k = N := by omega
        subst this; exact he n
  exact key n 0 (Nat.zero_le _) (by omega)
/-- .. that leaves where p fails -/
theorem forA {σ β : Type} (N : Nat) (L : Nat → σ → Int → Option β) (S : Nat → σ) (p : Nat → Bool) {r e : Option β}
    (hs : ∀ n (k : Nat), k < N → L (n + 1) (S k) k = if p k then L n (S (k + 1)) ((k + 1 : Nat) : Int) else r) (he : ∀ n, L (n + 1) (S N) (N : Nat) = e) {n : Nat} (hn : N < n) :
    L n (S 0) 0 = if (List.range N).all p then e else r := by
  have key : ∀ (n k : Nat), k ≤ N → N - k < n → L n (S k) k = if (List.range' k (N - k)).all p then e else r := by
    intro n
    induction n with
    | zero => intro k _ h; omega
    | succ n ih =>
      intro k hk hn
      rcases Nat.lt_or_ge k N with hlt | hge
      · rw [hs n k hlt, show N - k = (N - (k + 1)) + 1 by omega, List.range'_succ, List.all_cons]
        cases hp : p k with
        | false => simp
        | true => simp only [if_true, Bool.true_and]; exact ih (k + 1) hlt (by omega)
      · have : k = N := by omega
        subst this; rw [he]; simp
  have := key n 0 (Nat.zero_le _) (by omega)
  rw [List.range_eq_range']
  simpa using this
/-- .. and knows that none failed before -/
theorem forB {σ β : Type} (N : Nat) (L : Nat → σ → Int → Option β) (S : Nat → σ) (p : Nat → Bool) {r e : Option β}
    (hs : ∀ n (k : Nat), k < N → (∀ j, j < k → p j = true) → L (n + 1) (S k) k = if p k then L n (S (k + 1)) ((k + 1 : Nat) : Int) else r) (he : ∀ n, (∀ j, j < N → p j = true) → L (n + 1) (S N) (N : Nat) = e) {n : Nat} (hn : N < n) :
    L n (S 0) 0 = if (List.range N).all p then e else r := by
  have key : ∀ (n k : Nat), k ≤ N → N - k < n → (∀ j, j < k → p j = true) → L n (S k) k = if (List.range' k (N - k)).all p then e else r := by
    intro n
    induction n with
    | zero => intro k _ h; omega
    | succ n ih =>
      intro k hk hn hb
      rcases Nat.lt_or_ge k N with hlt | hge
      · rw [hs n k hlt hb, show N - k = (N - (k + 1)) + 1 by omega, List.range'_succ, List.all_cons]
        cases hp : p k with
        | false => simp
        | true =>
          simp only [if_true, Bool.true_and]
          refine ih (k + 1) hlt (by omega) fun j hj => ?_
          rcases Nat.lt_or_ge j k with h | h
          · exact hb j h
          · have : j = k := by omega
            rw [this]; exact hp
      · have : k = N := by omega
        subst this; rw [he n hb]; simp
  have := key n 0 (Nat.zero_le _) (by omega) (fun j h => by omega)
  rw [List.range_eq_range']
  simpa using this
/-- .. that leaves at the first place where q tells what with -/
theorem forF {σ β : Type} (N : Nat) (L : Nat → σ → Int → Option β) (S : Nat → σ) (q : Nat → Option (Option β)) {e : Option β}
    (hs : ∀ n (k : Nat), k < N → (∀ j, j < k → q j = none) → L (n + 1) (S k) k = match q k with | none => L n (S (k + 1)) ((k + 1 : Nat) : Int) | some r => r) (he : ∀ n, L (n + 1) (S N) (N : Nat) = e) {n : Nat} (hn : N < n) :
    L n (S 0) 0 = ((List.range N).findSome? q).getD e := by
  have key : ∀ (n k : Nat), k ≤ N → N - k < n → (∀ j, j < k → q j = none) → L n (S k) k = ((List.range' k (N - k)).findSome? q).getD e := by
    intro n
    induction n with
    | zero => intro k _ h; omega
    | succ n ih =>
      intro k hk hn hq
      rcases Nat.lt_or_ge k N with hlt | hge
      · rw [hs n k hlt hq, show N - k = (N - (k + 1)) + 1 by omega, List.range'_succ, List.findSome?_cons]
        cases hp : q k with
        | some r => simp
        | none =>
          refine ih (k + 1) hlt (by omega) fun j hj => ?_
          rcases Nat.lt_or_ge j k with h | h
          · exact hq j h
          · have : j = k := by omega
            rw [this]; exact hp
      · have : k = N := by omega
        subst this; rw [he]; simp
  have := key n 0 (Nat.zero_le _) (by omega) (fun j h => by omega)
  rw [List.range_eq_range']
  simpa using this
/-- sizes -/
def szR (t : Nat) (left : Int) : Int := if (t : Int) ≤ left then left - t else -1
end Go.Va
set_option linter.unusedVariables false
open Go Go.Va
namespace T
def fuel : Nat := 1099511627776
def laws_szIntS (a : List Int) (left : Int) : Option (Int) :=
  if decide ((w64 (left - (a.length : Int))) < 0) then
    some (-1)
  else
    some (w64 (left - (a.length : Int)))
def laws_szIntSS_L5 : Nat → ((List (List Int)) × Int × Int) → Option ((Int) ⊕ (Int))
  | 0, _ => none
  | n + 1, (a, left, i) =>
    if decide (i < (a.length : Int)) then
      if inb i a then
        (laws_szIntS (gd a i []) left).bind fun r1 =>
          if decide (r1 < 0) then
            some (.inr (-1))
          else
            laws_szIntSS_L5 n (a, r1, w64 (i + 1))
      else none
    else
      some (.inl left)
def laws_szIntSS (a : List (List Int)) (left : Int) : Option (Int) :=
  if decide ((w64 (left - (a.length : Int))) < 0) then
    some (-1)
  else
    (laws_szIntSS_L5 fuel (a, w64 (left - (a.length : Int)), 0)).bind fun s1 =>
      match s1 with
      | .inl s2 =>
        some s2
      | .inr s3 =>
        some s3
def laws_toIntS_L3 : Nat → ((List Int) × (List Int) × Int) → Option ((List Int))
  | 0, _ => none
  | n + 1, (a, out, i) =>
    if decide (i < (a.length : Int)) then
      if inb i a then
        if inb i out then
          laws_toIntS_L3 n (a, stt out i (gd a i 0), w64 (i + 1))
        else none
      else none
    else
      some out
def laws_toIntS (a : List Int) : Option ((List Int)) :=
  if 0 ≤ (a.length : Int) ∧ (a.length : Int) ≤ (a.length : Int) ∧ (a.length : Int) ≤ lim then
    (laws_toIntS_L3 fuel (a, List.replicate (Int.toNat (a.length : Int)) (0 : Int), 0)).bind fun s1 =>
      some s1
  else none
def laws_toIntSS_L3 : Nat → ((List (List Int)) × (List (List Int)) × Int) → Option ((List (List Int)))
  | 0, _ => none
  | n + 1, (a, out, i) =>
    if decide (i < (a.length : Int)) then
      if inb i a then
        (laws_toIntS (gd a i [])).bind fun r1 =>
          if inb i out then
            laws_toIntSS_L3 n (a, stt out i r1, w64 (i + 1))
          else none
      else none
    else
      some out
def laws_toIntSS (a : List (List Int)) : Option ((List (List Int))) :=
  if 0 ≤ (a.length : Int) ∧ (a.length : Int) ≤ (a.length : Int) ∧ (a.length : Int) ≤ lim then
    (laws_toIntSS_L3 fuel (a, List.replicate (Int.toNat (a.length : Int)) ([] : List Int), 0)).bind fun s1 =>
      some s1
  else none
def spec_l1In (x : Int) (a : Int) (b : Int) : Option (Bool) :=
  if decide (x ≥ a) then
    some (decide (x ≤ b))
  else
    some false
def spec_l2Elements_L2 : Nat → (Int × (List Int) × Int) → Option ((Unit) ⊕ (Bool))
  | 0, _ => none
  | n + 1, (n_, list, i) =>
    if decide (i < (list.length : Int)) then
      if inb i list then
        (spec_l1In (gd list i 0) 0 (w64 (n_ - 1))).bind fun r1 =>
          if !r1 then
            some (.inr false)
          else
            spec_l2Elements_L2 n (n_, list, w64 (i + 1))
      else none
    else
      some (.inl ())
def spec_l2Elements (n_ : Int) (list : List Int) : Option (Bool) :=
  (spec_l2Elements_L2 fuel (n_, list, 0)).bind fun s1 =>
    match s1 with
    | .inl s2 =>
      some true
    | .inr s3 =>
      some s3
def spec_l8Tuple (n_ : Int) (k : Int) (t : List Int) : Option (Bool) :=
  if (t.length : Int) == k then
    (spec_l2Elements n_ t).bind fun r1 =>
      some r1
  else
    some false
def impl_inSize_L2 : Nat → (Int × (List Int) × Int × Int) → Option ((Unit) ⊕ (Bool))
  | 0, _ => none
  | n + 1, (n_, t7, t8, t9) =>
    if decide (t9 < t8) then
      if inb t9 t7 then
        if decide ((gd t7 t9 0) < 0) then
          some (.inr false)
        else
          if decide ((gd t7 t9 0) ≥ n_) then
            some (.inr false)
          else
            impl_inSize_L2 n (n_, t7, t8, w64 (t9 + 1))
      else none
    else
      some (.inl ())
def impl_inSize (list : List Int) (n_ : Int) : Option (Bool) :=
  (impl_inSize_L2 fuel (n_, list, (list.length : Int), 0)).bind fun s1 =>
    match s1 with
    | .inl s2 =>
      some true
    | .inr s3 =>
      some s3
def laws_eqIntS_L4 : Nat → ((List Int) × (List Int) × Int) → Option ((Unit) ⊕ (Bool))
  | 0, _ => none
  | n + 1, (a, b, i) =>
    if decide (i < (a.length : Int)) then
      if inb i a then
        if inb i b then
          if (gd a i 0) != (gd b i 0) then
            some (.inr false)
          else
            laws_eqIntS_L4 n (a, b, w64 (i + 1))
        else none
      else none
    else
      some (.inl ())
def laws_eqIntS (a : List Int) (b : List Int) : Option (Bool) :=
  if (a.length : Int) != (b.length : Int) then
    some false
  else
    (laws_eqIntS_L4 fuel (a, b, 0)).bind fun s1 =>
      match s1 with
      | .inl s2 =>
        some true
      | .inr s3 =>
        some s3
def laws_eqIntSS_L4 : Nat → ((List (List Int)) × (List (List Int)) × Int) → Option ((Unit) ⊕ (Bool))
  | 0, _ => none
  | n + 1, (a, b, i) =>
    if decide (i < (a.length : Int)) then
      if inb i a then
        if inb i b then
          (laws_eqIntS (gd a i []) (gd b i [])).bind fun r1 =>
            if !r1 then
              some (.inr false)
            else
              laws_eqIntSS_L4 n (a, b, w64 (i + 1))
        else none
      else none
    else
      some (.inl ())
def laws_eqIntSS (a : List (List Int)) (b : List (List Int)) : Option (Bool) :=
  if (a.length : Int) != (b.length : Int) then
    some false
  else
    (laws_eqIntSS_L4 fuel (a, b, 0)).bind fun s1 =>
      match s1 with
      | .inl s2 =>
        some true
      | .inr s3 =>
        some s3
def spec_l2Pow_L2 : Nat → (Int × Int × Int) → Option (Int)
  | 0, _ => none
  | n + 1, (n_, k, out) =>
    if decide (k > 0) then
      spec_l2Pow_L2 n (n_, w64 (k - 1), w64 (out * n_))
    else
      some out
def spec_l2Pow (n_ : Int) (k : Int) : Option (Int) :=
  (spec_l2Pow_L2 fuel (n_, k, 1)).bind fun s1 =>
    some s1
def spec_l3Less_L2 : Nat → ((List Int) × (List Int) × Int) → Option ((Unit) ⊕ (Bool))
  | 0, _ => none
  | n + 1, (a, b, i) =>
    if decide (i < (a.length : Int)) then
      if inb i a then
        if inb i b then
          if (gd a i 0) != (gd b i 0) then
            if inb i a then
              if inb i b then
                some (.inr (decide ((gd a i 0) < (gd b i 0))))
              else none
            else none
          else
            spec_l3Less_L2 n (a, b, w64 (i + 1))
        else none
      else none
    else
      some (.inl ())
def spec_l3Less (a : List Int) (b : List Int) : Option (Bool) :=
  (spec_l3Less_L2 fuel (a, b, 0)).bind fun s1 =>
    match s1 with
    | .inl s2 =>
      some false
    | .inr s3 =>
      some s3
def impl_compareLists_L2 : Nat → ((List Int) × (List Int) × Int) → Option (((List Int) × (List Int)) ⊕ (Int))
  | 0, _ => none
  | n + 1, (s, t, i) =>
    if decide (i < (s.length : Int)) then
      if decide (i < (t.length : Int)) then
        if inb i s then
          if inb i t then
            if (gd s i 0) != (gd t i 0) then
              if inb i s then
                if inb i t then
                  if decide ((gd s i 0) < (gd t i 0)) then
                    some (.inr (-1))
                  else
                    some (.inr 1)
                else none
              else none
            else
              impl_compareLists_L2 n (s, t, w64 (i + 1))
          else none
        else none
      else
        some (.inl (s, t))
    else
      some (.inl (s, t))
def impl_compareLists (s : List Int) (t : List Int) : Option (Int) :=
  (impl_compareLists_L2 fuel (s, t, 0)).bind fun s1 =>
    match s1 with
    | .inl s2 =>
      if decide ((s2.1.length : Int) < (s2.2.length : Int)) then
        some (-1)
      else
        if decide ((s2.1.length : Int) > (s2.2.length : Int)) then
          some 1
        else
          some 0
    | .inr s3 =>
      some s3
end T
open Go Go.Va
namespace T
theorem szIntS_ok {a : List Int} {left : Int} (h0 : 0 ≤ left) (h1 : left ≤ 4611686018427387904) (ha : a.length ≤ 9223372036854775807) : laws_szIntS a left = some (szR a.length left) := by
  unfold laws_szIntS szR
  rw [w64_id (by omega) (by omega)]
  by_cases h : (a.length : Int) ≤ left
  · rw [if_neg (by simp; omega), if_pos h]
  · rw [if_pos (by simp; omega), if_neg h]
/-- all numbers, and the rows -/
def totSS (a : List (List Int)) : Nat := a.length + (a.map List.length).sum
theorem szIntSS_ok {a : List (List Int)} {left : Int} (h0 : 0 ≤ left) (h1 : left ≤ 1099511627775) (ha : a.length ≤ 9223372036854775807) (hr : ∀ r ∈ a, r.length ≤ 9223372036854775807) : laws_szIntSS a left = some (szR (totSS a) left) := by
  unfold laws_szIntSS
  rw [w64_id (by omega) (by omega)]
  by_cases h : (a.length : Int) ≤ left
  · rw [if_neg (by simp; omega)]
    have key := loopX0 a (fun n s i => laws_szIntSS_L5 n (a, s, i)) (fun s r => (laws_szIntS r s).bind fun q => if q < 0 then some (.inr (.inr (-1))) else some (.inl q)) (fun s => some (.inl s)) ?_ ?_ (n := fuel) (by unfold fuel; omega) (left - a.length)
    · rw [key]
      have run : ∀ (l : List (List Int)) (s : Int), 0 ≤ s → s ≤ 1099511627775 → (∀ r ∈ l, r.length ≤ 9223372036854775807) →
          runX (fun s r => (laws_szIntS r s).bind fun q => if q < 0 then some (.inr (.inr (-1))) else some (.inl q)) (fun s => some (.inl s)) l s = some (if ((l.map List.length).sum : Int) ≤ s then (.inl (s - (l.map List.length).sum) : Int ⊕ Int) else .inr (-1)) := by
        intro l
        induction l with
        | nil => intro s h0 _ _; simp [runX, h0]
        | cons r l ih =>
          intro s h0 h1 hr
          simp only [runX]
          rw [szIntS_ok h0 (by omega) (hr r (by simp))]
          unfold szR
          by_cases h : (r.length : Int) ≤ s
          · rw [if_pos h]
            simp only [Option.bind_some]
            rw [if_neg (by omega)]
            dsimp only
            rw [ih (s - r.length) (by omega) (by omega) fun r hr' => hr r (List.mem_cons_of_mem _ hr')]
            simp only [List.map_cons, List.sum_cons]
            congr 1
            by_cases h2 : (((l.map List.length).sum : Nat) : Int) ≤ s - r.length
            · rw [if_pos h2, if_pos (by omega)]; congr 1; omega
            · rw [if_neg h2, if_neg (by omega)]
          · rw [if_neg h]
            simp only [List.map_cons, List.sum_cons]
            rw [if_neg (by omega)]
            rfl
      rw [run a _ (by omega) (by omega) hr]
      unfold szR totSS
      by_cases h2 : (((a.map List.length).sum : Nat) : Int) ≤ left - a.length
      · rw [if_pos h2, if_pos (by omega)]
        simp only [Option.bind_some, Option.some.injEq]; omega
      · rw [if_neg h2, if_neg (by omega)]; rfl
    · intro n s k hk
      simp only [laws_szIntSS_L5, inb_nat, gd_nat hk, w64_succ (show k < 4611686018427387904 by omega)]
      simp [hk]
      cases laws_szIntS a[k] s with
      | none => rfl
      | some q => by_cases hq : q < 0 <;> simp [hq]
    · intro n s
      simp [laws_szIntSS_L5]
  · rw [if_pos (by simp; omega)]
    unfold szR totSS
    rw [if_neg (by omega)]
theorem toIntS_ok {a : List Int} (ha : a.length ≤ 1099511627775) : laws_toIntS a = some a := by
  unfold laws_toIntS
  rw [if_pos (by unfold lim; omega)]
  have key := fillX0 a (fun n out i => laws_toIntS_L3 n (a, out, i)) id some ?_ ?_ (n := fuel) (out := List.replicate (Int.toNat (a.length : Int)) (0 : Int)) (by simp) (by unfold fuel; omega)
  · rw [key]; simp
  · intro n out k hk hl
    simp only [laws_toIntS_L3, inb_nat, gd_nat hk, stt_nat, w64_succ (show k < 4611686018427387904 by omega)]
    simp [hk, hl]
  · intro n out hl
    simp [laws_toIntS_L3]
theorem toIntSS_ok {a : List (List Int)} (ha : a.length ≤ 1099511627775) (hr : ∀ r ∈ a, r.length ≤ 1099511627775) : laws_toIntSS a = some a := by
  unfold laws_toIntSS
  rw [if_pos (by unfold lim; omega)]
  have key := fillX0 a (fun n out i => laws_toIntSS_L3 n (a, out, i)) id some ?_ ?_ (n := fuel) (out := List.replicate (Int.toNat (a.length : Int)) ([] : List Int)) (by simp) (by unfold fuel; omega)
  · rw [key]; simp
  · intro n out k hk hl
    simp only [laws_toIntSS_L3, inb_nat, gd_nat hk, stt_nat, w64_succ (show k < 4611686018427387904 by omega)]
    simp [hk, hl, toIntS_ok (hr _ (List.getElem_mem hk))]
  · intro n out hl
    simp [laws_toIntSS_L3]
theorem eqIntS_ok {a b : List Int} (ha : a.length ≤ 1099511627775) : laws_eqIntS a b = some (decide (a = b)) := by
  unfold laws_eqIntS
  by_cases hl : a.length = b.length
  · rw [if_neg (by simp [hl]), eqX a b hl (fun n i => laws_eqIntS_L4 n (a, b, i)) ?_ ?_ (by unfold fuel; omega)]
    · by_cases h : a = b <;> simp [h]
    · intro n k h1 h2
      simp only [laws_eqIntS_L4, inb_nat, gd_nat h1, gd_nat h2, w64_succ (show k < 4611686018427387904 by omega)]
      by_cases h : a[k] = b[k] <;> simp [h1, h2, h]
    · intro n
      simp [laws_eqIntS_L4]
  · rw [if_pos (by simp; omega), decide_eq_false (fun e => hl (by rw [e]))]
theorem eqIntSS_ok {a b : List (List Int)} (ha : a.length ≤ 1099511627775) (hr : ∀ r ∈ a, r.length ≤ 1099511627775) : laws_eqIntSS a b = some (decide (a = b)) := by
  unfold laws_eqIntSS
  by_cases hl : a.length = b.length
  · rw [if_neg (by simp [hl]), eqX a b hl (fun n i => laws_eqIntSS_L4 n (a, b, i)) ?_ ?_ (by unfold fuel; omega)]
    · by_cases h : a = b <;> simp [h]
    · intro n k h1 h2
      simp only [laws_eqIntSS_L4, inb_nat, gd_nat h1, gd_nat h2, w64_succ (show k < 4611686018427387904 by omega), eqIntS_ok (hr _ (List.getElem_mem h1))]
      by_cases h : a[k] = b[k] <;> simp [h1, h2, h]
    · intro n
      simp [laws_eqIntSS_L4]
  · rw [if_pos (by simp; omega), decide_eq_false (fun e => hl (by rw [e]))]
theorem mem_sum {l : List (List Int)} : ∀ {r : List Int}, r ∈ l → r.length ≤ (l.map List.length).sum := by
  induction l with
  | nil => intro r h; cases h
  | cons x l ih =>
    intro r h
    rw [List.map_cons, List.sum_cons]
    rcases List.mem_cons.1 h with rfl | h
    · omega
    · have := ih h; omega
theorem spec_l1In_ok (x a b : Int) : spec_l1In x a b = some (decide (a ≤ x ∧ x ≤ b)) := by
  unfold spec_l1In
  by_cases h : a ≤ x <;> simp [h]
/-- all numbers are below n -/
def belowB (n : Int) (l : List Int) : Bool := l.all fun x => decide (0 ≤ x ∧ x < n)
theorem impl_inSize_ok {l : List Int} (n : Int) (hl : l.length ≤ 1099511627775) : impl_inSize l n = some (belowB n l) := by
  unfold impl_inSize
  rw [allX l (fun m i => impl_inSize_L2 m (n, l, (l.length : Int), i)) (fun x => decide (0 ≤ x ∧ x < n)) (.inr false) (.inl ()) ?_ ?_ (by unfold fuel; omega)]
  · unfold belowB; cases l.all (fun x => decide (0 ≤ x ∧ x < n)) <;> simp
  · intro m k hk
    simp only [impl_inSize_L2, inb_nat, gd_nat hk, w64_succ (show k < 4611686018427387904 by omega)]
    by_cases h1 : l[k] < 0
    · simp [hk, h1, show ¬ 0 ≤ l[k] by omega]
    · by_cases h2 : n ≤ l[k]
      · simp [hk, h1, h2, show ¬ l[k] < n by omega]
      · simp [hk, h1, h2, show 0 ≤ l[k] ∧ l[k] < n by omega]
  · intro m
    simp [impl_inSize_L2]
theorem spec_l2Elements_ok {l : List Int} {n : Int} (hn : -9223372036854775808 < n) (hn' : n ≤ 9223372036854775807) (hl : l.length ≤ 1099511627775) : spec_l2Elements n l = some (belowB n l) := by
  unfold spec_l2Elements
  rw [allX l (fun m i => spec_l2Elements_L2 m (n, l, i)) (fun x => decide (0 ≤ x ∧ x < n)) (.inr false) (.inl ()) ?_ ?_ (by unfold fuel; omega)]
  · unfold belowB; cases l.all (fun x => decide (0 ≤ x ∧ x < n)) <;> simp
  · intro m k hk
    simp only [spec_l2Elements_L2, inb_nat, gd_nat hk, w64_succ (show k < 4611686018427387904 by omega), spec_l1In_ok, w64_id (show -9223372036854775808 ≤ n - 1 by omega) (show n - 1 ≤ 9223372036854775807 by omega)]
    by_cases h1 : 0 ≤ l[k] ∧ l[k] < n
    · simp [hk, h1, show l[k] ≤ n - 1 by omega]
    · have : ¬ (0 ≤ l[k] ∧ l[k] ≤ n - 1) := by omega
      simp [hk, h1, this]
  · intro m
    simp [spec_l2Elements_L2]
theorem spec_l8Tuple_ok {l : List Int} {n : Int} (k : Int) (hn : -9223372036854775808 < n) (hn' : n ≤ 9223372036854775807) (hl : l.length ≤ 1099511627775) : spec_l8Tuple n k l = some (decide ((l.length : Int) = k) && belowB n l) := by
  unfold spec_l8Tuple
  rw [spec_l2Elements_ok hn hn' hl]
  by_cases h : (l.length : Int) = k <;> simp [h]
end T
open Go Go.Va
namespace T
theorem belowB_get {n : Int} {l : List Int} (h : belowB n l = true) (k : Nat) (hk : k < l.length) : 0 ≤ l[k] ∧ l[k] < n := by
  have := (List.all_eq_true.1 h) l[k] (List.getElem_mem hk)
  simpa using this
section
variable {p v : Int} {rows : List (List Int)} {y : List Int}
end
end T
open Go Go.Va
namespace T
/- lists in order -/
/-- -1, 0 or 1 by the first place where two lists part -/
def cmpL : List Int → List Int → Int
  | [], [] => 0
  | [], _ :: _ => -1
  | _ :: _, [] => 1
  | a :: s, b :: t => if a = b then cmpL s t else if a < b then -1 else 1
theorem compare_L2 {s t : List Int} (hs : s.length ≤ 1099511627775) : ∀ (n k : Nat), k ≤ s.length → k ≤ t.length → s.length - k < n →
    (impl_compareLists_L2 n (s, t, (k : Int))).bind (fun s1 => match s1 with
      | .inl s2 => if decide ((s2.1.length : Int) < (s2.2.length : Int)) then some (-1) else if decide ((s2.1.length : Int) > (s2.2.length : Int)) then some 1 else some 0
      | .inr s3 => some s3) = some (cmpL (s.drop k) (t.drop k)) := by
  intro n
  induction n with
  | zero => intro k _ _ h; omega
  | succ n ih =>
    intro k h1 h2 hn
    by_cases k1 : k < s.length
    · by_cases k2 : k < t.length
      · rw [List.drop_eq_getElem_cons k1, List.drop_eq_getElem_cons k2]
        simp only [impl_compareLists_L2, inb_nat, gd_nat k1, gd_nat k2, w64_succ (show k < 4611686018427387904 by omega), cmpL]
        by_cases he : s[k] = t[k]
        · have := ih (k + 1) k1 k2 (by omega)
          simp [k1, k2, he]
          simpa using this
        · by_cases hl : s[k] < t[k] <;> simp [k1, k2, he, hl]
      · rw [List.drop_eq_getElem_cons k1, List.drop_of_length_le (show t.length ≤ k by omega)]
        have e : k = t.length := by omega
        simp only [impl_compareLists_L2, cmpL]
        simp [k1, k2, show ¬ s.length < t.length by omega, show t.length < s.length by omega]
    · rw [List.drop_of_length_le (show s.length ≤ k by omega)]
      simp only [impl_compareLists_L2]
      by_cases k2 : k < t.length
      · rw [List.drop_eq_getElem_cons k2]
        simp [k1, cmpL, show s.length < t.length by omega]
      · rw [List.drop_of_length_le (show t.length ≤ k by omega)]
        simp [k1, cmpL, show ¬ s.length < t.length by omega, show ¬ t.length < s.length by omega]
theorem impl_compareLists_ok {s t : List Int} (hs : s.length ≤ 1099511627775) : impl_compareLists s t = some (cmpL s t) := by
  have := compare_L2 (t := t) hs fuel 0 (Nat.zero_le _) (Nat.zero_le _) (by unfold fuel; omega)
  rw [List.drop_zero, List.drop_zero] at this
  exact this
theorem spec_l3Less_ok {s t : List Int} (hs : s.length ≤ 1099511627775) (hl : s.length = t.length) : spec_l3Less s t = some (decide (cmpL s t < 0)) := by
  have key : ∀ (n k : Nat), k ≤ s.length → s.length - k < n → (spec_l3Less_L2 n (s, t, (k : Int))).bind (fun s1 => match s1 with | .inl _ => some false | .inr s3 => some s3) = some (decide (cmpL (s.drop k) (t.drop k) < 0)) := by
    intro n
    induction n with
    | zero => intro k _ h; omega
    | succ n ih =>
      intro k h1 hn
      by_cases k1 : k < s.length
      · have k2 : k < t.length := by omega
        rw [List.drop_eq_getElem_cons k1, List.drop_eq_getElem_cons k2]
        simp only [spec_l3Less_L2, inb_nat, gd_nat k1, gd_nat k2, w64_succ (show k < 4611686018427387904 by omega), cmpL]
        by_cases he : s[k] = t[k]
        · have := ih (k + 1) k1 (by omega)
          simp [k1, k2, he]
          simpa using this
        · by_cases hl : s[k] < t[k] <;> simp [k1, k2, he, hl]
      · rw [List.drop_of_length_le (show s.length ≤ k by omega), List.drop_of_length_le (show t.length ≤ k by omega)]
        simp [spec_l3Less_L2, k1, cmpL]
  have := key fuel 0 (Nat.zero_le _) (by unfold fuel; omega)
  rw [List.drop_zero, List.drop_zero] at this
  exact this
theorem cmpL_trans : ∀ {s t u}, cmpL s t < 0 → cmpL t u < 0 → cmpL s u < 0
  | [], [], _, h, _ => by simp [cmpL] at h
  | [], _ :: _, [], _, h => by simp [cmpL] at h
  | [], _ :: _, _ :: _, _, _ => by simp [cmpL]
  | _ :: _, [], _, h, _ => by simp [cmpL] at h
  | _ :: _, _ :: _, [], _, h => by simp [cmpL] at h
  | a :: s, b :: t, c :: u, h1, h2 => by
    simp only [cmpL] at *
    by_cases e1 : a = b
    · rw [if_pos e1] at h1
      by_cases e2 : b = c
      · rw [if_pos e2] at h2; rw [if_pos (e1.trans e2)]; exact cmpL_trans h1 h2
      · rw [if_neg e2] at h2; rw [e1, if_neg e2]; exact h2
    · rw [if_neg e1] at h1
      have l1 : a < b := by
        by_cases h : a < b
        · exact h
        · rw [if_neg h] at h1; omega
      by_cases e2 : b = c
      · rw [← e2, if_neg e1, if_pos l1]; omega
      · rw [if_neg e2] at h2
        have l2 : b < c := by
          by_cases h : b < c
          · exact h
          · rw [if_neg h] at h2; omega
        rw [if_neg (by omega), if_pos (by omega)]; omega
/-- each is less than the next -/
def incB : List (List Int) → Bool
  | a :: b :: l => decide (cmpL a b < 0) && incB (b :: l)
  | _ => true
theorem incB_tail {a : List Int} {l : List (List Int)} (h : incB (a :: l) = true) : incB l = true := by
  cases l with
  | nil => rfl
  | cons b l => simp only [incB, Bool.and_eq_true] at h; exact h.2
theorem incB_head : ∀ {a : List Int} {l : List (List Int)}, incB (a :: l) = true → ∀ b ∈ l, cmpL a b < 0
  | a, [], _, b, hb => by cases hb
  | a, c :: l, h, b, hb => by
    simp only [incB, Bool.and_eq_true, decide_eq_true_eq] at h
    rcases List.mem_cons.1 hb with rfl | hb
    · exact h.1
    · exact cmpL_trans h.1 (incB_head h.2 b hb)
theorem incB_lt : ∀ {l : List (List Int)}, incB l = true → ∀ (i j : Nat) (hi : i < j) (hj : j < l.length), cmpL (l[i]'(by omega)) l[j] < 0
  | [], _, i, j, _, hj => by simp at hj
  | a :: l, h, 0, j + 1, _, hj => by
    simp only [List.getElem_cons_zero, List.getElem_cons_succ]
    exact incB_head h _ (List.getElem_mem _)
  | a :: l, h, i + 1, j + 1, hi, hj => by
    simp only [List.getElem_cons_succ]
    exact incB_lt (incB_tail h) i j (by omega) (by simpa using hj)
theorem incB_iff {l : List (List Int)} : incB l = true ↔ ∀ (i : Nat) (hi : i + 1 < l.length), cmpL (l[i]'(by omega)) l[i + 1] < 0 := by
  constructor
  · exact fun h i hi => incB_lt h i (i + 1) (by omega) hi
  · induction l with
    | nil => intro _; rfl
    | cons a l ih =>
      intro h
      cases l with
      | nil => rfl
      | cons b l =>
        simp only [incB, Bool.and_eq_true, decide_eq_true_eq]
        exact ⟨h 0 (by simp), ih fun i hi => by have := h (i + 1) (by simpa using hi); simpa using this⟩
end T
open Go Go.Va
namespace T
/- powers and places -/
theorem pow_le_of {n : Int} (h0 : 0 ≤ n) (h8 : n ≤ 8) : ∀ k : Nat, 0 ≤ n ^ k ∧ n ^ k ≤ 8 ^ k
  | 0 => by simp
  | k + 1 => by
    obtain ⟨h1, h2⟩ := pow_le_of h0 h8 k
    rw [Int.pow_succ, Int.pow_succ]
    exact ⟨Int.mul_nonneg h1 h0, Int.mul_le_mul h2 h8 h0 (by have : (0 : Int) ≤ 8 ^ k := Int.le_trans h1 h2; exact this)⟩
theorem pow8_le : ∀ k : Nat, k ≤ 20 → (8 : Int) ^ k ≤ 8 ^ 20 := by
  intro k hk
  have : ((8 ^ k : Nat) : Int) ≤ ((8 ^ 20 : Nat) : Int) := Int.ofNat_le.2 (Nat.pow_le_pow_right (by omega) hk)
  simpa using this
theorem pow_bd {n : Int} (h0 : 0 ≤ n) (h8 : n ≤ 8) {k : Nat} (hk : k ≤ 20) : 0 ≤ n ^ k ∧ n ^ k ≤ 1152921504606846976 := by
  obtain ⟨h1, h2⟩ := pow_le_of h0 h8 k
  have := pow8_le k hk
  exact ⟨h1, by have e : (8 : Int) ^ 20 = 1152921504606846976 := by decide
                omega⟩
theorem l2Pow_L2 {n : Int} (h0 : 0 ≤ n) (h8 : n ≤ 8) : ∀ (m k j : Nat), j + k ≤ 20 → k < m → spec_l2Pow_L2 m (n, (k : Int), n ^ j) = some (n ^ (j + k)) := by
  intro m
  induction m with
  | zero => intro k j _ h; omega
  | succ m ih =>
    intro k j hj hk
    simp only [spec_l2Pow_L2]
    cases k with
    | zero => simp
    | succ k =>
      have e : w64 (((k + 1 : Nat) : Int) - 1) = (k : Int) := by rw [w64_id (by omega) (by omega)]; omega
      have hb := pow_bd h0 h8 (k := j + 1) (by omega)
      rw [Int.pow_succ] at hb
      rw [e, w64_id (by omega) (by omega), ← Int.pow_succ, if_pos (by simp), ih k (j + 1) (by omega) (by omega)]
      congr 2 <;> omega
theorem spec_l2Pow_ok {n : Int} (h0 : 0 ≤ n) (h8 : n ≤ 8) {k : Nat} (hk : k ≤ 20) : spec_l2Pow n (k : Int) = some (n ^ k) := by
  unfold spec_l2Pow
  have := l2Pow_L2 h0 h8 fuel k 0 (by omega) (by unfold fuel; omega)
  rw [Int.pow_zero] at this
  rw [this]; simp
/-- the place of a list among all lists of its length -/
def idxA (n : Int) : Int → List Int → Int
  | i, [] => i
  | i, a :: l => idxA n (i * n + a) l
def idx (n : Int) (l : List Int) : Int := idxA n 0 l
theorem idxA_eq (n : Int) : ∀ (l : List Int) (i : Int), idxA n i l = i * n ^ l.length + idxA n 0 l
  | [], i => by simp [idxA]
  | a :: l, i => by
    simp only [idxA, List.length_cons]
    rw [idxA_eq n l (i * n + a), idxA_eq n l (0 * n + a), Int.pow_succ]
    simp only [Int.zero_mul, Int.zero_add]
    rw [Int.add_mul, Int.mul_assoc, Int.mul_comm n (n ^ l.length)]
    omega
theorem idx_cons (n a : Int) (l : List Int) : idx n (a :: l) = a * n ^ l.length + idx n l := by
  unfold idx
  simp only [idxA]
  rw [idxA_eq]; simp
theorem belowB_cons {n a : Int} {l : List Int} : belowB n (a :: l) = true ↔ (0 ≤ a ∧ a < n) ∧ belowB n l = true := by
  unfold belowB; simp [List.all_cons]
theorem idx_bd {n : Int} : ∀ {l : List Int}, belowB n l = true → 0 ≤ idx n l ∧ idx n l < n ^ l.length
  | [], _ => by simp [idx, idxA]
  | a :: l, h => by
    obtain ⟨h1, h2⟩ := belowB_cons.1 h
    obtain ⟨h3, h4⟩ := idx_bd h2
    rw [idx_cons, List.length_cons, Int.pow_succ]
    have hp : 0 ≤ n ^ l.length := by omega
    have k1 := Int.mul_nonneg h1.1 hp
    have k2 := Int.mul_le_mul_of_nonneg_right (show a + 1 ≤ n by omega) hp
    rw [Int.add_mul, Int.one_mul, Int.mul_comm n] at k2
    exact ⟨by omega, by omega⟩
theorem idx_cmp {n : Int} : ∀ {s t : List Int}, belowB n s = true → belowB n t = true → s.length = t.length → (cmpL s t < 0 ↔ idx n s < idx n t) ∧ (cmpL s t = 0 ↔ idx n s = idx n t)
  | [], [], _, _, _ => by simp [cmpL, idx, idxA]
  | [], _ :: _, _, _, h => by simp at h
  | _ :: _, [], _, _, h => by simp at h
  | a :: s, b :: t, hs, ht, hl => by
    obtain ⟨s1, s2⟩ := belowB_cons.1 hs
    obtain ⟨t1, t2⟩ := belowB_cons.1 ht
    have hl' : s.length = t.length := by simpa using hl
    have ih := idx_cmp s2 t2 hl'
    obtain ⟨b1, b2⟩ := idx_bd s2
    obtain ⟨c1, c2⟩ := idx_bd t2
    rw [idx_cons, idx_cons, hl']
    rw [hl'] at b2
    simp only [cmpL]
    have hp : 0 ≤ n ^ t.length := by omega
    rcases Int.lt_trichotomy a b with h | h | h
    · have := Int.mul_le_mul_of_nonneg_right (show a + 1 ≤ b by omega) hp
      rw [Int.add_mul, Int.one_mul] at this
      rw [if_neg (by omega), if_pos h]
      exact ⟨by constructor <;> intro <;> omega, by constructor <;> intro <;> omega⟩
    · subst h
      rw [if_pos rfl]
      exact ⟨by rw [ih.1]; constructor <;> intro <;> omega, by rw [ih.2]; constructor <;> intro <;> omega⟩
    · have := Int.mul_le_mul_of_nonneg_right (show b + 1 ≤ a by omega) hp
      rw [Int.add_mul, Int.one_mul] at this
      rw [if_neg (by omega), if_neg (by omega)]
      exact ⟨by constructor <;> intro <;> omega, by constructor <;> intro <;> omega⟩
/-- lists in order are no more than there are -/
theorem inc_count {n : Int} {k : Nat} {l : List (List Int)} (hi : incB l = true) (hv : ∀ t ∈ l, t.length = k ∧ belowB n t = true) : (l.length : Int) ≤ n ^ k ∨ l = [] := by
  have key : ∀ (i : Nat) (h : i < l.length), (i : Int) ≤ idx n l[i] := by
    intro i
    induction i with
    | zero => intro h; exact (idx_bd (hv _ (List.getElem_mem h)).2).1
    | succ i ih =>
      intro h
      have h1 := ih (by omega)
      obtain ⟨l1, b1⟩ := hv _ (List.getElem_mem (show i < l.length by omega))
      obtain ⟨l2, b2⟩ := hv _ (List.getElem_mem h)
      have := (idx_cmp b1 b2 (l1.trans l2.symm)).1.1 (incB_lt hi i (i + 1) (by omega) h)
      omega
  cases hn : l.length with
  | zero => exact .inr (List.length_eq_zero_iff.1 hn)
  | succ m =>
    left
    have h := key m (by omega)
    obtain ⟨l1, b1⟩ := hv _ (List.getElem_mem (show m < l.length by omega))
    have := (idx_bd b1).2
    rw [l1] at this
    omega
end T
open Go Go.Va
namespace T
end T
open Go Go.Va
namespace T
section
variable {p : Int} {k : Nat} {ts : List (List Int)}
end
end T
open Go Go.Va
namespace T
section
variable {p : Int} {k : Nat} {ts : List (List Int)}
end
end T
set_option linter.unusedVariables false
open Go Go.Va
namespace T
def laws_szRelation (a : Int × (List (List Int))) (left : Int) : Option (Int) :=
  (laws_szIntSS a.2 left).bind fun r1 =>
    if decide (r1 < 0) then
      some (-1)
    else
      some r1
def laws_szConstraint (a : (List Int) × Int × (List (List Int))) (left : Int) : Option (Int) :=
  (laws_szIntS a.1 left).bind fun r1 =>
    if decide (r1 < 0) then
      some (-1)
    else
      (laws_szRelation (a.2.1, a.2.2) r1).bind fun r2 =>
        if decide (r2 < 0) then
          some (-1)
        else
          some r2
def laws_szConstraintS_L5 : Nat → ((List ((List Int) × Int × (List (List Int)))) × Int × Int) → Option ((Int) ⊕ (Int))
  | 0, _ => none
  | n + 1, (a, left, i) =>
    if decide (i < (a.length : Int)) then
      if inb i a then
        (laws_szConstraint (gd a i ([], (0, []))) left).bind fun r1 =>
          if decide (r1 < 0) then
            some (.inr (-1))
          else
            laws_szConstraintS_L5 n (a, r1, w64 (i + 1))
      else none
    else
      some (.inl left)
def laws_szConstraintS (a : List ((List Int) × Int × (List (List Int)))) (left : Int) : Option (Int) :=
  if decide ((w64 (left - (a.length : Int))) < 0) then
    some (-1)
  else
    (laws_szConstraintS_L5 fuel (a, w64 (left - (a.length : Int)), 0)).bind fun s1 =>
      match s1 with
      | .inl s2 =>
        some s2
      | .inr s3 =>
        some s3
def laws_szNetwork (a : Int × Int × (List ((List Int) × Int × (List (List Int))))) (left : Int) : Option (Int) :=
  (laws_szConstraintS a.2.2 left).bind fun r1 =>
    if decide (r1 < 0) then
      some (-1)
    else
      some r1
def laws_toRelation (a : Int × (List (List Int))) : Option ((Int × (List (List Int)))) :=
  (laws_toIntSS a.2).bind fun r1 =>
    some (a.1, r1)
def laws_toConstraint (a : (List Int) × Int × (List (List Int))) : Option (((List Int) × (Int × (List (List Int))))) :=
  (laws_toIntS a.1).bind fun r1 =>
    (laws_toRelation (a.2.1, a.2.2)).bind fun r2 =>
      some (r1, (r2.1, r2.2))
def laws_toConstraintS_L3 : Nat → ((List ((List Int) × Int × (List (List Int)))) × (List ((List Int) × Int × (List (List Int)))) × Int) → Option ((List ((List Int) × Int × (List (List Int)))))
  | 0, _ => none
  | n + 1, (a, out, i) =>
    if decide (i < (a.length : Int)) then
      if inb i a then
        (laws_toConstraint (gd a i ([], (0, [])))).bind fun r1 =>
          if inb i out then
            laws_toConstraintS_L3 n (a, stt out i (r1.1, (r1.2.1, r1.2.2)), w64 (i + 1))
          else none
      else none
    else
      some out
def laws_toConstraintS (a : List ((List Int) × Int × (List (List Int)))) : Option ((List ((List Int) × Int × (List (List Int))))) :=
  if 0 ≤ (a.length : Int) ∧ (a.length : Int) ≤ (a.length : Int) ∧ (a.length : Int) ≤ lim then
    (laws_toConstraintS_L3 fuel (a, List.replicate (Int.toNat (a.length : Int)) (([], (0, [])) : (List Int) × Int × (List (List Int))), 0)).bind fun s1 =>
      some s1
  else none
def laws_toNetwork (a : Int × Int × (List ((List Int) × Int × (List (List Int))))) : Option ((Int × (Int × (List ((List Int) × Int × (List (List Int))))))) :=
  (laws_toConstraintS a.2.2).bind fun r1 =>
    some (a.1, (a.2.1, r1))
def spec_l13Good_L4 : Nat → (Int × (Int × (List (List Int))) × Int) → Option ((Unit) ⊕ (Bool))
  | 0, _ => none
  | n + 1, (n_, r, i) =>
    if decide (i < (r.2.length : Int)) then
      if inb i r.2 then
        (spec_l8Tuple n_ r.1 (gd r.2 i [])).bind fun r3 =>
          if !r3 then
            some (.inr false)
          else
            if decide (i > 0) then
              if inb (w64 (i - 1)) r.2 then
                if inb i r.2 then
                  (spec_l3Less (gd r.2 (w64 (i - 1)) []) (gd r.2 i [])).bind fun r4 =>
                    if !r4 then
                      some (.inr false)
                    else
                      spec_l13Good_L4 n (n_, (r.1, r.2), w64 (i + 1))
                else none
              else none
            else
              spec_l13Good_L4 n (n_, (r.1, r.2), w64 (i + 1))
      else none
    else
      some (.inl ())
def spec_l13Good (n_ : Int) (r : Int × (List (List Int))) : Option (Bool) :=
  (spec_l1In r.1 1 3).bind fun r1 =>
    if !r1 then
      some false
    else
      (spec_l2Pow n_ r.1).bind fun r2 =>
        if decide ((r.2.length : Int) > r2) then
          some false
        else
          (spec_l13Good_L4 fuel (n_, (r.1, r.2), 0)).bind fun s3 =>
            match s3 with
            | .inl s4 =>
              some true
            | .inr s5 =>
              some s5
def spec_l19Is (vars : Int) (size : Int) (c : (List Int) × Int × (List (List Int))) : Option (Bool) :=
  (spec_l13Good size (c.2.1, c.2.2)).bind fun r1 =>
    if r1 then
      if (c.1.length : Int) == c.2.1 then
        (spec_l2Elements vars c.1).bind fun r2 =>
          some r2
      else
        some false
    else
      some false
def spec_l19Good_L4 : Nat → ((Int × Int × (List ((List Int) × Int × (List (List Int))))) × Int) → Option ((Unit) ⊕ (Bool))
  | 0, _ => none
  | n + 1, (net, i) =>
    if decide (i < (net.2.2.length : Int)) then
      if inb i net.2.2 then
        (spec_l19Is net.1 net.2.1 (gd net.2.2 i ([], (0, [])))).bind fun r3 =>
          if !r3 then
            some (.inr false)
          else
            spec_l19Good_L4 n ((net.1, (net.2.1, net.2.2)), w64 (i + 1))
      else none
    else
      some (.inl ())
def spec_l19Good (net : Int × Int × (List ((List Int) × Int × (List (List Int))))) : Option (Bool) :=
  (spec_l1In net.1 0 9).bind fun r1 =>
    if !r1 then
      some false
    else
      (spec_l1In net.2.1 1 4).bind fun r2 =>
        if !r2 then
          some false
        else
          if decide ((net.2.2.length : Int) > 40) then
            some false
          else
            (spec_l19Good_L4 fuel ((net.1, (net.2.1, net.2.2)), 0)).bind fun s3 =>
              match s3 with
              | .inl s4 =>
                some true
              | .inr s5 =>
                some s5
def spec_l22Good (net : Int × Int × (List ((List Int) × Int × (List (List Int))))) : Option (Bool) :=
  if net.2.1 == 2 then
    (spec_l19Good (net.1, (net.2.1, net.2.2))).bind fun r1 =>
      some r1
  else
    some false
def spec_l22Constant_L3 : Nat → (Int × Int × (List Int) × Int) → Option ((List Int))
  | 0, _ => none
  | n + 1, (vars, value, out, v) =>
    if decide (v < vars) then
      if out.length + [value].length ≤ lim then
        spec_l22Constant_L3 n (vars, value, out ++ [value], w64 (v + 1))
      else none
    else
      some out
def spec_l22Constant (vars : Int) (value : Int) : Option ((List Int)) :=
  (spec_l22Constant_L3 fuel (vars, value, [], 0)).bind fun s1 =>
    some s1
def spec_l1Own (l : List Int) : Option ((List Int)) :=
  if ([] : List Int).length + l.length ≤ lim then
    some ([] ++ l)
  else none
def spec_l22Take_L4 : Nat → ((List Int) × Int × ((List Int) × Int × (List (List Int))) × (List Int) × Bool × (List Bool) × Int) → Option ((List Int) × Int × ((List Int) × Int × (List (List Int))) × (List Int) × Bool × (List Bool))
  | 0, _ => none
  | n + 1, (t1, t2, t3, t8, t9, t10, t11) =>
    if decide (t11 < (t3.1.length : Int)) then
      if t10.length + [true].length ≤ lim then
        spec_l22Take_L4 n (t1, t2, (t3.1, (t3.2.1, t3.2.2)), t8, t9, t10 ++ [true], w64 (t11 + 1))
      else none
    else
      some (t1, t2, (t3.1, (t3.2.1, t3.2.2)), t8, t9, t10)
def spec_l22Take_L16 : Nat → ((List Int) × Int × ((List Int) × Int × (List (List Int))) × (List Int) × Bool × (List Bool) × Int × (List Int) × Bool × Int × Int) → Option ((List Int) × Int × ((List Int) × Int × (List (List Int))) × (List Int) × Bool × (List Bool) × Int × (List Int) × Bool × Int)
  | 0, _ => none
  | n + 1, (t1, t2, t3, t8, t9, t10, t12, t13, t14, t15, t16) =>
    if decide (t16 < t15) then
      if t14 then
        if inb t15 t3.1 then
          if inb t16 t3.1 then
            if (gd t3.1 t15 0) != (gd t3.1 t16 0) then
              spec_l22Take_L16 n (t1, t2, (t3.1, (t3.2.1, t3.2.2)), t8, t9, t10, t12, t13, true, t15, w64 (t16 + 1))
            else
              if inb t15 t13 then
                if inb t16 t13 then
                  spec_l22Take_L16 n (t1, t2, (t3.1, (t3.2.1, t3.2.2)), t8, t9, t10, t12, t13, (gd t13 t15 0) == (gd t13 t16 0), t15, w64 (t16 + 1))
                else none
              else none
          else none
        else none
      else
        spec_l22Take_L16 n (t1, t2, (t3.1, (t3.2.1, t3.2.2)), t8, t9, t10, t12, t13, false, t15, w64 (t16 + 1))
    else
      some (t1, t2, (t3.1, (t3.2.1, t3.2.2)), t8, t9, t10, t12, t13, t14, t15)
def spec_l22Take_L12 : Nat → ((List Int) × Int × ((List Int) × Int × (List (List Int))) × (List Int) × Bool × (List Bool) × Int × (List Int) × Bool × Int) → Option ((List Int) × Int × ((List Int) × Int × (List (List Int))) × (List Int) × Bool × (List Bool) × Int × (List Int) × Bool)
  | 0, _ => none
  | n + 1, (t1, t2, t3, t8, t9, t10, t12, t13, t14, t15) =>
    if decide (t15 < (t13.length : Int)) then
      if t14 then
        if inb t15 t3.1 then
          if inb (gd t3.1 t15 0) t1 then
            if (gd t1 (gd t3.1 t15 0) 0) != t2 then
              (spec_l22Take_L16 fuel (t1, t2, (t3.1, (t3.2.1, t3.2.2)), t8, t9, t10, t12, t13, true, t15, 0)).bind fun s3 =>
                spec_l22Take_L12 n (s3.1, s3.2.1, (s3.2.2.1.1, (s3.2.2.1.2.1, s3.2.2.1.2.2)), s3.2.2.2.1, s3.2.2.2.2.1, s3.2.2.2.2.2.1, s3.2.2.2.2.2.2.1, s3.2.2.2.2.2.2.2.1, s3.2.2.2.2.2.2.2.2.1, w64 (s3.2.2.2.2.2.2.2.2.2 + 1))
            else
              if inb t15 t13 then
                (spec_l22Take_L16 fuel (t1, t2, (t3.1, (t3.2.1, t3.2.2)), t8, t9, t10, t12, t13, (gd t13 t15 0) == t2, t15, 0)).bind fun s4 =>
                  spec_l22Take_L12 n (s4.1, s4.2.1, (s4.2.2.1.1, (s4.2.2.1.2.1, s4.2.2.1.2.2)), s4.2.2.2.1, s4.2.2.2.2.1, s4.2.2.2.2.2.1, s4.2.2.2.2.2.2.1, s4.2.2.2.2.2.2.2.1, s4.2.2.2.2.2.2.2.2.1, w64 (s4.2.2.2.2.2.2.2.2.2 + 1))
              else none
          else none
        else none
      else
        (spec_l22Take_L16 fuel (t1, t2, (t3.1, (t3.2.1, t3.2.2)), t8, t9, t10, t12, t13, false, t15, 0)).bind fun s5 =>
          spec_l22Take_L12 n (s5.1, s5.2.1, (s5.2.2.1.1, (s5.2.2.1.2.1, s5.2.2.1.2.2)), s5.2.2.2.1, s5.2.2.2.2.1, s5.2.2.2.2.2.1, s5.2.2.2.2.2.2.1, s5.2.2.2.2.2.2.2.1, s5.2.2.2.2.2.2.2.2.1, w64 (s5.2.2.2.2.2.2.2.2.2 + 1))
    else
      some (t1, t2, (t3.1, (t3.2.1, t3.2.2)), t8, t9, t10, t12, t13, t14)
def spec_l22Take_L20 : Nat → ((List Int) × Int × ((List Int) × Int × (List (List Int))) × (List Int) × Bool × (List Bool) × Int × (List Int) × Bool × Int) → Option ((List Int) × Int × ((List Int) × Int × (List (List Int))) × (List Int) × Bool × (List Bool) × Int × Bool)
  | 0, _ => none
  | n + 1, (t1, t2, t3, t8, t9, t10, t12, t13, t14, t17) =>
    if decide (t17 < (t13.length : Int)) then
      if t14 then
        if inb t17 t10 then
          if gd t10 t17 false then
            if inb t17 t13 then
              if inb t17 t10 then
                spec_l22Take_L20 n (t1, t2, (t3.1, (t3.2.1, t3.2.2)), t8, t9, stt t10 t17 ((gd t13 t17 0) == t2), t12, t13, t14, w64 (t17 + 1))
              else none
            else none
          else
            if inb t17 t10 then
              spec_l22Take_L20 n (t1, t2, (t3.1, (t3.2.1, t3.2.2)), t8, t9, stt t10 t17 false, t12, t13, t14, w64 (t17 + 1))
            else none
        else none
      else
        some (t1, t2, (t3.1, (t3.2.1, t3.2.2)), t8, t9, t10, t12, t14)
    else
      some (t1, t2, (t3.1, (t3.2.1, t3.2.2)), t8, t9, t10, t12, t14)
def spec_l22Take_L8 : Nat → ((List Int) × Int × ((List Int) × Int × (List (List Int))) × (List Int) × Bool × (List Bool) × Int) → Option (Int × ((List Int) × Int × (List (List Int))) × (List Int) × Bool × (List Bool))
  | 0, _ => none
  | n + 1, (t1, t2, t3, t8, t9, t10, t12) =>
    if decide (t12 < (t3.2.2.length : Int)) then
      if inb t12 t3.2.2 then
        (spec_l22Take_L12 fuel (t1, t2, (t3.1, (t3.2.1, t3.2.2)), t8, t9, t10, t12, gd t3.2.2 t12 [], true, 0)).bind fun s3 =>
          (spec_l22Take_L20 fuel (s3.1, s3.2.1, (s3.2.2.1.1, (s3.2.2.1.2.1, s3.2.2.1.2.2)), s3.2.2.2.1, s3.2.2.2.2.1, s3.2.2.2.2.2.1, s3.2.2.2.2.2.2.1, s3.2.2.2.2.2.2.2.1, s3.2.2.2.2.2.2.2.2, 0)).bind fun s4 =>
            if s4.2.2.2.2.1 then
              spec_l22Take_L8 n (s4.1, s4.2.1, (s4.2.2.1.1, (s4.2.2.1.2.1, s4.2.2.1.2.2)), s4.2.2.2.1, true, s4.2.2.2.2.2.1, w64 (s4.2.2.2.2.2.2.1 + 1))
            else
              spec_l22Take_L8 n (s4.1, s4.2.1, (s4.2.2.1.1, (s4.2.2.1.2.1, s4.2.2.1.2.2)), s4.2.2.2.1, s4.2.2.2.2.2.2.2, s4.2.2.2.2.2.1, w64 (s4.2.2.2.2.2.2.1 + 1))
      else none
    else
      some (t2, (t3.1, (t3.2.1, t3.2.2)), t8, t9, t10)
def spec_l22Take_L25 : Nat → (Int × ((List Int) × Int × (List (List Int))) × (List Int) × Bool × (List Bool) × Int) → Option ((List Int) × Bool)
  | 0, _ => none
  | n + 1, (t2, t3, t8, t9, t10, t18) =>
    if decide (t18 < (t3.1.length : Int)) then
      if t9 then
        if inb t18 t10 then
          if gd t10 t18 false then
            if inb t18 t3.1 then
              if inb (gd t3.1 t18 0) t8 then
                spec_l22Take_L25 n (t2, (t3.1, (t3.2.1, t3.2.2)), stt t8 (gd t3.1 t18 0) t2, t9, t10, w64 (t18 + 1))
              else none
            else none
          else
            spec_l22Take_L25 n (t2, (t3.1, (t3.2.1, t3.2.2)), t8, t9, t10, w64 (t18 + 1))
        else none
      else
        some (t8, t9)
    else
      some (t8, t9)
def spec_l22Take (t0 : (List Int) × Int × (List (List Int))) (t1 : List Int) (t2 : Int) : Option ((List Int) × Bool) :=
  (spec_l1Own t1).bind fun r1 =>
    (spec_l22Take_L4 fuel (t1, t2, (t0.1, (t0.2.1, t0.2.2)), r1, false, [], 0)).bind fun s2 =>
      (spec_l22Take_L8 fuel (s2.1, s2.2.1, (s2.2.2.1.1, (s2.2.2.1.2.1, s2.2.2.1.2.2)), s2.2.2.2.1, s2.2.2.2.2.1, s2.2.2.2.2.2, 0)).bind fun s3 =>
        (spec_l22Take_L25 fuel (s3.1, (s3.2.1.1, (s3.2.1.2.1, s3.2.1.2.2)), s3.2.2.1, s3.2.2.2.1, s3.2.2.2.2, 0)).bind fun s4 =>
          some (s4.1, s4.2)
def spec_IsRaiseRefutation_L7 : Nat → ((List Int) × (Int × Int × (List ((List Int) × Int × (List (List Int))))) × (List Int) × Int) → Option ((Unit) ⊕ (Bool × Bool))
  | 0, _ => none
  | n + 1, (steps, net, values, i) =>
    if decide (i < (steps.length : Int)) then
      if inb i steps then
        if inb (gd steps i 0) net.2.2 then
          (spec_l22Take (gd net.2.2 (gd steps i 0) ([], (0, []))) values 1).bind fun r5 =>
            if !r5.2 then
              some (.inr (i == (w64 ((steps.length : Int) - 1)), true))
            else
              spec_IsRaiseRefutation_L7 n (steps, (net.1, (net.2.1, net.2.2)), r5.1, w64 (i + 1))
        else none
      else none
    else
      some (.inl ())
def spec_IsRaiseRefutation (net : Int × Int × (List ((List Int) × Int × (List (List Int))))) (steps : List Int) : Option (Bool × Bool) :=
  (spec_l22Good (net.1, (net.2.1, net.2.2))).bind fun r1 =>
    if !r1 then
      some (false, false)
    else
      (spec_l1In (steps.length : Int) 1 20).bind fun r2 =>
        if !r2 then
          some (false, true)
        else
          (spec_l2Elements (net.2.2.length : Int) steps).bind fun r3 =>
            if !r3 then
              some (false, true)
            else
              (spec_l22Constant net.1 0).bind fun r4 =>
                (spec_IsRaiseRefutation_L7 fuel (steps, (net.1, (net.2.1, net.2.2)), r4, 0)).bind fun s5 =>
                  match s5 with
                  | .inl s6 =>
                    some (false, true)
                  | .inr s7 =>
                    some (s7.1, s7.2)
def impl_isTemplateSize (n_ : Int) : Option (Bool) :=
  if decide (n_ ≥ 1) then
    some (decide (n_ ≤ 4))
  else
    some false
def impl_isRelation_L4 : Nat → (Int × (Int × (List (List Int))) × (List (List Int)) × Int × Int) → Option ((Unit) ⊕ (Bool))
  | 0, _ => none
  | n + 1, (n_, r, t16, t17, t18) =>
    if decide (t18 < t17) then
      if inb t18 t16 then
        if ((gd t16 t18 []).length : Int) != r.1 then
          some (.inr false)
        else
          (impl_inSize (gd t16 t18 []) n_).bind fun r1 =>
            if !r1 then
              some (.inr false)
            else
              if decide (t18 > 0) then
                if inb (w64 (t18 - 1)) r.2 then
                  (impl_compareLists (gd r.2 (w64 (t18 - 1)) []) (gd t16 t18 [])).bind fun r2 =>
                    if decide (r2 ≥ 0) then
                      some (.inr false)
                    else
                      impl_isRelation_L4 n (n_, (r.1, r.2), t16, t17, w64 (t18 + 1))
                else none
              else
                impl_isRelation_L4 n (n_, (r.1, r.2), t16, t17, w64 (t18 + 1))
      else none
    else
      some (.inl ())
def impl_isRelation (n_ : Int) (r : Int × (List (List Int))) : Option (Bool) :=
  if decide (r.1 < 1) then
    some false
  else
    if decide (r.1 > 3) then
      some false
    else
      (impl_isRelation_L4 fuel (n_, (r.1, r.2), r.2, (r.2.length : Int), 0)).bind fun s1 =>
        match s1 with
        | .inl s2 =>
          some true
        | .inr s3 =>
          some s3
def impl_isConstraint (vars : Int) (size : Int) (c : (List Int) × Int × (List (List Int))) : Option (Bool) :=
  (impl_isRelation size (c.2.1, c.2.2)).bind fun r1 =>
    if r1 then
      if (c.1.length : Int) == c.2.1 then
        (impl_inSize c.1 vars).bind fun r2 =>
          some r2
      else
        some false
    else
      some false
def impl_IsNetwork_L4 : Nat → ((Int × Int × (List ((List Int) × Int × (List (List Int))))) × (List ((List Int) × Int × (List (List Int)))) × Int × Int) → Option ((Unit) ⊕ (Bool))
  | 0, _ => none
  | n + 1, (net, t26, t27, t28) =>
    if decide (t28 < t27) then
      if inb t28 t26 then
        (impl_isConstraint net.1 net.2.1 ((gd t26 t28 ([], (0, []))).1, (((gd t26 t28 ([], (0, []))).2).1, ((gd t26 t28 ([], (0, []))).2).2))).bind fun r2 =>
          if !r2 then
            some (.inr false)
          else
            impl_IsNetwork_L4 n ((net.1, (net.2.1, net.2.2)), t26, t27, w64 (t28 + 1))
      else none
    else
      some (.inl ())
def impl_IsNetwork (net : Int × Int × (List ((List Int) × Int × (List (List Int))))) : Option (Bool) :=
  if decide (net.1 < 0) then
    some false
  else
    if decide (net.1 > 9) then
      some false
    else
      (impl_isTemplateSize net.2.1).bind fun r1 =>
        if !r1 then
          some false
        else
          if decide ((net.2.2.length : Int) > 40) then
            some false
          else
            (impl_IsNetwork_L4 fuel ((net.1, (net.2.1, net.2.2)), net.2.2, (net.2.2.length : Int), 0)).bind fun s2 =>
              match s2 with
              | .inl s3 =>
                some true
              | .inr s4 =>
                some s4
def impl_isBoolean (net : Int × Int × (List ((List Int) × Int × (List (List Int))))) : Option (Bool) :=
  (impl_IsNetwork (net.1, (net.2.1, net.2.2))).bind fun r1 =>
    if r1 then
      some (net.2.1 == 2)
    else
      some false
def impl_constantTuple_L3 : Nat → (Int × (List Int) × Int × Int) → Option ((List Int))
  | 0, _ => none
  | n + 1, (x, t, t10, t11) =>
    if decide (t11 < t10) then
      if inb t11 t then
        impl_constantTuple_L3 n (x, stt t t11 x, t10, w64 (t11 + 1))
      else none
    else
      some t
def impl_constantTuple (arity : Int) (x : Int) : Option ((List Int)) :=
  if 0 ≤ arity ∧ arity ≤ arity ∧ arity ≤ lim then
    (impl_constantTuple_L3 fuel (x, List.replicate (Int.toNat arity) (0 : Int), ((List.replicate (Int.toNat arity) (0 : Int)).length : Int), 0)).bind fun s1 =>
      some s1
  else none
def impl_agrees_L5 : Nat → ((List Int) × (List Int) × Int × Int × (List Int) × Int × Int × (List Int) × Int × Int) → Option (((List Int) × (List Int) × (List Int) × Int × Int) ⊕ (Bool))
  | 0, _ => none
  | n + 1, (scope, t, i, v, t9, t10, t11, t18, t19, t20) =>
    if decide (t20 < t19) then
      if inb t20 t18 then
        if v == (gd t18 t20 0) then
          if inb i t then
            if inb t20 t then
              if (gd t i 0) != (gd t t20 0) then
                some (.inr false)
              else
                impl_agrees_L5 n (scope, t, i, v, t9, t10, t11, t18, t19, w64 (t20 + 1))
            else none
          else none
        else
          impl_agrees_L5 n (scope, t, i, v, t9, t10, t11, t18, t19, w64 (t20 + 1))
      else none
    else
      some (.inl (scope, t, t9, t10, t11))
def impl_agrees_L2 : Nat → ((List Int) × (List Int) × (List Int) × Int × Int) → Option ((Unit) ⊕ (Bool))
  | 0, _ => none
  | n + 1, (scope, t, t9, t10, t11) =>
    if decide (t11 < t10) then
      if inb t11 t9 then
        if (0 : Int) ≤ 0 ∧ 0 ≤ t11 ∧ t11 ≤ (scope.length : Int) then
          (impl_agrees_L5 fuel (scope, t, t11, gd t9 t11 0, t9, t10, t11, (scope.take (Int.toNat t11)).drop (Int.toNat 0), (((scope.take (Int.toNat t11)).drop (Int.toNat 0)).length : Int), 0)).bind fun s1 =>
            match s1 with
            | .inl s2 =>
              impl_agrees_L2 n (s2.1, s2.2.1, s2.2.2.1, s2.2.2.2.1, w64 (s2.2.2.2.2 + 1))
            | .inr s3 =>
              some (.inr s3)
        else none
      else none
    else
      some (.inl ())
def impl_agrees (scope : List Int) (t : List Int) : Option (Bool) :=
  (impl_agrees_L2 fuel (scope, t, scope, (scope.length : Int), 0)).bind fun s1 =>
    match s1 with
    | .inl s2 =>
      some true
    | .inr s3 =>
      some s3
def impl_raise_L3 : Nat → ((List Int) × Int × ((List Int) × Int × (List (List Int))) × (List Bool) × Int × Int) → Option ((List Int) × Int × ((List Int) × Int × (List (List Int))) × (List Bool))
  | 0, _ => none
  | n + 1, (t1, t2, t3, t7, t24, t25) =>
    if decide (t25 < t24) then
      if inb t25 t7 then
        impl_raise_L3 n (t1, t2, (t3.1, (t3.2.1, t3.2.2)), stt t7 t25 true, t24, w64 (t25 + 1))
      else none
    else
      some (t1, t2, (t3.1, (t3.2.1, t3.2.2)), t7)
def impl_raise_L13 : Nat → ((List Int) × Int × ((List Int) × Int × (List (List Int))) × (List Bool) × Bool × (List Int) × Bool × (List (List Int)) × Int × Int × (List Int) × Int × Int) → Option ((List Int) × Int × ((List Int) × Int × (List (List Int))) × (List Bool) × Bool × (List Int) × Bool × (List (List Int)) × Int × Int)
  | 0, _ => none
  | n + 1, (t1, t2, t3, t7, t9, t11, t12, t34, t35, t36, t44, t45, t46) =>
    if decide (t46 < t45) then
      if inb t46 t44 then
        if t12 then
          if (gd t44 t46 0) == t2 then
            impl_raise_L13 n (t1, t2, (t3.1, (t3.2.1, t3.2.2)), t7, t9, t11, true, t34, t35, t36, t44, t45, w64 (t46 + 1))
          else
            if inb t46 t3.1 then
              if inb (gd t3.1 t46 0) t1 then
                impl_raise_L13 n (t1, t2, (t3.1, (t3.2.1, t3.2.2)), t7, t9, t11, (gd t1 (gd t3.1 t46 0) 0) != t2, t34, t35, t36, t44, t45, w64 (t46 + 1))
              else none
            else none
        else
          impl_raise_L13 n (t1, t2, (t3.1, (t3.2.1, t3.2.2)), t7, t9, t11, false, t34, t35, t36, t44, t45, w64 (t46 + 1))
      else none
    else
      some (t1, t2, (t3.1, (t3.2.1, t3.2.2)), t7, t9, t11, t12, t34, t35, t36)
def impl_raise_L20 : Nat → ((List Int) × Int × ((List Int) × Int × (List (List Int))) × (List Bool) × Bool × (List (List Int)) × Int × Int × (List Int) × Int × Int) → Option ((List Int) × Int × ((List Int) × Int × (List (List Int))) × (List Bool) × Bool × (List (List Int)) × Int × Int)
  | 0, _ => none
  | n + 1, (t1, t2, t3, t7, t9, t34, t35, t36, t72, t73, t74) =>
    if decide (t74 < t73) then
      if inb t74 t72 then
        if inb t74 t7 then
          if gd t7 t74 false then
            if inb t74 t7 then
              impl_raise_L20 n (t1, t2, (t3.1, (t3.2.1, t3.2.2)), stt t7 t74 ((gd t72 t74 0) == t2), t9, t34, t35, t36, t72, t73, w64 (t74 + 1))
            else none
          else
            if inb t74 t7 then
              impl_raise_L20 n (t1, t2, (t3.1, (t3.2.1, t3.2.2)), stt t7 t74 false, t9, t34, t35, t36, t72, t73, w64 (t74 + 1))
            else none
        else none
      else none
    else
      some (t1, t2, (t3.1, (t3.2.1, t3.2.2)), t7, t9, t34, t35, t36)
def impl_raise_L9 : Nat → ((List Int) × Int × ((List Int) × Int × (List (List Int))) × (List Bool) × Bool × (List (List Int)) × Int × Int) → Option ((List Int) × Int × ((List Int) × Int × (List (List Int))) × (List Bool) × Bool)
  | 0, _ => none
  | n + 1, (t1, t2, t3, t7, t9, t34, t35, t36) =>
    if decide (t36 < t35) then
      if inb t36 t34 then
        (impl_agrees t3.1 (gd t34 t36 [])).bind fun r2 =>
          (impl_raise_L13 fuel (t1, t2, (t3.1, (t3.2.1, t3.2.2)), t7, t9, gd t34 t36 [], r2, t34, t35, t36, gd t34 t36 [], ((gd t34 t36 []).length : Int), 0)).bind fun s3 =>
            if !s3.2.2.2.2.2.2.1 then
              impl_raise_L9 n (s3.1, s3.2.1, (s3.2.2.1.1, (s3.2.2.1.2.1, s3.2.2.1.2.2)), s3.2.2.2.1, s3.2.2.2.2.1, s3.2.2.2.2.2.2.2.1, s3.2.2.2.2.2.2.2.2.1, w64 (s3.2.2.2.2.2.2.2.2.2 + 1))
            else
              (impl_raise_L20 fuel (s3.1, s3.2.1, (s3.2.2.1.1, (s3.2.2.1.2.1, s3.2.2.1.2.2)), s3.2.2.2.1, true, s3.2.2.2.2.2.2.2.1, s3.2.2.2.2.2.2.2.2.1, s3.2.2.2.2.2.2.2.2.2, s3.2.2.2.2.2.1, (s3.2.2.2.2.2.1.length : Int), 0)).bind fun s4 =>
                impl_raise_L9 n (s4.1, s4.2.1, (s4.2.2.1.1, (s4.2.2.1.2.1, s4.2.2.1.2.2)), s4.2.2.2.1, s4.2.2.2.2.1, s4.2.2.2.2.2.1, s4.2.2.2.2.2.2.1, w64 (s4.2.2.2.2.2.2.2 + 1))
      else none
    else
      some (t1, t2, (t3.1, (t3.2.1, t3.2.2)), t7, t9)
def impl_raise_L26 : Nat → ((List Int) × Int × (List Bool) × Bool × (List Int) × Int × Int) → Option ((List Int) × Bool)
  | 0, _ => none
  | n + 1, (t1, t2, t7, t9, t94, t95, t96) =>
    if decide (t96 < t95) then
      if inb t96 t94 then
        if t9 then
          if inb t96 t7 then
            if gd t7 t96 false then
              if inb (gd t94 t96 0) t1 then
                impl_raise_L26 n (stt t1 (gd t94 t96 0) t2, t2, t7, t9, t94, t95, w64 (t96 + 1))
              else none
            else
              impl_raise_L26 n (t1, t2, t7, t9, t94, t95, w64 (t96 + 1))
          else none
        else
          impl_raise_L26 n (t1, t2, t7, t9, t94, t95, w64 (t96 + 1))
      else none
    else
      some (t1, t9)
def impl_raise (t0 : (List Int) × Int × (List (List Int))) (t1 : List Int) (t2 : Int) : Option ((List Int) × Bool) :=
  if 0 ≤ (t0.1.length : Int) ∧ (t0.1.length : Int) ≤ (t0.1.length : Int) ∧ (t0.1.length : Int) ≤ lim then
    (impl_raise_L3 fuel (t1, t2, (t0.1, (t0.2.1, t0.2.2)), List.replicate (Int.toNat (t0.1.length : Int)) (false : Bool), ((List.replicate (Int.toNat (t0.1.length : Int)) (false : Bool)).length : Int), 0)).bind fun s1 =>
      (impl_raise_L9 fuel (s1.1, s1.2.1, (s1.2.2.1.1, (s1.2.2.1.2.1, s1.2.2.1.2.2)), s1.2.2.2, false, s1.2.2.1.2.2, (s1.2.2.1.2.2.length : Int), 0)).bind fun s2 =>
        (impl_raise_L26 fuel (s2.1, s2.2.1, s2.2.2.2.1, s2.2.2.2.2, s2.2.2.1.1, (s2.2.2.1.1.length : Int), 0)).bind fun s3 =>
          some (s3.1, s3.2)
  else none
def impl_IsRaiseRefutation_L7 : Nat → ((List Int) × (Int × Int × (List ((List Int) × Int × (List (List Int))))) × (List Int) × (List Int) × Int × Int) → Option ((Unit) ⊕ (Bool × Bool))
  | 0, _ => none
  | n + 1, (steps, net, values, t32, t33, t34) =>
    if decide (t34 < t33) then
      if inb t34 t32 then
        if inb (gd t32 t34 0) net.2.2 then
          (impl_raise (gd net.2.2 (gd t32 t34 0) ([], (0, []))) values 1).bind fun r4 =>
            if r4.2 == (t34 == (w64 ((steps.length : Int) - 1))) then
              some (.inr (false, true))
            else
              impl_IsRaiseRefutation_L7 n (steps, (net.1, (net.2.1, net.2.2)), r4.1, t32, t33, w64 (t34 + 1))
        else none
      else none
    else
      some (.inl ())
def impl_IsRaiseRefutation (net : Int × Int × (List ((List Int) × Int × (List (List Int))))) (steps : List Int) : Option (Bool × Bool) :=
  (impl_isBoolean (net.1, (net.2.1, net.2.2))).bind fun r1 =>
    if !r1 then
      some (false, false)
    else
      if decide ((steps.length : Int) < 1) then
        some (false, true)
      else
        if decide ((steps.length : Int) > 20) then
          some (false, true)
        else
          (impl_inSize steps (net.2.2.length : Int)).bind fun r2 =>
            if !r2 then
              some (false, true)
            else
              (impl_constantTuple net.1 0).bind fun r3 =>
                (impl_IsRaiseRefutation_L7 fuel (steps, (net.1, (net.2.1, net.2.2)), r3, steps, (steps.length : Int), 0)).bind fun s4 =>
                  match s4 with
                  | .inl s5 =>
                    some (true, true)
                  | .inr s6 =>
                    some (s6.1, s6.2)
def laws_eqRelation (a : Int × (List (List Int))) (b : Int × (List (List Int))) : Option (Bool) :=
  if a.1 != b.1 then
    some false
  else
    (laws_eqIntSS a.2 b.2).bind fun r1 =>
      if !r1 then
        some false
      else
        some true
def laws_eqConstraint (a : (List Int) × Int × (List (List Int))) (b : (List Int) × Int × (List (List Int))) : Option (Bool) :=
  (laws_eqIntS a.1 b.1).bind fun r1 =>
    if !r1 then
      some false
    else
      (laws_eqRelation (a.2.1, a.2.2) (b.2.1, b.2.2)).bind fun r2 =>
        if !r2 then
          some false
        else
          some true
def laws_eqConstraintS_L4 : Nat → ((List ((List Int) × Int × (List (List Int)))) × (List ((List Int) × Int × (List (List Int)))) × Int) → Option ((Unit) ⊕ (Bool))
  | 0, _ => none
  | n + 1, (a, b, i) =>
    if decide (i < (a.length : Int)) then
      if inb i a then
        if inb i b then
          (laws_eqConstraint (gd a i ([], (0, []))) (gd b i ([], (0, [])))).bind fun r1 =>
            if !r1 then
              some (.inr false)
            else
              laws_eqConstraintS_L4 n (a, b, w64 (i + 1))
        else none
      else none
    else
      some (.inl ())
def laws_eqConstraintS (a : List ((List Int) × Int × (List (List Int)))) (b : List ((List Int) × Int × (List (List Int)))) : Option (Bool) :=
  if (a.length : Int) != (b.length : Int) then
    some false
  else
    (laws_eqConstraintS_L4 fuel (a, b, 0)).bind fun s1 =>
      match s1 with
      | .inl s2 =>
        some true
      | .inr s3 =>
        some s3
def laws_eqNetwork (a : Int × Int × (List ((List Int) × Int × (List (List Int))))) (b : Int × Int × (List ((List Int) × Int × (List (List Int))))) : Option (Bool) :=
  if a.1 != b.1 then
    some false
  else
    if a.2.1 != b.2.1 then
      some false
    else
      (laws_eqConstraintS a.2.2 b.2.2).bind fun r1 =>
        if !r1 then
          some false
        else
          some true
def laws_FnExactIsRaiseRefutation (aNet : Int × Int × (List ((List Int) × Int × (List (List Int))))) (aSteps : List Int) : Option (Bool) :=
  if decide ((aSteps.length : Int) > 1048576) then
    some true
  else
    (laws_szNetwork (aNet.1, (aNet.2.1, aNet.2.2)) 1048576).bind fun r1 =>
      if decide (r1 < 0) then
        some true
      else
        (laws_toNetwork (aNet.1, (aNet.2.1, aNet.2.2))).bind fun r2 =>
          (laws_toIntS aSteps).bind fun r3 =>
            (spec_IsRaiseRefutation (r2.1, (r2.2.1, r2.2.2)) r3).bind fun r4 =>
              (laws_toNetwork (aNet.1, (aNet.2.1, aNet.2.2))).bind fun r5 =>
                (laws_toIntS aSteps).bind fun r6 =>
                  (impl_IsRaiseRefutation (r5.1, (r5.2.1, r5.2.2)) r6).bind fun r7 =>
                    if r7.1 != r4.1 then
                      some false
                    else
                      if r7.2 != r4.2 then
                        some false
                      else
                        (laws_toNetwork (aNet.1, (aNet.2.1, aNet.2.2))).bind fun r8 =>
                          (laws_eqNetwork (r5.1, (r5.2.1, r5.2.2)) (r8.1, (r8.2.1, r8.2.2))).bind fun r9 =>
                            if !r9 then
                              some false
                            else
                              (laws_toIntS aSteps).bind fun r10 =>
                                (laws_eqIntS r6 r10).bind fun r11 =>
                                  if !r11 then
                                    some false
                                  else
                                    some true
end T
open Go Go.Va
namespace T
/- sizes, in general -/
theorem szX {α : Type} (xs : List α) (f : α → Int → Option Int) (tot : α → Nat) (L : Nat → Int → Int → Option (Int ⊕ Int))
    (hf : ∀ a ∈ xs, ∀ s, 0 ≤ s → s ≤ 1099511627775 → f a s = some (szR (tot a) s))
    (hs : ∀ n s (k : Nat) (hk : k < xs.length), L (n + 1) s k = (f xs[k] s).bind fun q => if q < 0 then some (.inr (-1)) else L n q ((k + 1 : Nat) : Int))
    (he : ∀ n s, L (n + 1) s (xs.length : Nat) = some (.inl s)) : ∀ (n k : Nat) (s : Int), k ≤ xs.length → xs.length - k < n → 0 ≤ s → s ≤ 1099511627775 →
      L n s k = some (if (((xs.drop k).map tot).sum : Int) ≤ s then .inl (s - ((xs.drop k).map tot).sum) else .inr (-1)) := by
  intro n
  induction n with
  | zero => intro k s _ h; omega
  | succ n ih =>
    intro k s hk hn h0 h1
    rcases Nat.lt_or_ge k xs.length with hlt | hge
    · rw [hs n s k hlt, hf _ (List.getElem_mem hlt) s h0 h1, List.drop_eq_getElem_cons hlt, List.map_cons, List.sum_cons]
      unfold szR
      simp only [Option.bind_some]
      by_cases h : (tot xs[k] : Int) ≤ s
      · rw [if_pos h, if_neg (by omega), ih (k + 1) _ hlt (by omega) (by omega) (by omega)]
        congr 1
        by_cases h2 : ((((xs.drop (k + 1)).map tot).sum : Nat) : Int) ≤ s - tot xs[k]
        · rw [if_pos h2, if_pos (by omega)]; congr 1; omega
        · rw [if_neg h2, if_neg (by omega)]
      · rw [if_neg h, if_pos (by omega), if_neg (by omega)]
    · have : k = xs.length := by omega
      subst this
      rw [he, List.drop_length]; simp [h0]
/-- a list's size: its length and that of all members -/
theorem szX0 {α : Type} (xs : List α) (f : α → Int → Option Int) (tot : α → Nat) (L : Nat → Int → Int → Option (Int ⊕ Int)) (g : Option Int) {left : Int} (h0 : 0 ≤ left) (h1 : left ≤ 1099511627775)
    (hf : ∀ a ∈ xs, ∀ s, 0 ≤ s → s ≤ 1099511627775 → f a s = some (szR (tot a) s)) (hx : xs.length ≤ 9223372036854775807)
    (hs : ∀ n s (k : Nat) (hk : k < xs.length), k < 4611686018427387904 → L (n + 1) s k = (f xs[k] s).bind fun q => if q < 0 then some (.inr (-1)) else L n q ((k + 1 : Nat) : Int))
    (he : ∀ n s, L (n + 1) s (xs.length : Nat) = some (.inl s))
    (hg : g = if decide (w64 (left - (xs.length : Int)) < 0) then some (-1) else (L fuel (w64 (left - (xs.length : Int))) 0).bind fun s1 => match s1 with | .inl s2 => some s2 | .inr s3 => some s3) :
    g = some (szR (xs.length + (xs.map tot).sum) left) := by
  rw [hg, w64_id (by omega) (by omega)]
  by_cases h : (xs.length : Int) ≤ left
  · rw [if_neg (by simp; omega)]
    have := szX xs f tot L hf (fun n s k hk => hs n s k hk (by omega)) he fuel 0 (left - xs.length) (by omega) (by unfold fuel; omega) (by omega) (by omega)
    rw [show ((0 : Nat) : Int) = 0 from rfl, List.drop_zero] at this
    rw [this]
    unfold szR
    by_cases h2 : (((xs.map tot).sum : Nat) : Int) ≤ left - xs.length
    · rw [if_pos h2, if_pos (by omega)]
      simp only [Option.bind_some, Option.some.injEq]; omega
    · rw [if_neg h2, if_neg (by omega)]; rfl
  · rw [if_pos (by simp; omega)]
    unfold szR
    rw [if_neg (by omega)]
theorem sum_mem {α : Type} (tot : α → Nat) : ∀ {l : List α} {a : α}, a ∈ l → tot a ≤ (l.map tot).sum
  | x :: l, a, h => by
    rw [List.map_cons, List.sum_cons]
    rcases List.mem_cons.1 h with rfl | h
    · omega
    · have := sum_mem tot h; omega
/-- a list is copied -/
theorem toX {α : Type} (xs : List α) (f : α → Option α) (d : α) (L : Nat → List α → Int → Option (List α)) (g : Option (List α)) (hx : xs.length ≤ 1048576) (hf : ∀ a ∈ xs, f a = some a)
    (hs : ∀ n (out : List α) (k : Nat) (hk : k < xs.length), out.length = xs.length → k < 4611686018427387904 → L (n + 1) out k = (f xs[k]).bind fun r => L n (out.set k r) ((k + 1 : Nat) : Int))
    (he : ∀ n out, out.length = xs.length → L (n + 1) out (xs.length : Nat) = some out)
    (hg : g = if 0 ≤ (xs.length : Int) ∧ (xs.length : Int) ≤ (xs.length : Int) ∧ (xs.length : Int) ≤ lim then (L fuel (List.replicate (Int.toNat (xs.length : Int)) d) 0).bind some else none) : g = some xs := by
  rw [hg, if_pos (by unfold lim; omega)]
  have key := fillX0 xs L id some (fun n out k hk hl => by rw [hs n out k hk hl (by omega), hf _ (List.getElem_mem hk)]; rfl) he (n := fuel) (out := List.replicate (Int.toNat (xs.length : Int)) d) (by simp) (by unfold fuel; omega)
  rw [key]; simp
/-- two lists are held against each other -/
theorem eqXX {α : Type} [DecidableEq α] (a b : List α) (f : α → α → Option Bool) (L : Nat → Int → Option (Unit ⊕ Bool)) (g : Option Bool) (hx : a.length ≤ 1048576) (hf : ∀ x ∈ a, ∀ y, f x y = some (decide (x = y)))
    (hs : ∀ n (k : Nat) (h1 : k < a.length) (h2 : k < b.length), k < 4611686018427387904 → L (n + 1) k = (f a[k] b[k]).bind fun r => if !r then some (.inr false) else L n ((k + 1 : Nat) : Int))
    (he : ∀ n, L (n + 1) (a.length : Nat) = some (.inl ()))
    (hg : g = if (a.length : Int) != (b.length : Int) then some false else (L fuel 0).bind fun s1 => match s1 with | .inl _ => some true | .inr s3 => some s3) : g = some (decide (a = b)) := by
  rw [hg]
  by_cases hl : a.length = b.length
  · rw [if_neg (by simp [hl]), eqX a b hl L (fun n k h1 h2 => ?_) he (by unfold fuel; omega)]
    · by_cases h : a = b <;> simp [h]
    · rw [hs n k h1 h2 (by omega), hf _ (List.getElem_mem h1)]
      by_cases h : a[k] = b[k] <;> simp [h]
  · rw [if_pos (by simp; omega), decide_eq_false (fun e => hl (by rw [e]))]
/- networks -/
abbrev Con := List Int × Int × List (List Int)
abbrev Net := Int × Int × List Con
def rowsS (a : List (List Int)) : Prop := a.length ≤ 1048576 ∧ ∀ r ∈ a, r.length ≤ 1048576
def conS (c : Con) : Prop := c.1.length ≤ 1048576 ∧ rowsS c.2.2
def netS (a : Net) : Prop := a.2.2.length ≤ 1048576 ∧ ∀ c ∈ a.2.2, conS c
abbrev netT : Ty := .pair .int (.pair .int (.slice (.pair (.slice .int) (.pair .int (.slice (.slice .int))))))
def totC (c : Con) : Nat := c.1.length + totSS c.2.2
def totN (a : Net) : Nat := a.2.2.length + (a.2.2.map totC).sum
theorem szConstraint_ok {c : Con} {s : Int} (h0 : 0 ≤ s) (h1 : s ≤ 1099511627775) (h : c.1.length ≤ 9223372036854775807) (h2 : c.2.2.length ≤ 9223372036854775807) (hr : ∀ r ∈ c.2.2, r.length ≤ 9223372036854775807) :
    laws_szConstraint c s = some (szR (totC c) s) := by
  unfold laws_szConstraint
  rw [szIntS_ok h0 (by omega) h]
  unfold szR totC
  simp only [Option.bind_some]
  by_cases hc : (c.1.length : Int) ≤ s
  · rw [if_pos hc, if_neg (by simp; omega)]
    unfold laws_szRelation
    rw [szIntSS_ok (by omega) (by omega) h2 hr]
    unfold szR
    by_cases hd : (totSS c.2.2 : Int) ≤ s - c.1.length
    · rw [if_pos hd, if_pos (by omega)]
      simp only [Option.bind_some]
      rw [if_neg (by simp; omega)]
      simp only [Option.bind_some]
      rw [if_neg (by simp; omega)]
      congr 1; omega
    · rw [if_neg hd, if_neg (show ¬ ((c.1.length + totSS c.2.2 : Nat) : Int) ≤ s by push_cast; omega)]; rfl
  · rw [if_neg hc, if_neg (show ¬ ((c.1.length + totSS c.2.2 : Nat) : Int) ≤ s by push_cast; omega)]; rfl
theorem szNetwork_ok {a : Net} (h : wfT netT a) : laws_szNetwork a 1048576 = some (szR (totN a) 1048576) := by
  unfold laws_szNetwork
  have hc : ∀ c ∈ a.2.2, c.1.length ≤ 9223372036854775807 ∧ c.2.2.length ≤ 9223372036854775807 ∧ ∀ r ∈ c.2.2, r.length ≤ 9223372036854775807 := fun c hc => by
    have := h.2.2.2 c hc
    exact ⟨this.1.1, this.2.2.1, fun r hr => (this.2.2.2 r hr).1⟩
  have key : laws_szConstraintS a.2.2 1048576 = some (szR (totN a) 1048576) := by
    refine szX0 a.2.2 laws_szConstraint totC (fun n s i => laws_szConstraintS_L5 n (a.2.2, s, i)) _ (by omega) (by omega) (fun c hm s h0 h1 => szConstraint_ok h0 h1 (hc c hm).1 (hc c hm).2.1 (hc c hm).2.2) h.2.2.1 (fun n s k hk hk4 => ?_) (fun n s => ?_) rfl
    · simp only [laws_szConstraintS_L5, inb_nat, gd_nat hk, w64_succ hk4]
      simp [hk]
    · simp [laws_szConstraintS_L5]
  rw [key]
  unfold szR
  split
  · simp only [Option.bind_some]; rw [if_neg (by simp; omega)]
  · rfl
theorem szNetwork_small {a : Net} (h : ¬ szR (totN a) 1048576 < 0) : netS a ∧ totN a ≤ 1048576 := by
  unfold szR at h
  split at h
  · refine ⟨⟨by unfold totN at *; omega, fun c hc => ?_⟩, by omega⟩
    have h1 := sum_mem totC hc
    have h2 : totC c ≤ 1048576 := by unfold totN at *; omega
    unfold totC totSS at h2
    exact ⟨by omega, by omega, fun r hr => by have := mem_sum hr; omega⟩
  · omega
theorem toConstraint_ok {c : Con} (h : conS c) : laws_toConstraint c = some c := by
  unfold laws_toConstraint laws_toRelation
  rw [toIntS_ok (by have := h.1; omega)]
  dsimp only
  rw [toIntSS_ok (by have := h.2.1; omega) fun r hr => by have := h.2.2 r hr; omega]
  rfl
theorem toNetwork_ok {a : Net} (h : netS a) : laws_toNetwork a = some a := by
  unfold laws_toNetwork
  have key : laws_toConstraintS a.2.2 = some a.2.2 := by
    refine toX a.2.2 laws_toConstraint ([], (0, [])) (fun n out i => laws_toConstraintS_L3 n (a.2.2, out, i)) _ h.1 (fun c hc => toConstraint_ok (h.2 c hc)) (fun n out k hk hl hk4 => ?_) (fun n out hl => ?_) rfl
    · simp only [laws_toConstraintS_L3, inb_nat, gd_nat hk, stt_nat, w64_succ hk4]
      simp [hk, hl]
    · simp [laws_toConstraintS_L3]
  rw [key]; rfl
theorem eqConstraint_ok {a b : Con} (h : conS a) : laws_eqConstraint a b = some (decide (a = b)) := by
  unfold laws_eqConstraint laws_eqRelation
  rw [eqIntS_ok (by have := h.1; omega)]
  dsimp only
  rw [eqIntSS_ok (by have := h.2.1; omega) fun r hr => by have := h.2.2 r hr; omega]
  obtain ⟨a1, a2, a3⟩ := a
  obtain ⟨b1, b2, b3⟩ := b
  by_cases h1 : a1 = b1
  · by_cases h2 : a2 = b2
    · by_cases h3 : a3 = b3 <;> simp [h1, h2, h3]
    · simp [h1, h2]
  · simp [h1]
theorem eqNetwork_ok {a b : Net} (h : netS a) : laws_eqNetwork a b = some (decide (a = b)) := by
  unfold laws_eqNetwork
  have key : laws_eqConstraintS a.2.2 b.2.2 = some (decide (a.2.2 = b.2.2)) := by
    refine eqXX a.2.2 b.2.2 laws_eqConstraint (fun n i => laws_eqConstraintS_L4 n (a.2.2, b.2.2, i)) _ h.1 (fun c hc y => eqConstraint_ok (h.2 c hc)) (fun n k h1 h2 hk4 => ?_) (fun n => ?_) rfl
    · simp only [laws_eqConstraintS_L4, inb_nat, gd_nat h1, gd_nat h2, w64_succ hk4]
      simp [h1, h2]
    · simp [laws_eqConstraintS_L4]
  rw [key]
  obtain ⟨a1, a2, a3⟩ := a
  obtain ⟨b1, b2, b3⟩ := b
  by_cases h1 : a1 = b1
  · by_cases h2 : a2 = b2
    · by_cases h3 : a3 = b3 <;> simp [h1, h2, h3]
    · simp [h1, h2]
  · simp [h1]
/- a relation is valid -/
def relB (n : Int) (r : Int × List (List Int)) : Bool := decide (1 ≤ r.1 ∧ r.1 ≤ 3) && (r.2.all fun t => decide ((t.length : Int) = r.1) && belowB n t) && incB r.2
/-- the k-th tuple is valid, and greater than the one before -/
def tupAt (n : Int) (r : Int × List (List Int)) (k : Nat) : Bool := decide (((r.2.getD k []).length : Int) = r.1) && belowB n (r.2.getD k []) && (decide (k = 0) || decide (cmpL (r.2.getD (k - 1) []) (r.2.getD k []) < 0))
theorem getD_of {α : Type} {l : List α} {k : Nat} {d : α} (h : k < l.length) : l.getD k d = l[k] := by simp [List.getD_eq_getElem?_getD, h]
theorem tupAt_all {n ar : Int} {ts : List (List Int)} : (List.range ts.length).all (tupAt n (ar, ts)) = ((ts.all fun t => decide ((t.length : Int) = ar) && belowB n t) && incB ts) := by
  rw [Bool.eq_iff_iff, Bool.and_eq_true, List.all_eq_true, List.all_eq_true, incB_iff]
  unfold tupAt
  constructor
  · intro h
    refine ⟨fun t ht => ?_, fun i hi => ?_⟩
    · obtain ⟨k, hk, rfl⟩ := List.getElem_of_mem ht
      have := h k (List.mem_range.2 hk)
      rw [getD_of hk] at this
      simp only [Bool.and_eq_true] at this
      rw [Bool.and_eq_true]; exact this.1
    · have := h (i + 1) (List.mem_range.2 hi)
      rw [getD_of hi, Nat.add_sub_cancel, getD_of (show i < ts.length by omega)] at this
      simp at this
      exact this.2
  · rintro ⟨h1, h2⟩ k hk
    have hk := List.mem_range.1 hk
    have e := h1 _ (List.getElem_mem hk)
    rw [getD_of hk]
    rw [Bool.and_eq_true] at e
    rw [Bool.and_eq_true, Bool.and_eq_true]
    refine ⟨e, ?_⟩
    cases k with
    | zero => simp
    | succ i =>
      have := h2 i hk
      rw [Nat.add_sub_cancel, getD_of (show i < ts.length by omega)]
      simp [this]
theorem impl_isRelation_ok {n : Int} {r : Int × List (List Int)} (h : rowsS r.2) : impl_isRelation n r = some (relB n r) := by
  obtain ⟨ar, ts⟩ := r
  unfold impl_isRelation relB
  by_cases h1 : ar < 1
  · simp [h1, show ¬ 1 ≤ ar by omega]
  · by_cases h2 : ar > 3
    · simp [h1, h2, show ¬ ar ≤ 3 by omega]
    · rw [if_neg (by simpa using h1), if_neg (by simpa using h2)]
      have key := forA ts.length (fun m (_ : Unit) i => impl_isRelation_L4 m (n, (ar, ts), ts, (ts.length : Int), i)) (fun _ => ()) (tupAt n (ar, ts)) (r := some (.inr false)) (e := some (.inl ())) (fun m k hk => ?_) (fun m => ?_) (n := fuel) (by unfold fuel; have := h.1; simp at this; omega)
      · rw [key, tupAt_all]
        simp only [show (1 ≤ ar ∧ ar ≤ 3) = True by simp; omega, decide_true, Bool.true_and]
        cases (ts.all fun t => decide ((t.length : Int) = ar) && belowB n t) && incB ts <;> simp
      · have hx := h.2 ts[k] (List.getElem_mem hk)
        have hk' := h.1
        simp only at hk'
        simp only [impl_isRelation_L4, inb_nat, gd_nat hk, w64_succ (show k < 4611686018427387904 by omega), impl_inSize_ok n (show ts[k].length ≤ 1099511627775 by omega), tupAt, getD_of hk]
        by_cases hl : (ts[k].length : Int) = ar
        · cases hb : belowB n ts[k] with
          | false => simp [hk, hl]
          | true =>
            cases k with
            | zero => simp [hk, hl]
            | succ i =>
              have hi : i < ts.length := by omega
              have hx2 := h.2 ts[i] (List.getElem_mem hi)
              have e : w64 (((i + 1 : Nat) : Int) - 1) = (i : Int) := by rw [w64_id (by omega) (by omega)]; omega
              simp only [e, inb_nat, gd_nat hi, Nat.add_sub_cancel, getD_of hi, impl_compareLists_ok (show ts[i].length ≤ 1099511627775 by omega)]
              by_cases hc : cmpL ts[i] ts[i + 1] < 0
              · simp [hk, hl, hi, hc, show ¬ cmpL ts[i] ts[i + 1] ≥ 0 by omega]; omega
              · simp [hk, hl, hi, hc, show cmpL ts[i] ts[i + 1] ≥ 0 by omega]; omega
        · simp [hk, hl]
      · simp [impl_isRelation_L4]
theorem spec_l13Good_ok {n : Int} {r : Int × List (List Int)} (h : rowsS r.2) (hn : 1 ≤ n ∧ n ≤ 8) : spec_l13Good n r = some (relB n r) := by
  obtain ⟨ar, ts⟩ := r
  unfold spec_l13Good relB
  rw [spec_l1In_ok]
  by_cases h1 : 1 ≤ ar ∧ ar ≤ 3
  · simp only [h1, and_self, decide_true, Option.bind_some, Bool.not_true, Bool.false_eq_true, if_false, Bool.true_and]
    obtain ⟨m, rfl⟩ : ∃ m : Nat, ar = m := ⟨ar.toNat, by omega⟩
    rw [spec_l2Pow_ok (by omega) (by omega) (by omega)]
    simp only [Option.bind_some]
    have key := forB ts.length (fun m' (_ : Unit) i => spec_l13Good_L4 m' (n, ((m : Int), ts), i)) (fun _ => ()) (tupAt n ((m : Int), ts)) (r := some (.inr false)) (e := some (.inl ())) (fun m' k hk hb0 => ?_) (fun m' _ => ?_) (n := fuel) (by unfold fuel; have := h.1; simp at this; omega)
    · by_cases hc : (ts.length : Int) > n ^ m
      · rw [if_pos (by simpa using hc)]
        by_cases hv : ((ts.all fun t => decide ((t.length : Int) = m) && belowB n t) && incB ts) = true
        · rw [Bool.and_eq_true, List.all_eq_true] at hv
          rcases inc_count (k := m) hv.2 fun t ht => by have := hv.1 t ht; simp at this; exact ⟨by omega, this.2⟩ with h2 | h2
          · omega
          · subst h2
            have := pow_bd (n := n) (by omega) (by omega) (k := m) (by omega)
            simp at hc; omega
        · simp only [Bool.not_eq_true] at hv; rw [hv]
      · rw [if_neg (by simpa using hc), key, tupAt_all]
        cases (ts.all fun t => decide ((t.length : Int) = m) && belowB n t) && incB ts <;> simp
    · have hx := h.2 ts[k] (List.getElem_mem hk)
      have hk' := h.1
      simp only at hk'
      simp only [spec_l13Good_L4, inb_nat, gd_nat hk, w64_succ (show k < 4611686018427387904 by omega), spec_l8Tuple_ok (n := n) _ (by omega) (by omega) (show ts[k].length ≤ 1099511627775 by omega), tupAt, getD_of hk]
      by_cases hl : (ts[k].length : Int) = m
      · cases hb : belowB n ts[k] with
        | false => simp [hk, hl]
        | true =>
          cases k with
          | zero => simp [hk, hl]
          | succ i =>
            have hi : i < ts.length := by omega
            have hx2 := h.2 ts[i] (List.getElem_mem hi)
            have e : w64 (((i + 1 : Nat) : Int) - 1) = (i : Int) := by rw [w64_id (by omega) (by omega)]; omega
            simp only [e, inb_nat, gd_nat hi, Nat.add_sub_cancel, getD_of hi]
            have hb1 := hb0 i (by omega)
            simp only [tupAt, getD_of hi, Bool.and_eq_true, decide_eq_true_eq] at hb1
            rw [spec_l3Less_ok (s := ts[i]) (t := ts[i + 1]) (by omega) (by have := hb1.1.1; omega)]
            by_cases hc : cmpL ts[i] ts[i + 1] < 0
            · simp [hk, hl, hi, hc]; omega
            · simp [hk, hl, hi, hc]; omega
      · simp [hk, hl]
    · simp [spec_l13Good_L4]
  · have : ¬ (1 ≤ ar ∧ ar ≤ 3) := h1
    simp [this]
end T
open Go Go.Va
namespace T
/-- a constraint is valid, for v variables and n values -/
def conB (v n : Int) (c : Con) : Bool := relB n (c.2.1, c.2.2) && decide ((c.1.length : Int) = c.2.1) && belowB v c.1
def netB (a : Net) : Bool := decide (0 ≤ a.1 ∧ a.1 ≤ 9) && decide (1 ≤ a.2.1 ∧ a.2.1 ≤ 4) && decide (a.2.2.length ≤ 40) && a.2.2.all (conB a.1 a.2.1)
theorem impl_isConstraint_ok {v n : Int} {c : Con} (h : conS c) : impl_isConstraint v n c = some (conB v n c) := by
  unfold impl_isConstraint conB
  rw [impl_isRelation_ok (r := (c.2.1, c.2.2)) h.2]
  cases relB n (c.2.1, c.2.2) with
  | false => simp
  | true =>
    by_cases hl : (c.1.length : Int) = c.2.1
    · simp [hl, impl_inSize_ok v (show c.1.length ≤ 1099511627775 by have := h.1; omega)]
    · simp [hl]
theorem spec_l19Is_ok {v n : Int} {c : Con} (h : conS c) (hv : 0 ≤ v ∧ v ≤ 9) (hn : 1 ≤ n ∧ n ≤ 8) : spec_l19Is v n c = some (conB v n c) := by
  unfold spec_l19Is conB
  rw [spec_l13Good_ok (r := (c.2.1, c.2.2)) h.2 hn]
  cases relB n (c.2.1, c.2.2) with
  | false => simp
  | true =>
    by_cases hl : (c.1.length : Int) = c.2.1
    · simp [hl, spec_l2Elements_ok (l := c.1) (n := v) (by omega) (by omega) (show c.1.length ≤ 1099511627775 by have := h.1; omega)]
    · simp [hl]
theorem impl_IsNetwork_ok {a : Net} (h : netS a) : impl_IsNetwork a = some (netB a) := by
  obtain ⟨v, n, cs⟩ := a
  unfold impl_IsNetwork netB
  by_cases h1 : v < 0
  · simp [h1, show ¬ 0 ≤ v by omega]
  · by_cases h2 : v > 9
    · simp [h1, h2, show ¬ v ≤ 9 by omega]
    · rw [if_neg (by simpa using h1), if_neg (by simpa using h2)]
      unfold impl_isTemplateSize
      by_cases h3 : 1 ≤ n ∧ n ≤ 4
      · by_cases h4 : cs.length > 40
        · simp [h3, show ¬ cs.length ≤ 40 by omega]; omega
        · have key := allX cs (fun m i => impl_IsNetwork_L4 m ((v, (n, cs)), cs, (cs.length : Int), i)) (conB v n) (.inr false) (.inl ()) ?_ ?_ (n := fuel) (by unfold fuel; omega)
          · simp only [h3, ge_iff_le, decide_true, if_true, Option.bind_some, Bool.not_true, Bool.false_eq_true, if_false]
            rw [if_neg (by simp; omega), key]
            cases cs.all (conB v n) <;> simp <;> omega
          · intro m k hk
            simp only [impl_IsNetwork_L4, inb_nat, gd_nat hk, w64_succ (show k < 4611686018427387904 by omega), impl_isConstraint_ok (c := cs[k]) (h.2 _ (List.getElem_mem hk))]
            cases hb : conB v n cs[k] <;> simp [hk, hb]
          · intro m
            simp [impl_IsNetwork_L4]
      · by_cases h5 : n ≥ 1
        · simp [h5, show ¬ n ≤ 4 by omega]
        · simp [h5, show ¬ 1 ≤ n by omega]
theorem spec_l19Good_ok {a : Net} (h : netS a) : spec_l19Good a = some (netB a) := by
  obtain ⟨v, n, cs⟩ := a
  unfold spec_l19Good netB
  rw [spec_l1In_ok, spec_l1In_ok]
  by_cases h1 : 0 ≤ v ∧ v ≤ 9
  · by_cases h3 : 1 ≤ n ∧ n ≤ 4
    · by_cases h4 : cs.length > 40
      · simp [h1, h3, show ¬ cs.length ≤ 40 by omega]; omega
      · have key := allX cs (fun m i => spec_l19Good_L4 m ((v, (n, cs)), i)) (conB v n) (.inr false) (.inl ()) ?_ ?_ (n := fuel) (by unfold fuel; omega)
        · simp only [h1, h3, and_self, decide_true, Option.bind_some, Bool.not_true, Bool.false_eq_true, if_false]
          rw [if_neg (by simp; omega), key]
          cases cs.all (conB v n) <;> simp <;> omega
        · intro m k hk
          simp only [spec_l19Good_L4, inb_nat, gd_nat hk, w64_succ (show k < 4611686018427387904 by omega), spec_l19Is_ok (c := cs[k]) (h.2 _ (List.getElem_mem hk)) h1 (show 1 ≤ n ∧ n ≤ 8 by omega)]
          cases hb : conB v n cs[k] <;> simp [hk, hb]
        · intro m
          simp [spec_l19Good_L4]
    · simp [h1, h3]
  · simp [h1]
/-- a valid constraint's parts -/
structure ConOk (v n : Int) (c : Con) : Prop where
  ar : 1 ≤ c.2.1 ∧ c.2.1 ≤ 3
  sl : (c.1.length : Int) = c.2.1
  sv : ∀ (i : Nat) (hi : i < c.1.length), 0 ≤ c.1[i] ∧ c.1[i] < v
  tl : ∀ t ∈ c.2.2, t.length = c.1.length
  tv : ∀ t ∈ c.2.2, ∀ (i : Nat) (hi : i < t.length), 0 ≤ t[i] ∧ t[i] < n
  inc : incB c.2.2 = true
  many : c.2.2.length ≤ 64
structure NetOk (a : Net) : Prop where
  hv : 0 ≤ a.1 ∧ a.1 ≤ 9
  hn : 1 ≤ a.2.1 ∧ a.2.1 ≤ 4
  hc : a.2.2.length ≤ 40
  con : ∀ c ∈ a.2.2, ConOk a.1 a.2.1 c
theorem con_of {v n : Int} {c : Con} (hn : 1 ≤ n ∧ n ≤ 4) (h : conB v n c = true) : ConOk v n c := by
  unfold conB relB at h
  simp only [Bool.and_eq_true, decide_eq_true_eq, List.all_eq_true] at h
  obtain ⟨⟨⟨⟨h1, h2⟩, h3⟩, h4⟩, h5⟩ := h
  refine ⟨h1, h4, fun i hi => belowB_get h5 i hi, fun t ht => by have := (h2 t ht).1; omega, fun t ht i hi => belowB_get (h2 t ht).2 i hi, h3, ?_⟩
  rcases inc_count (n := n) (k := c.2.1.toNat) h3 fun t ht => ⟨by have := (h2 t ht).1; omega, (h2 t ht).2⟩ with h6 | h6
  · have : n ^ c.2.1.toNat ≤ 64 := by
      have h7 : c.2.1.toNat = 1 ∨ c.2.1.toNat = 2 ∨ c.2.1.toNat = 3 := by omega
      have h8 : n = 1 ∨ n = 2 ∨ n = 3 ∨ n = 4 := by omega
      rcases h7 with h7 | h7 | h7 <;> rcases h8 with h8 | h8 | h8 | h8 <;> rw [h7, h8] <;> decide
    omega
  · rw [h6]; simp
theorem net_of {a : Net} (h : netB a = true) : NetOk a := by
  unfold netB at h
  simp only [Bool.and_eq_true, decide_eq_true_eq, List.all_eq_true] at h
  obtain ⟨⟨⟨h1, h2⟩, h3⟩, h4⟩ := h
  exact ⟨h1, h2, h3, fun c hc => con_of h2 (h4 c hc)⟩
end T
open Go Go.Va
namespace T
theorem beq_dec (a b : Int) : (a == b) = decide (a = b) := by by_cases h : a = b <;> simp [h]
theorem bne_dec (a b : Int) : (a != b) = !decide (a = b) := by by_cases h : a = b <;> simp [h]
/-- a loop that gathers with and -/
theorem accX {β : Type} (N : Nat) (L : Nat → Bool → Int → Option β) (p : Nat → Bool) (f : Bool → Option β)
    (hs : ∀ n b (k : Nat), k < N → L (n + 1) b k = L n (b && p k) ((k + 1 : Nat) : Int)) (he : ∀ n b, L (n + 1) b (N : Nat) = f b) {n : Nat} (hn : N < n) (b : Bool) : L n b 0 = f (b && (List.range N).all p) := by
  have key : ∀ (n k : Nat) (b : Bool), k ≤ N → N - k < n → L n b k = f (b && (List.range' k (N - k)).all p) := by
    intro n
    induction n with
    | zero => intro k b _ h; omega
    | succ n ih =>
      intro k b hk hn
      rcases Nat.lt_or_ge k N with hlt | hge
      · rw [hs n b k hlt, ih (k + 1) _ hlt (by omega), show N - k = (N - (k + 1)) + 1 by omega, List.range'_succ, List.all_cons, Bool.and_assoc]
      · have : k = N := by omega
        subst this; rw [he]; simp
  have := key n 0 b (Nat.zero_le _) (by omega)
  rw [List.range_eq_range']
  simpa using this
/-- a loop that changes each member by itself -/
theorem inplX {α β : Type} (N : Nat) (L : Nat → List α → Int → Option β) (f : Nat → α → α) (fin : List α → Option β)
    (hs : ∀ n (a : List α) (k : Nat) (hk : k < N) (hl : a.length = N), L (n + 1) a k = L n (a.set k (f k (a[k]'(by omega)))) ((k + 1 : Nat) : Int)) (he : ∀ n a, a.length = N → L (n + 1) a (N : Nat) = fin a) {n : Nat} (hn : N < n) {a : List α} (ha : a.length = N) : L n a 0 = fin (a.mapIdx f) := by
  have key := forS N L (fun k => a.mapIdx fun i x => if i < k then f i x else x) (r := fin (a.mapIdx f)) (fun n k hk => ?_) (fun n => ?_) hn
  · have e : (a.mapIdx fun i x => if i < 0 then f i x else x) = a := by
      apply List.ext_getElem <;> simp
    rw [e] at key; exact key
  · rw [hs n _ k hk (by simpa using ha)]
    congr 1
    apply List.ext_getElem
    · simp
    · intro i h1 h2
      simp only [List.getElem_set, List.getElem_mapIdx]
      by_cases h : k = i
      · subst h; simp
      · rw [if_neg h]
        by_cases h3 : i < k
        · simp [h3, show i < k + 1 by omega]
        · simp [h3, show ¬ i < k + 1 by omega]
  · have e : (a.mapIdx fun i x => if i < N then f i x else x) = a.mapIdx f := by
      apply List.ext_getElem
      · simp
      · intro i h1 h2
        simp at h1
        simp only [List.getElem_mapIdx]; rw [if_pos (by omega)]
    rw [e]; exact he n _ (by simpa using ha)
/- a constraint is taken -/
def g0 (l : List Int) (i : Nat) : Int := l.getD i 0
theorem g0_of {l : List Int} {i : Nat} (h : i < l.length) : l[i] = g0 l i := (getD_of h).symm
/-- two places with the same variable have the same value -/
def pairB (s t : List Int) (i j : Nat) : Bool := decide (g0 s i ≠ g0 s j ∨ g0 t i = g0 t j)
def agB (s t : List Int) : Bool := (List.range s.length).all fun i => (List.range i).all fun j => pairB s t i j
def mayB (up : Int) (s t vals : List Int) (i : Nat) : Bool := decide (g0 t i = up ∨ g0 vals (g0 s i).toNat ≠ up)
def fitB (up : Int) (s t vals : List Int) : Bool := agB s t && (List.range s.length).all fun i => mayB up s t vals i
theorem impl_agrees_ok {s t : List Int} (hs : s.length ≤ 1048576) (hl : t.length = s.length) : impl_agrees s t = some (agB s t) := by
  unfold impl_agrees agB
  have key := forA s.length (fun n (_ : Unit) i => impl_agrees_L2 n (s, t, s, (s.length : Int), i)) (fun _ => ()) (fun i => (List.range i).all fun j => pairB s t i j) (r := some (.inr false)) (e := some (.inl ())) (fun n k hk => ?_) (fun n => ?_) (n := fuel) (by unfold fuel; omega)
  · rw [key]
    cases (List.range s.length).all (fun i => (List.range i).all fun j => pairB s t i j) <;> simp
  · have inner := forA k (fun n (_ : Unit) i => impl_agrees_L5 n (s, t, (k : Int), s[k], s, (s.length : Int), (k : Int), s.take k, (((s.take k).length : Nat) : Int), i)) (fun _ => ()) (pairB s t k) (r := some (.inr false)) (e := some (.inl (s, t, s, (s.length : Int), (k : Int)))) (fun n j hj => ?_) (fun n => ?_) (n := fuel) (by unfold fuel; omega)
    · have e1 : List.drop (Int.toNat 0) (List.take (Int.toNat (k : Int)) s) = s.take k := by simp
      simp only [impl_agrees_L2, inb_nat, gd_nat hk, w64_succ (show k < 4611686018427387904 by omega), e1, inner]
      cases hp : (List.range k).all (pairB s t k) with
      | true => simp [hk, Nat.le_of_lt hk, w64_succ' (show k < 4611686018427387904 by omega)]
      | false => simp [hk, Nat.le_of_lt hk]
    · have h1 : j < (s.take k).length := by simp; omega
      have h2 : k < t.length := by omega
      have h3 : j < t.length := by omega
      have e2 : (s.take k)[j] = s[j] := by simp
      simp only [impl_agrees_L5, inb_nat, gd_nat h1, gd_nat h2, gd_nat h3, w64_succ (show j < 4611686018427387904 by omega), e2, pairB, g0_of hk, g0_of (show j < s.length by omega), g0_of h2, g0_of h3]
      by_cases h4 : g0 s k = g0 s j
      · by_cases h5 : g0 t k = g0 t j <;> simp [h2, h3, h4, h5, show j < min k s.length by omega]
      · simp [h4, show j < min k s.length by omega]
    · have e3 : (((s.take k).length : Nat) : Int) = (k : Int) := by simp; omega
      simp only [impl_agrees_L5, e3]; simp
  · simp [impl_agrees_L2]
abbrev all0 (s : List Int) : List Bool := List.replicate s.length true
/-- what is known of the places after some tuples, and whether any fitted -/
def stepT (up : Int) (s vals : List Int) (x : List Bool × Bool) (t : List Int) : List Bool × Bool :=
  if fitB up s t vals then (x.1.mapIdx fun i b => b && decide (g0 t i = up), true) else x
def putT (up : Int) (s : List Int) (al : List Bool) (vals : List Int) (i : Nat) : List Int := if al.getD i false then vals.set (g0 s i).toNat up else vals
def takeM (c : Con) (vals : List Int) (up : Int) : List Int × Bool :=
  let x := c.2.2.foldl (stepT up c.1 vals) (all0 c.1, false)
  (if x.2 then (List.range c.1.length).foldl (putT up c.1 x.1) vals else vals, x.2)
theorem stepT_len {up : Int} {s vals : List Int} : ∀ (l : List (List Int)) (x : List Bool × Bool), (l.foldl (stepT up s vals) x).1.length = x.1.length
  | [], _ => rfl
  | t :: l, x => by
    rw [List.foldl_cons, stepT_len l]
    unfold stepT; split <;> simp
theorem putT_len {up : Int} {s : List Int} {al : List Bool} : ∀ (l : List Nat) (v : List Int), (l.foldl (putT up s al) v).length = v.length
  | [], _ => rfl
  | i :: l, v => by
    rw [List.foldl_cons, putT_len l]
    unfold putT; split <;> simp
theorem takeM_len {c : Con} {vals : List Int} {up : Int} : (takeM c vals up).1.length = vals.length := by
  unfold takeM; dsimp only; split
  · exact putT_len _ _
  · rfl
section
variable {v n up : Int} {c : Con} {vals : List Int}
theorem con_sc (h : ConOk v n c) (hv : (vals.length : Int) = v) {i : Nat} (hi : i < c.1.length) : ∃ m : Nat, c.1[i] = (m : Int) ∧ m < vals.length ∧ g0 c.1 i = (m : Int) :=
  ⟨c.1[i].toNat, by have := h.sv i hi; omega, by have := h.sv i hi; omega, by have := h.sv i hi; rw [← g0_of hi]; omega⟩
theorem raise_L13 (h : ConOk v n c) (hv : (vals.length : Int) = v) (hv9 : vals.length ≤ 9) {t : List Int} (ht : t ∈ c.2.2) (b : Bool) (t7 : List Bool) (t9 : Bool) (t34 : List (List Int)) (t35 t36 : Int) :
    impl_raise_L13 fuel (vals, up, (c.1, (c.2.1, c.2.2)), t7, t9, t, b, t34, t35, t36, t, (t.length : Int), 0) = some (vals, up, (c.1, (c.2.1, c.2.2)), t7, t9, t, b && (List.range c.1.length).all (mayB up c.1 t vals), t34, t35, t36) := by
  have htl := h.tl t ht
  have har := h.ar
  have hsl := h.sl
  have := accX c.1.length (fun n b i => impl_raise_L13 n (vals, up, (c.1, (c.2.1, c.2.2)), t7, t9, t, b, t34, t35, t36, t, (t.length : Int), i)) (mayB up c.1 t vals) (fun b => some (vals, up, (c.1, (c.2.1, c.2.2)), t7, t9, t, b, t34, t35, t36)) (fun n b k hk => ?_) (fun n b => ?_) (n := fuel) (by unfold fuel; omega) b
  · exact this
  · have hkt : k < t.length := by omega
    obtain ⟨m, hm, hml, hmg⟩ := con_sc h hv hk
    simp only [impl_raise_L13, inb_nat, gd_nat hkt, gd_nat hk, hm, gd_nat hml, w64_succ' (show k < 4611686018427387904 by omega), mayB, ← g0_of hkt, hmg, Int.toNat_natCast, ← g0_of hml]
    cases b with
    | false => simp [hkt]
    | true =>
      by_cases h1 : t[k] = up
      · simp [hkt, h1]
      · by_cases h2 : vals[m] = up <;> simp [hkt, hk, hml, h1, h2, bne_dec]
  · rw [← htl]; simp [impl_raise_L13]
theorem raise_L20 (h : ConOk v n c) {t : List Int} (ht : t ∈ c.2.2) {t7 : List Bool} (h7 : t7.length = c.1.length) (t9 : Bool) (t34 : List (List Int)) (t35 t36 : Int) :
    impl_raise_L20 fuel (vals, up, (c.1, (c.2.1, c.2.2)), t7, t9, t34, t35, t36, t, (t.length : Int), 0) = some (vals, up, (c.1, (c.2.1, c.2.2)), t7.mapIdx (fun i b => b && decide (g0 t i = up)), t9, t34, t35, t36) := by
  have htl := h.tl t ht
  have har := h.ar
  have hsl := h.sl
  refine inplX c.1.length (fun n a i => impl_raise_L20 n (vals, up, (c.1, (c.2.1, c.2.2)), a, t9, t34, t35, t36, t, (t.length : Int), i)) (fun i b => b && decide (g0 t i = up)) (fun a => some (vals, up, (c.1, (c.2.1, c.2.2)), a, t9, t34, t35, t36)) (fun n a k hk hl => ?_) (fun n a hl => ?_) (n := fuel) (by unfold fuel; omega) h7
  · have hkt : k < t.length := by omega
    have hka : k < a.length := by omega
    simp only [impl_raise_L20, inb_nat, gd_nat hkt, gd_nat hka, stt_nat, w64_succ' (show k < 4611686018427387904 by omega), ← g0_of hkt]
    cases a[k] with
    | false => simp [hkt, hka]
    | true => simp [hkt, hka, beq_dec]
  · rw [← htl]; simp [impl_raise_L20]
theorem raise_L9 (h : ConOk v n c) (hv : (vals.length : Int) = v) (hv9 : vals.length ≤ 9) :
    impl_raise_L9 fuel (vals, up, (c.1, (c.2.1, c.2.2)), all0 c.1, false, c.2.2, (c.2.2.length : Int), 0) = some (vals, up, (c.1, (c.2.1, c.2.2)), (c.2.2.foldl (stepT up c.1 vals) (all0 c.1, false))) := by
  have har := h.ar
  have hsl := h.sl
  have hmany := h.many
  have := forS c.2.2.length (fun n (x : List Bool × Bool) i => impl_raise_L9 n (vals, up, (c.1, (c.2.1, c.2.2)), x.1, x.2, c.2.2, (c.2.2.length : Int), i)) (fun k => (c.2.2.take k).foldl (stepT up c.1 vals) (all0 c.1, false)) (r := some (vals, up, (c.1, (c.2.1, c.2.2)), (c.2.2.foldl (stepT up c.1 vals) (all0 c.1, false)))) (fun n k hk => ?_) (fun n => ?_) (n := fuel) (by unfold fuel; omega)
  · exact this
  · have ht := List.getElem_mem hk
    have htl := h.tl _ ht
    have hlen := stepT_len (up := up) (s := c.1) (vals := vals) (c.2.2.take k) (all0 c.1, false)
    simp only [impl_raise_L9, inb_nat, gd_nat hk, impl_agrees_ok (s := c.1) (t := c.2.2[k]) (by omega) htl, Option.bind_some, raise_L13 h hv hv9 ht, raise_L20 h ht (show ((c.2.2.take k).foldl (stepT up c.1 vals) (all0 c.1, false)).1.length = c.1.length by rw [hlen]; simp), w64_succ (show k < 4611686018427387904 by omega)]
    rw [List.take_succ_eq_append_getElem hk, List.foldl_append]
    generalize (c.2.2.take k).foldl (stepT up c.1 vals) (all0 c.1, false) = x
    simp only [List.foldl_cons, List.foldl_nil]
    have e : fitB up c.1 c.2.2[k] vals = (agB c.1 c.2.2[k] && (List.range c.1.length).all (mayB up c.1 c.2.2[k] vals)) := rfl
    unfold stepT
    rw [e]
    cases (agB c.1 c.2.2[k] && (List.range c.1.length).all (mayB up c.1 c.2.2[k] vals)) <;> simp [hk]
  · simp only [impl_raise_L9]; simp
theorem raise_L26 (h : ConOk v n c) (hv : (vals.length : Int) = v) (hv9 : vals.length ≤ 9) (x : List Bool × Bool) (hx : x.1.length = c.1.length) :
    impl_raise_L26 fuel (vals, up, x.1, x.2, c.1, (c.1.length : Int), 0) = some (if x.2 then (List.range c.1.length).foldl (putT up c.1 x.1) vals else vals, x.2) := by
  have har := h.ar
  have hsl := h.sl
  have := forS c.1.length (fun n o i => impl_raise_L26 n (o, up, x.1, x.2, c.1, (c.1.length : Int), i)) (fun k => if x.2 then (List.range k).foldl (putT up c.1 x.1) vals else vals) (r := some (if x.2 then (List.range c.1.length).foldl (putT up c.1 x.1) vals else vals, x.2)) (fun n k hk => ?_) (fun n => ?_) (n := fuel) (by unfold fuel; omega)
  · simpa using this
  · have hkx : k < x.1.length := by omega
    cases h2 : x.2 with
    | false =>
      simp only [impl_raise_L26, inb_nat, w64_succ' (show k < 4611686018427387904 by omega)]
      simp [hk]
    | true =>
      obtain ⟨m, hm, hml, hmg⟩ := con_sc h hv hk
      have hlen := putT_len (up := up) (s := c.1) (al := x.1) (List.range k) vals
      simp only [impl_raise_L26, inb_nat, gd_nat hk, gd_nat hkx, hm, stt_nat, w64_succ' (show k < 4611686018427387904 by omega), if_true, List.range_succ, List.foldl_append, List.foldl_cons, List.foldl_nil]
      generalize (List.range k).foldl (putT up c.1 x.1) vals = o at hlen ⊢
      unfold putT
      rw [getD_of hkx]
      cases x.1[k] with
      | false => simp [hk, hkx]
      | true => simp [hk, hkx, hmg, hlen, hml]
  · simp [impl_raise_L26]
theorem impl_raise_ok (h : ConOk v n c) (hv : (vals.length : Int) = v) (hv9 : vals.length ≤ 9) : impl_raise c vals up = some (takeM c vals up) := by
  have har := h.ar
  have hsl := h.sl
  unfold impl_raise
  rw [if_pos (by unfold lim; omega)]
  have e1 : impl_raise_L3 fuel (vals, up, (c.1, (c.2.1, c.2.2)), List.replicate (Int.toNat (c.1.length : Int)) false, (((List.replicate (Int.toNat (c.1.length : Int)) false).length : Nat) : Int), 0) = some (vals, up, (c.1, (c.2.1, c.2.2)), all0 c.1) := by
    have := inplX c.1.length (fun n a i => impl_raise_L3 n (vals, up, (c.1, (c.2.1, c.2.2)), a, (c.1.length : Int), i)) (fun _ _ => true) (fun a => some (vals, up, (c.1, (c.2.1, c.2.2)), a)) (fun n a k hk hl => ?_) (fun n a hl => ?_) (n := fuel) (by unfold fuel; omega) (a := List.replicate c.1.length false) (by simp)
    · have e2 : (List.replicate c.1.length false).mapIdx (fun _ _ => true) = all0 c.1 := by
        apply List.ext_getElem <;> simp [all0]
      rw [e2] at this
      simpa using this
    · simp only [impl_raise_L3, inb_nat, stt_nat, w64_succ' (show k < 4611686018427387904 by omega)]
      simp [hk, hl]
    · simp [impl_raise_L3]
  rw [e1]
  simp only [Option.bind_some, raise_L9 h hv hv9]
  rw [raise_L26 h hv hv9 _ (by rw [stepT_len]; simp [all0])]
  simp [takeM]
/- the reference -/
theorem take_L4 (h : ConOk v n c) (x1 : List Int) (x2 : Bool) : spec_l22Take_L4 fuel (vals, up, (c.1, (c.2.1, c.2.2)), x1, x2, [], 0) = some (vals, up, (c.1, (c.2.1, c.2.2)), x1, x2, all0 c.1) := by
  have har := h.ar
  have hsl := h.sl
  refine forS c.1.length (fun n a i => spec_l22Take_L4 n (vals, up, (c.1, (c.2.1, c.2.2)), x1, x2, a, i)) (fun k => List.replicate k true) (fun n k hk => ?_) (fun n => ?_) (n := fuel) (by unfold fuel; omega)
  · have e : List.replicate k true ++ [true] = List.replicate (k + 1) true := by rw [List.replicate_succ']
    simp only [spec_l22Take_L4, w64_succ' (show k < 4611686018427387904 by omega), e]
    rw [if_pos (by simp; omega), if_pos (by unfold lim; simp; omega)]
    rfl
  · simp [spec_l22Take_L4]
theorem take_L16 (h : ConOk v n c) {t : List Int} (ht : t ∈ c.2.2) {i : Nat} (hi : i < c.1.length) (b : Bool) (t8 : List Int) (t9 : Bool) (t10 : List Bool) (t12 : Int) :
    spec_l22Take_L16 fuel (vals, up, (c.1, (c.2.1, c.2.2)), t8, t9, t10, t12, t, b, (i : Int), 0) = some (vals, up, (c.1, (c.2.1, c.2.2)), t8, t9, t10, t12, t, b && (List.range i).all (pairB c.1 t i), (i : Int)) := by
  have htl := h.tl t ht
  have har := h.ar
  have hsl := h.sl
  refine accX i (fun n b j => spec_l22Take_L16 n (vals, up, (c.1, (c.2.1, c.2.2)), t8, t9, t10, t12, t, b, (i : Int), j)) (pairB c.1 t i) (fun b => some (vals, up, (c.1, (c.2.1, c.2.2)), t8, t9, t10, t12, t, b, (i : Int))) (fun n b k hk => ?_) (fun n b => ?_) (n := fuel) (by unfold fuel; omega) b
  · have h1 : i < t.length := by omega
    have h2 : k < t.length := by omega
    have h3 : k < c.1.length := by omega
    simp only [spec_l22Take_L16, inb_nat, gd_nat h1, gd_nat h2, gd_nat h3, gd_nat hi, w64_succ' (show k < 4611686018427387904 by omega), pairB, ← g0_of h1, ← g0_of h2, ← g0_of h3, ← g0_of hi]
    cases b with
    | false => simp [hk]
    | true =>
      by_cases h4 : c.1[i] = c.1[k]
      · simp [hk, hi, h1, h2, h3, h4, beq_dec]
      · simp [hk, hi, h1, h2, h3, h4, bne_dec]
  · simp [spec_l22Take_L16]
theorem take_L12 (h : ConOk v n c) (hv : (vals.length : Int) = v) {t : List Int} (ht : t ∈ c.2.2) (t8 : List Int) (t9 : Bool) (t10 : List Bool) (t12 : Int) :
    spec_l22Take_L12 fuel (vals, up, (c.1, (c.2.1, c.2.2)), t8, t9, t10, t12, t, true, 0) = some (vals, up, (c.1, (c.2.1, c.2.2)), t8, t9, t10, t12, t, fitB up c.1 t vals) := by
  have htl := h.tl t ht
  have har := h.ar
  have hsl := h.sl
  have key := accX c.1.length (fun n b i => spec_l22Take_L12 n (vals, up, (c.1, (c.2.1, c.2.2)), t8, t9, t10, t12, t, b, i)) (fun i => mayB up c.1 t vals i && (List.range i).all (pairB c.1 t i)) (fun b => some (vals, up, (c.1, (c.2.1, c.2.2)), t8, t9, t10, t12, t, b)) (fun n b k hk => ?_) (fun n b => ?_) (n := fuel) (by unfold fuel; omega) true
  · refine key.trans ?_
    congr 1
    have : (true && (List.range c.1.length).all fun i => mayB up c.1 t vals i && (List.range i).all (pairB c.1 t i)) = fitB up c.1 t vals := by
      unfold fitB agB
      rw [Bool.true_and, Bool.eq_iff_iff, Bool.and_eq_true, List.all_eq_true, List.all_eq_true, List.all_eq_true]
      constructor
      · intro h; exact ⟨fun i hi => (Bool.and_eq_true _ _ ▸ h i hi).2, fun i hi => (Bool.and_eq_true _ _ ▸ h i hi).1⟩
      · rintro ⟨h1, h2⟩ i hi; rw [Bool.and_eq_true]; exact ⟨h2 i hi, h1 i hi⟩
    rw [this]
  · have hkt : k < t.length := by omega
    obtain ⟨m, hm, hml, hmg⟩ := con_sc h hv hk
    simp only [spec_l22Take_L12, inb_nat, gd_nat hkt, gd_nat hk, hm, gd_nat hml, w64_succ' (show k < 4611686018427387904 by omega), mayB, ← g0_of hkt, hmg, Int.toNat_natCast, ← g0_of hml, take_L16 h ht hk, Option.bind_some]
    cases b with
    | false => simp [hkt]
    | true =>
      by_cases h2 : vals[m] = up
      · simp [hkt, hk, hml, h2, beq_dec]
      · simp [hkt, hk, hml, h2, bne_dec]
  · rw [← htl]; simp [spec_l22Take_L12]
theorem take_L20 (h : ConOk v n c) {t : List Int} (ht : t ∈ c.2.2) {t10 : List Bool} (h7 : t10.length = c.1.length) (b : Bool) (t8 : List Int) (t9 : Bool) (t12 : Int) :
    spec_l22Take_L20 fuel (vals, up, (c.1, (c.2.1, c.2.2)), t8, t9, t10, t12, t, b, 0) = some (vals, up, (c.1, (c.2.1, c.2.2)), t8, t9, if b then t10.mapIdx (fun i b => b && decide (g0 t i = up)) else t10, t12, b) := by
  have htl := h.tl t ht
  have har := h.ar
  have hsl := h.sl
  cases b with
  | false =>
    have : fuel = (fuel - 1) + 1 := by unfold fuel; omega
    rw [this]
    simp only [spec_l22Take_L20]
    simp
  | true =>
    refine inplX c.1.length (fun n a i => spec_l22Take_L20 n (vals, up, (c.1, (c.2.1, c.2.2)), t8, t9, a, t12, t, true, i)) (fun i b => b && decide (g0 t i = up)) (fun a => some (vals, up, (c.1, (c.2.1, c.2.2)), t8, t9, a, t12, true)) (fun n a k hk hl => ?_) (fun n a hl => ?_) (n := fuel) (by unfold fuel; omega) h7
    · have hkt : k < t.length := by omega
      have hka : k < a.length := by omega
      simp only [spec_l22Take_L20, inb_nat, gd_nat hkt, gd_nat hka, stt_nat, w64_succ' (show k < 4611686018427387904 by omega), ← g0_of hkt]
      cases a[k] with
      | false => simp [hkt, hka]
      | true => simp [hkt, hka, beq_dec]
    · rw [← htl]; simp [spec_l22Take_L20]
theorem take_L8 (h : ConOk v n c) (hv : (vals.length : Int) = v) (t8 : List Int) :
    spec_l22Take_L8 fuel (vals, up, (c.1, (c.2.1, c.2.2)), t8, false, all0 c.1, 0) = some (up, (c.1, (c.2.1, c.2.2)), t8, (c.2.2.foldl (stepT up c.1 vals) (all0 c.1, false)).2, (c.2.2.foldl (stepT up c.1 vals) (all0 c.1, false)).1) := by
  have har := h.ar
  have hsl := h.sl
  have hmany := h.many
  have := forS c.2.2.length (fun n (x : List Bool × Bool) i => spec_l22Take_L8 n (vals, up, (c.1, (c.2.1, c.2.2)), t8, x.2, x.1, i)) (fun k => (c.2.2.take k).foldl (stepT up c.1 vals) (all0 c.1, false)) (r := some (up, (c.1, (c.2.1, c.2.2)), t8, (c.2.2.foldl (stepT up c.1 vals) (all0 c.1, false)).2, (c.2.2.foldl (stepT up c.1 vals) (all0 c.1, false)).1)) (fun n k hk => ?_) (fun n => ?_) (n := fuel) (by unfold fuel; omega)
  · exact this
  · have ht := List.getElem_mem hk
    have htl := h.tl _ ht
    have hlen := stepT_len (up := up) (s := c.1) (vals := vals) (c.2.2.take k) (all0 c.1, false)
    simp only [spec_l22Take_L8, inb_nat, gd_nat hk, Option.bind_some, take_L12 h hv ht, take_L20 h ht (show ((c.2.2.take k).foldl (stepT up c.1 vals) (all0 c.1, false)).1.length = c.1.length by rw [hlen]; simp), w64_succ (show k < 4611686018427387904 by omega)]
    rw [List.take_succ_eq_append_getElem hk, List.foldl_append]
    generalize (c.2.2.take k).foldl (stepT up c.1 vals) (all0 c.1, false) = x
    obtain ⟨x1, x2⟩ := x
    simp only [List.foldl_cons, List.foldl_nil]
    unfold stepT
    cases x2 <;> cases fitB up c.1 c.2.2[k] vals <;> simp [hk]
  · simp only [spec_l22Take_L8]; simp
theorem take_L25 (h : ConOk v n c) (hv : (vals.length : Int) = v) (x : List Bool × Bool) (hx : x.1.length = c.1.length) :
    spec_l22Take_L25 fuel (up, (c.1, (c.2.1, c.2.2)), vals, x.2, x.1, 0) = some (if x.2 then (List.range c.1.length).foldl (putT up c.1 x.1) vals else vals, x.2) := by
  have har := h.ar
  have hsl := h.sl
  cases h2 : x.2 with
  | false =>
    have : fuel = (fuel - 1) + 1 := by unfold fuel; omega
    rw [this]
    simp only [spec_l22Take_L25]
    simp
  | true =>
    have := forS c.1.length (fun n o i => spec_l22Take_L25 n (up, (c.1, (c.2.1, c.2.2)), o, true, x.1, i)) (fun k => (List.range k).foldl (putT up c.1 x.1) vals) (r := some ((List.range c.1.length).foldl (putT up c.1 x.1) vals, true)) (fun n k hk => ?_) (fun n => ?_) (n := fuel) (by unfold fuel; omega)
    · simpa using this
    · have hkx : k < x.1.length := by omega
      obtain ⟨m, hm, hml, hmg⟩ := con_sc h hv hk
      have hlen := putT_len (up := up) (s := c.1) (al := x.1) (List.range k) vals
      simp only [spec_l22Take_L25, inb_nat, gd_nat hk, gd_nat hkx, hm, stt_nat, w64_succ' (show k < 4611686018427387904 by omega), if_true, List.range_succ, List.foldl_append, List.foldl_cons, List.foldl_nil]
      generalize (List.range k).foldl (putT up c.1 x.1) vals = o at hlen ⊢
      unfold putT
      rw [getD_of hkx]
      cases x.1[k] with
      | false => simp [hk, hkx]
      | true => simp [hk, hkx, hmg, hlen, hml]
    · simp [spec_l22Take_L25]
theorem spec_l1Own_ok {l : List Int} (h : l.length ≤ 1099511627775) : spec_l1Own l = some l := by
  unfold spec_l1Own
  rw [if_pos (by unfold lim; simp; omega)]; simp
theorem spec_l22Take_ok (h : ConOk v n c) (hv : (vals.length : Int) = v) (hv9 : vals.length ≤ 9) : spec_l22Take c vals up = some (takeM c vals up) := by
  unfold spec_l22Take
  rw [spec_l1Own_ok (by omega)]
  simp only [Option.bind_some, take_L4 h, take_L8 h hv, take_L25 h hv _ (show (c.2.2.foldl (stepT up c.1 vals) (all0 c.1, false)).1.length = c.1.length by rw [stepT_len]; simp)]
  simp [takeM]
end
end T
open Go Go.Va
namespace T
def con0 : Con := ([], 0, [])
def boolB (a : Net) : Bool := netB a && decide (a.2.1 = 2)
theorem impl_isBoolean_ok {a : Net} (h : netS a) : impl_isBoolean a = some (boolB a) := by
  unfold impl_isBoolean boolB
  rw [impl_IsNetwork_ok (a := (a.1, (a.2.1, a.2.2))) h]
  cases hb : netB (a.1, (a.2.1, a.2.2)) with
  | false => simp
  | true => simp [beq_dec]
theorem spec_l22Good_ok {a : Net} (h : netS a) : spec_l22Good a = some (boolB a) := by
  unfold spec_l22Good boolB
  by_cases h2 : a.2.1 = 2
  · rw [if_pos (by simp [h2]), spec_l19Good_ok (a := (a.1, (a.2.1, a.2.2))) h]
    simp only [h2, decide_true, Bool.and_true, Option.bind_some]
    rw [← h2]
  · rw [if_neg (by simp [h2])]; simp [h2]
theorem spec_l22Constant_ok {v : Nat} {x : Int} (hv : v ≤ 1048576) : spec_l22Constant v x = some (List.replicate v x) := by
  unfold spec_l22Constant
  have := forS v (fun n o i => spec_l22Constant_L3 n ((v : Int), x, o, i)) (fun k => List.replicate k x) (r := some (List.replicate v x)) (fun n k hk => ?_) (fun n => ?_) (n := fuel) (by unfold fuel; omega)
  · have e : List.replicate 0 x = [] := rfl
    rw [e] at this; rw [this]; rfl
  · have e : List.replicate k x ++ [x] = List.replicate (k + 1) x := by rw [List.replicate_succ']
    simp only [spec_l22Constant_L3, w64_succ' (show k < 4611686018427387904 by omega), e]
    rw [if_pos (by simp; omega), if_pos (by unfold lim; simp; omega)]
    rfl
  · simp [spec_l22Constant_L3]
theorem impl_constantTuple_ok {v : Nat} {x : Int} (hv : v ≤ 1048576) : impl_constantTuple v x = some (List.replicate v x) := by
  unfold impl_constantTuple
  rw [if_pos (by unfold lim; omega)]
  have := inplX v (fun n a i => impl_constantTuple_L3 n (x, a, (v : Int), i)) (fun _ _ => x) some (fun n a k hk hl => ?_) (fun n a hl => ?_) (n := fuel) (by unfold fuel; omega) (a := List.replicate v (0 : Int)) (by simp)
  · have e2 : (List.replicate v (0 : Int)).mapIdx (fun _ _ => x) = List.replicate v x := by
      apply List.ext_getElem <;> simp
    rw [e2] at this
    simp only [List.length_replicate, Int.toNat_natCast]
    rw [this]; rfl
  · simp only [impl_constantTuple_L3, inb_nat, stt_nat, w64_succ' (show k < 4611686018427387904 by omega)]
    simp [hk, hl]
  · simp [impl_constantTuple_L3]
def valsA (a : Net) (steps : List Int) : Nat → List Int
  | 0 => List.replicate a.1.toNat 0
  | k + 1 => (takeM (a.2.2.getD (steps.getD k 0).toNat con0) (valsA a steps k) 1).1
theorem valsA_len {a : Net} {steps : List Int} : ∀ k, (valsA a steps k).length = a.1.toNat
  | 0 => by simp [valsA]
  | k + 1 => by simp only [valsA]; rw [takeM_len]; exact valsA_len k
def fitsA (a : Net) (steps : List Int) (k : Nat) : Bool := (takeM (a.2.2.getD (steps.getD k 0).toNat con0) (valsA a steps k) 1).2
/-- the first step without a fit is the last -/
def lastA (f : Nat → Bool) (N : Nat) : Bool × Bool := ((List.range N).findSome? fun k => if !f k then some (decide (k + 1 = N), true) else none).getD (false, true)
theorem lastA_eq (f : Nat → Bool) {N : Nat} (hN : 1 ≤ N) : lastA f N = ((List.range N).findSome? fun k => if f k == decide (k + 1 = N) then some (false, true) else none).getD (true, true) := by
  have key : ∀ (m k : Nat), k + m = N → 1 ≤ m → ((List.range' k m).findSome? fun k => if !f k then some (decide (k + 1 = N), true) else none).getD (false, true) = ((List.range' k m).findSome? fun k => if f k == decide (k + 1 = N) then some (false, true) else none).getD (true, true) := by
    intro m
    induction m with
    | zero => intro k _ h; omega
    | succ m ih =>
      intro k hk _
      rw [List.range'_succ, List.findSome?_cons, List.findSome?_cons]
      cases m with
      | zero => cases hf : f k <;> simp [show k + 1 = N by omega]
      | succ m =>
        have h1 : ¬ k + 1 = N := by omega
        cases hf : f k with
        | false => simp [h1]
        | true => simp only [h1, decide_false]; simpa using ih (k + 1) (by omega) (by omega)
  unfold lastA
  rw [List.range_eq_range']
  exact key N 0 (by omega) hN
section
variable {a : Net} {steps : List Int}
theorem step_in (hb : belowB (a.2.2.length : Int) steps = true) {k : Nat} (hk : k < steps.length) : ∃ m : Nat, steps[k] = (m : Int) ∧ m < a.2.2.length ∧ a.2.2.getD (steps.getD k 0).toNat con0 = a.2.2.getD m con0 := by
  have := belowB_get hb k hk
  exact ⟨steps[k].toNat, by omega, by omega, by rw [getD_of hk]⟩
theorem spec_L7 (hs : NetOk a) (hb : belowB (a.2.2.length : Int) steps = true) (hl : 1 ≤ steps.length ∧ steps.length ≤ 20) :
    spec_IsRaiseRefutation_L7 fuel (steps, (a.1, (a.2.1, a.2.2)), List.replicate a.1.toNat 0, 0) = match (List.range steps.length).findSome? (fun k => if !fitsA a steps k then some (decide (k + 1 = steps.length), true) else none) with | some r => some (.inr r) | none => some (.inl ()) := by
  have := forF steps.length (fun n s i => spec_IsRaiseRefutation_L7 n (steps, (a.1, (a.2.1, a.2.2)), s, i)) (valsA a steps) (fun k => if !fitsA a steps k then some (some (.inr (decide (k + 1 = steps.length), true))) else none) (e := some (.inl ())) (fun n k hk _ => ?_) (fun n => ?_) (n := fuel) (by unfold fuel; omega)
  · refine this.trans ?_
    generalize List.range steps.length = l
    induction l with
    | nil => rfl
    | cons k l ih =>
      simp only [List.findSome?_cons]
      cases fitsA a steps k with
      | false => simp
      | true => simpa using ih
  · obtain ⟨m, hm, hml, hmg⟩ := step_in hb hk
    have hlen := valsA_len (a := a) (steps := steps) k
    have hv := hs.hv
    have hok := hs.con a.2.2[m] (List.getElem_mem hml)
    have e : ∀ x : Con, x = a.2.2[m] → spec_l22Take x (valsA a steps k) 1 = some (takeM a.2.2[m] (valsA a steps k) 1) := fun x hx => by rw [hx]; exact spec_l22Take_ok hok (by omega) (by omega)
    simp only [spec_IsRaiseRefutation_L7, inb_nat, gd_nat hk, hm, gd_nat hml, e _ rfl, Option.bind_some, w64_succ (show k < 4611686018427387904 by omega), fitsA, valsA, hmg, getD_of hml]
    cases (takeM a.2.2[m] (valsA a steps k) 1).2 with
    | false =>
      have e1 : w64 ((steps.length : Int) - 1) = (steps.length : Int) - 1 := w64_id (by omega) (by omega)
      simp only [e1]
      have e2 : ((k : Int) == (steps.length : Int) - 1) = decide (k + 1 = steps.length) := by
        rw [beq_dec, Bool.eq_iff_iff]; simp; omega
      simp [hk, hml, e2]
    | true => simp [hk, hml]
  · simp [spec_IsRaiseRefutation_L7]
theorem impl_L7 (hs : NetOk a) (hb : belowB (a.2.2.length : Int) steps = true) (hl : 1 ≤ steps.length ∧ steps.length ≤ 20) :
    impl_IsRaiseRefutation_L7 fuel (steps, (a.1, (a.2.1, a.2.2)), List.replicate a.1.toNat 0, steps, (steps.length : Int), 0) = match (List.range steps.length).findSome? (fun k => if fitsA a steps k == decide (k + 1 = steps.length) then some (false, true) else none) with | some r => some (.inr r) | none => some (.inl ()) := by
  have := forF steps.length (fun n s i => impl_IsRaiseRefutation_L7 n (steps, (a.1, (a.2.1, a.2.2)), s, steps, (steps.length : Int), i)) (valsA a steps) (fun k => if fitsA a steps k == decide (k + 1 = steps.length) then some (some (.inr (false, true))) else none) (e := some (.inl ())) (fun n k hk _ => ?_) (fun n => ?_) (n := fuel) (by unfold fuel; omega)
  · refine this.trans ?_
    generalize List.range steps.length = l
    induction l with
    | nil => rfl
    | cons k l ih =>
      simp only [List.findSome?_cons]
      cases (fitsA a steps k == decide (k + 1 = steps.length)) with
      | true => simp
      | false => simpa using ih
  · obtain ⟨m, hm, hml, hmg⟩ := step_in hb hk
    have hlen := valsA_len (a := a) (steps := steps) k
    have hv := hs.hv
    have hok := hs.con a.2.2[m] (List.getElem_mem hml)
    have e : ∀ x : Con, x = a.2.2[m] → impl_raise x (valsA a steps k) 1 = some (takeM a.2.2[m] (valsA a steps k) 1) := fun x hx => by rw [hx]; exact impl_raise_ok hok (by omega) (by omega)
    have e1 : w64 ((steps.length : Int) - 1) = (steps.length : Int) - 1 := w64_id (by omega) (by omega)
    have e2 : ((k : Int) == (steps.length : Int) - 1) = decide (k + 1 = steps.length) := by
      rw [beq_dec, Bool.eq_iff_iff]; simp; omega
    simp only [impl_IsRaiseRefutation_L7, inb_nat, gd_nat hk, hm, gd_nat hml, e _ rfl, Option.bind_some, w64_succ (show k < 4611686018427387904 by omega), fitsA, valsA, hmg, getD_of hml, e1, e2]
    cases ((takeM a.2.2[m] (valsA a steps k) 1).2 == decide (k + 1 = steps.length)) <;> simp [hk, hml]
  · simp [impl_IsRaiseRefutation_L7]
end
def raiseR (a : Net) (steps : List Int) : Bool × Bool :=
  if boolB a then (if decide (1 ≤ steps.length ∧ steps.length ≤ 20) && belowB (a.2.2.length : Int) steps then lastA (fitsA a steps) steps.length else (false, true)) else (false, false)
theorem boolB_ok {a : Net} (h : boolB a = true) : NetOk a := by
  unfold boolB at h; rw [Bool.and_eq_true] at h; exact net_of h.1
theorem spec_IsRaiseRefutation_ok {a : Net} {steps : List Int} (h : netS a) (hl : steps.length ≤ 1048576) : spec_IsRaiseRefutation a steps = some (raiseR a steps) := by
  unfold spec_IsRaiseRefutation raiseR
  rw [spec_l22Good_ok (a := (a.1, (a.2.1, a.2.2))) h]
  rw [show boolB (a.1, (a.2.1, a.2.2)) = boolB a from rfl]
  cases hb : boolB a with
  | false => simp
  | true =>
    have hok := boolB_ok hb
    have hc := hok.hc
    have hv := hok.hv
    rw [spec_l1In_ok, spec_l2Elements_ok (by omega) (by omega) (by omega)]
    by_cases h1 : 1 ≤ steps.length ∧ steps.length ≤ 20
    · cases h2 : belowB (a.2.2.length : Int) steps with
      | false => simp [h1]
      | true =>
        have e : a.1 = ((a.1.toNat : Nat) : Int) := by omega
        have ec : spec_l22Constant a.1 0 = some (List.replicate a.1.toNat 0) := by rw [e]; exact spec_l22Constant_ok (by omega)
        simp only [show (1 ≤ (steps.length : Int) ∧ (steps.length : Int) ≤ 20) = True by simp; omega, h1, and_self, decide_true, Option.bind_some, Bool.not_true, Bool.false_eq_true, if_false, if_true, Bool.and_self, ec, spec_L7 hok h2 h1, lastA]
        cases (List.range steps.length).findSome? (fun k => if !fitsA a steps k then some (decide (k + 1 = steps.length), true) else none) <;> simp
    · have : ¬ (1 ≤ (steps.length : Int) ∧ (steps.length : Int) ≤ 20) := by omega
      simp [h1, this]
theorem impl_IsRaiseRefutation_ok {a : Net} {steps : List Int} (h : netS a) (hl : steps.length ≤ 1048576) : impl_IsRaiseRefutation a steps = some (raiseR a steps) := by
  unfold impl_IsRaiseRefutation raiseR
  rw [impl_isBoolean_ok (a := (a.1, (a.2.1, a.2.2))) h]
  rw [show boolB (a.1, (a.2.1, a.2.2)) = boolB a from rfl]
  cases hb : boolB a with
  | false => simp
  | true =>
    have hok := boolB_ok hb
    have hc := hok.hc
    have hv := hok.hv
    rw [impl_inSize_ok _ (by omega)]
    by_cases h1 : 1 ≤ steps.length
    · by_cases h3 : steps.length ≤ 20
      · cases h2 : belowB (a.2.2.length : Int) steps with
        | false => simp [h1, h3, show ¬ (steps.length : Int) < 1 by omega, show ¬ (steps.length : Int) > 20 by omega]
        | true =>
          have e : a.1 = ((a.1.toNat : Nat) : Int) := by omega
          have ec : impl_constantTuple a.1 0 = some (List.replicate a.1.toNat 0) := by rw [e]; exact impl_constantTuple_ok (by omega)
          rw [lastA_eq _ h1]
          simp only [show ¬ (steps.length : Int) < 1 by omega, show ¬ (steps.length : Int) > 20 by omega, h1, h3, and_self, decide_true, decide_false, Option.bind_some, Bool.not_true, Bool.false_eq_true, if_false, if_true, Bool.and_self, ec, impl_L7 hok h2 ⟨h1, h3⟩]
          cases (List.range steps.length).findSome? (fun k => if fitsA a steps k == decide (k + 1 = steps.length) then some (false, true) else none) <;> simp
      · simp [h3, show ¬ (steps.length : Int) < 1 by omega, show (steps.length : Int) > 20 by omega]
    · simp [h1, show (steps.length : Int) < 1 by omega]
theorem FnExactIsRaiseRefutation_law {a : Net} {steps : List Int} (h : wfT netT a) (hy : wfT (.slice .int) steps) : laws_FnExactIsRaiseRefutation a steps = some true := by
  unfold laws_FnExactIsRaiseRefutation
  by_cases hyl : (steps.length : Int) > 1048576
  · rw [if_pos (by simpa using hyl)]
  · rw [if_neg (by simpa using hyl)]
    rw [szNetwork_ok (a := (a.1, (a.2.1, a.2.2))) h]
    simp only [Option.bind_some]
    rw [show totN (a.1, (a.2.1, a.2.2)) = totN a from rfl]
    by_cases h : szR (totN a) 1048576 < 0
    · rw [if_pos (by simpa using h)]
    · have hs := (szNetwork_small h).1
      have hy' : steps.length ≤ 1048576 := by omega
      rw [if_neg (by simpa using h)]
      simp only [toNetwork_ok hs, toIntS_ok (show steps.length ≤ 1099511627775 by omega), impl_IsRaiseRefutation_ok hs hy', spec_IsRaiseRefutation_ok hs hy', eqNetwork_ok hs, eqIntS_ok (show steps.length ≤ 1099511627775 by omega), Option.bind_some]
      simp
end T
